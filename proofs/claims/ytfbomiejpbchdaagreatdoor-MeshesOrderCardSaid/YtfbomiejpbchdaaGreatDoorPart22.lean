import Derived.Test.YtfbomiejpbchdaaGreatDoorPart07
import Derived.Test.YtfbomiejpbchdaaGreatDoorPart20
import Derived.Test.YtfbomiejpbchdaaGreatDoorPart21
namespace Go.Proofs.YtfbomiejpbchdaaGreatDoor
open Go Go.RowKit Go.Proofs.Tryz
set_option linter.unusedVariables false
set_option linter.unusedSimpArgs false
section
section
variable {P:Program}
theorem Qw.one {D c i:Nat} {e:TypeId} {is:List Nat} {xs ys:List Value} {u v:Value} {r s:Bool} (hg:∀w,(isAgg e).run P w=.ok false w)
    (ha:xs[i*c]?=some u) (hb:ys[i*c]?=some v) (h:E3 P D e u v r) (h2:Qw P D e c xs ys is s):Qw P D e c xs ys (i::is) (r&&s):=λw=>by
  have e1:(part e xs.toArray (i*c)).run P w=.ok u w:=by simp [part,hg,ha]
  have e2:(part e ys.toArray (i*c)).run P w=.ok v w:=by simp [part,hg,hb]
  simp only [Go.Op.eqItems,Sem.run_bind,e1,e2,Result.andThen_ok,h w]
  cases r
  · simp
  · simp [h2 w]
end
theorem Rx:∃i,prog.info? 3=some i:=Option.isSome_iff_exists.1 (by kernel_rfl)
theorem Pw:prog.cellsOf 3=1:=by kernel_rfl
theorem MS (D:Nat) (a b:P2):E3 prog (D+2) 147 (.agg (A8 a).toArray) (.agg (A8 b).toArray) (decide (a=b)):=by
  have h:E3 prog (D+2) 147 (.agg (A8 a).toArray) (.agg (A8 b).toArray) (((a.1:Int) == (b.1:Int))&&(((a.2:Int) == (b.2:Int))&&true)) :=
    E3.array underlying147 Rx Pw (Qw.one isAgg3 rfl rfl (E3.int underlying3) (Qw.one isAgg3 rfl rfl (E3.int underlying3) Qw.nil))
  have e:(((a.1:Int) == (b.1:Int))&&(((a.2:Int) == (b.2:Int))&&true))=decide (a=b):=by
    obtain ⟨a1,a2⟩:=a
    obtain ⟨b1,b2⟩:=b
    rw [Bool.eq_iff_iff]
    simp
    constructor<;>(rintro ⟨h1,h2⟩;constructor<;>omega)
  rwa [e] at h
theorem H3 (xs:List (P2×P2×P2)) (i r:Nat) (hi:i<xs.length) (hr:r<3) (c:P2×P2×P2) (hc:c=xs.getD i ((0,0),(0,0),(0,0))) (p:P2) (hp:p=if r=0 then c.1 else if r=1 then c.2.1 else c.2.2):((rowsL A_ xs).drop (i*6+r*2)).take 2=A8 p:=by
  have h:=Ar FB ((0,0),(0,0),(0,0)) xs i hi
  rw [<-hc] at h
  have e:((rowsL A_ xs).drop (i*6+r*2)).take 2=((((rowsL A_ xs).drop (i*6)).take 6).drop (r*2)).take 2:=by
    rw [List.drop_take,List.take_take,List.drop_drop]
    congr 1
    omega
  rw [e,h]
  have h3:r=0\/r=1\/r=2:=by omega
  rcases h3 with rfl|rfl|rfl<;>subst hp<;>rfl
def Cb (c:P2×P2×P2) (k:Nat):P2:=if k=0 then c.1 else if k=1 then c.2.1 else c.2.2
def H2 (m:MQ) (t k:Nat):Nat:=(k+m.fst+t*(m.fst/3))%3
def An (m:MQ) (t k:Nat):P2:=Cb ((Az m).getD t ((0,0),(0,0),(0,0))) (H2 m t k)
structure II (m:MQ) (pl:List P2) (n:Nat×Nat×Nat) (t:Nat):Prop where
  a:n.1<pl.length/\pl.getD n.1 (0,0)=An m t 0
  b:n.2.1<pl.length/\pl.getD n.2.1 (0,0)=An m t 1
  c:n.2.2<pl.length/\pl.getD n.2.2 (0,0)=An m t 2
structure Lz (m:MQ) (i:Nat) (pl:List P2) (ts:List (Nat×Nat×Nat)):Prop where
  tl:ts.length=i
  pll:pl.length<=3*i
  at_:∀j,j<i->II m pl (ts.getD j (0,0,0)) j
  small:∀p∈pl,p.1<=6/\p.2<=6
  used:∀a,a<pl.length->∃j,j<i/\((ts.getD j (0,0,0)).1=a\/(ts.getD j (0,0,0)).2.1=a\/(ts.getD j (0,0,0)).2.2=a)
def VY (pl:List P2):Prop:=∀a b,a<pl.length->b<pl.length->pl.getD a (0,0)=pl.getD b (0,0)->a=b
theorem VO:VY []:=λa b h=>absurd h (Nat.not_lt_zero _)
structure WS where
  pl:List P2
  p1:Option Addr
  c1:Nat
  p2:Option Addr
  c2:Nat
structure WS.Ok (s:WS):Prop where
  o1:OwnOk s.p1 s.pl.length s.c1
  o2:OwnOk s.p2 s.pl.length s.c2
  small:∀p∈s.pl,p.1<=6/\p.2<=6
  dst:VY s.pl
def mapM (m:MQ):Cr:=Fp m.a m.b m.c m.d
def WS.pts (s:WS) (m:MQ):List (Int×Int):=s.pl.map λp=>(mapM m).at_ p
theorem Dq {m:MQ} {t k:Nat} (h:t<(Az m).length):(An m t k).1<=6/\(An m t k).2<=6:=by
  have h1:=GY m ((Az m).getD t ((0,0),(0,0),(0,0))) (by rw [List.getD,List.getElem?_eq_getElem h];exact List.getElem_mem h)
  unfold An Cb
  split
  · exact h1.2.1
  · split
    · exact h1.2.2.1
    · exact h1.2.2.2
theorem DD {pl:List P2} {x:P2} {j:Nat} (h:j<pl.length):(pl++[x]).getD j (0,0)=pl.getD j (0,0):=by simp [List.getD,List.getElem?_append_left h]
theorem C4 (pl:List P2) (x:P2):(pl++[x]).getD pl.length (0,0)=x:=by simp [List.getD]
theorem JY {pl:List P2} {x:P2} (h:VY pl) (hx:∀j,j<pl.length->pl.getD j (0,0)≠x):VY (pl++[x]):=λa b ha hb e=>by
  simp only [List.length_append,List.length_singleton] at ha hb
  rcases Nat.lt_or_ge a pl.length with h1|h1<;>rcases Nat.lt_or_ge b pl.length with h2|h2
  · rw [DD h1,DD h2] at e;exact h a b h1 h2 e
  · obtain rfl:b=pl.length:=by omega
    rw [DD h1,C4] at e;exact absurd e (hx a h1)
  · obtain rfl:a=pl.length:=by omega
    rw [DD h2,C4] at e;exact absurd e.symm (hx b h2)
  · omega
def FO (a b:List P2):Prop:=a.length<=b.length/\∀j,j<a.length->b.getD j (0,0)=a.getD j (0,0)
theorem FO.refl (a:List P2):FO a a:=⟨Nat.le_refl _,λ_ _=>rfl⟩
theorem FO.trans {a b c:List P2} (h:FO a b) (k:FO b c):FO a c:=⟨Nat.le_trans h.1 k.1,λj hj=>(k.2 j (by have:=h.1;omega)).trans (h.2 j hj)⟩
theorem FO.snoc (a:List P2) (x:P2):FO a (a++[x]):=⟨by simp,λj hj=>DD hj⟩
theorem II.more {m:MQ} {a b:List P2} {n:Nat×Nat×Nat} {t:Nat} (h:II m a n t) (k:FO a b):II m b n t :=
  ⟨⟨by have:=h.a.1;have:=k.1;omega,(k.2 _ h.a.1).trans h.a.2⟩,⟨by have:=h.b.1;have:=k.1;omega,(k.2 _ h.b.1).trans h.b.2⟩,⟨by have:=h.c.1;have:=k.1;omega,(k.2 _ h.c.1).trans h.c.2⟩⟩
theorem IS {ts:List (Nat×Nat×Nat)} {x:Nat×Nat×Nat} {j:Nat} (h:j<ts.length):(ts++[x]).getD j (0,0,0)=ts.getD j (0,0,0):=by simp [List.getD,List.getElem?_append_left h]
theorem Lz.step {m:MQ} {i:Nat} {pl pl':List P2} {ts:List (Nat×Nat×Nat)} {n:Nat×Nat×Nat} (h:Lz m i pl ts) (k:FO pl pl') (hl:pl'.length<=pl.length+3) (hs:∀p∈pl',p.1<=6/\p.2<=6) (hn:II m pl' n i) (hu:∀a,a<pl'.length->a<pl.length\/n.1=a\/n.2.1=a\/n.2.2=a):Lz m (i+1) pl' (ts++[n]) :=
  ⟨by rw [List.length_append,h.tl];rfl,by have:=h.pll;omega,λj hj=>by
    rcases Nat.lt_or_ge j i with h1|h1
    · rw [IS (by rw [h.tl];exact h1)];exact (h.at_ j h1).more k
    · have e:j=i:=by omega
      subst e
      have e2:(ts++[n]).getD j (0,0,0)=n:=by rw [<-h.tl];simp [List.getD]
      rw [e2];exact hn,hs,λa ha=>by
    rcases hu a ha with h1|h1
    · obtain ⟨j,hj,h2⟩:=h.used a h1
      exact ⟨j,Z,by rw [IS (by rw [h.tl];exact hj)];exact h2⟩
    · have e2:(ts++[n]).getD i (0,0,0)=n:=by rw [<-h.tl];simp [List.getD]
      exact ⟨i,Z,by rw [e2];exact h1⟩⟩
theorem XC (m:MQ):Lz m 0 [] []:=⟨rfl,by simp,λj hj=>absurd hj Z,(λp hp=>by cases hp),λa ha=>absurd ha (Nat.not_lt_zero _)⟩
def Fs (t:Nat×Nat×Nat) (x:Nat):Bool:=decide (t.1=x)||decide (t.2.1=x)||decide (t.2.2=x)
def VS (m:MQ) (a b:Nat):Nat×Nat×Nat:=(a,b,(a+3*b+m.fst)%5)
def G_ (ts:List (Nat×Nat×Nat)) (a b:Nat):Nat->Nat
  | 0=>0
  | i+1=>G_ ts a b i+(if Fs (ts.getD i (0,0,0)) a=true/\Fs (ts.getD i (0,0,0)) b=true then 1 else 0)
def Id (m:MQ) (ts:List (Nat×Nat×Nat)) (a:Nat):Nat->List (Nat×Nat×Nat)
  | 0=>[]
  | j+1=>Id m ts a j++(if G_ ts a (a+1+j) ts.length=1 then [VS m a (a+1+j)] else [])
def EX (m:MQ) (ts:List (Nat×Nat×Nat)) (N:Nat):Nat->List (Nat×Nat×Nat)
  | 0=>[]
  | a+1=>EX m ts N a++Id m ts a (N-(a+1))
theorem Q_ {ts:List (Nat×Nat×Nat)} {a b i:Nat} (h:Fs (ts.getD i (0,0,0)) a=true/\Fs (ts.getD i (0,0,0)) b=true):G_ ts a b (i+1)=G_ ts a b i+1:=by show _+(if _ then _ else _)=_;rw [if_pos h]
theorem Uh {ts:List (Nat×Nat×Nat)} {a b i:Nat} (h:Fs (ts.getD i (0,0,0)) a=false\/Fs (ts.getD i (0,0,0)) b=false):G_ ts a b (i+1)=G_ ts a b i:=by
  show _+(if _ then _ else _)=_
  rw [if_neg (λk=>by rcases h with h|h<;>rw [h] at k<;>exact absurd k (by simp)),Nat.add_zero]
theorem SU {m:MQ} {ts L:List (Nat×Nat×Nat)} {a b:Nat} (hb:a+1<=b) (h:G_ ts a b ts.length=1):(L++Id m ts a (b-(a+1)))++[(a,b,(a+3*b+m.fst)%5)]=L++Id m ts a (b+1-(a+1)):=by
  rw [show b+1-(a+1)=b-(a+1)+1 by omega]
  show _=L++(_++(if _ then _ else _))
  rw [show a+1+(b-(a+1))=b by omega,if_pos h,List.append_assoc];rfl
theorem UU {m:MQ} {ts L:List (Nat×Nat×Nat)} {a b:Nat} (hb:a+1<=b) (h:¬G_ ts a b ts.length=1):L++Id m ts a (b-(a+1))=L++Id m ts a (b+1-(a+1)):=by
  rw [show b+1-(a+1)=b-(a+1)+1 by omega]
  show _=L++(_++(if _ then _ else _))
  rw [show a+1+(b-(a+1))=b by omega,if_neg h,List.append_nil]
theorem Kq {l:List (Nat×Nat×Nat)} {j:Nat} (h:j<l.length):l.take (j+1)=l.take j++[l.getD j (0,0,0)]:=by
  rw [List.take_add_one,List.getD,List.getElem?_eq_getElem h];rfl
structure WM (m:MQ) where
  pl:List P2
  ts:List (Nat×Nat×Nat)
  ss:List (Nat×Nat×Nat)
  inv:Lz m (Az m).length pl ts
  dst:VY pl
  sl:ss.length<=108*108
  sd:ss=EX m ts pl.length pl.length
  a:RX (rowsL CK (pl.map λp=>(mapM m).at_ p)) pl.length
  b:RX (rowsL Am ts) ts.length
  c:RX (rowsL Am ss) ss.length
def Xm {m:MQ} (x:WM m):List Value:=[x.a.val,x.b.val,x.c.val]
theorem XA {m:MQ} {x:WM m} {y:As} (hy:y∈[x.a.row,x.b.row,x.c.row]):y.ro=true:=by
  simp only [List.mem_cons,List.not_mem_nil,or_false] at hy
  rcases hy with rfl|rfl|rfl<;>rfl
instance {m:MQ}:D8 (WM m):=⟨λx=>aG (Xm x),λx=>[x.a.row,x.b.row,x.c.row],λx y hy=>XA hy⟩
theorem HI {S:Nat->Prop} {W w:World} {L:List As} (hw:BO ⟨W,none⟩ w L) (i:Nat) {p:Option Addr} {T:TypeId} {z n c:Nat} {cs:List Value} (hi:L[i]?=some (rowW p T z n c cs)) (ho:OwnOk p n c) (hl:cs.length=n*z):C2 w (Ah p cs)/\∀b,(Ah p cs).foot=some b->W.heap.size<=b\/S b:=by
  have hb:=hw.newRow hi
  refine ⟨λd e=>?_,λd e=>.inl (hb d e)⟩
  obtain ⟨_,o,ho2,hp⟩:=hw.2.1 _ (List.mem_of_getElem? hi) d e
  exact ⟨o,ho2,C7 ho hl hp⟩
section
variable {P:Program} {ops:Array Oper} {rest:List Oper} {Q:Exit->Act->World->Prop} {n d:Nat} {F:List (Nat×Value)} {w0:BK} {S:Nat->Prop} {L:List As} {t:TypeId} {p:String} {af:Array Edge} {y:Operand} {f:FuncId} {xs:List Operand} {args:List Value} {ts:Array TypeId}
theorem cX {cs:List Value} {k:Nat} (hc:∀args w,(callFunc f args).run P w=.ok (.enter f args) w) (h:∀w,BO w0 w L->Calls P f args.toArray w (CF (RX cs k) (SL w0 S L) w))
    (hf:evF F y=some (.func (.func f) #[] #[])) (hargs:xs.map (evF F)=args.map some) (hd:Nat.ble (d+1) n=true) (next:∀a:RX cs k,At w0 S a->AE P ops rest Q n ((d,.slice a.p k a.c)::F) w0 (Ah a.p cs::L)) :
    AE P ops (⟨some d,.call { callee:=.value y,args:=xs.toArray,argTypes:=ts },t,p,af,none⟩::rest) Q n F w0 L:=AE.callR hc h hf hargs hd next
end
def XD (p:Option Addr) (T:TypeId) (z n c:Nat) (cs:List Value):As:=⟨p.map (·.block),(rowW p T z n c cs).P,true⟩
theorem BO.asunder {w0:BK} {w:World} {L:List As} (hw:BO w0 w L) {i j:Nat} {x y:As} (hi:L[i]?=some x) (hj:L[j]?=some y) (hij:i≠j) (hr:x.ro=false):∀b,y.foot=some b->x.foot≠some b:=λb e e2=>by
  obtain ⟨hil,rfl⟩:=List.getElem?_eq_some_iff.1 hi
  obtain ⟨hjl,rfl⟩:=List.getElem?_eq_some_iff.1 hj
  have hp:=List.pairwise_iff_getElem.1 hw.2.2
  rcases Nat.lt_or_gt_of_ne hij with h|h
  · rcases hp i j hil hjl h with k|k
    · rw [hr] at k;cases k.1
    · exact k b e2 e
  · rcases hp j i hjl hil h with k|k
    · rw [hr] at k;cases k.2
    · exact k b e e2
theorem VN {S:Nat->Prop} {W w:World} {L:List As} {a:As} (hw:BO ⟨W,none⟩ w L) (i:Nat) (hi:L[i]?=some a) (hat:∀b,a.foot=some b->Nw ⟨W,none⟩ S b):C2 w a/\∀b,a.foot=some b->W.heap.size<=b\/S b:=⟨hw.holds hi,hat⟩
theorem CF.weak {α:Type} [D8 α] {S S':Nat->Prop} {W w:World} {e:Ending} (h:CF α S W e w) (hs:∀b,S b->S' b):CF α S' W e w:=by
  obtain ⟨a,h1,h2,h3⟩:=h
  exact ⟨a,h1,h2,h3.mono λb h=>h.imp id (hs b)⟩
structure Vj (m:MQ) where
  x:WM m
  ob:OwnOk x.b.p x.ts.length x.b.c
def Lu {m:MQ} (y:Vj m):As:=XD y.x.b.p 79 3 y.x.ts.length y.x.b.c (rowsL Am y.x.ts)
instance {m:MQ}:D8 (Vj m):=⟨λy=>aG (Xm y.x),λy=>[y.x.a.row,y.x.b.row,y.x.c.row,Lu y],λx y hy=>by
  simp only [List.mem_cons,List.not_mem_nil,or_false] at hy
  rcases hy with rfl|rfl|rfl|rfl<;>rfl⟩
theorem W9 {W w:World} {L:List As} {m:MQ} (hw:BO ⟨W,none⟩ w L) (x:WM m) (ob:OwnOk x.b.p x.ts.length x.b.c) (j:Nat) (hj:L[j]?=some (rowW x.b.p 79 3 x.ts.length x.b.c (rowsL Am x.ts))) (h1:C2 w x.a.row/\∀b,x.a.row.foot=some b->W.heap.size<=b\/False) (h2:C2 w x.b.row/\∀b,x.b.row.foot=some b->W.heap.size<=b\/False) (h3:C2 w x.c.row/\∀b,x.c.row.foot=some b->W.heap.size<=b\/False) {v:Value} (hv:v=aG (Xm x)):CF (Vj m) (λ_=>False) W (.returned v) w:=by
  refine ⟨⟨x,ob⟩,by rw [hv];rfl,hw.out,λy hy=>?_⟩
  have hy:y∈[x.a.row,x.b.row,x.c.row,Lu ⟨x,ob⟩]:=hy
  simp only [List.mem_cons,List.not_mem_nil,or_false] at hy
  rcases hy with rfl|rfl|rfl|rfl
  · exact h1
  · exact h2
  · exact h3
  · exact ⟨λb e=>(hw.2.1 _ (List.mem_of_getElem? hj) b e).2,λb e=>.inl (hw.newRow hj b e)⟩
theorem At.wm {m:MQ} {w0:BK} {S:Nat->Prop} {y:Vj m} (h:At w0 S y):At w0 S y.x:=λz hz=>h z (by
  have hz:z∈[y.x.a.row,y.x.b.row,y.x.c.row]:=hz
  show z∈[y.x.a.row,y.x.b.row,y.x.c.row,Lu y]
  simp only [List.mem_cons,List.not_mem_nil,or_false] at hz ⊢
  rcases hz with rfl|rfl|rfl<;>simp)
theorem At.wmf {m:MQ} {w0:BK} {S:Nat->Prop} {y:Vj m} (h:At w0 S y):∀b,(Lu y).foot=some b->Nw w0 S b:=h (Lu y) (by
  show Lu y∈[y.x.a.row,y.x.b.row,y.x.c.row,Lu y]
  simp)
end
theorem GV (a b:Rat):a<b\/b<=a:=by grind
def Ir (A B:P2) (x y:Rat):Rat:=((B.1:Rat)-(A.1:Rat))*(y-(A.2:Rat))-((B.2:Rat)-(A.2:Rat))*(x-(A.1:Rat))
def Tk (t:P2×P2×P2) (x y:Rat):Prop:=0<Ir t.2.1 t.2.2 x y/\0<Ir t.2.2 t.1 x y/\0<Ir t.1 t.2.1 x y
def inC (t:P2×P2×P2) (x y:Rat):Prop:=0<=Ir t.2.1 t.2.2 x y/\0<=Ir t.2.2 t.1 x y/\0<=Ir t.1 t.2.1 x y
def X9 (s t:P2×P2×P2):Prop:=∀x y,(Tk s x y->¬inC t x y)/\(Tk t x y->¬inC s x y)
theorem GE (u:Nat):((2*u:Nat):Rat)=2*(u:Rat):=by rw [Rat.natCast_mul];rfl
theorem I7 (u:Nat):((2*u+2:Nat):Rat)=2*(u:Rat)+2:=by rw [Rat.natCast_add,GE];rfl
theorem Ov (u:Nat):((2*u+1:Nat):Rat)=2*(u:Rat)+1:=by rw [Rat.natCast_add,GE];rfl
theorem O9 {t:P2×P2×P2} {nx way i u v:Nat} (hu:u=i%nx) (hv:v=i/nx) (ht:t∈CY nx way i) (x y:Rat) :
    (Tk t x y->(2*(u:Rat)<x/\x<2*(u:Rat)+2)/\2*(v:Rat)<y/\y<2*(v:Rat)+2)/\(inC t x y->(2*(u:Rat)<=x/\x<=2*(u:Rat)+2)/\2*(v:Rat)<=y/\y<=2*(v:Rat)+2):=by
  have key:t∈[((2*u,2*v),(2*u+2,2*v),(2*u+2,2*v+2)),((2*u,2*v),(2*u+2,2*v+2),(2*u,2*v+2)),((2*u,2*v),(2*u+2,2*v),(2*u,2*v+2)),((2*u+2,2*v),(2*u+2,2*v+2),(2*u,2*v+2)),
      ((2*u,2*v),(2*u+2,2*v),(2*u+1,2*v+1)),((2*u+2,2*v),(2*u+2,2*v+2),(2*u+1,2*v+1)),((2*u+2,2*v+2),(2*u,2*v+2),(2*u+1,2*v+1)),((2*u,2*v+2),(2*u,2*v),(2*u+1,2*v+1))]:=by
    subst hu;subst hv
    unfold CY at ht
    simp only at ht
    split at ht
    · simp only [List.mem_cons,List.not_mem_nil,or_false] at ht ⊢;rcases ht with h|h<;>simp [h]
    · split at ht
      · simp only [List.mem_cons,List.not_mem_nil,or_false] at ht ⊢;rcases ht with h|h<;>simp [h]
      · split at ht
        · simp only [List.mem_cons,List.not_mem_nil,or_false] at ht ⊢;rcases ht with h|h|h|h<;>simp [h]
        · cases ht
  clear hu hv ht
  simp only [List.mem_cons,List.not_mem_nil,or_false] at key
  rcases key with rfl|rfl|rfl|rfl|rfl|rfl|rfl|rfl<;>(simp only [Tk,inC,Ir,GE,I7,Ov];generalize (u:Rat)=U;generalize (v:Rat)=V;refine ⟨λh=>?_,λh=>?_⟩<;>obtain ⟨h1,h2,h3⟩:=h<;>refine ⟨⟨?_,?_⟩,?_,?_⟩<;>grind)
theorem Pd {s t:P2×P2×P2} {nx way way' i j:Nat} (hij:i≠j) (hs:s∈CY nx way i) (ht:t∈CY nx way' j):X9 s t:=λx y=>by
  have a:=O9 rfl rfl hs x y
  have b:=O9 rfl rfl ht x y
  have hne:i%nx≠j%nx\/i/nx≠j/nx:=by
    rcases Decidable.em (i%nx=j%nx) with e|e
    · rcases Decidable.em (i/nx=j/nx) with e2|e2
      · exact absurd (by rw [<-Nat.div_add_mod i nx,<-Nat.div_add_mod j nx,e,e2]) hij
      · exact .inr e2
    · exact .inl e
  have lt:∀{p q:Nat},p<q->(p:Rat)+1<=(q:Rat):=λ{p q} h=>by
    have h1:((p+1:Nat):Rat)<=(q:Rat):=by exact_mod_cast h
    rw [Rat.natCast_add] at h1
    exact h1
  have four:(i%nx:Nat)+1<=j%nx\/(j%nx:Nat)+1<=i%nx\/(i/nx:Nat)+1<=j/nx\/(j/nx:Nat)+1<=i/nx:=by omega
  revert a b
  rcases four with h|h|h|h<;>have h:=lt h<;>generalize ((i%nx:Nat):Rat)=A at*<;> generalize ((j%nx:Nat):Rat)=B at*<;> generalize ((i/nx:Nat):Rat)=C at*<;> generalize ((j/nx:Nat):Rat)=D at*<;> intro a b<;>refine ⟨λh1 h2=>?_,λh1 h2=>?_⟩ <;>
    first
      | (have a1:=a.1 h1;have b1:=b.2 h2;obtain ⟨⟨_,_⟩,_,_⟩:=a1;obtain ⟨⟨_,_⟩,_,_⟩:=b1;grind)
      | (have a1:=a.2 h2;have b1:=b.1 h1;obtain ⟨⟨_,_⟩,_,_⟩:=a1;obtain ⟨⟨_,_⟩,_,_⟩:=b1;grind)
theorem SD (nx way i:Nat):(CY nx way i).Pairwise X9:=by
  unfold CY
  simp only
  generalize i%nx=u
  generalize i/nx=v
  split
  · refine List.pairwise_pair.2 λx y=>?_
    simp only [Tk,inC,Ir,GE,I7];generalize (u:Rat)=U;generalize (v:Rat)=V
    refine ⟨λh k=>?_,λh k=>?_⟩<;>obtain ⟨h1,h2,h3⟩:=h<;>obtain ⟨k1,k2,k3⟩:=k<;>grind
  · split
    · refine List.pairwise_pair.2 λx y=>?_
      simp only [Tk,inC,Ir,GE,I7];generalize (u:Rat)=U;generalize (v:Rat)=V
      refine ⟨λh k=>?_,λh k=>?_⟩<;>obtain ⟨h1,h2,h3⟩:=h<;>obtain ⟨k1,k2,k3⟩:=k<;>grind
    · split
      · simp only [List.pairwise_cons,List.mem_cons,List.not_mem_nil,or_false,forall_eq_or_imp,forall_eq,List.Pairwise.nil,and_true,false_implies,implies_true]
        refine ⟨⟨?_,?_,?_⟩,⟨?_,?_⟩,?_⟩<;>intro x y<;>simp only [Tk,inC,Ir,GE,I7,Ov]<;>generalize (u:Rat)=U<;>generalize (v:Rat)=V<;>refine ⟨λh k=>?_,λh k=>?_⟩<;>obtain ⟨h1,h2,h3⟩:=h<;>obtain ⟨k1,k2,k3⟩:=k<;>grind
      · exact List.Pairwise.nil
theorem Dp (m:MQ):∀i t,t∈Dk m i->∃j,j<i/\t∈CY (FN m) (Fm m j) j
  | 0,t,h=>by cases h
  | i+1,t,h=>by
    rcases List.mem_append.1 h with h|h
    · obtain ⟨j,hj,h⟩:=Dp m i t h;exact ⟨j,Z,h⟩
    · exact ⟨i,Z,h⟩
theorem JU (m:MQ):∀i,(Dk m i).Pairwise X9
  | 0=>List.Pairwise.nil
  | i+1=>List.pairwise_append.2 ⟨JU m i,SD _ _ _,λs hs t ht=>by
      obtain ⟨j,hj,h⟩:=Dp m i s hs
      exact Pd Z h ht⟩
theorem LC (m:MQ) {i j:Nat} (hi:i<(Az m).length) (hj:j<(Az m).length) (hne:i≠j) (d:P2×P2×P2):∀x y,Tk ((Az m).getD i d) x y->¬inC ((Az m).getD j d) x y:=λx y h=>by
  have hp:=List.pairwise_iff_getElem.1 (JU m (FN m*P_ m))
  rw [List.getD,List.getElem?_eq_getElem hi] at h
  rw [List.getD,List.getElem?_eq_getElem hj]
  rcases Nat.lt_or_gt_of_ne hne with hlt|hgt
  · exact (hp i j hi hj hlt x y).1 h
  · exact (hp j i hj hi hgt x y).2 h
theorem lattice {k:Cr} (h:k.Ok) (den:Nat) (q:Pt):∃x y c:Rat,0<c/\∀A B:P2,AO (CE (Fq k den A)) (CE (Fq k den B)) q=c*Ir A B x y:=by
  have hD:0<(((max den 1:Nat):Int):Rat):=by exact_mod_cast (show (0:Int)<((max den 1:Nat):Int) by omega)
  have hd:(0:Rat)<(k.det:Rat):=by exact_mod_cast h.pos
  have ed:(k.det:Rat)=(k.a:Rat)*(k.d:Rat)-(k.b:Rat)*(k.c:Rat):=by simp only [Cr.det,Rat.intCast_sub,Rat.intCast_mul]
  have hi:=Rat.inv_pos.2 hD
  have he:((((max den 1:Nat):Int):Rat)⁻¹)*(((max den 1:Nat):Int):Rat)=1:=Rat.inv_mul_cancel _ (by grind)
  have hdi:((k.det:Rat)⁻¹)*(k.det:Rat)=1:=Rat.inv_mul_cancel _ (by grind)
  obtain ⟨qx,qy⟩:=q
  refine ⟨((k.d:Rat)*qx-(k.b:Rat)*qy)*(((max den 1:Nat):Int):Rat)*(k.det:Rat)⁻¹,((k.a:Rat)*qy-(k.c:Rat)*qx)*(((max den 1:Nat):Int):Rat)*(k.det:Rat)⁻¹,(k.det:Rat)*((((max den 1:Nat):Int):Rat)⁻¹*(((max den 1:Nat):Int):Rat)⁻¹),Rat.mul_pos hd (Rat.mul_pos hi hi),λA B=>?_⟩
  simp only [B5,CE,Fq,MV,Cr.at_,Ir,Rat.div_def,Rat.intCast_add,Rat.intCast_mul]
  rw [ed] at hdi ⊢
  clear hD hd hi ed
  generalize (((max den 1:Nat):Int):Rat)⁻¹=e at *
  generalize (((max den 1:Nat):Int):Rat)=D at *
  simp only [Rat.intCast_natCast]
  generalize ((k.a:Rat)*(k.d:Rat)-(k.b:Rat)*(k.c:Rat))⁻¹=f at *
  generalize (k.a:Rat)=a at *
  generalize (k.b:Rat)=b at *
  generalize (k.c:Rat)=c at *
  generalize (k.d:Rat)=d at *
  generalize (A.1:Rat)=A1
  generalize (A.2:Rat)=A2
  generalize (B.1:Rat)=B1
  generalize (B.2:Rat)=B2
  clear h
  have hx:qx=(a*((d*qx-b*qy)*D*f)+b*((a*qy-c*qx)*D*f))*e:=by grind
  have hy:qy=(c*((d*qx-b*qy)*D*f)+d*((a*qy-c*qx)*D*f))*e:=by grind
  generalize (d*qx-b*qy)*D*f=X at *
  generalize (a*qy-c*qx)*D*f=Y at *
  subst hx
  subst hy
  grind
theorem CJ {α:Type} {enc:α->List Value} {z:Nat} (h:∀x,(enc x).length=z) (d:α) (xs:List α) (j r:Nat) (hj:j<xs.length) (hr:r<z) {v:Value} (hv:(enc (xs.getD j d))[r]?=some v):(rowsL enc xs)[j*z+r]?=some v:=by
  have h1:=Ar h d xs j hj
  rw [<-h1,List.getElem?_take_of_lt hr,List.getElem?_drop] at hv
  exact hv
theorem BJ (p:Pt):(Aj p).length=10:=rfl
structure XJ (ps:List Pt) (t:Nat×Nat×Nat):Prop where
  a:t.1<ps.length
  b:t.2.1<ps.length
  c:t.2.2<ps.length
  ab:t.1≠t.2.1
  bc:t.2.1≠t.2.2
  ca:t.2.2≠t.1
  pos:0<AO (ps.getD t.1 ⟨0,0⟩) (ps.getD t.2.1 ⟨0,0⟩) (ps.getD t.2.2 ⟨0,0⟩)
def YB (ps:List Pt) (t:Nat×Nat×Nat) (q:Pt):Prop:=0<AO q (ps.getD t.2.1 ⟨0,0⟩) (ps.getD t.2.2 ⟨0,0⟩)/\0<AO (ps.getD t.1 ⟨0,0⟩) q (ps.getD t.2.2 ⟨0,0⟩)/\0<AO (ps.getD t.1 ⟨0,0⟩) (ps.getD t.2.1 ⟨0,0⟩) q
def Js (ps:List Pt) (t:Nat×Nat×Nat) (q:Pt):Prop:=0<=AO q (ps.getD t.2.1 ⟨0,0⟩) (ps.getD t.2.2 ⟨0,0⟩)/\0<=AO (ps.getD t.1 ⟨0,0⟩) q (ps.getD t.2.2 ⟨0,0⟩)/\0<=AO (ps.getD t.1 ⟨0,0⟩) (ps.getD t.2.1 ⟨0,0⟩) q
def Bt (m:MQ):Nat:=1+m.den%6
def Qv (m:MQ) (z:Int×Int):PD:=⟨⟨z.1,Bt m⟩,⟨z.2,Bt m⟩⟩
def Pz (m:MQ) (zs:List (Int×Int)) (i:Nat):List Pt:=(zs.take i).map λz=>CE (Qv m z)
theorem JD {m:MQ} {zs:List (Int×Int)} {i:Nat} (h:i<=zs.length):(Pz m zs i).length=i:=by simp [Pz];omega
theorem TJ {m:MQ} {zs:List (Int×Int)} {i:Nat} (h:i<zs.length):Pz m zs (i+1)=Pz m zs i++[CE (Qv m (zs.getD i (0,0)))]:=by
  unfold Pz
  rw [List.take_add_one,List.getElem?_eq_getElem h,List.map_append,List.getD,List.getElem?_eq_getElem h]
  rfl
theorem PJ {m:MQ} {zs:List (Int×Int)} {i:Nat} (h:i<zs.length):(Pz m zs zs.length).getD i ⟨0,0⟩=CE (Qv m (zs.getD i (0,0))):=by
  unfold Pz
  rw [List.take_length,List.getD,List.getElem?_map,List.getElem?_eq_getElem h,List.getD,List.getElem?_eq_getElem h]
  rfl
def Ew (m:MQ) (pl:List P2):List (Int×Int):=pl.map λp=>(mapM m).at_ p
structure Ek (ps:List Pt) (ts:List (Nat×Nat×Nat)):Prop where
  ne:ts≠[]
  tl:ts.length<=36
  pl:ps.length<=108
  sz:∀i,CG (ps.getD i ⟨0,0⟩)<=4
  tri:∀j,j<ts.length->XJ ps (ts.getD j (0,0,0))
  apart:∀i j,i<ts.length->j<ts.length->i≠j->∀q,YB ps (ts.getD i (0,0,0)) q->¬Js ps (ts.getD j (0,0,0)) q
  lat:∃(m:MQ) (pl:List P2),Lz m (Az m).length pl ts/\VY pl/\ps=Pz m (Ew m pl) pl.length
structure MG where
  ps:List Pt
  ts:List (Nat×Nat×Nat)
  ss:List (Nat×Nat×Nat)
  good:Ek ps ts
  sl:ss.length<=108*108
  sd:∃m:MQ,ss=EX m ts ps.length ps.length
  a:RX (rowsL Aj ps) ps.length
  b:RX (rowsL Am ts) ts.length
  c:RX (rowsL Am ss) ss.length
def Xg (x:MG):List Value:=[x.a.val,x.b.val,x.c.val]
theorem Vb {x:MG} {y:As} (hy:y∈[x.a.row,x.b.row,x.c.row]):y.ro=true:=by
  simp only [List.mem_cons,List.not_mem_nil,or_false] at hy
  rcases hy with rfl|rfl|rfl<;>rfl
instance:D8 MG:=⟨λx=>aG (Xg x),λx=>[x.a.row,x.b.row,x.c.row],λx y hy=>Vb hy⟩
theorem Xy {S:Nat->Prop} {W w:World} {L:List As} {m:MQ} {x:WM m} (h:Ro (SL ⟨W,none⟩ S L) w x):C2 w x.b.row/\∀b,x.b.row.foot=some b->W.heap.size<=b\/S b:=by
  have h1:=h x.b.row (List.mem_cons_of_mem _ List.mem_cons_self)
  exact ⟨h1.1,λb e=>(h1.2 b e).2⟩
theorem I8 {m:MQ} {pl:List P2} {i:Nat} (h:i<pl.length):(Ew m pl).getD i (0,0)=(mapM m).at_ (pl.getD i (0,0)):=by
  simp [Ew,List.getD,h]
theorem Ve {m:MQ} {pl:List P2} (hs:∀p∈pl,p.1<=6/\p.2<=6) {i:Nat} (h:i<pl.length):(Qv m ((Ew m pl).getD i (0,0))).ok:=by
  rw [I8 h]
  have hp:=hs (pl.getD i (0,0)) (by rw [List.getD,List.getElem?_eq_getElem h];exact List.getElem_mem h)
  obtain ⟨⟨h1,h2⟩,h3,h4⟩:=TA (El m.a m.b m.c m.d) hp
  have hd:Bt m<4294967296:=by unfold Bt;omega
  have e:mapM m=Fp m.a m.b m.c m.d:=rfl
  rw [<-e] at h1 h2 h3 h4
  exact ⟨⟨by show -9223372036854775808<=((mapM m).at_ _).1;omega,by show ((mapM m).at_ _).1<_;omega,hd⟩,⟨by show -9223372036854775808<=((mapM m).at_ _).2;omega,by show ((mapM m).at_ _).2<_;omega,hd⟩⟩
theorem EK (a b c:P2):Bl b c a=Bl a b c:=by unfold Bl;grind
theorem C6 (a b:P2):Bl a a b=0/\Bl a b b=0/\Bl b a b=0:=by unfold Bl;exact ⟨by grind,by grind,by grind⟩
theorem QT {m:MQ} {t:Nat} (h:t<(Az m).length):0<Bl (An m t 0) (An m t 1) (An m t 2):=by
  have h1:=GY m ((Az m).getD t ((0,0),(0,0),(0,0))) (by rw [List.getD,List.getElem?_eq_getElem h];exact List.getElem_mem h)
  unfold An H2
  generalize (Az m).getD t ((0,0),(0,0),(0,0))=c at *
  generalize t*(m.fst/3)=q at *
  have h0:=h1.1
  have e:(m.fst+q)%3=0\/(m.fst+q)%3=1\/(m.fst+q)%3=2:=by omega
  rcases e with e|e|e
  · rw [show (0+m.fst+q)%3=0 by omega,show (1+m.fst+q)%3=1 by omega,show (2+m.fst+q)%3=2 by omega]
    exact h0
  · rw [show (0+m.fst+q)%3=1 by omega,show (1+m.fst+q)%3=2 by omega,show (2+m.fst+q)%3=0 by omega]
    show 0<Bl c.2.1 c.2.2 c.1
    rw [EK];exact h0
  · rw [show (0+m.fst+q)%3=2 by omega,show (1+m.fst+q)%3=0 by omega,show (2+m.fst+q)%3=1 by omega]
    show 0<Bl c.2.2 c.1 c.2.1
    rw [EK c.2.1,EK];exact h0
theorem Ld (m:MQ) (t:Nat) (x y:Rat):(0<Ir (An m t 1) (An m t 2) x y->0<Ir (An m t 2) (An m t 0) x y->0<Ir (An m t 0) (An m t 1) x y->Tk ((Az m).getD t ((0,0),(0,0),(0,0))) x y) /\
    (0<=Ir (An m t 1) (An m t 2) x y->0<=Ir (An m t 2) (An m t 0) x y->0<=Ir (An m t 0) (An m t 1) x y->inC ((Az m).getD t ((0,0),(0,0),(0,0))) x y):=by
  unfold An H2
  generalize (Az m).getD t ((0,0),(0,0),(0,0))=c at *
  generalize t*(m.fst/3)=q at *
  have e:(m.fst+q)%3=0\/(m.fst+q)%3=1\/(m.fst+q)%3=2:=by omega
  rcases e with e|e|e
  · rw [show (0+m.fst+q)%3=0 by omega,show (1+m.fst+q)%3=1 by omega,show (2+m.fst+q)%3=2 by omega]
    exact ⟨λa b c=>⟨a,b,c⟩,λa b c=>⟨a,b,c⟩⟩
  · rw [show (0+m.fst+q)%3=1 by omega,show (1+m.fst+q)%3=2 by omega,show (2+m.fst+q)%3=0 by omega]
    exact ⟨λa b c=>⟨c,a,b⟩,λa b c=>⟨c,a,b⟩⟩
  · rw [show (0+m.fst+q)%3=2 by omega,show (1+m.fst+q)%3=0 by omega,show (2+m.fst+q)%3=1 by omega]
    exact ⟨λa b c=>⟨b,c,a⟩,λa b c=>⟨b,c,a⟩⟩
theorem Np {c z:Rat} (hc:0<c) (h:0<c*z):0<z:=by
  rcases GV 0 z with h1|h1
  · exact h1
  · have:=Rat.mul_nonneg (show 0<=c by grind) (show 0 <= -z by grind)
    grind
theorem Gp {c z:Rat} (hc:0<c) (h:0<=c*z):0<=z:=by
  rcases GV z 0 with h1|h1
  · have:=Rat.mul_pos hc (show 0 < -z by grind)
    grind
  · exact h1
theorem Tx {m:MQ} (x:WM m) {ps:List Pt} (h:ps=Pz m (Ew m x.pl) x.pl.length):Ek ps x.ts:=by
  have hz:(Ew m x.pl).length=x.pl.length:=by simp [Ew]
  rw [<-hz] at h
  have hl:ps.length=x.pl.length:=by rw [h,JD (Nat.le_refl _),hz]
  have hg:∀i,i<x.pl.length->ps.getD i ⟨0,0⟩=CE (Fq (mapM m) (Bt m) (x.pl.getD i (0,0))):=λi hi=>by
    rw [h,PJ (by rw [hz];exact hi),I8 hi];rfl
  have hi:=x.inv
  have hcl:=HE m
  refine ⟨λe=>Qq m (List.eq_nil_of_length_eq_zero (by rw [<-hi.tl,e];rfl)),by rw [hi.tl];exact hcl,by rw [hl];have:=hi.pll;omega,λi=>?_,λj hj=>?_,λi j hi1 hj1 hne q ho hcl2=>?_,⟨m,x.pl,x.inv,x.dst,by rw [h,hz]⟩⟩
  · rcases Nat.lt_or_ge i x.pl.length with h1|h1
    · have hok:=Ve (m:=m) hi.small h1
      rw [hg i h1]
      have:=RZ hok
      rw [I8 h1] at this
      exact this
    · rw [List.getD,List.getElem?_eq_none (by rw [hl];exact h1)];decide +kernel
  · rw [hi.tl] at hj
    have ht:=hi.at_ j hj
    have hc:=QT hj
    have hp:=Us (El m.a m.b m.c m.d) (Bt m) hc
    obtain ⟨⟨a1,a2⟩,⟨b1,b2⟩,⟨c1,c2⟩⟩:=ht
    refine ⟨by rw [hl];exact a1,by rw [hl];exact b1,by rw [hl];exact c1,λe=>?_,λe=>?_,λe=>?_,?_⟩
    · rw [e,b2] at a2;rw [<-a2,(C6 _ _).1] at hc;omega
    · rw [e,c2] at b2;rw [<-b2,(C6 _ _).2.1] at hc;omega
    · rw [e,a2] at c2;rw [<-c2,(C6 _ _).2.2] at hc;omega
    · rw [hg _ a1,hg _ b1,hg _ c1,a2,b2,c2];exact hp
  · rw [hi.tl] at hi1 hj1
    obtain ⟨x',y',c,hc,key⟩:=lattice (El m.a m.b m.c m.d) (Bt m) q
    obtain ⟨⟨a1,a2⟩,⟨b1,b2⟩,⟨c1,c2⟩⟩:=hi.at_ i hi1
    obtain ⟨⟨d1,d2⟩,⟨e1,e2⟩,⟨f1,f2⟩⟩:=hi.at_ j hj1
    obtain ⟨o1,o2,o3⟩:=ho
    obtain ⟨k1,k2,k3⟩:=hcl2
    rw [hg _ b1,hg _ c1,b2,c2,<-FE,show mapM m=Fp m.a m.b m.c m.d from rfl,key] at o1
    rw [hg _ a1,hg _ c1,a2,c2,FE,show mapM m=Fp m.a m.b m.c m.d from rfl,key] at o2
    rw [hg _ a1,hg _ b1,a2,b2,show mapM m=Fp m.a m.b m.c m.d from rfl,key] at o3
    rw [hg _ e1,hg _ f1,e2,f2,<-FE,show mapM m=Fp m.a m.b m.c m.d from rfl,key] at k1
    rw [hg _ d1,hg _ f1,d2,f2,FE,show mapM m=Fp m.a m.b m.c m.d from rfl,key] at k2
    rw [hg _ d1,hg _ e1,d2,e2,show mapM m=Fp m.a m.b m.c m.d from rfl,key] at k3
    exact LC m hi1 hj1 hne _ x' y' ((Ld m i x' y').1 (Np hc o1) (Np hc o2) (Np hc o3)) ((Ld m j x' y').2 (Gp hc k1) (Gp hc k2) (Gp hc k3))
def W3 (m:MQ) (ps:List Pt) (ts:List (Nat×Nat×Nat)):Prop:=∃pl:List P2,Lz m (Az m).length pl ts/\VY pl/\ps=Pz m (Ew m pl) pl.length
theorem To {m:MQ} (x:WM m) {ps:List Pt} (h:ps=Pz m (Ew m x.pl) x.pl.length):W3 m ps x.ts:=⟨x.pl,x.inv,x.dst,h⟩
structure MF (m:MQ) where
  g:MG
  lat:W3 m g.ps g.ts
instance {m:MQ}:D8 (MF m):=⟨λx=>aG (Xg x.g),λx=>[x.g.a.row,x.g.b.row,x.g.c.row],λx y hy=>Vb hy⟩
theorem CF.ofMF {m:MQ} {S:Nat->Prop} {W w:World} {e:Ending} (h:CF (MF m) S W e w):CF MG S W e w:=by
  obtain ⟨a,h1,h2,h3⟩:=h
  exact ⟨a.g,h1,h2,h3⟩
structure Wr (m:MQ) where
  f:MF m
  ob:OwnOk f.g.b.p f.g.ts.length f.g.b.c
  da:∀x,f.g.b.p.map (·.block)=some x->f.g.a.p.map (·.block)≠some x
  dc:∀x,f.g.b.p.map (·.block)=some x->f.g.c.p.map (·.block)≠some x
def Rf {m:MQ} (y:Wr m):As:=XD y.f.g.b.p 79 3 y.f.g.ts.length y.f.g.b.c (rowsL Am y.f.g.ts)
instance {m:MQ}:D8 (Wr m):=⟨λy=>aG (Xg y.f.g),λy=>[y.f.g.a.row,y.f.g.b.row,y.f.g.c.row,Rf y],λx y hy=>by
  simp only [List.mem_cons,List.not_mem_nil,or_false] at hy
  rcases hy with rfl|rfl|rfl|rfl<;>rfl⟩
theorem V3 {m:MQ} {W w:World} {L:List As} (hw:BO ⟨W,none⟩ w L) (x:Wr m) (h1:C2 w x.f.g.a.row/\∀b,x.f.g.a.row.foot=some b->W.heap.size<=b\/False) (h2:C2 w x.f.g.b.row/\∀b,x.f.g.b.row.foot=some b->W.heap.size<=b\/False) (h3:C2 w x.f.g.c.row/\∀b,x.f.g.c.row.foot=some b->W.heap.size<=b\/False) (h4:C2 w (Rf x)/\∀b,(Rf x).foot=some b->W.heap.size<=b\/False) {v:Value} (hv:v=aG (Xg x.f.g)):CF (Wr m) (λ_=>False) W (.returned v) w:=by
  refine ⟨x,by rw [hv];rfl,hw.out,λy hy=>?_⟩
  have hy:y∈[x.f.g.a.row,x.f.g.b.row,x.f.g.c.row,Rf x]:=hy
  simp only [List.mem_cons,List.not_mem_nil,or_false] at hy
  rcases hy with rfl|rfl|rfl|rfl
  · exact h1
  · exact h2
  · exact h3
  · exact h4
theorem CF.ofMGF {m:MQ} {S:Nat->Prop} {W w:World} {e:Ending} (h:CF (Wr m) (λ_=>False) W e w):CF (MF m) S W e w:=by
  obtain ⟨a,h1,h2,h3⟩:=h
  refine ⟨a.f,h1,h2,λy hy=>?_⟩
  have h4:=h3 y (by
    have hy:y∈[a.f.g.a.row,a.f.g.b.row,a.f.g.c.row]:=hy
    show y∈[a.f.g.a.row,a.f.g.b.row,a.f.g.c.row,Rf a]
    simp only [List.mem_cons,List.not_mem_nil,or_false] at hy ⊢
    rcases hy with rfl|rfl|rfl<;>simp)
  exact ⟨h4.1,λb e=>(h4.2 b e).imp id λk=>k.elim⟩
section
structure MX (ps:List Pt) (ts ss:List (Nat×Nat×Nat)) where
  a:RX (rowsL Aj ps) ps.length
  b:RX (rowsL Am ts) ts.length
  c:RX (rowsL Am ss) ss.length
def Cm {ps:List Pt} {ts ss:List (Nat×Nat×Nat)} (x:MX ps ts ss):List Value:=[x.a.val,x.b.val,x.c.val]
theorem XB {ps:List Pt} {ts ss:List (Nat×Nat×Nat)} {x:MX ps ts ss} {y:As} (hy:y∈[x.a.row,x.b.row,x.c.row]):y.ro=true:=by
  simp only [List.mem_cons,List.not_mem_nil,or_false] at hy
  rcases hy with rfl|rfl|rfl<;>rfl
instance {ps:List Pt} {ts ss:List (Nat×Nat×Nat)}:D8 (MX ps ts ss):=⟨λx=>aG (Cm x),λx=>[x.a.row,x.b.row,x.c.row],λx y hy=>XB hy⟩
def MG.mx (g:MG):MX g.ps g.ts g.ss:=⟨g.a,g.b,g.c⟩
structure BX (cs:List Value) where
  b:Nat
instance {cs:List Value}:D8 (BX cs):=⟨λx=>pP x.b 0,λx=>[Ah (some ⟨x.b,0,none⟩) cs],λx y hy=>by rcases List.mem_singleton.1 hy with rfl;rfl⟩
theorem FH {b:Nat} {T:TypeId} {cs:List Value} {o:Obj} (h:(Ae b T cs).P o):(Ah (some ⟨b,0,none⟩) cs).P o:=⟨cs.toArray,T,(0,0),h,by show (cs.toArray.toList.drop 0).take cs.length=cs;simp⟩
section
variable {S:Nat->Prop} {w W:World} {w0:BK} {L:List As} {ps:List Pt} {ts ss:List (Nat×Nat×Nat)} {cs:List Value}
theorem Wx {x:MX ps ts ss} (h:Ro S w x):Ro S w x.a:=λy hy=>by rcases List.mem_singleton.1 hy with rfl;exact h _ List.mem_cons_self
theorem RJ {x:MX ps ts ss} (h:Ro S w x):Ro S w x.b:=λy hy=>by rcases List.mem_singleton.1 hy with rfl;exact h _ (List.mem_cons_of_mem _ List.mem_cons_self)
theorem Tf (hw:BO w0 w L) (i:Nat) {x:BX cs} (hi:L[i]?=some (Ah (some ⟨x.b,0,none⟩) cs)) (hb:w0.w.heap.size<=x.b):Ro (SL w0 S L) w x:=λy hy=>by
  rcases List.mem_singleton.1 hy with rfl
  exact ⟨hw.holds hi,λc e=>⟨⟨_,List.mem_of_getElem? hi,rfl,e⟩,.inl (by injection e with e;rw [<-e];exact hb)⟩⟩
end
section
variable {P:Program} {ops:Array Oper} {rest:List Oper} {Q:Exit->Act->World->Prop} {n d:Nat} {F:List (Nat×Value)} {w0:BK} {S:Nat->Prop} {L:List As} {t:TypeId} {p:String} {af:Array Edge} {y:Operand} {f:FuncId} {xs:List Operand} {args:List Value} {ts:Array TypeId}
theorem AE.frzX (i:Nat) {b:Nat} {T:TypeId} {cs:List Value} (hi:L[i]?=some (Ae b T cs)) (hex:w0.ex=none) (next:w0.w.heap.size<=b->AE P ops rest Q n F w0 (L.set i (Ah (some ⟨b,0,none⟩) cs))):AE P ops rest Q n F w0 L:=λa w ha hw=>by
  refine next ?_ a w ha (hw.freeze hi O (λo hp=>FH hp) (λe=>by cases e))
  rcases (hw.2.1 _ (List.mem_of_getElem? hi) b rfl).1 with h1|h1|h1
  · cases h1
  · exact h1
  · rw [hex] at h1;cases h1
end
def J3 (n:Nat) (t:Nat×Nat×Nat):Bool:=decide (t.1<n)&&decide (t.2.1<n)&&decide (t.2.2<n)&&!decide (t.1=t.2.1)&&!decide (t.2.1=t.2.2)&&!decide (t.2.2=t.1)
def Bn (n:Nat) (ts:List (Nat×Nat×Nat)):Bool:=ts.all (J3 n)
theorem QL {ps:List Pt} {ts:List (Nat×Nat×Nat)} (h:Ek ps ts):Bn ps.length ts=true:=List.all_eq_true.2 λt ht=>by
  obtain ⟨j,hj,rfl⟩:=List.getElem_of_mem ht
  have k:=h.tri j hj
  rw [show ts.getD j (0,0,0)=ts[j] by rw [List.getD,List.getElem?_eq_getElem hj];rfl] at k
  simp [J3,k.a,k.b,k.c,k.ab,k.bc,k.ca]
theorem Cp {n:Nat} {ts:List (Nat×Nat×Nat)} (h:Bn n ts=true) {j:Nat} (hj:j<ts.length):J3 n (ts.getD j (0,0,0))=true:=by
  rw [List.getD,List.getElem?_eq_getElem hj]
  exact List.all_eq_true.1 h _ (List.getElem_mem hj)
theorem DG {n:Nat} {t:Nat×Nat×Nat} (h:J3 n t=true):t.1<n/\t.2.1<n/\t.2.2<n:=by
  simp [J3] at h;omega
theorem Po {n:Nat} {ts:List (Nat×Nat×Nat)} (h:∀q,q<ts.length->J3 n (ts.getD q (0,0,0))=true):Bn n ts=true:=List.all_eq_true.2 λt ht=>by
  obtain ⟨j,hj,rfl⟩:=List.getElem_of_mem ht
  have k:=h j hj
  rw [List.getD,List.getElem?_eq_getElem hj] at k
  exact k
def idxB (n:Nat):List (Nat×Nat×Nat)->Nat->Int
  | [],_ => -1
  | t::r,i=>if J3 n t=true then idxB n r (i+1) else (i:Int)
theorem PW {α:Type} {ts:List α} {d:α} {j:Nat} (hj:j<ts.length):ts.drop j=ts.getD j d::ts.drop (j+1):=by
  rw [List.drop_eq_getElem_cons hj,List.getD,List.getElem?_eq_getElem hj];rfl
theorem Ps {n:Nat} {ts:List (Nat×Nat×Nat)} {j:Nat} (hj:j<ts.length) (h:J3 n (ts.getD j (0,0,0))=true):idxB n (ts.drop j) j=idxB n (ts.drop (j+1)) (j+1):=by
  rw [PW (d:=(0,0,0)) hj];exact if_pos h
theorem SW {n:Nat} {ts:List (Nat×Nat×Nat)} {j:Nat} (hj:j<ts.length) (h:J3 n (ts.getD j (0,0,0))=false):idxB n (ts.drop j) j=(j:Int):=by
  rw [PW (d:=(0,0,0)) hj];exact if_neg (by rw [h];exact Bool.false_ne_true)
theorem TH {n:Nat} {ts:List (Nat×Nat×Nat)} {j:Nat} (hj:¬j<ts.length):idxB n (ts.drop j) j = -1:=by
  rw [List.drop_of_length_le Z];rfl
theorem K2 (n:Nat):∀(ts:List (Nat×Nat×Nat)) (i:Nat),decide (0<=idxB n ts i)=!Bn n ts
  | [],i=>rfl
  | t::r,i=>by
    unfold idxB Bn
    rw [List.all_cons]
    cases h:J3 n t with
    | true=>rw [if_pos rfl,Bool.true_and];exact K2 n r (i+1)
    | false=>rw [if_neg Bool.false_ne_true,Bool.false_and];simp
def cor (ps:List Pt) (k:Nat):Pt:=ps.getD k ⟨0,0⟩
def G3 (a b c p:Pt):Nat:=if AO a b c=0 then 0 else D9 (AO p b c/AO a b c) (AO a p c/AO a b c) (AO a b p/AO a b c)
def F3 (ps:List Pt) (q:Pt) (t:Nat×Nat×Nat):Nat:=G3 (cor ps t.1) (cor ps t.2.1) (cor ps t.2.2) q
end
def YM (l:List Nat):List Value:=l.map λ(d:Nat)=>vN d
end Go.Proofs.YtfbomiejpbchdaaGreatDoor
