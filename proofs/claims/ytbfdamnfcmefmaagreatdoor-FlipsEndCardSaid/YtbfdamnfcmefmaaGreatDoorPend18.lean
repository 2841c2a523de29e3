import Derived.Test.YtbfdamnfcmefmaaGreatDoorPend16
namespace Go.Proofs.YtbfdamnfcmefmaaGreatDoor
open Go Go.RowKit Go.Proofs.Tryz
open Go.Value renaming slice→qz,bool→qa
set_option linter.unusedVariables false
set_option linter.unusedSimpArgs false
section
section
variable {P:Program}
theorem Oe.one {D c i:Nat} {e:TypeId} {is:List Nat} {xs ys:List Value} {u v:Value} {r s:Bool} (hg:∀w,(isAgg e).run P w=.ok false w)
    (ha:xs[i*c]?=some u) (hb:ys[i*c]?=some v) (h:Ef P D e u v r) (h2:Oe P D e c xs ys is s):Oe P D e c xs ys (i::is) (r&&s):=λw=>by
  have e1:(part e xs.toArray (i*c)).run P w=.ok u w:=by simp [part,hg,ha]
  have e2:(part e ys.toArray (i*c)).run P w=.ok v w:=by simp [part,hg,hb]
  simp only [Go.Op.eqItems,Sem.run_bind,e1,e2,Result.andThen_ok,h w]
  cases r
  · simp
  · simp [h2 w]
end
theorem LQ:∃i,prog.info? 3=some i:=Option.isSome_iff_exists.1 jV
theorem Ix:prog.cellsOf 3=1:=by kernel_rfl
theorem Nm (D:Nat) (a b:P2):Ef prog (D+2) 72 (.agg (Ay a).toArray) (.agg (Ay b).toArray) (decide (a=b)):=by
  have h:Ef prog (D+2) 72 (.agg (Ay a).toArray) (.agg (Ay b).toArray) (((a.1:Int) == (b.1:Int))&&(((a.2:Int) == (b.2:Int))&&true)) :=
    Ef.array underlying72 LQ Ix (Oe.one isAgg3 rfl rfl (Ef.int underlying3) (Oe.one isAgg3 rfl rfl (Ef.int underlying3) Oe.nil))
  have e:(((a.1:Int) == (b.1:Int))&&(((a.2:Int) == (b.2:Int))&&true))=decide (a=b):=by
    obtain ⟨a1,a2⟩:=a
    obtain ⟨b1,b2⟩:=b
    rw [Bool.eq_iff_iff]
    simp
    constructor<;>(rintro ⟨h1,h2⟩;constructor<;>omega)
  rwa [e] at h
theorem JO (xs:List (P2×P2×P2)) (i r:Nat) (hi:i<xs.length) (hr:r<3) (c:P2×P2×P2) (hc:c=xs.getD i ((0,0),(0,0),(0,0))) (p:P2) (hp:p=if r=0 then c.1 else if r=1 then c.2.1 else c.2.2):((rowsL A7 xs).drop (i*6+r*2)).take 2=Ay p:=by
  have h:=Ae F8 ((0,0),(0,0),(0,0)) xs i hi
  rw [<-hc] at h
  have e:((rowsL A7 xs).drop (i*6+r*2)).take 2=((((rowsL A7 xs).drop (i*6)).take 6).drop (r*2)).take 2:=by
    rw [List.drop_take,List.take_take,List.drop_drop]
    congr 1
    omega
  rw [e,h]
  have h3:r=0\/r=1\/r=2:=by omega
  rcases h3 with rfl|rfl|rfl<;>subst hp<;>rfl
def C0 (c:P2×P2×P2) (k:Nat):P2:=if k=0 then c.1 else if k=1 then c.2.1 else c.2.2
def JI (m:MQ) (t k:Nat):Nat:=(k+m.fst+t*(m.fst/3))%3
def Ai (m:MQ) (t k:Nat):P2:=C0 ((Aw m).getD t ((0,0),(0,0),(0,0))) (JI m t k)
structure JW (m:MQ) (pl:List P2) (n:Tq3) (t:Nat):Prop where
  a:n.1<pl.length/\pl.getD n.1 (0,0)=Ai m t 0
  b:n.2.1<pl.length/\pl.getD n.2.1 (0,0)=Ai m t 1
  c:n.2.2<pl.length/\pl.getD n.2.2 (0,0)=Ai m t 2
def GP (pl:List P2) (p:P2):List P2×Nat:=if p∈pl then (pl,pl.idxOf p) else (pl++[p],pl.length)
def XL (m:MQ):Nat->List P2×List (Tq3)
  | 0=>([],[])
  | i+1=>((GP (GP (GP (XL m i).1 (Ai m i 0)).1 (Ai m i 1)).1 (Ai m i 2)).1,
      (XL m i).2++[((GP (XL m i).1 (Ai m i 0)).2,(GP (GP (XL m i).1 (Ai m i 0)).1 (Ai m i 1)).2,(GP (GP (GP (XL m i).1 (Ai m i 0)).1 (Ai m i 1)).1 (Ai m i 2)).2)])
theorem W3 {m:MQ} {i:Nat} {pl pl1 pl2 pl3:List P2} {ts:List (Tq3)} {n1 n2 n3:Nat} (h:(pl,ts)=XL m i) (h1:(pl1,n1)=GP pl (Ai m i 0)) (h2:(pl2,n2)=GP pl1 (Ai m i 1)) (h3:(pl3,n3)=GP pl2 (Ai m i 2)):(pl3,ts++[(n1,n2,n3)])=XL m (i+1):=by
  rw [XL,<-h]
  dsimp only
  rw [<-h1]
  dsimp only
  rw [<-h2]
  dsimp only
  rw [<-h3]
theorem Lk {pl:List P2} {p:P2} (h:∀j,j<pl.length->pl.getD j (0,0)≠p):(pl++[p],pl.length)=GP pl p:=by
  unfold GP
  rw [if_neg]
  intro hm
  obtain ⟨j,hj,e⟩:=List.getElem_of_mem hm
  exact h j hj (by rw [List.getD,xP hj];exact e)
structure NS (m:MQ) (i:Nat) (pl:List P2) (ts:List (Tq3)):Prop where
  tl:ts.length=i
  pll:pl.length<=3*i
  at_:∀j,j<i->JW m pl (ts.getD j (0,0,0)) j
  small:∀p∈pl,p.1<=6/\p.2<=6
  used:∀a,a<pl.length->∃j,j<i/\((ts.getD j (0,0,0)).1=a\/(ts.getD j (0,0,0)).2.1=a\/(ts.getD j (0,0,0)).2.2=a)
  fn:(pl,ts)=XL m i
def XP (pl:List P2):Prop:=∀a b,a<pl.length->b<pl.length->pl.getD a (0,0)=pl.getD b (0,0)->a=b
theorem Ll {pl:List P2} {p:P2} {n:Nat} (hd:XP pl) (hn:n<pl.length) (h:pl.getD n (0,0)=p):(pl,n)=GP pl p:=by
  have hm:p∈pl:=by rw [<-h,List.getD,xP hn];exact List.getElem_mem hn
  unfold GP
  rw [if_pos hm]
  have hi:pl.idxOf p<pl.length:=List.idxOf_lt_length_of_mem hm
  have e:pl.getD (pl.idxOf p) (0,0)=p:=by rw [List.getD,xP hi];exact List.getElem_idxOf hi
  rw [hd n (pl.idxOf p) hn hi (h.trans e.symm)]
theorem Xr:XP []:=λa b h=>absurd h (Nat.not_lt_zero _)
structure WS where
  pl:List P2
  p1:Option Addr
  c1:Nat
  p2:Option Addr
  c2:Nat
structure WS.Ok (s:WS):Prop where
  o1:OwnOk s.p1 s.pl.length s.c1
  o2:OwnOk s.p2 s.pl.length s.c2
  small:∀p∈s.pl,p.1<=6/\p.2<=6
  dst:XP s.pl
def mapM (m:MQ):DB:=Gd m.a m.b m.c m.d
def WS.pts (s:WS) (m:MQ):List (Int×Int):=s.pl.map λp=>(mapM m).at_ p
theorem EI {m:MQ} {t k:Nat} (h:t<(Aw m).length):(Ai m t k).1<=6/\(Ai m t k).2<=6:=by
  have h1:=HH m ((Aw m).getD t ((0,0),(0,0),(0,0))) (by rw [List.getD,xP h];exact List.getElem_mem h)
  unfold Ai C0
  split
  · exact h1.2.1
  · split
    · exact h1.2.2.1
    · exact h1.2.2.2
theorem Dj {pl:List P2} {x:P2} {j:Nat} (h:j<pl.length):(pl++[x]).getD j (0,0)=pl.getD j (0,0):=by simp [List.getD,List.getElem?_append_left h]
theorem DI (pl:List P2) (x:P2):(pl++[x]).getD pl.length (0,0)=x:=by simp [List.getD]
theorem Ku {pl:List P2} {x:P2} (h:XP pl) (hx:∀j,j<pl.length->pl.getD j (0,0)≠x):XP (pl++[x]):=λa b ha hb e=>by
  simp only [xL,List.length_singleton] at ha hb
  rcases Nat.lt_or_ge a pl.length with h1|h1<;>rcases Nat.lt_or_ge b pl.length with h2|h2
  · rw [Dj h1,Dj h2] at e;exact h a b h1 h2 e
  · obtain rfl:b=pl.length:=by omega
    rw [Dj h1,DI] at e;exact absurd e (hx a h1)
  · obtain rfl:a=pl.length:=by omega
    rw [Dj h2,DI] at e;exact absurd e.symm (hx b h2)
  · omega
def GB (a b:List P2):Prop:=a.length<=b.length/\∀j,j<a.length->b.getD j (0,0)=a.getD j (0,0)
theorem GB.refl (a:List P2):GB a a:=⟨Nat.le_refl _,λ_ _=>rfl⟩
theorem GB.trans {a b c:List P2} (h:GB a b) (k:GB b c):GB a c:=⟨xM h.1 k.1,λj hj=>(k.2 j (by have:=h.1;omega)).trans (h.2 j hj)⟩
theorem GB.snoc (a:List P2) (x:P2):GB a (a++[x]):=⟨by simp,λj hj=>Dj hj⟩
theorem JW.more {m:MQ} {a b:List P2} {n:Tq3} {t:Nat} (h:JW m a n t) (k:GB a b):JW m b n t :=
  ⟨⟨by have:=h.a.1;have:=k.1;omega,(k.2 _ h.a.1).trans h.a.2⟩,⟨by have:=h.b.1;have:=k.1;omega,(k.2 _ h.b.1).trans h.b.2⟩,⟨by have:=h.c.1;have:=k.1;omega,(k.2 _ h.c.1).trans h.c.2⟩⟩
theorem Jf {ts:List (Tq3)} {x:Tq3} {j:Nat} (h:j<ts.length):(ts++[x]).getD j (0,0,0)=ts.getD j (0,0,0):=by simp [List.getD,List.getElem?_append_left h]
theorem NS.step {m:MQ} {i:Nat} {pl pl':List P2} {ts:List (Tq3)} {n:Tq3} (h:NS m i pl ts) (k:GB pl pl') (hl:pl'.length<=pl.length+3) (hs:∀p∈pl',p.1<=6/\p.2<=6) (hn:JW m pl' n i) (hu:∀a,a<pl'.length->a<pl.length\/n.1=a\/n.2.1=a\/n.2.2=a) (hf:(pl',ts++[n])=XL m (i+1)):NS m (i+1) pl' (ts++[n]) :=
  ⟨by rw [xL,h.tl];rfl,by have:=h.pll;omega,λj hj=>by
    rcases Nat.lt_or_ge j i with h1|h1
    · rw [Jf (by rw [h.tl];exact h1)];exact (h.at_ j h1).more k
    · have e:j=i:=by omega
      subst e
      have e2:(ts++[n]).getD j (0,0,0)=n:=by rw [<-h.tl];simp [List.getD]
      rw [e2];exact hn,hs,λa ha=>by
    rcases hu a ha with h1|h1
    · obtain ⟨j,hj,h2⟩:=h.used a h1
      exact ⟨j,Z,by rw [Jf (by rw [h.tl];exact hj)];exact h2⟩
    · have e2:(ts++[n]).getD i (0,0,0)=n:=by rw [<-h.tl];simp [List.getD]
      exact ⟨i,Z,by rw [e2];exact h1⟩,hf⟩
theorem cv (m:MQ):NS m 0 [] []:=⟨rfl,by simp,λj hj=>absurd hj Z,(λp hp=>by cases hp),(λa ha=>absurd ha (Nat.not_lt_zero _)),rfl⟩
def Gb (t:Tq3) (x:Nat):Bool:=decide (t.1=x)||decide (t.2.1=x)||decide (t.2.2=x)
def Y7 (m:MQ) (a b:Nat):Tq3:=(a,b,(a+3*b+m.fst)%5)
def Ht (ts:List (Tq3)) (a b:Nat):Nat->Nat
  | 0=>0
  | i+1=>Ht ts a b i+(if Gb (ts.getD i (0,0,0)) a=true/\Gb (ts.getD i (0,0,0)) b=true then 1 else 0)
def Jy (m:MQ) (ts:List (Tq3)) (a:Nat):Nat->List (Tq3)
  | 0=>[]
  | j+1=>Jy m ts a j++(if Ht ts a (a+1+j) ts.length=1 then [Y7 m a (a+1+j)] else [])
def FP (m:MQ) (ts:List (Tq3)) (N:Nat):Nat->List (Tq3)
  | 0=>[]
  | a+1=>FP m ts N a++Jy m ts a (N-(a+1))
theorem Uj {ts:List (Tq3)} {a b i:Nat} (h:Gb (ts.getD i (0,0,0)) a=true/\Gb (ts.getD i (0,0,0)) b=true):Ht ts a b (i+1)=Ht ts a b i+1:=by show _+(if _ then _ else _)=_;rw [if_pos h]
theorem Xm {ts:List (Tq3)} {a b i:Nat} (h:Gb (ts.getD i (0,0,0)) a=false\/Gb (ts.getD i (0,0,0)) b=false):Ht ts a b (i+1)=Ht ts a b i:=by
  show _+(if _ then _ else _)=_
  rw [if_neg (λk=>by rcases h with h|h<;>rw [h] at k<;>exact absurd k jX),Nat.add_zero]
theorem WN {m:MQ} {ts L:List (Tq3)} {a b:Nat} (hb:a+1<=b) (h:Ht ts a b ts.length=1):(L++Jy m ts a (b-(a+1)))++[(a,b,(a+3*b+m.fst)%5)]=L++Jy m ts a (b+1-(a+1)):=by
  rw [show b+1-(a+1)=b-(a+1)+1 by omega]
  show _=L++(_++(if _ then _ else _))
  rw [show a+1+(b-(a+1))=b by omega,if_pos h,List.append_assoc];rfl
theorem Y2 {m:MQ} {ts L:List (Tq3)} {a b:Nat} (hb:a+1<=b) (h:¬Ht ts a b ts.length=1):L++Jy m ts a (b-(a+1))=L++Jy m ts a (b+1-(a+1)):=by
  rw [show b+1-(a+1)=b-(a+1)+1 by omega]
  show _=L++(_++(if _ then _ else _))
  rw [show a+1+(b-(a+1))=b by omega,if_neg h,List.append_nil]
theorem NL {l:List (Tq3)} {j:Nat} (h:j<l.length):l.take (j+1)=l.take j++[l.getD j (0,0,0)]:=by
  rw [List.take_add_one,List.getD,xP h];rfl
structure WM (m:MQ) where
  pl:List P2
  ts:List (Tq3)
  ss:List (Tq3)
  inv:NS m (Aw m).length pl ts
  dst:XP pl
  sl:ss.length<=108*108
  sd:ss=FP m ts pl.length pl.length
  a:RX (rowsL CT (pl.map λp=>(mapM m).at_ p)) pl.length
  b:RX (rowsL Af ts) ts.length
  c:RX (rowsL Af ss) ss.length
def eW {m:MQ} (x:WM m):List Value:=[x.a.val,x.b.val,x.c.val]
theorem cw {m:MQ} {x:WM m} {y:As} (hy:y∈[x.a.row,x.b.row,x.c.row]):y.ro=true:=by
  simp only [xN,List.not_mem_nil,or_false] at hy
  rcases hy with rfl|rfl|rfl<;>rfl
instance {m:MQ}:Cy (WM m):=⟨λx=>aG (eW x),λx=>[x.a.row,x.b.row,x.c.row],λx y hy=>cw hy⟩
theorem GO {S:Nat->Prop} {W w:World} {L:List As} (hw:BH ⟨W,none⟩ w L) (i:Nat) {p:Option Addr} {T:TypeId} {z n c:Nat} {cs:List Value} (hi:L[i]?=some (rowW p T z n c cs)) (ho:OwnOk p n c) (hl:cs.length=n*z):Holds w (AN p cs)/\∀b,(AN p cs).foot=some b->W.heap.size<=b\/S b:=by
  have hb:=hw.newRow hi
  refine ⟨λd e=>?_,λd e=>.inl (hb d e)⟩
  obtain ⟨_,o,ho2,hp⟩:=hw.2.1 _ (List.mem_of_getElem? hi) d e
  exact ⟨o,ho2,DY ho hl hp⟩
section
variable {P:Program} {ops:Array Oper} {rest:List Oper} {Q:Exit->Act->World->Prop} {n d:Nat} {F:List (Nat×Value)} {w0:BD} {S:Nat->Prop} {L:List As} {t:TypeId} {p:String} {af:Array Edge} {y:Operand} {f:FuncId} {xs:List Operand} {args:List Value} {ts:Array TypeId}
theorem cX {cs:List Value} {k:Nat} (hc:∀args w,(callFunc f args).run P w=.ok (.enter f args) w) (h:∀w,BH w0 w L->Calls P f args.toArray w (BP (RX cs k) (SL w0 S L) w))
    (hf:evF F y=some (.func (.func f) #[] #[])) (hargs:xs.map (evF F)=args.map some) (hd:Nat.ble (d+1) n=true) (next:∀a:RX cs k,At w0 S a->AR P ops rest Q n ((d,.slice a.p k a.c)::F) w0 (AN a.p cs::L)) :
    AR P ops (⟨some d,.call { callee:=.value y,args:=xs.toArray,argTypes:=ts },t,p,af,none⟩::rest) Q n F w0 L:=yI hc h hf hargs hd next
end
def JJ (p:Option Addr) (T:TypeId) (z n c:Nat) (cs:List Value):As:=⟨p.map (·.block),(rowW p T z n c cs).P,true⟩
theorem BH.asunder {w0:BD} {w:World} {L:List As} (hw:BH w0 w L) {i j:Nat} {x y:As} (hi:L[i]?=some x) (hj:L[j]?=some y) (hij:i≠j) (hr:x.ro=false):∀b,y.foot=some b->x.foot≠some b:=λb e e2=>by
  obtain ⟨hil,rfl⟩:=List.getElem?_eq_some_iff.1 hi
  obtain ⟨hjl,rfl⟩:=List.getElem?_eq_some_iff.1 hj
  have hp:=List.pairwise_iff_getElem.1 hw.2.2
  rcases Nat.lt_or_gt_of_ne hij with h|h
  · rcases hp i j hil hjl h with k|k
    · rw [hr] at k;cases k.1
    · exact k b e2 e
  · rcases hp j i hjl hil h with k|k
    · rw [hr] at k;cases k.2
    · exact k b e e2
theorem ZA {S:Nat->Prop} {W w:World} {L:List As} {a:As} (hw:BH ⟨W,none⟩ w L) (i:Nat) (hi:L[i]?=some a) (hat:∀b,a.foot=some b->Nw ⟨W,none⟩ S b):Holds w a/\∀b,a.foot=some b->W.heap.size<=b\/S b:=⟨hw.holds hi,hat⟩
theorem BP.weak {α:Type} [Cy α] {S S':Nat->Prop} {W w:World} {e:Ending} (h:BP α S W e w) (hs:∀b,S b->S' b):BP α S' W e w:=by
  obtain ⟨a,h1,h2,h3⟩:=h
  exact ⟨a,h1,h2,h3.mono λb h=>h.imp id (hs b)⟩
structure Zo (m:MQ) where
  x:WM m
  ob:OwnOk x.b.p x.ts.length x.b.c
def OT {m:MQ} (y:Zo m):As:=JJ y.x.b.p 71 3 y.x.ts.length y.x.b.c (rowsL Af y.x.ts)
instance {m:MQ}:Cy (Zo m):=⟨λy=>aG (eW y.x),λy=>[y.x.a.row,y.x.b.row,y.x.c.row,OT y],λx y hy=>by
  simp only [xN,List.not_mem_nil,or_false] at hy
  rcases hy with rfl|rfl|rfl|rfl<;>rfl⟩
theorem cL {W w:World} {L:List As} {m:MQ} (hw:BH ⟨W,none⟩ w L) (x:WM m) (ob:OwnOk x.b.p x.ts.length x.b.c) (j:Nat) (hj:L[j]?=some (rowW x.b.p 71 3 x.ts.length x.b.c (rowsL Af x.ts))) (h1:Holds w x.a.row/\∀b,x.a.row.foot=some b->W.heap.size<=b\/False) (h2:Holds w x.b.row/\∀b,x.b.row.foot=some b->W.heap.size<=b\/False) (h3:Holds w x.c.row/\∀b,x.c.row.foot=some b->W.heap.size<=b\/False) {v:Value} (hv:v=aG (eW x)):BP (Zo m) (λ_=>False) W (.returned v) w:=by
  refine ⟨⟨x,ob⟩,by rw [hv];rfl,hw.out,λy hy=>?_⟩
  have hy:y∈[x.a.row,x.b.row,x.c.row,OT ⟨x,ob⟩]:=hy
  simp only [xN,List.not_mem_nil,or_false] at hy
  rcases hy with rfl|rfl|rfl|rfl
  · exact h1
  · exact h2
  · exact h3
  · exact ⟨λb e=>(hw.2.1 _ (List.mem_of_getElem? hj) b e).2,λb e=>.inl (hw.newRow hj b e)⟩
theorem At.wm {m:MQ} {w0:BD} {S:Nat->Prop} {y:Zo m} (h:At w0 S y):At w0 S y.x:=λz hz=>h z (by
  have hz:z∈[y.x.a.row,y.x.b.row,y.x.c.row]:=hz
  show z∈[y.x.a.row,y.x.b.row,y.x.c.row,OT y]
  simp only [xN,List.not_mem_nil,or_false] at hz ⊢
  rcases hz with rfl|rfl|rfl<;>simp)
theorem At.wmf {m:MQ} {w0:BD} {S:Nat->Prop} {y:Zo m} (h:At w0 S y):∀b,(OT y).foot=some b->Nw w0 S b:=h (OT y) (by
  show OT y∈[y.x.a.row,y.x.b.row,y.x.c.row,OT y]
  simp)
end
end Go.Proofs.YtbfdamnfcmefmaaGreatDoor
