import Derived.Test.YtcpkbjjmcleplaaGreatDoorPart18
namespace Go.Proofs.YtcpkbjjmcleplaaGreatDoor
open Go Go.RowKit Go.Proofs.Tryz
open Go.Value renaming slice→qz,bool→qa
set_option linter.unusedVariables false
set_option linter.unusedSimpArgs false
section
section
variable {P:Program}
theorem Yb.one {D c i:Nat} {e:TypeId} {is:List Nat} {xs ys:List Value} {u v:Value} {r s:Bool} (hg:∀w,(isAgg e).run P w=.ok false w)
    (ha:xs[i*c]?=some u) (hb:ys[i*c]?=some v) (h:IJ P D e u v r) (h2:Yb P D e c xs ys is s):Yb P D e c xs ys (i::is) (r&&s):=λw=>by
  have e1:(part e xs.toArray (i*c)).run P w=.ok u w:=by simp [part,hg,ha]
  have e2:(part e ys.toArray (i*c)).run P w=.ok v w:=by simp [part,hg,hb]
  simp only [Go.Op.eqItems,Sem.run_bind,e1,e2,Result.andThen_ok,h w]
  cases r
  · simp
  · simp [h2 w]
end
theorem Wb:∃i,prog.info? 3=some i:=Option.isSome_iff_exists.1 jV
theorem Ts:prog.cellsOf 3=1:=by kernel_rfl
theorem OR (D:Nat) (a b:P2):IJ prog (D+2) 141 (.agg (BD a).toArray) (.agg (BD b).toArray) (decide (a=b)):=by
  have h:IJ prog (D+2) 141 (.agg (BD a).toArray) (.agg (BD b).toArray) (((a.1:Int) == (b.1:Int))&&(((a.2:Int) == (b.2:Int))&&true)) :=
    IJ.array underlying141 Wb Ts (Yb.one isAgg3 rfl rfl (IJ.int underlying3) (Yb.one isAgg3 rfl rfl (IJ.int underlying3) Yb.nil))
  have e:(((a.1:Int) == (b.1:Int))&&(((a.2:Int) == (b.2:Int))&&true))=decide (a=b):=by
    obtain ⟨a1,a2⟩:=a
    obtain ⟨b1,b2⟩:=b
    rw [Bool.eq_iff_iff]
    simp
    constructor<;>(rintro ⟨h1,h2⟩;constructor<;>omega)
  rwa [e] at h
theorem J9 (xs:List (P2×P2×P2)) (i r:Nat) (hi:i<xs.length) (hr:r<3) (c:P2×P2×P2) (hc:c=xs.getD i ((0,0),(0,0),(0,0))) (p:P2) (hp:p=if r=0 then c.1 else if r=1 then c.2.1 else c.2.2):((rowsL BA xs).drop (i*6+r*2)).take 2=BD p:=by
  have h:=BE Gk ((0,0),(0,0),(0,0)) xs i hi
  rw [<-hc] at h
  have e:((rowsL BA xs).drop (i*6+r*2)).take 2=((((rowsL BA xs).drop (i*6)).take 6).drop (r*2)).take 2:=by
    rw [List.drop_take,List.take_take,List.drop_drop]
    congr 1
    omega
  rw [e,h]
  have h3:r=0\/r=1\/r=2:=by omega
  rcases h3 with rfl|rfl|rfl<;>subst hp<;>rfl
def eE (c:P2×P2×P2) (k:Nat):P2:=if k=0 then c.1 else if k=1 then c.2.1 else c.2.2
def Uz (m:MQ) (t k:Nat):Nat:=(k+m.fst+t*(m.fst/3))%3
def Aq (m:MQ) (t k:Nat):P2:=eE ((BT m).getD t ((0,0),(0,0),(0,0))) (Uz m t k)
structure PS (m:MQ) (pl:List P2) (n:Tq3) (t:Nat):Prop where
  a:n.1<pl.length/\pl.getD n.1 (0,0)=Aq m t 0
  b:n.2.1<pl.length/\pl.getD n.2.1 (0,0)=Aq m t 1
  c:n.2.2<pl.length/\pl.getD n.2.2 (0,0)=Aq m t 2
def HA (pl:List P2) (p:P2):List P2×Nat:=if p∈pl then (pl,pl.idxOf p) else (pl++[p],pl.length)
def VU (m:MQ):Nat->List P2×List (Tq3)
  | 0=>([],[])
  | i+1=>((HA (HA (HA (VU m i).1 (Aq m i 0)).1 (Aq m i 1)).1 (Aq m i 2)).1,
      (VU m i).2++[((HA (VU m i).1 (Aq m i 0)).2,(HA (HA (VU m i).1 (Aq m i 0)).1 (Aq m i 1)).2,(HA (HA (HA (VU m i).1 (Aq m i 0)).1 (Aq m i 1)).1 (Aq m i 2)).2)])
theorem YL {m:MQ} {i:Nat} {pl pl1 pl2 pl3:List P2} {ts:List (Tq3)} {n1 n2 n3:Nat} (h:(pl,ts)=VU m i) (h1:(pl1,n1)=HA pl (Aq m i 0)) (h2:(pl2,n2)=HA pl1 (Aq m i 1)) (h3:(pl3,n3)=HA pl2 (Aq m i 2)):(pl3,ts++[(n1,n2,n3)])=VU m (i+1):=by
  rw [VU,<-h]
  dsimp only
  rw [<-h1]
  dsimp only
  rw [<-h2]
  dsimp only
  rw [<-h3]
theorem ML {pl:List P2} {p:P2} (h:∀j,j<pl.length->pl.getD j (0,0)≠p):(pl++[p],pl.length)=HA pl p:=by
  unfold HA
  rw [if_neg]
  intro hm
  obtain ⟨j,hj,e⟩:=List.getElem_of_mem hm
  exact h j hj (by rw [List.getD,xN hj];exact e)
structure PT (m:MQ) (i:Nat) (pl:List P2) (ts:List (Tq3)):Prop where
  tl:ts.length=i
  pll:pl.length<=3*i
  at_:∀j,j<i->PS m pl (ts.getD j (0,0,0)) j
  small:∀p∈pl,p.1<=6/\p.2<=6
  used:∀a,a<pl.length->∃j,j<i/\((ts.getD j (0,0,0)).1=a\/(ts.getD j (0,0,0)).2.1=a\/(ts.getD j (0,0,0)).2.2=a)
  fn:(pl,ts)=VU m i
def bJ (pl:List P2):Prop:=∀a b,a<pl.length->b<pl.length->pl.getD a (0,0)=pl.getD b (0,0)->a=b
theorem MM {pl:List P2} {p:P2} {n:Nat} (hd:bJ pl) (hn:n<pl.length) (h:pl.getD n (0,0)=p):(pl,n)=HA pl p:=by
  have hm:p∈pl:=by rw [<-h,List.getD,xN hn];exact List.getElem_mem hn
  unfold HA
  rw [if_pos hm]
  have hi:pl.idxOf p<pl.length:=List.idxOf_lt_length_of_mem hm
  have e:pl.getD (pl.idxOf p) (0,0)=p:=by rw [List.getD,xN hi];exact List.getElem_idxOf hi
  rw [hd n (pl.idxOf p) hn hi (h.trans e.symm)]
theorem Y9:bJ []:=λa b h=>absurd h (Nat.not_lt_zero _)
structure WS where
  pl:List P2
  p1:Option Addr
  c1:Nat
  p2:Option Addr
  c2:Nat
structure WS.Ok (s:WS):Prop where
  o1:OwnOk s.p1 s.pl.length s.c1
  o2:OwnOk s.p2 s.pl.length s.c2
  small:∀p∈s.pl,p.1<=6/\p.2<=6
  dst:bJ s.pl
def mapM (m:MQ):Ep:=IP m.a m.b m.c m.d
def WS.pts (s:WS) (m:MQ):List (Int×Int):=s.pl.map λp=>(mapM m).at_ p
theorem E_ {m:MQ} {t k:Nat} (h:t<(BT m).length):(Aq m t k).1<=6/\(Aq m t k).2<=6:=by
  have h1:=NW m ((BT m).getD t ((0,0),(0,0),(0,0))) (by rw [List.getD,xN h];exact List.getElem_mem h)
  unfold Aq eE
  split
  · exact h1.2.1
  · split
    · exact h1.2.2.1
    · exact h1.2.2.2
theorem ET {pl:List P2} {x:P2} {j:Nat} (h:j<pl.length):(pl++[x]).getD j (0,0)=pl.getD j (0,0):=by simp [List.getD,List.getElem?_append_left h]
theorem D4 (pl:List P2) (x:P2):(pl++[x]).getD pl.length (0,0)=x:=by simp [List.getD]
theorem Ld {pl:List P2} {x:P2} (h:bJ pl) (hx:∀j,j<pl.length->pl.getD j (0,0)≠x):bJ (pl++[x]):=λa b ha hb e=>by
  simp only [xJ,List.length_singleton] at ha hb
  rcases Nat.lt_or_ge a pl.length with h1|h1<;>rcases Nat.lt_or_ge b pl.length with h2|h2
  · rw [ET h1,ET h2] at e;exact h a b h1 h2 e
  · obtain rfl:b=pl.length:=by omega
    rw [ET h1,D4] at e;exact absurd e (hx a h1)
  · obtain rfl:a=pl.length:=by omega
    rw [ET h2,D4] at e;exact absurd e.symm (hx b h2)
  · omega
def Gt (a b:List P2):Prop:=a.length<=b.length/\∀j,j<a.length->b.getD j (0,0)=a.getD j (0,0)
theorem Gt.refl (a:List P2):Gt a a:=⟨Nat.le_refl _,λ_ _=>rfl⟩
theorem Gt.trans {a b c:List P2} (h:Gt a b) (k:Gt b c):Gt a c:=⟨xK h.1 k.1,λj hj=>(k.2 j (by have:=h.1;omega)).trans (h.2 j hj)⟩
theorem Gt.snoc (a:List P2) (x:P2):Gt a (a++[x]):=⟨by simp,λj hj=>ET hj⟩
theorem PS.more {m:MQ} {a b:List P2} {n:Tq3} {t:Nat} (h:PS m a n t) (k:Gt a b):PS m b n t :=
  ⟨⟨by have:=h.a.1;have:=k.1;omega,(k.2 _ h.a.1).trans h.a.2⟩,⟨by have:=h.b.1;have:=k.1;omega,(k.2 _ h.b.1).trans h.b.2⟩,⟨by have:=h.c.1;have:=k.1;omega,(k.2 _ h.c.1).trans h.c.2⟩⟩
theorem KQ {ts:List (Tq3)} {x:Tq3} {j:Nat} (h:j<ts.length):(ts++[x]).getD j (0,0,0)=ts.getD j (0,0,0):=by simp [List.getD,List.getElem?_append_left h]
theorem PT.step {m:MQ} {i:Nat} {pl pl':List P2} {ts:List (Tq3)} {n:Tq3} (h:PT m i pl ts) (k:Gt pl pl') (hl:pl'.length<=pl.length+3) (hs:∀p∈pl',p.1<=6/\p.2<=6) (hn:PS m pl' n i) (hu:∀a,a<pl'.length->a<pl.length\/n.1=a\/n.2.1=a\/n.2.2=a) (hf:(pl',ts++[n])=VU m (i+1)):PT m (i+1) pl' (ts++[n]) :=
  ⟨by rw [xJ,h.tl];rfl,by have:=h.pll;omega,λj hj=>by
    rcases Nat.lt_or_ge j i with h1|h1
    · rw [KQ (by rw [h.tl];exact h1)];exact (h.at_ j h1).more k
    · have e:j=i:=by omega
      subst e
      have e2:(ts++[n]).getD j (0,0,0)=n:=by rw [<-h.tl];simp [List.getD]
      rw [e2];exact hn,hs,λa ha=>by
    rcases hu a ha with h1|h1
    · obtain ⟨j,hj,h2⟩:=h.used a h1
      exact ⟨j,Z,by rw [KQ (by rw [h.tl];exact hj)];exact h2⟩
    · have e2:(ts++[n]).getD i (0,0,0)=n:=by rw [<-h.tl];simp [List.getD]
      exact ⟨i,Z,by rw [e2];exact h1⟩,hf⟩
theorem fq (m:MQ):PT m 0 [] []:=⟨rfl,by simp,λj hj=>absurd hj Z,(λp hp=>by cases hp),(λa ha=>absurd ha (Nat.not_lt_zero _)),rfl⟩
def Ih (t:Tq3) (x:Nat):Bool:=decide (t.1=x)||decide (t.2.1=x)||decide (t.2.2=x)
def g_ (m:MQ) (a b:Nat):Tq3:=(a,b,(a+3*b+m.fst)%5)
def OL (ts:List (Tq3)) (a b:Nat):Nat->Nat
  | 0=>0
  | i+1=>OL ts a b i+(if Ih (ts.getD i (0,0,0)) a=true/\Ih (ts.getD i (0,0,0)) b=true then 1 else 0)
def R4 (m:MQ) (ts:List (Tq3)) (a:Nat):Nat->List (Tq3)
  | 0=>[]
  | j+1=>R4 m ts a j++(if OL ts a (a+1+j) ts.length=1 then [g_ m a (a+1+j)] else [])
def Mb (m:MQ) (ts:List (Tq3)) (N:Nat):Nat->List (Tq3)
  | 0=>[]
  | a+1=>Mb m ts N a++R4 m ts a (N-(a+1))
theorem V7 {ts:List (Tq3)} {a b i:Nat} (h:Ih (ts.getD i (0,0,0)) a=true/\Ih (ts.getD i (0,0,0)) b=true):OL ts a b (i+1)=OL ts a b i+1:=by show _+(if _ then _ else _)=_;rw [if_pos h]
theorem Y1 {ts:List (Tq3)} {a b i:Nat} (h:Ih (ts.getD i (0,0,0)) a=false\/Ih (ts.getD i (0,0,0)) b=false):OL ts a b (i+1)=OL ts a b i:=by
  show _+(if _ then _ else _)=_
  rw [if_neg (λk=>by rcases h with h|h<;>rw [h] at k<;>exact absurd k jX),Nat.add_zero]
theorem Xe {m:MQ} {ts L:List (Tq3)} {a b:Nat} (hb:a+1<=b) (h:OL ts a b ts.length=1):(L++R4 m ts a (b-(a+1)))++[(a,b,(a+3*b+m.fst)%5)]=L++R4 m ts a (b+1-(a+1)):=by
  rw [show b+1-(a+1)=b-(a+1)+1 by omega]
  show _=L++(_++(if _ then _ else _))
  rw [show a+1+(b-(a+1))=b by omega,if_pos h,xC];rfl
theorem aV {m:MQ} {ts L:List (Tq3)} {a b:Nat} (hb:a+1<=b) (h:¬OL ts a b ts.length=1):L++R4 m ts a (b-(a+1))=L++R4 m ts a (b+1-(a+1)):=by
  rw [show b+1-(a+1)=b-(a+1)+1 by omega]
  show _=L++(_++(if _ then _ else _))
  rw [show a+1+(b-(a+1))=b by omega,if_neg h,List.append_nil]
theorem VF {l:List (Tq3)} {j:Nat} (h:j<l.length):l.take (j+1)=l.take j++[l.getD j (0,0,0)]:=by
  rw [List.take_add_one,List.getD,xN h];rfl
structure WM (m:MQ) where
  pl:List P2
  ts:List (Tq3)
  ss:List (Tq3)
  inv:PT m (BT m).length pl ts
  dst:bJ pl
  sl:ss.length<=108*108
  sd:ss=Mb m ts pl.length pl.length
  a:RX (rowsL CZ (pl.map λp=>(mapM m).at_ p)) pl.length
  b:RX (rowsL BC ts) ts.length
  c:RX (rowsL BC ss) ss.length
def iL {m:MQ} (x:WM m):List Value:=[x.a.val,x.b.val,x.c.val]
theorem fu {m:MQ} {x:WM m} {y:As} (hy:y∈[x.a.row,x.b.row,x.c.row]):y.ro=true:=by
  simp only [xL,List.not_mem_nil,or_false] at hy
  rcases hy with rfl|rfl|rfl<;>rfl
instance {m:MQ}:Cl (WM m):=⟨λx=>aG (iL x),λx=>[x.a.row,x.b.row,x.c.row],λx y hy=>fu hy⟩
theorem Fp {S:Nat->Prop} {W w:World} {L:List As} (hw:A_ ⟨W,none⟩ w L) (i:Nat) {p:Option Addr} {T:TypeId} {z n c:Nat} {cs:List Value} (hi:L[i]?=some (rowW p T z n c cs)) (ho:OwnOk p n c) (hl:cs.length=n*z):Holds w (AI p cs)/\∀b,(AI p cs).foot=some b->W.heap.size<=b\/S b:=by
  have hb:=hw.newRow hi
  refine ⟨λd e=>?_,λd e=>.inl (hb d e)⟩
  obtain ⟨_,o,ho2,hp⟩:=hw.2.1 _ (List.mem_of_getElem? hi) d e
  exact ⟨o,ho2,C9 ho hl hp⟩
section
variable {P:Program} {ops:Array Oper} {rest:List Oper} {Q:Exit->Act->World->Prop} {n d:Nat} {F:List (Nat×Value)} {w0:Ay} {S:Nat->Prop} {L:List As} {t:TypeId} {p:String} {af:Array Edge} {y:Operand} {f:FuncId} {xs:List Operand} {args:List Value} {ts:Array TypeId}
theorem cX {cs:List Value} {k:Nat} (hc:∀args w,(callFunc f args).run P w=.ok (.enter f args) w) (h:∀w,A_ w0 w L->Calls P f args.toArray w (Aj (RX cs k) (SL w0 S L) w))
    (hf:evF F y=some (.func (.func f) #[] #[])) (hargs:xs.map (evF F)=args.map some) (hd:Nat.ble (d+1) n=true) (next:∀a:RX cs k,At w0 S a->AP P ops rest Q n ((d,.slice a.p k a.c)::F) w0 (AI a.p cs::L)) :
    AP P ops (⟨some d,.call { callee:=.value y,args:=xs.toArray,argTypes:=ts },t,p,af,none⟩::rest) Q n F w0 L:=zw hc h hf hargs hd next
end
def fM (p:Option Addr) (T:TypeId) (z n c:Nat) (cs:List Value):As:=⟨p.map (·.block),(rowW p T z n c cs).P,true⟩
theorem A_.asunder {w0:Ay} {w:World} {L:List As} (hw:A_ w0 w L) {i j:Nat} {x y:As} (hi:L[i]?=some x) (hj:L[j]?=some y) (hij:i≠j) (hr:x.ro=false):∀b,y.foot=some b->x.foot≠some b:=λb e e2=>by
  obtain ⟨hil,rfl⟩:=List.getElem?_eq_some_iff.1 hi
  obtain ⟨hjl,rfl⟩:=List.getElem?_eq_some_iff.1 hj
  have hp:=List.pairwise_iff_getElem.1 hw.2.2
  rcases Nat.lt_or_gt_of_ne hij with h|h
  · rcases hp i j hil hjl h with k|k
    · rw [hr] at k;cases k.1
    · exact k b e2 e
  · rcases hp j i hjl hil h with k|k
    · rw [hr] at k;cases k.2
    · exact k b e e2
theorem az {S:Nat->Prop} {W w:World} {L:List As} {a:As} (hw:A_ ⟨W,none⟩ w L) (i:Nat) (hi:L[i]?=some a) (hat:∀b,a.foot=some b->Nw ⟨W,none⟩ S b):Holds w a/\∀b,a.foot=some b->W.heap.size<=b\/S b:=⟨hw.holds hi,hat⟩
theorem Aj.weak {α:Type} [Cl α] {S S':Nat->Prop} {W w:World} {e:Ending} (h:Aj α S W e w) (hs:∀b,S b->S' b):Aj α S' W e w:=by
  obtain ⟨a,h1,h2,h3⟩:=h
  exact ⟨a,h1,h2,h3.mono λb h=>h.imp id (hs b)⟩
structure bM (m:MQ) where
  x:WM m
  ob:OwnOk x.b.p x.ts.length x.b.c
def NQ {m:MQ} (y:bM m):As:=fM y.x.b.p 64 3 y.x.ts.length y.x.b.c (rowsL BC y.x.ts)
instance {m:MQ}:Cl (bM m):=⟨λy=>aG (iL y.x),λy=>[y.x.a.row,y.x.b.row,y.x.c.row,NQ y],λx y hy=>by
  simp only [xL,List.not_mem_nil,or_false] at hy
  rcases hy with rfl|rfl|rfl|rfl<;>rfl⟩
theorem fE {W w:World} {L:List As} {m:MQ} (hw:A_ ⟨W,none⟩ w L) (x:WM m) (ob:OwnOk x.b.p x.ts.length x.b.c) (j:Nat) (hj:L[j]?=some (rowW x.b.p 64 3 x.ts.length x.b.c (rowsL BC x.ts))) (h1:Holds w x.a.row/\∀b,x.a.row.foot=some b->W.heap.size<=b\/False) (h2:Holds w x.b.row/\∀b,x.b.row.foot=some b->W.heap.size<=b\/False) (h3:Holds w x.c.row/\∀b,x.c.row.foot=some b->W.heap.size<=b\/False) {v:Value} (hv:v=aG (iL x)):Aj (bM m) (λ_=>False) W (.returned v) w:=by
  refine ⟨⟨x,ob⟩,by rw [hv];rfl,hw.out,λy hy=>?_⟩
  have hy:y∈[x.a.row,x.b.row,x.c.row,NQ ⟨x,ob⟩]:=hy
  simp only [xL,List.not_mem_nil,or_false] at hy
  rcases hy with rfl|rfl|rfl|rfl
  · exact h1
  · exact h2
  · exact h3
  · exact ⟨λb e=>(hw.2.1 _ (List.mem_of_getElem? hj) b e).2,λb e=>.inl (hw.newRow hj b e)⟩
theorem Aj.ofWMF {m:MQ} {S:Nat->Prop} {W w:World} {e:Ending} (h:Aj (bM m) (λ_=>False) W e w):Aj (WM m) S W e w:=by
  obtain ⟨a,h1,h2,h3⟩:=h
  refine ⟨a.x,h1,h2,λy hy=>?_⟩
  have h4:=h3 y (by
    have hy:y∈[a.x.a.row,a.x.b.row,a.x.c.row]:=hy
    show y∈[a.x.a.row,a.x.b.row,a.x.c.row,NQ a]
    simp only [xL,List.not_mem_nil,or_false] at hy ⊢
    rcases hy with rfl|rfl|rfl<;>simp)
  exact ⟨h4.1,λb e=>(h4.2 b e).imp id λk=>k.elim⟩
theorem At.wm {m:MQ} {w0:Ay} {S:Nat->Prop} {y:bM m} (h:At w0 S y):At w0 S y.x:=λz hz=>h z (by
  have hz:z∈[y.x.a.row,y.x.b.row,y.x.c.row]:=hz
  show z∈[y.x.a.row,y.x.b.row,y.x.c.row,NQ y]
  simp only [xL,List.not_mem_nil,or_false] at hz ⊢
  rcases hz with rfl|rfl|rfl<;>simp)
theorem At.wmf {m:MQ} {w0:Ay} {S:Nat->Prop} {y:bM m} (h:At w0 S y):∀b,(NQ y).foot=some b->Nw w0 S b:=h (NQ y) (by
  show NQ y∈[y.x.a.row,y.x.b.row,y.x.c.row,NQ y]
  simp)
end
end Go.Proofs.YtcpkbjjmcleplaaGreatDoor
