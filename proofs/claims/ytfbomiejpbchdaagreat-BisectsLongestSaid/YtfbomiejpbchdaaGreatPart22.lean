import Derived.Test.YtfbomiejpbchdaaGreatPart20
namespace Go.Proofs.YtfbomiejpbchdaaGreat
open Go Go.RowKit Go.Proofs.Tryz
set_option linter.unusedVariables false
set_option linter.unusedSimpArgs false
section
section
variable {P:Program}
theorem OZ.one {D c i:Nat} {e:TypeId} {is:List Nat} {xs ys:List Value} {u v:Value} {r s:Bool} (hg:∀w,(isAgg e).run P w=.ok false w)
    (ha:xs[i*c]?=some u) (hb:ys[i*c]?=some v) (h:Ej P D e u v r) (h2:OZ P D e c xs ys is s):OZ P D e c xs ys (i::is) (r&&s):=λw=>by
  have e1:(part e xs.toArray (i*c)).run P w=.ok u w:=by simp [part,hg,ha]
  have e2:(part e ys.toArray (i*c)).run P w=.ok v w:=by simp [part,hg,hb]
  simp only [Go.Op.eqItems,Sem.run_bind,e1,e2,Result.andThen_ok,h w]
  cases r
  · simp
  · simp [h2 w]
end
theorem OP:∃i,prog.info? 3=some i:=Option.isSome_iff_exists.1 (by kernel_rfl)
theorem Li:prog.cellsOf 3=1:=by kernel_rfl
theorem M4 (D:Nat) (a b:P2):Ej prog (D+2) 111 (.agg (Ay a).toArray) (.agg (Ay b).toArray) (decide (a=b)):=by
  have h:Ej prog (D+2) 111 (.agg (Ay a).toArray) (.agg (Ay b).toArray) (((a.1:Int) == (b.1:Int))&&(((a.2:Int) == (b.2:Int))&&true)) :=
    Ej.array underlying111 OP Li (OZ.one isAgg3 rfl rfl (Ej.int underlying3) (OZ.one isAgg3 rfl rfl (Ej.int underlying3) OZ.nil))
  have e:(((a.1:Int) == (b.1:Int))&&(((a.2:Int) == (b.2:Int))&&true))=decide (a=b):=by
    obtain ⟨a1,a2⟩:=a
    obtain ⟨b1,b2⟩:=b
    rw [Bool.eq_iff_iff]
    simp
    constructor<;>(rintro ⟨h1,h2⟩;constructor<;>omega)
  rwa [e] at h
theorem Ib (xs:List (P2×P2×P2)) (i r:Nat) (hi:i<xs.length) (hr:r<3) (c:P2×P2×P2) (hc:c=xs.getD i ((0,0),(0,0),(0,0))) (p:P2) (hp:p=if r=0 then c.1 else if r=1 then c.2.1 else c.2.2):((rowsL BE xs).drop (i*6+r*2)).take 2=Ay p:=by
  have h:=An Ff ((0,0),(0,0),(0,0)) xs i hi
  rw [<-hc] at h
  have e:((rowsL BE xs).drop (i*6+r*2)).take 2=((((rowsL BE xs).drop (i*6)).take 6).drop (r*2)).take 2:=by
    rw [List.drop_take,List.take_take,List.drop_drop]
    congr 1
    omega
  rw [e,h]
  have h3:r=0\/r=1\/r=2:=by omega
  rcases h3 with rfl|rfl|rfl<;>subst hp<;>rfl
def Cw (c:P2×P2×P2) (k:Nat):P2:=if k=0 then c.1 else if k=1 then c.2.1 else c.2.2
def Ij (m:MQ) (t k:Nat):Nat:=(k+m.fst+t*(m.fst/3))%3
def Ax (m:MQ) (t k:Nat):P2:=Cw ((BD m).getD t ((0,0),(0,0),(0,0))) (Ij m t k)
structure Iu (m:MQ) (pl:List P2) (n:Nat×Nat×Nat) (t:Nat):Prop where
  a:n.1<pl.length/\pl.getD n.1 (0,0)=Ax m t 0
  b:n.2.1<pl.length/\pl.getD n.2.1 (0,0)=Ax m t 1
  c:n.2.2<pl.length/\pl.getD n.2.2 (0,0)=Ax m t 2
structure Mj (m:MQ) (i:Nat) (pl:List P2) (ts:List (Nat×Nat×Nat)):Prop where
  tl:ts.length=i
  pll:pl.length<=3*i
  at_:∀j,j<i->Iu m pl (ts.getD j (0,0,0)) j
  small:∀p∈pl,p.1<=6/\p.2<=6
  used:∀a,a<pl.length->∃j,j<i/\((ts.getD j (0,0,0)).1=a\/(ts.getD j (0,0,0)).2.1=a\/(ts.getD j (0,0,0)).2.2=a)
def XN (pl:List P2):Prop:=∀a b,a<pl.length->b<pl.length->pl.getD a (0,0)=pl.getD b (0,0)->a=b
theorem VS:XN []:=λa b h=>absurd h (Nat.not_lt_zero _)
structure WS where
  pl:List P2
  p1:Option Addr
  c1:Nat
  p2:Option Addr
  c2:Nat
structure WS.Ok (s:WS):Prop where
  o1:OwnOk s.p1 s.pl.length s.c1
  o2:OwnOk s.p2 s.pl.length s.c2
  small:∀p∈s.pl,p.1<=6/\p.2<=6
  dst:XN s.pl
def mapM (m:MQ):DB:=GP m.a m.b m.c m.d
def WS.pts (s:WS) (m:MQ):List (Int×Int):=s.pl.map λp=>(mapM m).at_ p
theorem EB {m:MQ} {t k:Nat} (h:t<(BD m).length):(Ax m t k).1<=6/\(Ax m t k).2<=6:=by
  have h1:=G6 m ((BD m).getD t ((0,0),(0,0),(0,0))) (by rw [List.getD,List.getElem?_eq_getElem h];exact List.getElem_mem h)
  unfold Ax Cw
  split
  · exact h1.2.1
  · split
    · exact h1.2.2.1
    · exact h1.2.2.2
theorem Df {pl:List P2} {x:P2} {j:Nat} (h:j<pl.length):(pl++[x]).getD j (0,0)=pl.getD j (0,0):=by simp [List.getD,List.getElem?_append_left h]
theorem DM (pl:List P2) (x:P2):(pl++[x]).getD pl.length (0,0)=x:=by simp [List.getD]
theorem Kj {pl:List P2} {x:P2} (h:XN pl) (hx:∀j,j<pl.length->pl.getD j (0,0)≠x):XN (pl++[x]):=λa b ha hb e=>by
  simp only [List.length_append,List.length_singleton] at ha hb
  rcases Nat.lt_or_ge a pl.length with h1|h1<;>rcases Nat.lt_or_ge b pl.length with h2|h2
  · rw [Df h1,Df h2] at e;exact h a b h1 h2 e
  · obtain rfl:b=pl.length:=by omega
    rw [Df h1,DM] at e;exact absurd e (hx a h1)
  · obtain rfl:a=pl.length:=by omega
    rw [Df h2,DM] at e;exact absurd e.symm (hx b h2)
  · omega
def Fv (a b:List P2):Prop:=a.length<=b.length/\∀j,j<a.length->b.getD j (0,0)=a.getD j (0,0)
theorem Fv.refl (a:List P2):Fv a a:=⟨Nat.le_refl _,λ_ _=>rfl⟩
theorem Fv.trans {a b c:List P2} (h:Fv a b) (k:Fv b c):Fv a c:=⟨Nat.le_trans h.1 k.1,λj hj=>(k.2 j (by have:=h.1;omega)).trans (h.2 j hj)⟩
theorem Fv.snoc (a:List P2) (x:P2):Fv a (a++[x]):=⟨by simp,λj hj=>Df hj⟩
theorem Iu.more {m:MQ} {a b:List P2} {n:Nat×Nat×Nat} {t:Nat} (h:Iu m a n t) (k:Fv a b):Iu m b n t :=
  ⟨⟨by have:=h.a.1;have:=k.1;omega,(k.2 _ h.a.1).trans h.a.2⟩,⟨by have:=h.b.1;have:=k.1;omega,(k.2 _ h.b.1).trans h.b.2⟩,⟨by have:=h.c.1;have:=k.1;omega,(k.2 _ h.c.1).trans h.c.2⟩⟩
theorem I2 {ts:List (Nat×Nat×Nat)} {x:Nat×Nat×Nat} {j:Nat} (h:j<ts.length):(ts++[x]).getD j (0,0,0)=ts.getD j (0,0,0):=by simp [List.getD,List.getElem?_append_left h]
theorem Mj.step {m:MQ} {i:Nat} {pl pl':List P2} {ts:List (Nat×Nat×Nat)} {n:Nat×Nat×Nat} (h:Mj m i pl ts) (k:Fv pl pl') (hl:pl'.length<=pl.length+3) (hs:∀p∈pl',p.1<=6/\p.2<=6) (hn:Iu m pl' n i) (hu:∀a,a<pl'.length->a<pl.length\/n.1=a\/n.2.1=a\/n.2.2=a):Mj m (i+1) pl' (ts++[n]) :=
  ⟨by rw [List.length_append,h.tl];rfl,by have:=h.pll;omega,λj hj=>by
    rcases Nat.lt_or_ge j i with h1|h1
    · rw [I2 (by rw [h.tl];exact h1)];exact (h.at_ j h1).more k
    · have e:j=i:=by omega
      subst e
      have e2:(ts++[n]).getD j (0,0,0)=n:=by rw [<-h.tl];simp [List.getD]
      rw [e2];exact hn,hs,λa ha=>by
    rcases hu a ha with h1|h1
    · obtain ⟨j,hj,h2⟩:=h.used a h1
      exact ⟨j,Z,by rw [I2 (by rw [h.tl];exact hj)];exact h2⟩
    · have e2:(ts++[n]).getD i (0,0,0)=n:=by rw [<-h.tl];simp [List.getD]
      exact ⟨i,Z,by rw [e2];exact h1⟩⟩
theorem Yr (m:MQ):Mj m 0 [] []:=⟨rfl,by simp,λj hj=>absurd hj Z,(λp hp=>by cases hp),λa ha=>absurd ha (Nat.not_lt_zero _)⟩
def GN (t:Nat×Nat×Nat) (x:Nat):Bool:=decide (t.1=x)||decide (t.2.1=x)||decide (t.2.2=x)
def Vp (m:MQ) (a b:Nat):Nat×Nat×Nat:=(a,b,(a+3*b+m.fst)%5)
def HV (ts:List (Nat×Nat×Nat)) (a b:Nat):Nat->Nat
  | 0=>0
  | i+1=>HV ts a b i+(if GN (ts.getD i (0,0,0)) a=true/\GN (ts.getD i (0,0,0)) b=true then 1 else 0)
def JF (m:MQ) (ts:List (Nat×Nat×Nat)) (a:Nat):Nat->List (Nat×Nat×Nat)
  | 0=>[]
  | j+1=>JF m ts a j++(if HV ts a (a+1+j) ts.length=1 then [Vp m a (a+1+j)] else [])
def FC (m:MQ) (ts:List (Nat×Nat×Nat)) (N:Nat):Nat->List (Nat×Nat×Nat)
  | 0=>[]
  | a+1=>FC m ts N a++JF m ts a (N-(a+1))
theorem SW {ts:List (Nat×Nat×Nat)} {a b i:Nat} (h:GN (ts.getD i (0,0,0)) a=true/\GN (ts.getD i (0,0,0)) b=true):HV ts a b (i+1)=HV ts a b i+1:=by show _+(if _ then _ else _)=_;rw [if_pos h]
theorem VW {ts:List (Nat×Nat×Nat)} {a b i:Nat} (h:GN (ts.getD i (0,0,0)) a=false\/GN (ts.getD i (0,0,0)) b=false):HV ts a b (i+1)=HV ts a b i:=by
  show _+(if _ then _ else _)=_
  rw [if_neg (λk=>by rcases h with h|h<;>rw [h] at k<;>exact absurd k (by simp)),Nat.add_zero]
theorem TA {m:MQ} {ts L:List (Nat×Nat×Nat)} {a b:Nat} (hb:a+1<=b) (h:HV ts a b ts.length=1):(L++JF m ts a (b-(a+1)))++[(a,b,(a+3*b+m.fst)%5)]=L++JF m ts a (b+1-(a+1)):=by
  rw [show b+1-(a+1)=b-(a+1)+1 by omega]
  show _=L++(_++(if _ then _ else _))
  rw [show a+1+(b-(a+1))=b by omega,if_pos h,List.append_assoc];rfl
theorem VQ {m:MQ} {ts L:List (Nat×Nat×Nat)} {a b:Nat} (hb:a+1<=b) (h:¬HV ts a b ts.length=1):L++JF m ts a (b-(a+1))=L++JF m ts a (b+1-(a+1)):=by
  rw [show b+1-(a+1)=b-(a+1)+1 by omega]
  show _=L++(_++(if _ then _ else _))
  rw [show a+1+(b-(a+1))=b by omega,if_neg h,List.append_nil]
theorem Ls {l:List (Nat×Nat×Nat)} {j:Nat} (h:j<l.length):l.take (j+1)=l.take j++[l.getD j (0,0,0)]:=by
  rw [List.take_add_one,List.getD,List.getElem?_eq_getElem h];rfl
structure WM (m:MQ) where
  pl:List P2
  ts:List (Nat×Nat×Nat)
  ss:List (Nat×Nat×Nat)
  inv:Mj m (BD m).length pl ts
  dst:XN pl
  sl:ss.length<=108*108
  sd:ss=FC m ts pl.length pl.length
  a:RX (rowsL CU (pl.map λp=>(mapM m).at_ p)) pl.length
  b:RX (rowsL Af ts) ts.length
  c:RX (rowsL Af ss) ss.length
def Zu {m:MQ} (x:WM m):List Value:=[x.a.val,x.b.val,x.c.val]
theorem ZX {m:MQ} {x:WM m} {y:As} (hy:y∈[x.a.row,x.b.row,x.c.row]):y.ro=true:=by
  simp only [List.mem_cons,List.not_mem_nil,or_false] at hy
  rcases hy with rfl|rfl|rfl<;>rfl
instance {m:MQ}:EI (WM m):=⟨λx=>aG (Zu x),λx=>[x.a.row,x.b.row,x.c.row],λx y hy=>ZX hy⟩
theorem Ef {S:Nat->Prop} {W w:World} {L:List As} (hw:Own ⟨W,none⟩ w L) (i:Nat) {p:Option Addr} {T:TypeId} {z n c:Nat} {cs:List Value} (hi:L[i]?=some (rowW p T z n c cs)) (ho:OwnOk p n c) (hl:cs.length=n*z):Holds w (AY p cs)/\∀b,(AY p cs).foot=some b->W.heap.size<=b\/S b:=by
  have hb:=hw.newRow hi
  refine ⟨λd e=>?_,λd e=>.inl (hb d e)⟩
  obtain ⟨_,o,ho2,hp⟩:=hw.2.1 _ (List.mem_of_getElem? hi) d e
  exact ⟨o,ho2,DT ho hl hp⟩
section
variable {P:Program} {ops:Array Oper} {rest:List Oper} {Q:Exit->Act->World->Prop} {n d:Nat} {F:List (Nat×Value)} {w0:BM} {S:Nat->Prop} {L:List As} {t:TypeId} {p:String} {af:Array Edge} {y:Operand} {f:FuncId} {xs:List Operand} {args:List Value} {ts:Array TypeId}
theorem cX {cs:List Value} {k:Nat} (hc:∀args w,(callFunc f args).run P w=.ok (.enter f args) w) (h:∀w,Own w0 w L->Calls P f args.toArray w (BV (RX cs k) (SL w0 S L) w))
    (hf:evF F y=some (.func (.func f) #[] #[])) (hargs:xs.map (evF F)=args.map some) (hd:Nat.ble (d+1) n=true) (next:∀a:RX cs k,At w0 S a->AE P ops rest Q n ((d,.slice a.p k a.c)::F) w0 (AY a.p cs::L)) :
    AE P ops (⟨some d,.call { callee:=.value y,args:=xs.toArray,argTypes:=ts },t,p,af,none⟩::rest) Q n F w0 L:=AE.callR hc h hf hargs hd next
end
def Yw (p:Option Addr) (T:TypeId) (z n c:Nat) (cs:List Value):As:=⟨p.map (·.block),(rowW p T z n c cs).P,true⟩
theorem Own.asunder {w0:BM} {w:World} {L:List As} (hw:Own w0 w L) {i j:Nat} {x y:As} (hi:L[i]?=some x) (hj:L[j]?=some y) (hij:i≠j) (hr:x.ro=false):∀b,y.foot=some b->x.foot≠some b:=λb e e2=>by
  obtain ⟨hil,rfl⟩:=List.getElem?_eq_some_iff.1 hi
  obtain ⟨hjl,rfl⟩:=List.getElem?_eq_some_iff.1 hj
  have hp:=List.pairwise_iff_getElem.1 hw.2.2
  rcases Nat.lt_or_gt_of_ne hij with h|h
  · rcases hp i j hil hjl h with k|k
    · rw [hr] at k;cases k.1
    · exact k b e2 e
  · rcases hp j i hjl hil h with k|k
    · rw [hr] at k;cases k.2
    · exact k b e e2
theorem Vg {S:Nat->Prop} {W w:World} {L:List As} {a:As} (hw:Own ⟨W,none⟩ w L) (i:Nat) (hi:L[i]?=some a) (hat:∀b,a.foot=some b->Nw ⟨W,none⟩ S b):Holds w a/\∀b,a.foot=some b->W.heap.size<=b\/S b:=⟨hw.holds hi,hat⟩
theorem BV.weak {α:Type} [EI α] {S S':Nat->Prop} {W w:World} {e:Ending} (h:BV α S W e w) (hs:∀b,S b->S' b):BV α S' W e w:=by
  obtain ⟨a,h1,h2,h3⟩:=h
  exact ⟨a,h1,h2,h3.mono λb h=>h.imp id (hs b)⟩
structure YF (m:MQ) where
  x:WM m
  ob:OwnOk x.b.p x.ts.length x.b.c
def NI {m:MQ} (y:YF m):As:=Yw y.x.b.p 76 3 y.x.ts.length y.x.b.c (rowsL Af y.x.ts)
instance {m:MQ}:EI (YF m):=⟨λy=>aG (Zu y.x),λy=>[y.x.a.row,y.x.b.row,y.x.c.row,NI y],λx y hy=>by
  simp only [List.mem_cons,List.not_mem_nil,or_false] at hy
  rcases hy with rfl|rfl|rfl|rfl<;>rfl⟩
theorem ZE {W w:World} {L:List As} {m:MQ} (hw:Own ⟨W,none⟩ w L) (x:WM m) (ob:OwnOk x.b.p x.ts.length x.b.c) (j:Nat) (hj:L[j]?=some (rowW x.b.p 76 3 x.ts.length x.b.c (rowsL Af x.ts))) (h1:Holds w x.a.row/\∀b,x.a.row.foot=some b->W.heap.size<=b\/False) (h2:Holds w x.b.row/\∀b,x.b.row.foot=some b->W.heap.size<=b\/False) (h3:Holds w x.c.row/\∀b,x.c.row.foot=some b->W.heap.size<=b\/False) {v:Value} (hv:v=aG (Zu x)):BV (YF m) (λ_=>False) W (.returned v) w:=by
  refine ⟨⟨x,ob⟩,by rw [hv];rfl,hw.out,λy hy=>?_⟩
  have hy:y∈[x.a.row,x.b.row,x.c.row,NI ⟨x,ob⟩]:=hy
  simp only [List.mem_cons,List.not_mem_nil,or_false] at hy
  rcases hy with rfl|rfl|rfl|rfl
  · exact h1
  · exact h2
  · exact h3
  · exact ⟨λb e=>(hw.2.1 _ (List.mem_of_getElem? hj) b e).2,λb e=>.inl (hw.newRow hj b e)⟩
theorem At.wm {m:MQ} {w0:BM} {S:Nat->Prop} {y:YF m} (h:At w0 S y):At w0 S y.x:=λz hz=>h z (by
  have hz:z∈[y.x.a.row,y.x.b.row,y.x.c.row]:=hz
  show z∈[y.x.a.row,y.x.b.row,y.x.c.row,NI y]
  simp only [List.mem_cons,List.not_mem_nil,or_false] at hz ⊢
  rcases hz with rfl|rfl|rfl<;>simp)
theorem At.wmf {m:MQ} {w0:BM} {S:Nat->Prop} {y:YF m} (h:At w0 S y):∀b,(NI y).foot=some b->Nw w0 S b:=h (NI y) (by
  show NI y∈[y.x.a.row,y.x.b.row,y.x.c.row,NI y]
  simp)
end
end Go.Proofs.YtfbomiejpbchdaaGreat
