import Derived.Lib.SliceRun
import Derived.Test.YtpgncndhhhllfaaGreatDoorPart03
import Derived.Test.YtpgncndhhhllfaaGreatDoorPart04
import Derived.Test.YtpgncndhhhllfaaGreatDoorPart06
import Derived.Test.YtpgncndhhhllfaaGreatDoorPart08
import Derived.Test.YtpgncndhhhllfaaGreatDoorPart15
import Derived.Test.YtpgncndhhhllfaaGreatDoorPart23
import Derived.Test.YtpgncndhhhllfaaGreatDoorPart24
import Derived.Test.YtpgncndhhhllfaaGreatDoorPart25
namespace Go.Proofs.YtpgncndhhhllfaaGreatDoor
open Go Go.RowKit Go.Proofs.Tryz
set_option linter.unusedVariables false
set_option linter.unusedSimpArgs false
section
def WB (S:Nat->Prop) (W w:World) (G:List As):Prop :=
  (∀x∈G,∀b,x.foot=some b->(W.heap.size<=b\/(x.ro=true/\S b))/\∃o,w.heap[b]?=some o/\x.P o)/\G.Pairwise λx y=>(x.ro=true/\y.ro=true)\/∀b,x.foot=some b->y.foot≠some b
def Eo {α:Type} (V:α->Value) (LW:α->List As) (S:Nat->Prop) (W:World) (e:Ending) (w:World):Prop:=∃a:α,e=.returned (V a)/\Dk W.heap.size W w/\WB S W w (LW a)
def FQ (w0:A7) (S:Nat->Prop) (G:List As):Prop:=∀y∈G,y.ro=true->∀b,y.foot=some b->Nw w0 S b
theorem FQ.mem {w0:A7} {S:Nat->Prop} {G:List As} (h:FQ w0 S G) {α:Type} [Ch α] {a:α} (hs:∀y∈Ch.rows a,y∈G):At w0 S a:=λy hy b e=>h y (hs y hy) (Ch.ro a y hy) b e
section
variable {w0:A7} {S:Nat->Prop} {w w' W:World} {L G:List As}
theorem A_.give (h:A_ w0 w L) (hb:Dk w.heap.size w w') (hg:WB (SL w0 S L) w w' G):A_ w0 w' (G++L):=by
  have h1:=h.below hb
  refine ⟨h1.1,λy hy b e=>?_,List.pairwise_append.2 ⟨hg.2,h1.2.2,λx hx y hy=>?_⟩⟩
  · rcases List.mem_append.1 hy with hy|hy
    · obtain ⟨h2,h3⟩:=hg.1 y hy b e
      refine ⟨?_,h3⟩
      rcases h2 with h2|⟨h2,_⟩
      · exact .inr (.inl (Nat.le_trans h.size h2))
      · exact .inl h2
    · exact h1.2.1 y hy b e
  · by_cases hr:x.ro=true/\y.ro=true
    · exact .inl hr
    · refine .inr λb e e2=>?_
      rcases (hg.1 x hx b e).1 with h2|⟨h2,⟨z,hz,hzr,hzf⟩,_⟩
      · exact absurd (h.lt hy e2) (by omega)
      · have hyr:¬y.ro=true:=λk=>hr ⟨h2,k⟩
        obtain ⟨i,hi,rfl⟩:=List.getElem_of_mem hz
        obtain ⟨j,hj,rfl⟩:=List.getElem_of_mem hy
        have hp:=List.pairwise_iff_getElem.1 h.2.2
        rcases Nat.lt_trichotomy i j with hij|hij|hij
        · exact (hp i j hi hj hij).elim (λk=>hyr k.2) (λk=>k b hzf e2)
        · subst hij;exact hyr hzr
        · exact (hp j i hj hi hij).elim (λk=>hyr k.1) (λk=>k b e2 hzf)
theorem A_.gives (h:A_ ⟨W,none⟩ w L) (hs:G.Sublist L) (hS:FQ ⟨W,none⟩ S G):WB S W w G:=by
  refine ⟨λx hx b e=>?_,h.2.2.sublist hs⟩
  obtain ⟨h1,h2⟩:=h.2.1 x (hs.subset hx) b e
  refine ⟨?_,h2⟩
  by_cases hr:x.ro=true
  · rcases hS x hx hr b e with h3|h3
    · exact .inl h3
    · exact .inr ⟨hr,h3⟩
  · rcases h1 with h1|h1|h1
    · exact absurd h1 hr
    · exact .inl h1
    · cases h1
theorem Iq {α:Type} {V:α->Value} {LW:α->List As} (hw:A_ ⟨W,none⟩ w L) (a:α) (hs:(LW a).Sublist L) (hS:FQ ⟨W,none⟩ S (LW a)) {v:Value} (hv:v=V a):Eo V LW S W (.returned v) w:=⟨a,by rw [hv],hw.out,hw.gives hs hS⟩
theorem FQ.nil:FQ w0 S []:=λy hy=>by cases hy
theorem FQ.own {x:As} (hx:x.ro=false) (h:FQ w0 S G):FQ w0 S (x::G):=λy hy hr b e=>by
  rcases List.mem_cons.1 hy with rfl|hy
  · rw [hx] at hr;cases hr
  · exact h y hy hr b e
theorem FQ.row {α:Type} [Ch α] {a:α} {x:As} (ha:At w0 S a) (hx:Ch.rows a=[x]) (h:FQ w0 S G):FQ w0 S (x::G):=λy hy hr b e=>by
  rcases List.mem_cons.1 hy with rfl|hy
  · exact ha y (by rw [hx];exact List.mem_cons_self) b e
  · exact h y hy hr b e
end
section
variable {P:Program} {ops:Array Oper} {rest:List Oper} {Q:Exit->Act->World->Prop} {n d:Nat} {F:List (Nat×Value)} {w0:A7} {S:Nat->Prop} {L:List As} {t:TypeId} {p:String} {af:Array Edge} {y:Operand} {f:FuncId} {xs:List Operand} {args:List Value} {ts:Array TypeId} {α:Type} {V:α->Value} {LW:α->List As}
theorem AD.callL (hc:∀args w,(callFunc f args).run P w=.ok (.enter f args) w) (h:∀w,A_ w0 w L->Calls P f args.toArray w (Eo V LW (SL w0 S L) w))
    (h2:(evF F y,xs.map (evF F),Nat.ble (d+1) n)=(some (.func (.func f) #[] #[]),args.map some,true)) (next:∀a:α,FQ w0 S (LW a)->AD P ops rest Q n ((d,V a)::F) w0 (LW a++L)) :
    AD P ops (⟨some d,.call { callee:=.value y,args:=xs.toArray,argTypes:=ts },t,p,af,none⟩::rest) Q n F w0 L:=λa w ha hW=>by
  unfold wpList
  rw [if_pos (AO rfl a ha)]
  left
  unfold Oper.wp
  rw [Ay (CY h2) (CY (BM h2)) hc a w ha hW,Oper.upon_enter]
  refine (h w hW).mono ?_
  rintro e w' ⟨x,rfl,hb,hg⟩
  refine next x (λz hz hr b e=>?_) _ _ (ha.put (Bk (BM (BM h2)))) (hW.give hb hg)
  rcases (hg.1 z hz b e).1 with h3|⟨_,h3⟩
  · exact .inl (Nat.le_trans hW.size h3)
  · exact h3.2
end
structure OX (T z:Nat) (cs:List Value) (n:Nat) where
  p:Option Addr
  c:Nat
  ok:OwnOk p n c
@[reducible] def Vj {T z:Nat} {cs:List Value} {n:Nat} (a:OX T z cs n):Value:=.slice a.p n a.c
@[reducible] def T9 {T z:Nat} {cs:List Value} {n:Nat} (a:OX T z cs n):List As:=[rowW a.p T z n a.c cs]
@[reducible] def Xt {T z:Nat} {cs:List Value} {n:Nat} (a:OX T z cs n):Value:=.slice a.p n n
theorem OwnOk.clip {p:Option Addr} {n c:Nat} (h:OwnOk p n c):A6 p n n:=⟨λe=>⟨(h.nil e).1,(h.nil e).1⟩,λa e=>by rw [h.at0 a e],Nat.le_refl _⟩
theorem UU (p:Pt):((BE p).all λu=>u.oneCell')=true:=rfl
theorem Dh {α:Type} {enc:α->List Value} (h:∀x,((enc x).all λu=>u.oneCell')=true):∀xs:List α,((rowsL enc xs).all λu=>u.oneCell')=true
  | []=>rfl
  | x::r=>by
    have e:rowsL enc (x::r)=enc x++rowsL enc r:=rfl
    rw [e,List.all_append,h x,Dh h r];rfl
theorem Sx {A B vs:List Value} {r:Nat} (h:r+vs.length<=A.length):Fd (A++B) r vs=Fd A r vs++B:=by
  unfold Fd
  rw [List.take_append_of_le_length (by omega),List.drop_append_of_le_length h,<-List.append_assoc]
theorem Qe {A B vs:List Value} {o:Nat}:Fd (A++B) (A.length+o) vs=A++Fd B o vs:=by
  unfold Fd
  rw [List.take_append,List.take_of_length_le (by omega),Nat.add_sub_cancel_left,List.drop_append,List.drop_of_length_le (by omega),show A.length+o+vs.length-A.length=o+vs.length by omega]
  simp
theorem KY {α:Type} {enc:α->List Value} {z:Nat} (hl:∀x,(enc x).length=z) (d:α) {r:Nat} {vs:List Value} {x':α}:∀{xs:List α} {j:Nat},j<xs.length->r+vs.length<=z->Fd (enc (xs.getD j d)) r vs=enc x'->Fd (rowsL enc xs) (j*z+r) vs=rowsL enc (xs.set j x')
  | x::q,0,_,h2,h3=>by
    have e:∀y,rowsL enc (y::q)=enc y++rowsL enc q:=λ_=>rfl
    rw [Nat.zero_mul,Nat.zero_add,List.set_cons_zero,e,e,Sx (by rw [hl];exact h2)]
    exact congrArg (·++rowsL enc q) h3
  | x::q,j+1,h1,h2,h3=>by
    have e:∀y l,rowsL enc (y::l)=enc y++rowsL enc l:=λ_ _=>rfl
    rw [List.set_cons_succ,e,e,show (j+1)*z+r=(enc x).length+(j*z+r) by rw [hl,Nat.add_mul];omega,Qe,KY hl d (by simpa using h1) h2 (by simpa using h3)]
section
variable {P:Program} {ops:Array Oper} {rest:List Oper} {Q:Exit->Act->World->Prop} {n d:Nat} {F:List (Nat×Value)} {w0:A7} {S:Nat->Prop} {L L':List As} {t ty T:TypeId} {p:String} {af:Array Edge} {x y:Operand} {dd:Option Tmp} {g:Option (Nat×Bool)} {q:Option Addr} {z m c:Nat} {cs vs:List Value} {v:Value}
theorem FE {tx ye e:TypeId} (hx:evF F x=some (.slice q m c)) (hy:evF F y=some (.slice none 0 0)) (hu:P.underlying tx=some (.slice e)):Ex P n F w0 L ⟨dd,.binOp .eql tx x y ye,t,p,af,g⟩ (.bool q.isNone):=λA w ha _=>by
  have h1:(eqGuard .eql tx x y (.slice q m c) (.slice none 0 0)).run P w=.ok () w:=rfl
  simp only [execOp,ha.ev hx,ha.ev hy,Sem.run_bind,h1,Result.andThen_ok,Lib.run_eql_slice_nil w tx e q m c 0 0 hu,Sem.run_pure]
theorem AD.appendE0 {s:Operand} {bytes c2:Nat} {q2:Option Addr} {news:List Value} (ht:ElemT P t T z bytes) (hs:evF F s=some (.slice q 0 c)) (ho:OwnOk q 0 c)
    (hx:evF F x=some (.slice q2 m c2)) (hsrc:We w0 (rowW q T z 0 c []::L) q2 m news) (hnl:news.length=m*z) (h1:(news.all λu=>u.oneCell')=true) (h63:m<=maxLen) (hbytes:m*bytes<=140737488355328) (hd:Nat.ble (d+1) n=true)
    (next:∀p' c',OwnOk p' m c'->AD P ops rest Q n ((d,.slice p' m c')::F) w0 (rowW p' T z m c' news::L)) :
    AD P ops (⟨some d,.call { callee:=.builtin .append,args:=#[s,x],argTypes:=#[t,t] },ty,p,af,none⟩::rest) Q n F w0 (rowW q T z 0 c []::L):=by
  refine AD.appendS0 (cs2:=news) ht hs ho (by simp) hx hsrc hnl h1 (by rw [Nat.zero_add];exact h63) (by rw [Nat.zero_add];exact hbytes) rfl hd λp' c' h=>?_
  rw [Nat.zero_add] at h ⊢
  exact next p' c' h
theorem AD.storeObj (i:Nat) {α:Type} {enc:α->List Value} {j r:Nat} {x':α} {xs:List α} (df:α) (hlen:∀a,(enc a).length=z) (ho:OwnOk q m c) (hxs:xs.length=m) (hx:evF F x=some (pP (pB q) (pO q+(j*z+r)))) (hy:evF F y=some v) (hi:L[i]?=some (rowW q T z m c (rowsL enc xs))) (hq:q≠none) (hj:j<m)
    (hv:v.cells=vs.toArray) (hs:∀w,(sizeOf ty).run P w=.ok vs.length w) (h1:(vs.all λu=>u.oneCell',Nat.ble (r+vs.length) z,LE L i (rowW q T z m c (rowsL enc (xs.set j x'))))=(true,true,some L')) (he:Fd (enc (xs.getD j df)) r vs=enc x')
    (next:AD P ops rest Q n F w0 L'):AD P ops (⟨none,.store ty x y,t,p,af,none⟩::rest) Q n F w0 L:=by
  have hz:=Nat.le_of_ble_eq_true (CY (BM h1))
  have hjz:(j+1)*z<=m*z:=Nat.mul_le_mul_right z hj
  rw [Nat.add_mul] at hjz
  refine AD.storeRow i hx hy hi ho (by rw [Af hlen,hxs]) hq hv hs (CY h1) (by omega) ?_
  rw [KY hlen df (by omega) hz he,FN (BM (BM h1))]
  exact next
theorem AD.frzRow (i:Nat) (hi:L[i]?=some (rowW q T z m c cs)) (ho:OwnOk q m c) (hl:cs.length=m*z) (hex:w0.ex=none) (hs:LE L i (AI q cs)=some L') (next:(∀b,q.map (·.block)=some b->w0.w.heap.size<=b)->AD P ops rest Q n F w0 L'):AD P ops rest Q n F w0 L:=λa w ha hw=>by
  refine next (λb e=>?_) a w ha (FN hs▸hw.freeze hi rfl (λo hp=>Bu ho hl hp) (λe=>by cases e))
  rcases (hw.2.1 _ (List.mem_of_getElem? hi) b e).1 with h1|h1|h1
  · cases h1
  · exact h1
  · rw [hex] at h1;cases h1
theorem At.new {n:Nat} {cs:List Value} {a:RX cs n} (h:∀b,a.p.map (·.block)=some b->w0.w.heap.size<=b):At w0 S a:=λy hy b e=>by
  rcases List.mem_singleton.1 hy with rfl
  exact .inl (h b e)
end
structure ZR (ps:List Pt) (ts ss:List (Nat×Nat×Nat)) where
  a:OX 51 10 (rowsL BE ps) ps.length
  b:OX 53 3 (rowsL Aq ts) ts.length
  c:OX 55 3 (rowsL Aq ss) ss.length
@[reducible] def Zn {ps:List Pt} {ts ss:List (Nat×Nat×Nat)} (x:ZR ps ts ss):List As:=[rowW x.c.p 55 3 ss.length x.c.c (rowsL Aq ss),rowW x.b.p 53 3 ts.length x.b.c (rowsL Aq ts),rowW x.a.p 51 10 ps.length x.a.c (rowsL BE ps)]
structure Ye (ps:List Pt) (ts ss:List (Nat×Nat×Nat)) (l:List Nat) (e:Nat) where
  m:MX ps ts ss
  q:RX (inL l) l.length
theorem X9 {ps:List Pt} {ts ss:List (Nat×Nat×Nat)} {l:List Nat} {e:Nat} {x:Ye ps ts ss l e} {y:As} (hy:y∈[x.m.a.row,x.m.b.row,x.m.c.row,x.q.row]):y.ro=true:=by
  simp only [List.mem_cons,List.not_mem_nil,or_false] at hy
  rcases hy with rfl|rfl|rfl|rfl<;>rfl
instance {ps:List Pt} {ts ss:List (Nat×Nat×Nat)} {l:List Nat} {e:Nat}:Ch (Ye ps ts ss l e):=⟨λx=>.tuple #[aG (CC x.m),x.q.val,vN e],λx=>[x.m.a.row,x.m.b.row,x.m.c.row,x.q.row],λx y hy=>X9 hy⟩
section
variable {P:Program} {ops:Array Oper} {rest:List Oper} {Q:Exit->Act->World->Prop} {n d:Nat} {F:List (Nat×Value)} {w0:A7} {S:Nat->Prop} {L:List As} {t:TypeId} {p:String} {af:Array Edge} {y:Operand} {f:FuncId} {xs:List Operand} {args:List Value} {tys:Array TypeId} {ps:List Pt} {ts ss:List (Nat×Nat×Nat)} {l:List Nat} {e:Nat}
end
end
theorem JZ {α:Type} {enc:α->List Value} {z:Nat} (h:∀x,(enc x).length=z) (d:α) (xs:List α) (j r k:Nat) (hj:j<xs.length) (hr:r+k<=z) {vs:List Value} (hv:((enc (xs.getD j d)).drop r).take k=vs):((rowsL enc xs).drop (j*z+r)).take k=vs:=by
  have h1:=Ax h d xs j hj
  rw [<-hv,<-h1,List.drop_take,List.take_take,List.drop_drop,Nat.min_eq_left (by omega)]
section
abbrev Z3:=Int×Int×Int
def Al (t:Z3):List Value:=[vI t.1,vI t.2.1,vI t.2.2]
theorem Ak (t:Z3):(Al t).length=3:=rfl
theorem HL (t:Z3):((Al t).all λu=>u.oneCell')=true:=rfl
structure MZ (ps:List Pt) (ts ss:List Z3) where
  a:RX (rowsL BE ps) ps.length
  b:RX (rowsL Al ts) ts.length
  c:RX (rowsL Al ss) ss.length
def C9 {ps:List Pt} {ts ss:List Z3} (x:MZ ps ts ss):List Value:=[x.a.val,x.b.val,x.c.val]
theorem Xq {ps:List Pt} {ts ss:List Z3} {x:MZ ps ts ss} {y:As} (hy:y∈[x.a.row,x.b.row,x.c.row]):y.ro=true:=by
  simp only [List.mem_cons,List.not_mem_nil,or_false] at hy
  rcases hy with rfl|rfl|rfl<;>rfl
instance {ps:List Pt} {ts ss:List Z3}:Ch (MZ ps ts ss):=⟨λx=>aG (C9 x),λx=>[x.a.row,x.b.row,x.c.row],λx y hy=>Xq hy⟩
structure RW where
  ds:List PD
  ts:List Z3
  ss:List Z3
  a:RX (rowsL Es ds) ds.length
  b:RX (rowsL Al ts) ts.length
  c:RX (rowsL Al ss) ss.length
  hd:∀d∈ds,d.ok
def D7 (x:RW):List Value:=[x.a.val,x.b.val,x.c.val]
theorem YC {x:RW} {y:As} (hy:y∈[x.a.row,x.b.row,x.c.row]):y.ro=true:=by
  simp only [List.mem_cons,List.not_mem_nil,or_false] at hy
  rcases hy with rfl|rfl|rfl<;>rfl
instance:Ch RW:=⟨λx=>aG (D7 x),λx=>[x.a.row,x.b.row,x.c.row],λx y hy=>YC hy⟩
def RW.ps (x:RW):List Pt:=x.ds.map F4
theorem FO (d:PD):(Es d).length=4:=rfl
def EB:PD:=⟨⟨0,0⟩,⟨0,0⟩⟩
section
variable {S:Nat->Prop} {w:World} {ps:List Pt} {ts ss:List Z3} {x:MZ ps ts ss} {r:RW}
theorem Wy (h:Ro S w x):Ro S w x.a:=λy hy=>by rcases List.mem_singleton.1 hy with rfl;exact h _ List.mem_cons_self
theorem Vv (h:Ro S w x):Ro S w x.b:=λy hy=>by rcases List.mem_singleton.1 hy with rfl;exact h _ (List.mem_cons_of_mem _ List.mem_cons_self)
theorem Ss (h:Ro S w x):Ro S w x.c:=λy hy=>by rcases List.mem_singleton.1 hy with rfl;exact h _ (List.mem_cons_of_mem _ (List.mem_cons_of_mem _ List.mem_cons_self))
end
structure RP where
  p:Pt
  x:PX p
def Vr:RP:=⟨⟨0,0⟩,⟨FX.zero,FX.zero⟩⟩
@[reducible] def Gs (r:RP):List Value:=Pw r.x
theorem Im (r:RP):(Gs r).length=6:=rfl
def E6 (rs:List RP):List As:=rs.flatMap λr=>Ch.rows r.x
theorem SH {rs:List RP} {y:As} (h:y∈E6 rs):y.ro=true:=by
  obtain ⟨r,_,h⟩:=List.mem_flatMap.1 h
  exact Ch.ro r.x y h
theorem L4 (rs:List RP) (r:RP):E6 (rs++[r])=E6 rs++Ch.rows r.x:=by simp [E6]
theorem WF (r:RP) (A:List As) (rs:List RP):(Ch.rows r.x++(A++E6 rs)).Perm (A++E6 (rs++[r])):=by
  rw [L4,<-List.append_assoc A]
  exact List.perm_append_comm
theorem Rw (A T L:List As):(A++(T++L)).Perm (A++(L++T)):=(List.Perm.refl A).append List.perm_append_comm
structure OI (ps:List Pt) (ts ss:List Z3) where
  rs:List RP
  e:rs.map (·.p)=ps
  a:RX (rowsL Gs rs) rs.length
  b:RX (rowsL Al ts) ts.length
  c:RX (rowsL Al ss) ss.length
def QO {ps:List Pt} {ts ss:List Z3} (x:OI ps ts ss):List Value:=[x.a.val,x.b.val,x.c.val]
theorem X_ {ps:List Pt} {ts ss:List Z3} {x:OI ps ts ss} {y:As} (hy:y∈[x.a.row,x.b.row,x.c.row]++E6 x.rs):y.ro=true:=by
  rcases List.mem_append.1 hy with hy|hy
  · simp only [List.mem_cons,List.not_mem_nil,or_false] at hy
    rcases hy with rfl|rfl|rfl<;>rfl
  · exact SH hy
instance {ps:List Pt} {ts ss:List Z3}:Ch (OI ps ts ss):=⟨λx=>aG (QO x),λx=>[x.a.row,x.b.row,x.c.row]++E6 x.rs,λx y hy=>X_ hy⟩
theorem OI.at {ps:List Pt} {ts ss:List Z3} (x:OI ps ts ss) {i:Nat} (h:i<x.rs.length):(x.rs.getD i Vr).p=ps.getD i ⟨0,0⟩:=by
  have h1:(x.rs.map (·.p)).getD i ⟨0,0⟩=ps.getD i ⟨0,0⟩:=congrArg (λl=>l.getD i ⟨0,0⟩) x.e
  rw [<-h1]
  simp [h]
theorem OI.len {ps:List Pt} {ts ss:List Z3} (x:OI ps ts ss):x.rs.length=ps.length:=by
  have h:=congrArg List.length x.e
  rwa [List.length_map] at h
section
variable {P:Program} {ops:Array Oper} {rest:List Oper} {Q:Exit->Act->World->Prop} {n:Nat} {F:List (Nat×Value)} {w0:A7} {S:Nat->Prop} {L L2 A:List As} {w W:World} {rs:List RP} {i:Nat} {ps:List Pt} {ts ss:List Z3}
theorem AD.permR (hp:L.Perm L2) (next:AD P ops rest Q n F w0 L2):AD P ops rest Q n F w0 L:=λa w ha hW=>next a w ha (hW.perm hp)
theorem Y8 (hw:A_ w0 w L) (hs:∀y∈E6 rs,y∈L) (hi:i<rs.length) (ha:∀y∈E6 rs,∀b,y.foot=some b->Nw w0 S b):Ro (SL w0 S L) w (rs.getD i Vr).x:=λy hy=>by
  have hm:y∈E6 rs:=List.mem_flatMap.2 ⟨rs[i],List.getElem_mem hi,by rw [List.getD,List.getElem?_eq_getElem hi] at hy;exact hy⟩
  exact ⟨λb e=>(hw.2.1 y (hs y hm) b e).2,λb e=>⟨⟨y,hs y hm,SH hm,e⟩,ha y hm b e⟩⟩
theorem At.snoc {r:RP} (h:∀y∈E6 rs,∀b,y.foot=some b->Nw w0 S b) (k:At w0 S r.x):∀y∈E6 (rs++[r]),∀b,y.foot=some b->Nw w0 S b:=λy hy=>by
  rw [L4] at hy
  rcases List.mem_append.1 hy with hy|hy
  · exact h y hy
  · exact k y hy
theorem At.rpt {x:OI ps ts ss} (h:At w0 S x):∀y∈E6 x.rs,∀b,y.foot=some b->Nw w0 S b:=λy hy=>h y (List.mem_append_right [x.a.row,x.b.row,x.c.row] hy)
theorem Ro.rpt {x:OI ps ts ss} (h:Ro S w x):∀y∈E6 x.rs,Holds w y/\∀b,y.foot=some b->S b:=λy hy=>h y (List.mem_append_right [x.a.row,x.b.row,x.c.row] hy)
theorem V1 (hw:A_ ⟨W,none⟩ w (A++E6 rs)) (i j k:Nat) {p1 p2 p3:Option Addr} {T1 T2 T3 n1 n2 n3 c1 c2 c3:Nat} (h1:A[i]?=some (rowW p1 T1 6 n1 c1 (rowsL Gs rs))) (h2:A[j]?=some (rowW p2 T2 3 n2 c2 (rowsL Al ts))) (h3:A[k]?=some (rowW p3 T3 3 n3 c3 (rowsL Al ss)))
    (o1:OwnOk p1 n1 c1) (o2:OwnOk p2 n2 c2) (o3:OwnOk p3 n3 c3) (e1:n1=rs.length) (e2:n2=ts.length) (e3:n3=ss.length) (he:rs.map (·.p)=ps) (hat:∀y∈E6 rs,∀b,y.foot=some b->Nw ⟨W,none⟩ S b)
    {v:Value} (hv:v=aG [.slice p1 n1 c1,.slice p2 n2 c2,.slice p3 n3 c3]):Av (OI ps ts ss) S W (.returned v) w:=by
  subst e1;subst e2;subst e3
  have up:∀{i:Nat} {x:As},A[i]?=some x->(A++E6 rs)[i]?=some x:=λ{i x} h=>by rw [List.getElem?_append_left (List.getElem?_eq_some_iff.1 h).1];exact h
  refine ⟨⟨rs,he,⟨p1,c1,o1.row⟩,⟨p2,c2,o2.row⟩,⟨p3,c3,o3.row⟩⟩,by rw [hv];rfl,hw.out,λy hy=>?_⟩
  have hy:y∈[AI p1 (rowsL Gs rs),AI p2 (rowsL Al ts),AI p3 (rowsL Al ss)]++E6 rs:=hy
  rcases List.mem_append.1 hy with hy|hy
  · simp only [List.mem_cons,List.not_mem_nil,or_false] at hy
    rcases hy with rfl|rfl|rfl
    · exact Dx hw i (up h1) o1 (Af Im _)
    · exact Dx hw j (up h2) o2 (Af Ak _)
    · exact Dx hw k (up h3) o3 (Af Ak _)
  · exact ⟨λb e=>(hw.2.1 _ (List.mem_append_right _ hy) b e).2,hat y hy⟩
theorem X1 (hw:A_ ⟨W,none⟩ w L) (i j k:Nat) {p1 p2 p3:Option Addr} {T1 T2 T3 n1 n2 n3 c1 c2 c3:Nat} (h1:L[i]?=some (rowW p1 T1 10 n1 c1 (rowsL BE ps))) (h2:L[j]?=some (rowW p2 T2 3 n2 c2 (rowsL Al ts))) (h3:L[k]?=some (rowW p3 T3 3 n3 c3 (rowsL Al ss)))
    (o1:OwnOk p1 n1 c1) (o2:OwnOk p2 n2 c2) (o3:OwnOk p3 n3 c3) (e1:n1=ps.length) (e2:n2=ts.length) (e3:n3=ss.length)
    {v:Value} (hv:v=aG [.slice p1 n1 c1,.slice p2 n2 c2,.slice p3 n3 c3]):Av (MZ ps ts ss) S W (.returned v) w:=by
  subst e1;subst e2;subst e3
  refine ⟨⟨⟨p1,c1,o1.row⟩,⟨p2,c2,o2.row⟩,⟨p3,c3,o3.row⟩⟩,by rw [hv];rfl,hw.out,λy hy=>?_⟩
  have hy:y∈[AI p1 (rowsL BE ps),AI p2 (rowsL Al ts),AI p3 (rowsL Al ss)]:=hy
  simp only [List.mem_cons,List.not_mem_nil,or_false] at hy
  rcases hy with rfl|rfl|rfl
  · exact Dx hw i h1 o1 (Af Ck _)
  · exact Dx hw j h2 o2 (Af Ak _)
  · exact Dx hw k h3 o3 (Af Ak _)
end
theorem R6 (a b:Z3):((a.1 == b.1)&&((a.2.1 == b.2.1)&&((a.2.2 == b.2.2)&&true)))=decide (a=b):=by
  obtain ⟨a1,a2,a3⟩:=a
  obtain ⟨b1,b2,b3⟩:=b
  rw [Bool.eq_iff_iff]
  simp
theorem TZ (D:Nat) (a b:Z3):D4 Tryz.prog (D+2) 53 (.agg (Al a).toArray) (.agg (Al b).toArray) (decide (a=b)):=by
  rw [<-R6]
  exact D4.array Tryz.underlying53 Tq Q1 (QJ.one Tryz.isAgg3 rfl rfl (D4.int Tryz.underlying3) (QJ.one Tryz.isAgg3 rfl rfl (D4.int Tryz.underlying3) (QJ.one Tryz.isAgg3 rfl rfl (D4.int Tryz.underlying3) QJ.nil)))
theorem TD (D:Nat) (a b:Z3):D4 Tryz.prog (D+2) 55 (.agg (Al a).toArray) (.agg (Al b).toArray) (decide (a=b)):=by
  rw [<-R6]
  exact D4.struct Tryz.underlying55 Tryz.stoodInHeld55 (GY.one (by decide) Tryz.isAgg3 rfl rfl (D4.int Tryz.underlying3) (GY.one (by decide) Tryz.isAgg3 rfl rfl (D4.int Tryz.underlying3) (GY.one (by decide) Tryz.isAgg3 rfl rfl (D4.int Tryz.underlying3) GY.nil)))
theorem HG (D:Nat) {a b:Z3} (h:a=b):D4 Tryz.prog (D+2) 55 (.agg (Al a).toArray) (.agg (Al b).toArray) true:=by
  have:=TD D a b;rwa [decide_eq_true h] at this
theorem E7 {α:Type} {d:α} {xs ys:List α} (hl:xs.length=ys.length) (h:∀i,i<xs.length->xs.getD i d=ys.getD i d):xs=ys:=by
  refine List.ext_getElem hl λi h1 h2=>?_
  have:=h i h1
  rwa [List.getD,List.getD,List.getElem?_eq_getElem h1,List.getElem?_eq_getElem h2] at this
theorem EY {α:Type} {d:α} {xs ys:List α} {i:Nat} (h:xs.getD i d≠ys.getD i d):xs≠ys:=λe=>h (by rw [e])
theorem Sq (r:RW) {i:Nat} (h:i<r.ds.length):r.ps.getD i ⟨0,0⟩=F4 (r.ds.getD i EB):=by
  unfold RW.ps
  simp [h]
theorem RW.pl (r:RW):r.ps.length=r.ds.length:=by unfold RW.ps;rw [List.length_map]
theorem RW.ok (r:RW) {i:Nat} (h:i<r.ds.length):(r.ds.getD i EB).ok:=by
  rw [List.getD,List.getElem?_eq_getElem h]
  exact r.hd _ (List.getElem_mem h)
theorem RW.sz (r:RW) (i:Nat) (h:i<r.ps.length):UK (r.ps.getD i ⟨0,0⟩)<=4:=by
  rw [r.pl] at h
  rw [Sq r h]
  exact TQ (r.ok h)
structure Vg (ps:List Pt) (ts ss:List Z3) where
  a:OX 51 10 (rowsL BE ps) ps.length
  b:OX 53 3 (rowsL Al ts) ts.length
  c:OX 55 3 (rowsL Al ss) ss.length
def Ya {ps:List Pt} {ts ss:List Z3} (x:Vg ps ts ss):List Value:=[Xt x.a,Xt x.b,Xt x.c]
@[reducible] def W0 {ps:List Pt} {ts ss:List Z3} (x:Vg ps ts ss):List As:=[rowW x.c.p 55 3 ss.length x.c.c (rowsL Al ss),rowW x.b.p 53 3 ts.length x.b.c (rowsL Al ts),rowW x.a.p 51 10 ps.length x.a.c (rowsL BE ps)]
section
variable {S:Nat->Prop} {w:World} {w0:A7} {L:List As} {ps:List Pt} {ts ss:List Z3}
theorem Zb {α:Type} [Ch α] {a:α} (h:Ro S w a):∀y∈Ch.rows a,y.ro=true/\Holds w y:=λy k=>⟨Ch.ro a y k,(h y k).1⟩
abbrev Np (_:Nat):Prop:=True
theorem J9 {α:Type} [Ch α] {a:α} (h:Ro S w a):Ro Np w a:=h.mono λ_ _=>trivial
theorem E_ (hw:A_ w0 w L) (i:Nat) {p:Option Addr} {T:TypeId} {z n n' c c':Nat} {cs:List Value} {ok:A6 p n' c'} (hi:L[i]?=some (rowW p T z n c cs)) (ho:OwnOk p n c) (hl:cs.length=n*z):Ro Np w (⟨p,c',ok⟩:RX cs n'):=λy hy=>by
  rcases List.mem_singleton.1 hy with rfl
  refine ⟨λd e=>?_,λ_ _=>trivial⟩
  obtain ⟨_,o,ho2,hp⟩:=hw.2.1 _ (List.mem_of_getElem? hi) d e
  exact ⟨o,ho2,Bu ho hl hp⟩
theorem Tu {x:MZ ps ts ss} (ha:Ro S w x.a) (hb:Ro S w x.b) (hc:Ro S w x.c):Ro S w x:=λy hy=>by
  have hy:y∈[x.a.row,x.b.row,x.c.row]:=hy
  simp only [List.mem_cons,List.not_mem_nil,or_false] at hy
  rcases hy with rfl|rfl|rfl
  · exact ha _ List.mem_cons_self
  · exact hb _ List.mem_cons_self
  · exact hc _ List.mem_cons_self
theorem X6 {x:OI ps ts ss} (hw:A_ w0 w L) (i:Nat) (hi:(L.drop i).take 3=[x.a.row,x.b.row,x.c.row]) (hs:∀y∈E6 x.rs,y∈L):Ro Np w x:=λy hy=>by
  have hy:y∈[x.a.row,x.b.row,x.c.row]++E6 x.rs:=hy
  have hm:y∈L:=by
    rcases List.mem_append.1 hy with hy|hy
    · exact List.mem_of_mem_drop (List.mem_of_mem_take (hi▸hy))
    · exact hs y hy
  exact ⟨λb e=>(hw.2.1 y hm b e).2,λ_ _=>trivial⟩
end
structure CX (cs:List Value) (n:Nat) where
  p:Option Addr
  ok:A6 p n n
instance {cs:List Value} {n:Nat}:Ch (CX cs n):=⟨λa=>.slice a.p n n,λa=>[AI a.p cs],λa y hy=>by rcases List.mem_singleton.1 hy with rfl;rfl⟩
theorem XO {S:Nat->Prop} {W w:World} {L:List As} (hw:A_ ⟨W,none⟩ w L) (i:Nat) {p:Option Addr} {T:TypeId} {z n c:Nat} {cs:List Value} (hi:L[i]?=some (rowW p T z n c cs)) (ho:OwnOk p n c) (hl:cs.length=n*z) {v:Value} (hv:v=.slice p n n):Av (CX cs n) S W (.returned v) w :=
  ⟨⟨p,ho.clip⟩,by rw [hv];rfl,hw.out,λy hy=>by rcases List.mem_singleton.1 hy with rfl;exact Dx hw i hi ho hl⟩
theorem Lz (r:RW) {i:Nat} (h:i<r.ds.length):r.ps.take (i+1)=r.ps.take i++[F4 (r.ds.getD i EB)]:=by
  rw [<-Sq r h,List.take_add_one,List.getD,List.getElem?_eq_getElem (by rw [r.pl];exact h)]
  rfl
end
section
def DZ (a b:Nat):Int:=if a<b then -1 else if b<a then 1 else 0
theorem Ot {a b:Nat} (h:a<b):DZ a b = -1:=if_pos h
theorem Pl {a b:Nat} (h:¬a<b) (h2:b<a):DZ a b=1:=by rw [DZ,if_neg h,if_pos h2]
theorem PF {a b:Nat} (h:¬a<b) (h2:¬b<a):DZ a b=0:=by rw [DZ,if_neg h,if_neg h2]
def Sk (a b:Int):Int:=if a≠0 then a else if b≠0 then b else 0
section
variable {P:Program} {n:Nat} {F:List (Nat×Value)} {w0:A7} {L:List As} {d:Option Tmp} {x:Operand} {t:TypeId} {p:String} {af:Array Edge} {g:Option (Nat×Bool)}
theorem CK {tx e:TypeId} {a:Option Addr} {len cap k:Nat} {hi mx:Operand} {ki kj:IntKind} {m:Nat} (hx:evF F x=some (.slice a len cap)) (hh:evF F hi=some (.int ki (m:Nat))) (hj:evF F mx=some (.int kj (m:Nat))) (hu:P.underlying tx=some (.slice e)) (hs:∀w,(sizeOf e).run P w=.ok k w) (hm:m<=cap) :
    Ex P n F w0 L ⟨d,.slice tx x none (some hi) (some mx),t,p,af,g⟩ (.slice a m m):=λA w ha _=>by
  simp only [execOp,ha.ev hx,Instr.sliceAt,run_underlying hu,Instr.slice,Option.map_some,Option.map_none,ha.ev hh,ha.ev hj,Instr.sliceBounds,Instr.sliceBound,asIntOf,Sem.run_bind,Result.andThen_ok,Sem.run_pure]
  have h1:(0:Int)<=(m:Int)/\(m:Int)<=(cap:Int):=⟨by omega,by omega⟩
  simp [h1.2,hs]
  cases a<;>simp [Addr.add]
end
section
variable {P:Program} {ops:Array Oper} {rest:List Oper} {Q:Exit->Act->World->Prop} {n:Nat} {F:List (Nat×Value)} {w0:A7} {L L':List As}
theorem AD.subL (hs:L'.Sublist L) (h:AD P ops rest Q n F w0 L'):AD P ops rest Q n F w0 L:=λa w ha hw=>h a w ha (hw.weak hs)
end
end
section
set_option maxRecDepth 100000
end
section
set_option maxRecDepth 100000
theorem XC:ElemT Tryz.prog 23 53 3 24:=⟨Tryz.underlying23,C3 (by kernel_rfl)⟩
end
section
set_option maxRecDepth 100000
theorem Ud:ElemT Tryz.prog 24 55 3 24:=⟨Tryz.underlying24,C3 (by kernel_rfl)⟩
theorem X0:ElemT Tryz.prog 28 51 10 112:=⟨Tryz.underlying28,C3 (by kernel_rfl)⟩
end
end Go.Proofs.YtpgncndhhhllfaaGreatDoor
