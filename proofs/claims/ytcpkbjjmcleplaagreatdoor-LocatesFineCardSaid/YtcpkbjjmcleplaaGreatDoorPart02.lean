import Derived.Orders
import Derived.OrdersHeld
import Derived.Test.YtcpkbjjmcleplaaGreatDoorPart01
namespace Go.Proofs.YtcpkbjjmcleplaaGreatDoor
open Go Go.RowKit Go.Proofs.Tryz
open Go.Value renaming slice→qz,bool→qa
set_option linter.unusedVariables false
set_option linter.unusedSimpArgs false
section
inductive Kd where
  | pure|held|look|call|new
  deriving DecidableEq
structure Sp where
  kind:Kd
  v:(Nat->Value)->Value
  need:List Nat
  A:Value->List As
  C:Value->Prop
def Sp.isPure (s:Sp):Bool:=match s.kind with|.pure=>true|.held=>true|_=>false
def Sp.isNew (s:Sp):Bool:=match s.kind with|.new=>true|_=>false
def Xx (specs:List Sp) (β:Nat->Value) (j:Nat):Value :=
  match specs[j]? with
  | some s=>s.v β
  | none=>undef
def CR (o:Oper) (j:Nat):Bool:=o.after.toList.any λe=>Region.binds .any e&&e.on == j
def Cn (l:List Oper):Nat->Nat->Nat->Bool
  | 0,_,_=>false
  | f+1,i,j=>match l[i]? with
    | some o=>CR o j||(List.range l.length).any λk=>CR o k&&Cn l f k j
    | none=>false
def MK (l:List Oper) (specs:List Sp) (β:Nat->Value) (o:Oper):List (Nat×Value) :=
  (List.range specs.length).filterMap λk=>if CR o k then ((l[k]?).bind (·.dst)).map λd=>(d,Xx specs β k) else none
def Yp (l:List Oper) (specs:List Sp) (β:Nat->Value):List (Nat×Value) :=
  (List.range specs.length).filterMap λk=>((l[k]?).bind (·.dst)).map λd=>(d,Xx specs β k)
def JD (β:Nat->Value) (k:Nat):Option Sp->List As
  | some s=>if s.isNew then s.A (β k) else []
  | none=>[]
def DQ (specs:List Sp) (β:Nat->Value) (ks:List Nat):List As:=ks.flatMap λk=>JD β k specs[k]?
def Uh (specs:List Sp) (β:Nat->Value):List As:=DQ specs β (List.range specs.length)
def Cs (specs:List Sp) (β:Nat->Value) (ks:List Nat):Prop:=∀k∈ks,∀s,specs[k]?=some s->s.isNew=true->s.C (β k)
def GE (x y:As):Prop:=(x.ro=true/\y.ro=true)\/∀b,x.foot=some b->y.foot≠some b
theorem GE.symm {x y:As} (h:GE x y):GE y x:=by
  rcases h with h|h
  · exact .inl ⟨h.2,h.1⟩
  · exact .inr λb e e2=>h b e2 e
def LJ (w w':World) (M xs:List As):Prop :=
  (∀x∈xs,∀b,x.foot=some b->(∃o,w'.heap[b]?=some o/\x.P o)/\(w.heap.size<=b\/(x.ro=true/\∃y∈M,y.ro=true/\y.foot=some b)))/\xs.Pairwise GE
theorem G9 {L:List As} (h:L.Pairwise GE):∀x∈L,∀y∈L,x=y\/GE x y:=by
  induction L with
  | nil=>intro x hx;cases hx
  | cons a L ih =>
    have h':=List.pairwise_cons.1 h
    intro x hx y hy
    rcases xL.1 hx with h1|h1<;>rcases xL.1 hy with h2|h2
    · exact .inl (h1.trans h2.symm)
    · exact .inr (h1▸h'.1 y h2)
    · exact .inr (h2▸(h'.1 x h1)).symm
    · exact ih h'.2 x h1 y h2
theorem Hf {x y z:As} {b:Nat} (hx:x.ro=true) (hy:y.ro=true) (fx:x.foot=some b) (fy:y.foot=some b) (h:y=z\/GE y z):GE x z:=by
  rcases h with rfl|h|h
  · exact .inl ⟨hx,hy⟩
  · exact .inl ⟨hx,h.2⟩
  · refine .inr λc e=>?_
    rw [fx] at e;injection e with e;subst e
    exact h _ fy
def Jy:List Nat->Bool
  | []=>true
  | x::r=>!r.contains x&&Jy r
def V2 (n:Nat) (l:List Oper) (specs:List Sp):Bool :=
  let m:=specs.length
  let ops:=l.toArray
  Nat.ble m l.length &&
  ((List.range m).all λj=>match (l[j]?).bind (·.dst) with
    | some d=>Nat.blt d n&&(List.range m).all λk=>k == j||(l[k]?).bind (·.dst) != some d
    | none=>false) &&
  ((List.range l.length).all λi=>match l[i]? with
    | some o=>o.after.all λe=>!Region.binds .any e||Nat.blt e.on i
    | none=>false) &&
  ((List.range l.length).all λi=>Nat.blt i m||match l[i]? with
    | some o=>((List.range m).all λj=>(match specs[j]? with|some s=>s.isPure|none=>true)||Cn l 3 i j)&&(i == m||CR o (i-1))
    | none=>false) &&
  ((List.range m).all λj=>(match specs[j]? with|some s=>!s.isPure|none=>true)||(List.range l.length).all λk=>k == j||match l[j]?,l[k]? with
    | some oj,some ok=>CR oj k||CR ok j||oj.apart ops ok
    | _,_=>false) &&
  Region.noSelect ops &&
  ((List.range m).all λj=>match specs[j]?,l[j]? with
    | some s,some o=>Jy s.need&&s.need.all λk=>CR o k||(List.range m).any λi=>CR o i&&match specs[i]? with|some s'=>s'.need.contains k|none=>false
    | _,_=>false)
section
variable {P:Program} {n:Nat} {l:List Oper} {specs:List Sp} {F:List (Nat×Value)} {w0:Ay} {Lro L:List As} {Q:Exit->Act->World->Prop}
def Vc (P:Program) (n:Nat) (l:List Oper) (specs:List Sp) (F:List (Nat×Value)) (w0:Ay) (Lro L:List As) (o:Oper) (s:Sp):Prop :=
  match s.kind with
  | .pure=>∀β a,Cg n a (MK l specs β o++F)->Cs specs β s.need->(Region.wanted o (yielded l.toArray a.tmps)=true/\∀w,(execOp a.eval o).run P w=.ok (.value (s.v β)) w)\/(Region.wanted o (yielded l.toArray a.tmps)=false/\s.v β=undef)
  | .held=>∀β a,Cg n a (MK l specs β o++F)->Cs specs β s.need->Region.wanted o (yielded l.toArray a.tmps)=true/\∀w,A_ w0 w Lro->(execOp a.eval o).run P w=.ok (.value (s.v β)) w
  | .look=>∀β a w,Cg n a (MK l specs β o++F)->Cs specs β s.need->A_ w0 w (DQ specs β s.need++L)->Region.wanted o (yielded l.toArray a.tmps)=true/\(execOp a.eval o).run P w=.ok (.value (s.v β)) w
  | .call=>∀β a w,Cg n a (MK l specs β o++F)->Cs specs β s.need->A_ w0 w (DQ specs β s.need++L)->Region.wanted o (yielded l.toArray a.tmps)=true/\∃f args,(execOp a.eval o).run P w=.ok (.enter f args) w/\Calls P f args w (Ac w (s.v β))
  | .new=>∀β a w,Cg n a (MK l specs β o++F)->Cs specs β s.need->A_ w0 w (DQ specs β s.need++L)->Region.wanted o (yielded l.toArray a.tmps)=true/\∃V:Value->Value,(∀j:Nat,specs[j]?=some s->l[j]?=some o->∀β,s.v β=V (β j)) /\
      ((∃v w',(execOp a.eval o).run P w=.ok (.value v) w'/\V v=v/\GB w.heap.size w w'/\s.C v/\LJ w w' (DQ specs β s.need++L) (s.A v)) \/
       (∃f args,(execOp a.eval o).run P w=.ok (.enter f args) w/\Calls P f args w λe w'=>∃v,e=.returned v/\V v=v/\GB w.heap.size w w'/\s.C v/\LJ w w' (DQ specs β s.need++L) (s.A v)))
structure IM (n:Nat) (l:List Oper) (specs:List Sp) (F:List (Nat×Value)) (w0:Ay) (L:List As) (listed:Array Bool) (β:Nat->Value) (a:Act) (w:World):Prop where
  size:listed.size=l.length
  tail:∀i,specs.length<=i->i<l.length->listed.getD i true=false
  frm:Cg n a F
  slots:∀j,listed.getD j false=true->∀d,(l[j]?).bind (·.dst)=some d->a.tmps[d]?=some (Xx specs β j)
  own:A_ w0 w L
  news:∀(j:Nat) (s:Sp),listed.getD j false=true->specs[j]?=some s->s.isNew=true->s.C (β j) /\
    (∀x∈s.A (β j),∀b,x.foot=some b->(x.ro=true\/w0.w.heap.size<=b\/w0.ex=some b)/\∃o,w.heap[b]?=some o/\x.P o)/\(s.A (β j)).Pairwise GE/\∀x∈s.A (β j),∀y∈L,GE x y
  apart:∀(i j:Nat) (s s':Sp),i≠j->listed.getD i false=true->listed.getD j false=true->specs[i]?=some s->specs[j]?=some s'->s.isNew=true->s'.isNew=true->∀x∈s.A (β i),∀y∈s'.A (β j),GE x y
  need:∀(j:Nat) (s:Sp),listed.getD j false=true->specs[j]?=some s->∀k∈s.need,listed.getD k false=true
  preds:∀(j:Nat) (o:Oper),listed.getD j false=true->l[j]?=some o->∀e∈o.after,Region.binds .any e=true->listed.getD e.on false=true
structure Ti (n:Nat) (l:List Oper) (specs:List Sp):Prop where
  len:specs.length<=l.length
  dst:∀j,j<specs.length->∃d,(l[j]?).bind (·.dst)=some d/\d<n/\∀k,k<specs.length->k≠j->(l[k]?).bind (·.dst)≠some d
  back:∀i o,l[i]?=some o->∀e∈o.after,Region.binds .any e=true->e.on<i
  late:∀(i:Nat) (o:Oper),specs.length<=i->l[i]?=some o->(∀(j:Nat) (s:Sp),specs[j]?=some s->s.isPure=false->Cn l 3 i j=true)/\(i≠specs.length->CR o (i-1)=true)
  free:∀(j:Nat) (s:Sp) (oj:Oper),specs[j]?=some s->s.isPure=true->l[j]?=some oj->∀k ok,l[k]?=some ok->k≠j->CR oj k=true\/CR ok j=true\/oj.apart l.toArray ok=true
  sel:Region.noSelect l.toArray=true
  need:∀(j:Nat) (s:Sp) (o:Oper),specs[j]?=some s->l[j]?=some o->s.need.Nodup/\∀k∈s.need,CR o k=true\/∃(i:Nat) (s':Sp),CR o i=true/\specs[i]?=some s'/\k∈s'.need
theorem RA {a b:Nat} (h:Nat.blt a b=true):a<b:=Nat.le_of_ble_eq_true h
theorem NT {a b:Nat} (h:b<=a):Nat.blt a b=false:=by
  cases e:Nat.blt a b with
  | false=>rfl
  | true=>have:=RA e;omega
theorem Ei:∀{l:List Nat},Jy l=true->l.Nodup
  | [],_=>List.nodup_nil
  | x::r,h=>by
    simp only [Jy,xZ,xV] at h
    exact List.nodup_cons.2 ⟨by simpa using h.1,Ei h.2⟩
theorem ZN (h:V2 n l specs=true):Ti n l specs:=by
  simp only [V2,xZ] at h
  obtain ⟨⟨⟨⟨⟨⟨h1,h2⟩,h3⟩,h4⟩,h5⟩,h6⟩,h7⟩:=h
  refine ⟨Nat.le_of_ble_eq_true h1,λj hj=>?_,λi o ho e he hb=>?_,λi o hi ho=>⟨λj s hs hp=>?_,λhne=>?_⟩,λj s oj hs hp hj k ok hk hne=>?_,h6,λj s o hs ho=>?_⟩
  · have:=List.all_eq_true.1 h2 j (List.mem_range.2 hj)
    cases hd:(l[j]?).bind (·.dst) with
    | none=>simp [hd] at this
    | some d =>
      simp only [hd,xZ] at this
      refine ⟨d,rfl,RA this.1,λk hk hkj=>?_⟩
      have h7:=List.all_eq_true.1 this.2 k (List.mem_range.2 hk)
      simp only [xY,beq_iff_eq,hkj,false_or] at h7
      simpa using h7
  · have hi:i<l.length:=(List.getElem?_eq_some_iff.1 ho).1
    have:=List.all_eq_true.1 h3 i (List.mem_range.2 hi)
    simp only [ho] at this
    have h7:=Array.all_eq_true_iff_forall_mem.1 this e he
    simp only [hb,Bool.not_true,Bool.false_or] at h7
    exact RA h7
  · have hi':i<l.length:=(List.getElem?_eq_some_iff.1 ho).1
    have:=List.all_eq_true.1 h4 i (List.mem_range.2 hi')
    have hlt:Nat.blt i specs.length=false:=NT hi
    simp only [hlt,Bool.false_or,ho,xZ] at this
    have hj:j<specs.length:=(List.getElem?_eq_some_iff.1 hs).1
    have h7:=List.all_eq_true.1 this.1 j (List.mem_range.2 hj)
    simpa [hs,hp] using h7
  · have hi':i<l.length:=(List.getElem?_eq_some_iff.1 ho).1
    have:=List.all_eq_true.1 h4 i (List.mem_range.2 hi')
    have hlt:Nat.blt i specs.length=false:=NT hi
    simp only [hlt,Bool.false_or,ho,xZ] at this
    have h7:=this.2
    simp only [xY,beq_iff_eq] at h7
    exact h7.resolve_left hne
  · have hj':j<specs.length:=(List.getElem?_eq_some_iff.1 hs).1
    have hk':k<l.length:=(List.getElem?_eq_some_iff.1 hk).1
    have:=List.all_eq_true.1 h5 j (List.mem_range.2 hj')
    simp only [hs,hp,Bool.not_true,Bool.false_or] at this
    have h7:=List.all_eq_true.1 this k (List.mem_range.2 hk')
    simp only [hj,hk,xY,beq_iff_eq,hne,false_or] at h7
    rcases h7 with (h7|h7)|h7
    · exact .inl h7
    · exact .inr (.inl h7)
    · exact .inr (.inr h7)
  · have hj':j<specs.length:=(List.getElem?_eq_some_iff.1 hs).1
    have:=List.all_eq_true.1 h7 j (List.mem_range.2 hj')
    simp only [hs,ho,xZ] at this
    refine ⟨Ei this.1,λk hk=>?_⟩
    have h8:=List.all_eq_true.1 this.2 k hk
    rcases xY _ _▸h8 with h8|h8
    · exact .inl h8
    · obtain ⟨i,_,hi⟩:=List.any_eq_true.1 h8
      simp only [xZ] at hi
      cases hs':specs[i]? with
      | none=>simp [hs'] at hi
      | some s' =>
        simp only [hs'] at hi
        exact .inr ⟨i,s',hi.1,hs',by simpa using hi.2⟩
theorem BK {o:Oper} {j:Nat} (h:CR o j=true):∃e∈o.after,Region.binds .any e=true/\e.on=j:=by
  obtain ⟨e,he,hb⟩:=List.any_eq_true.1 h
  simp only [xZ,beq_iff_eq] at hb
  exact ⟨e,by simpa using he,hb.1,hb.2⟩
theorem Et {m:Nat} {f:Nat->Option (Nat×Value)} {G:List (Nat×Value)} {k:Nat} {v:Value} (h:((List.range m).filterMap f++G).lookup k=some v) :
    (∃j,j<m/\f j=some (k,v))\/G.lookup k=some v:=by
  have key:∀(xs:List Nat),((xs.filterMap f++G).lookup k=some v)->(∃j∈xs,f j=some (k,v))\/G.lookup k=some v:=by
    intro xs
    induction xs with
    | nil=>intro h;exact .inr (by simpa using h)
    | cons x xs ih =>
      intro h
      rw [List.filterMap_cons] at h
      cases hx:f x with
      | none =>
        simp only [hx] at h
        rcases ih h with ⟨j,hj,e⟩|h
        · exact .inl ⟨j,List.mem_cons_of_mem _ hj,e⟩
        · exact .inr h
      | some q =>
        obtain ⟨d,u⟩:=q
        simp only [hx,List.cons_append,List.lookup_cons] at h
        by_cases e:k=d
        · subst e
          simp only [beq_self_eq_true,Option.some.injEq] at h
          subst h
          exact .inl ⟨x,List.mem_cons_self ..,hx⟩
        · have e':(k == d)=false:=by simpa using e
          simp only [e'] at h
          rcases ih h with ⟨j,hj,e⟩|h
          · exact .inl ⟨j,List.mem_cons_of_mem _ hj,e⟩
          · exact .inr h
  rcases key _ h with ⟨j,hj,e⟩|h
  · exact .inl ⟨j,List.mem_range.1 hj,e⟩
  · exact .inr h
theorem IM.pre {listed:Array Bool} {β:Nat->Value} {a:Act} {w:World} (hI:IM n l specs F w0 L listed β a w) {o:Oper}
    (hl:∀e∈o.after,Region.binds .any e=true->listed.getD e.on false=true):Cg n a (MK l specs β o++F):=by
  refine ⟨hI.frm.1,hI.frm.2.1,λk v hk=>?_⟩
  rcases Et hk with ⟨j,hj,e⟩|h
  · by_cases he:CR o j=true
    · simp only [he,if_true] at e
      cases hd:(l[j]?).bind (·.dst) with
      | none=>simp [hd] at e
      | some d =>
        simp only [hd,Option.map_some,Option.some.injEq,Prod.mk.injEq] at e
        obtain ⟨rfl,rfl⟩:=e
        obtain ⟨e,he1,he2,rfl⟩:=BK he
        exact hI.slots _ (hl e he1 he2) _ hd
    · simp [he] at e
  · exact hI.frm.2.2 k v h
theorem D5 (listed:Array Bool) (i j:Nat) (d:Bool) (hi:i<listed.size):(listed.setIfInBounds i true).getD j d=if i=j then true else listed.getD j d:=by
  by_cases e:i=j
  · subst e;simp [hi]
  · simp [Array.getElem?_setIfInBounds_ne e,e]
theorem Fv {β:Nat->Value} {k:Nat} {x:As} (h:x∈JD β k specs[k]?):∃s,specs[k]?=some s/\s.isNew=true/\x∈s.A (β k):=by
  cases hs:specs[k]? with
  | none=>rw [hs] at h;simp [JD] at h
  | some s =>
    rw [hs] at h
    cases hn:s.isNew with
    | false=>simp [JD,hn] at h
    | true=>exact ⟨s,rfl,hn,by simpa [JD,hn] using h⟩
theorem IM.blocks {listed:Array Bool} {β:Nat->Value} {a:Act} {w:World} (hI:IM n l specs F w0 L listed β a w) (ks:List Nat) (hnd:ks.Nodup) (hall:∀k∈ks,listed.getD k false=true):A_ w0 w (DQ specs β ks++L):=by
  refine ⟨hI.own.1,λx hx b e=>?_,List.pairwise_append.2 ⟨List.pairwise_flatMap.2 ⟨λk hk=>?_,?_⟩,hI.own.2.2,λx hx y hy=>?_⟩⟩
  · rcases List.mem_append.1 hx with hx|hx
    · obtain ⟨k,hk,hx⟩:=List.mem_flatMap.1 hx
      obtain ⟨s,hs,hn,hx⟩:=Fv hx
      exact (hI.news k s (hall k hk) hs hn).2.1 x hx b e
    · exact hI.own.2.1 x hx b e
  · cases hs:specs[k]? with
    | none=>simp [JD]
    | some s =>
      cases hn:s.isNew with
      | false=>simp [JD,hn]
      | true =>
        rw [show JD β k (some s)=s.A (β k) by simp [JD,hn]]
        exact (hI.news k s (hall k hk) hs hn).2.2.1
  · refine hnd.imp_of_mem (R:=λa b=>a≠b) (λ{i j} hi hj hij x hx y hy=>?_)
    obtain ⟨s,hs,hn,hx⟩:=Fv hx
    obtain ⟨s',hs',hn',hy⟩:=Fv hy
    exact hI.apart i j s s' hij (hall i hi) (hall j hj) hs hs' hn hn' x hx y hy
  · obtain ⟨k,hk,hx⟩:=List.mem_flatMap.1 hx
    obtain ⟨s,hs,hn,hx⟩:=Fv hx
    exact (hI.news k s (hall k hk) hs hn).2.2.2 x hx y hy
def Th (specs:List Sp):Prop:=∀(j:Nat) (s:Sp),specs[j]?=some s->∀β β':Nat->Value,(∀k∈s.need,β k=β' k)->(s.isNew=true->β j=β' j)->s.v β=s.v β'
theorem IM.next {listed:Array Bool} {β:Nat->Value} {a:Act} {w w':World} (hf:Ti n l specs) (hdep:Th specs) (hF:∀j,j<specs.length->∀d,(l[j]?).bind (·.dst)=some d->F.lookup d=none)
    (hI:IM n l specs F w0 L listed β a w) {i d:Nat} {o:Oper} (hi:i<specs.length) (ho:l[i]?=some o) (hall:∀e∈o.after,Region.binds .any e=true->listed.getD e.on false=true) (hd:(l[i]?).bind (·.dst)=some d) (hun:listed.getD i true=false) (b:Value) (hb:GB w.heap.size w w')
    (hnew:∀s,specs[i]?=some s->s.isNew=true->s.C b/\LJ w w' (DQ specs β s.need++L) (s.A b)) :
    IM n l specs F w0 L (listed.setIfInBounds i true) (λk=>if k=i then b else β k) (a.put (some d) (Xx specs (λk=>if k=i then b else β k) i)) w':=by
  have hil:i<listed.size:=by rw [hI.size];exact Nat.lt_of_lt_of_le hi hf.len
  obtain ⟨d',hd',hdn,huniq⟩:=hf.dst i hi
  rw [hd] at hd';injection hd' with hd';subst hd'
  have hlt:∀{x:As},x∈L->∀{c:Nat},x.foot=some c->c<w.heap.size:=λhx _ hc=>hI.own.lt hx hc
  have hne:∀j,listed.getD j false=true->j≠i:=λj hj e=>by
    subst e
    simp [hil] at hj hun
    rw [hj] at hun;cases hun
  have old:∀j s,listed.getD j false=true->specs[j]?=some s->s.isNew=true->∀x∈s.A (β j),∀c,x.foot=some c->c<w.heap.size:=λj s hj hs hn x hx c hc=>by
    obtain ⟨_,o,ho,_⟩:=(hI.news j s hj hs hn).2.1 x hx c hc
    rcases Nat.lt_or_ge c w.heap.size with h|h
    · exact h
    · rw [Array.getElem?_eq_none h] at ho;cases ho
  have needed:∀s,specs[i]?=some s->∀k∈s.need,listed.getD k false=true:=λs hs k hk=>by
    rcases (hf.need i s o hs ho).2 k hk with h|⟨i',s',h1,h2,h3⟩
    · obtain ⟨e,he,hb,hon⟩:=BK h
      have:=hall e he hb
      rwa [hon] at this
    · obtain ⟨e,he,hb,hon⟩:=BK h1
      have h4:=hall e he hb
      rw [hon] at h4
      exact hI.need i' s' h4 h2 k h3
  -- the new one against what is told
  have vsL:∀s,specs[i]?=some s->s.isNew=true->∀x∈s.A b,∀y∈L,GE x y:=λs hs hn x hx y hy=>by
    cases hfx:x.foot with
    | none=>exact .inr λc e=>by rw [hfx] at e;cases e
    | some c =>
      rcases ((hnew s hs hn).2.1 x hx c hfx).2 with h|⟨hxr,y',hy',hyr,hyf⟩
      · exact .inr λc' e e2=>by rw [hfx] at e;injection e with e;subst e;exact absurd (hlt hy e2) Z
      · refine Hf hxr hyr hfx hyf ?_
        rcases List.mem_append.1 hy' with hy'|hy'
        · obtain ⟨k,hk,hy'⟩:=List.mem_flatMap.1 hy'
          obtain ⟨s',hs',hn',hy'⟩:=Fv hy'
          exact .inr ((hI.news k s' (needed s hs k hk) hs' hn').2.2.2 y' hy' y hy)
        · exact G9 hI.own.2.2 y' hy' y hy
  have vsN:∀s,specs[i]?=some s->s.isNew=true->∀j s',listed.getD j false=true->specs[j]?=some s'->s'.isNew=true->∀x∈s.A b,∀y∈s'.A (β j),GE x y:=λs hs hn j s' hj hs' hn' x hx y hy=>by
    cases hfx:x.foot with
    | none=>exact .inr λc e=>by rw [hfx] at e;cases e
    | some c =>
      rcases ((hnew s hs hn).2.1 x hx c hfx).2 with h|⟨hxr,y',hy',hyr,hyf⟩
      · exact .inr λc' e e2=>by rw [hfx] at e;injection e with e;subst e;exact absurd (old j s' hj hs' hn' y hy _ e2) Z
      · refine Hf hxr hyr hfx hyf ?_
        rcases List.mem_append.1 hy' with hy'|hy'
        · obtain ⟨k,hk,hy'⟩:=List.mem_flatMap.1 hy'
          obtain ⟨s2,hs2,hn2,hy'⟩:=Fv hy'
          by_cases hkj:k=j
          · subst hkj
            rw [hs'] at hs2;injection hs2 with hs2;subst hs2
            exact G9 (hI.news k s' hj hs' hn').2.2.1 y' hy' y hy
          · exact .inr (hI.apart k j s2 s' hkj (needed s hs k hk) hj hs2 hs' hn2 hn' y' hy' y hy)
        · exact .inr ((hI.news j s' hj hs' hn').2.2.2 y hy y' hy').symm
  refine ⟨by simpa using hI.size,λj h1 h2=>?_,?_,λj hj d2 hd2=>?_,hI.own.below hb,λj s hj hs hn=>?_,λj k s s' hjk hj hk hsj hsk hnj hnk=>?_,λj s hj hs k hk=>?_,λj oj hj hoj e he hb2=>?_⟩
  · rw [D5 _ _ _ _ hil,if_neg Z];exact hI.tail j h1 h2
  · refine ⟨hI.frm.1,by simpa [Act.put] using hI.frm.2.1,λk v hk=>?_⟩
    have hkd:k≠d:=λe=>by subst e;rw [hF i hi k hd] at hk;cases hk
    simp only [Act.put]
    rw [Array.getElem?_setIfInBounds_ne (Ne.symm hkd)]
    exact hI.frm.2.2 k v hk
  · rw [D5 _ _ _ _ hil] at hj
    by_cases e:i=j
    · subst e
      rw [hd] at hd2;injection hd2 with hd2;subst hd2
      simp [Act.put,hI.frm.2.1,hdn]
    · rw [if_neg e] at hj
      have hjm:j<specs.length:=by
        rcases Nat.lt_or_ge j specs.length with h|h
        · exact h
        · have hjl:j<l.length:=by
            rcases Nat.lt_or_ge j l.length with h'|h'
            · exact h'
            · rw [List.getElem?_eq_none h'] at hd2;cases hd2
          have:=hI.tail j h hjl
          have hsz:j<listed.size:=by rw [hI.size];exact hjl
          simp [hsz] at this hj
          rw [this] at hj;cases hj
      have hdd:d≠d2:=λe2=>huniq j hjm (Ne.symm e) (by rw [hd2,e2])
      simp only [Act.put]
      rw [Array.getElem?_setIfInBounds_ne hdd,hI.slots j hj d2 hd2]
      congr 1
      have hji:j≠i:=Ne.symm e
      unfold Xx
      cases hs:specs[j]? with
      | none=>rfl
      | some s =>
        refine hdep j s hs _ _ (λk hk=>?_) (λ_=>by simp [hji])
        have hki:k≠i:=hne k (hI.need j s hj hs k hk)
        simp [hki]
  · rw [D5 _ _ _ _ hil] at hj
    by_cases e:i=j
    · subst e
      obtain ⟨h1,h2⟩:=hnew s hs hn
      simp only [if_true]
      refine ⟨h1,λx hx c hc=>?_,h2.2,vsL s hs hn⟩
      obtain ⟨h3,h4⟩:=h2.1 x hx c hc
      refine ⟨?_,h3⟩
      rcases h4 with h4|h4
      · exact .inr (.inl (xK hI.own.size h4))
      · exact .inl h4.1
    · rw [if_neg e] at hj
      have hji:j≠i:=Ne.symm e
      simp only [hji,if_false]
      obtain ⟨h1,h2,h3,h4⟩:=hI.news j s hj hs hn
      refine ⟨h1,λx hx c hc=>?_,h3,h4⟩
      obtain ⟨h5,o',h6,h7⟩:=h2 x hx c hc
      exact ⟨h5,o',(hb.block _ (old j s hj hs hn x hx c hc)).trans h6,h7⟩
  · rw [D5 _ _ _ _ hil] at hj hk
    by_cases e:i=j
    · subst e
      have e2:¬i=k:=hjk
      have hki:k≠i:=Ne.symm e2
      rw [if_neg e2] at hk
      simp only [if_true,hki,if_false]
      exact vsN s hsj hnj k s' hk hsk hnk
    · rw [if_neg e] at hj
      have hji:j≠i:=Ne.symm e
      by_cases e2:i=k
      · subst e2
        simp only [if_true,hji,if_false]
        exact λx hx y hy=>(vsN s' hsk hnk j s hj hsj hnj y hy x hx).symm
      · rw [if_neg e2] at hk
        have hki:k≠i:=Ne.symm e2
        simp only [hji,hki,if_false]
        exact hI.apart j k s s' hjk hj hk hsj hsk hnj hnk
  · rw [D5 _ _ _ _ hil] at hj ⊢
    by_cases e2:i=k
    · rw [if_pos e2]
    · rw [if_neg e2]
      by_cases e:i=j
      · subst e
        rcases (hf.need i s o hs ho).2 k hk with h|⟨i',s',h1,h2,h3⟩
        · obtain ⟨e,he,hb,hon⟩:=BK h
          have:=hall e he hb
          rwa [hon] at this
        · obtain ⟨e,he,hb,hon⟩:=BK h1
          have h4:=hall e he hb
          rw [hon] at h4
          exact hI.need i' s' h4 h2 k h3
      · rw [if_neg e] at hj
        exact hI.need j s hj hs k hk
  · rw [D5 _ _ _ _ hil] at hj ⊢
    by_cases e2:i=e.on
    · rw [if_pos e2]
    · rw [if_neg e2]
      by_cases e3:i=j
      · subst e3
        rw [ho] at hoj;injection hoj with hoj;subst hoj
        exact hall e he hb2
      · rw [if_neg e3] at hj
        exact hI.preds j oj hj hoj e he hb2
theorem IM.reach {listed:Array Bool} {β:Nat->Value} {a:Act} {w:World} (hI:IM n l specs F w0 L listed β a w) {j:Nat}:∀(f i:Nat) (o:Oper),l[i]?=some o->(∀e∈o.after,Region.binds .any e=true->listed.getD e.on false=true)->Cn l f i j=true->listed.getD j false=true:=by
  intro f
  induction f with
  | zero=>intro i o _ _ h;simp [Cn] at h
  | succ f ih =>
    intro i o ho hall h
    unfold Cn at h
    rw [ho] at h
    simp only [xY] at h
    rcases h with h|h
    · obtain ⟨e,he,hb,hon⟩:=BK h
      have:=hall e he hb
      rwa [hon] at this
    · obtain ⟨k,hk,h2⟩:=List.any_eq_true.1 h
      simp only [xZ] at h2
      obtain ⟨e,he,hb,hon⟩:=BK h2.1
      have h3:=hall e he hb
      rw [hon] at h3
      have hkl:k<l.length:=List.mem_range.1 hk
      have hok:l[k]?=some l[k]:=xN hkl
      exact ih k _ hok (hI.preds k _ h3 hok) h2.2
theorem IM.needs {listed:Array Bool} {β:Nat->Value} {a:Act} {w:World} (hf:Ti n l specs) (hI:IM n l specs F w0 L listed β a w) {i:Nat} {o:Oper} {s:Sp} (ho:l[i]?=some o) (hs:specs[i]?=some s)
    (hall:∀e∈o.after,Region.binds .any e=true->listed.getD e.on false=true):A_ w0 w (DQ specs β s.need++L):=by
  refine hI.blocks _ (hf.need i s o hs ho).1 λk hk=>?_
  rcases (hf.need i s o hs ho).2 k hk with h|⟨i',s',h1,h2,h3⟩
  · obtain ⟨e,he,hb,hon⟩:=BK h
    have:=hall e he hb
    rwa [hon] at this
  · obtain ⟨e,he,hb,hon⟩:=BK h1
    have h4:=hall e he hb
    rw [hon] at h4
    exact hI.need i' s' h4 h2 k h3
theorem IM.conds {listed:Array Bool} {β:Nat->Value} {a:Act} {w:World} (hf:Ti n l specs) (hI:IM n l specs F w0 L listed β a w) {i:Nat} {o:Oper} {s:Sp} (ho:l[i]?=some o) (hs:specs[i]?=some s)
    (hall:∀e∈o.after,Region.binds .any e=true->listed.getD e.on false=true):Cs specs β s.need:=λk hk s' hs' hn'=>by
  refine (hI.news k s' ?_ hs' hn').1
  rcases (hf.need i s o hs ho).2 k hk with h|⟨i',s',h1,h2,h3⟩
  · obtain ⟨e,he,hb,hon⟩:=BK h
    have:=hall e he hb
    rwa [hon] at this
  · obtain ⟨e,he,hb,hon⟩:=BK h1
    have h4:=hall e he hb
    rw [hon] at h4
    exact hI.need i' s' h4 h2 k h3
def GN (P:Program) (ops:Array Oper) (Q:Exit->Act->World->Prop) (S:World->Prop):List Oper->Act->World->Prop
  | [],a,w=>Q .normal a w
  | o::rest,a,w=>if Region.wanted o (yielded ops a.tmps) then o.wp P a w (λa' w'=>S w'/\GN P ops Q S rest a' w') Q\/(o.asks P a w/\LetsOut Q) else S w/\GN P ops Q S rest (a.put o.dst undef) w
def Fd (P:Program) (ops:Array Oper) (rest:List Oper) (Q:Exit->Act->World->Prop) (n:Nat) (F:List (Nat×Value)) (w0:Ay) (Lro L:List As):Prop :=
  ∀a w,Cg n a F->A_ w0 w L->GN P ops Q (λw=>A_ w0 w Lro) rest a w
theorem Pj (hf:Ti n l specs):∀(k i:Nat) (listed:Array Bool) (a:Act) (w:World),specs.length<=i->i+k=l.length->listed.size=l.length ->
    (∀j,j<i->listed.getD j false=true)->(∀j,i<=j->j<l.length->listed.getD j true=false)->GN P l.toArray Q (λw=>A_ w0 w Lro) (l.drop i) a w->wpAnyH P .any l.toArray Q (λw=>A_ w0 w Lro) k listed a w:=by
  intro k
  induction k with
  | zero =>
    intro i listed a w hmi hik hsz hd hu h
    have hr:Region.ready .any l.toArray listed=[]:=by
      cases hrd:Region.ready .any l.toArray listed with
      | nil=>rfl
      | cons j r =>
        have hj:=(mem_ready (md:=.any) (ops:=l.toArray) (listed:=listed) (j:=j)).1 (by rw [hrd];exact List.mem_cons_self ..)
        obtain ⟨h0,o,ho,_⟩:=hj
        have hjl:j<l.length:=by
          have:=(Array.getElem?_eq_some_iff.1 ho).1
          simpa using this
        have:=hd j Z
        have hsz':j<listed.size:=by omega
        simp [hsz'] at h0 this
        rw [h0] at this;cases this
    rw [List.drop_eq_nil_of_le Z] at h
    exact ⟨hr,h⟩
  | succ k ih =>
    intro i listed a w hmi hik hsz hd hu h
    have hil:i<l.length:=by omega
    have hoi:l[i]?=some l[i]:=xN hil
    have hready:i∈Region.ready .any l.toArray listed:=mem_ready.2 ⟨hu i (Nat.le_refl _) hil,l[i],by simp [hil],λe he hb=>hd _ (hf.back i _ hoi e he hb)⟩
    have honly:∀j∈Region.ready .any l.toArray listed,j=i:=λj hj=>by
      obtain ⟨h0,o,ho,hall⟩:=mem_ready.1 hj
      have hjl:j<l.length:=by
        have:=(Array.getElem?_eq_some_iff.1 ho).1
        simpa using this
      have hji:i<=j:=by
        rcases Nat.lt_or_ge j i with h'|h'
        · have:=hd j h'
          have hsz':j<listed.size:=by omega
          simp [hsz'] at h0 this
          rw [h0] at this;cases this
        · exact h'
      rcases Nat.lt_or_ge i j with h'|h'
      · have ho':l[j]?=some o:=by simpa using ho
        obtain ⟨e,he,hb,hon⟩:=BK ((hf.late j o Z ho').2 Z)
        have h1:=hall e he hb
        rw [hon] at h1
        have h2:=hu (j-1) Z Z
        have hsz':j-1<listed.size:=by omega
        simp [hsz'] at h1 h2
        rw [h2] at h1;cases h1
      · omega
    refine ⟨λh0=>(by rw [h0] at hready;cases hready),λj hj=>?_⟩
    rw [honly j hj]
    unfold wpOp
    have hoi':l.toArray[i]?=some l[i]:=by simp [hil]
    simp only [hoi']
    rw [List.drop_eq_getElem_cons hil] at h
    unfold GN at h
    have go:∀a w,GN P l.toArray Q (λw=>A_ w0 w Lro) (l.drop (i+1)) a w->wpAnyH P .any l.toArray Q (λw=>A_ w0 w Lro) k (listed.setIfInBounds i true) a w:=λa w h=>by
      refine ih (i+1) _ a w Z Z (by simpa using hsz) (λj hj=>?_) (λj h1 h2=>?_) h
      · rw [D5 _ _ _ _ Z]
        by_cases e:i=j
        · rw [if_pos e]
        · rw [if_neg e];exact hd j Z
      · rw [D5 _ _ _ _ Z,if_neg Z];exact hu j Z h2
    split
    · rename_i hw
      rw [if_pos hw] at h
      exact h.imp (Oper.wp_mono λa w h=>⟨h.1,go a w h.2⟩) id
    · rename_i hw
      rw [if_neg hw] at h
      exact ⟨h.1,go _ _ h.2⟩
theorem IM.finish {listed:Array Bool} {β:Nat->Value} {a:Act} {w:World} (hI:IM n l specs F w0 L listed β a w) (hall:∀j,j<specs.length->listed.getD j false=true) :
    Cg n a (Yp l specs β++F)/\A_ w0 w (Uh specs β++L)/\Cs specs β (List.range specs.length):=by
  refine ⟨?_,?_,?_⟩
  · refine ⟨hI.frm.1,hI.frm.2.1,λk v hk=>?_⟩
    rcases Et hk with ⟨j,hj,e⟩|h
    · cases hd:(l[j]?).bind (·.dst) with
      | none=>simp [hd] at e
      | some d =>
        simp only [hd,Option.map_some,Option.some.injEq,Prod.mk.injEq] at e
        obtain ⟨rfl,rfl⟩:=e
        exact hI.slots _ (hall j hj) _ hd
    · exact hI.frm.2.2 k v h
  · exact hI.blocks _ List.nodup_range λk hk=>hall k (List.mem_range.1 hk)
  · exact λk hk s hs hn=>(hI.news k s (hall k (List.mem_range.1 hk)) hs hn).1
theorem Z7 (hf:Ti n l specs) (hro:Lro.Sublist L) (hdep:Th specs) (hF:∀j,j<specs.length->∀d,(l[j]?).bind (·.dst)=some d->F.lookup d=none)
    (hQ:∀c a d v w,Q (.panic c) (a.put d v) w->Q (.panic c) a w)
    (hA:∀(j:Nat) (o:Oper) (s:Sp),l[j]?=some o->specs[j]?=some s->Vc P n l specs F w0 Lro L o s)
    (hB:∀β,Cs specs β (List.range specs.length)->Fd P l.toArray (l.drop specs.length) Q n (Yp l specs β++F) w0 Lro (Uh specs β++L)) :
    ∀(k:Nat) (listed:Array Bool) (β:Nat->Value) (a:Act) (w:World),(listed.toList.countP λb=>!b)=k->IM n l specs F w0 L listed β a w->wpAnyH P .any l.toArray Q (λw=>A_ w0 w Lro) k listed a w:=by
  intro k
  induction k with
  | zero =>
    intro listed β a w hk hI
    have hall:∀j,j<l.length->listed.getD j false=true:=λj hj=>by
      have hsz:j<listed.size:=by rw [hI.size];exact hj
      have:=List.countP_eq_zero.1 hk listed[j] jX
      simpa [hsz] using this
    have hlen:l.length=specs.length:=by
      rcases Nat.lt_or_ge specs.length l.length with h|h
      · have h1:=hI.tail specs.length (Nat.le_refl _) h
        have h2:=hall specs.length h
        have hsz:specs.length<listed.size:=by rw [hI.size];exact h
        simp [hsz] at h1 h2
        rw [h1] at h2;cases h2
      · exact Nat.le_antisymm h hf.len
    obtain ⟨h1,h2,h5⟩:=hI.finish (λj hj=>hall j Z)
    exact Pj hf 0 specs.length listed a w (Nat.le_refl _) Z hI.size (λj hj=>hall j Z) (λj h3 h4=>by omega) (hB β h5 a w h1 h2)
  | succ k ih =>
    intro listed β a w hk hI
    have hcount:∀i,i<listed.size->listed.getD i true=false->((listed.setIfInBounds i true).toList.countP λb=>!b)=k:=λi hi hun=>by
      have h0:listed[i]=false:=by simpa [hi] using hun
      have hset:(listed.setIfInBounds i true).toList=listed.toList.set i true:=by simp
      rw [hset]
      have hsplit:listed.toList=listed.toList.take i++false::listed.toList.drop (i+1):=by
        have h1:=List.take_append_drop i listed.toList
        have h2:listed.toList.drop i=listed.toList[i]'(by simpa using hi)::listed.toList.drop (i+1):=List.drop_eq_getElem_cons (by simpa using hi)
        rw [h2] at h1
        have h3:listed.toList[i]'(by simpa using hi)=false:=by simpa using h0
        rw [h3] at h1
        exact h1.symm
      have hset2:listed.toList.set i true=listed.toList.take i++true::listed.toList.drop (i+1):=by
        rw [List.set_eq_take_append_cons_drop,if_pos (by simpa using hi)]
      rw [hset2]
      rw [hsplit] at hk
      simp only [List.countP_append,List.countP_cons] at hk ⊢
      simp at hk ⊢
      omega
    -- an operation of the first part that is no pure one,next
    have stepA:∀i∈Region.ready .any l.toArray listed,i<specs.length->wpOp P l.toArray Q i (λa' w'=>A_ w0 w' Lro/\wpAnyH P .any l.toArray Q (λw=>A_ w0 w Lro) k (listed.setIfInBounds i true) a' w') a w:=λi hi him=>by
      obtain ⟨hun,o,ho,hall⟩:=mem_ready.1 hi
      have ho':l[i]?=some o:=by simpa using ho
      have hil:i<listed.size:=by rw [hI.size];exact (List.getElem?_eq_some_iff.1 ho').1
      obtain ⟨d,hd,hdn,_⟩:=hf.dst i him
      have hod:o.dst=some d:=by simpa [ho'] using hd
      have hpre:=hI.pre hall
      have hs:specs[i]?=some specs[i]:=xN him
      have hvc:=hA i o _ ho' hs
      have hneeds:=hI.needs hf ho' hs hall
      have hcs:=hI.conds hf ho' hs hall
      have go:∀b v w',GB w.heap.size w w'->(∀s,specs[i]?=some s->s.isNew=true->s.C b/\LJ w w' (DQ specs β s.need++L) (s.A b))->v=Xx specs (λk=>if k=i then b else β k) i ->
          A_ w0 w' Lro/\wpAnyH P .any l.toArray Q (λw=>A_ w0 w Lro) k (listed.setIfInBounds i true) (a.put o.dst v) w':=λb v w' hb hn hv=>by
        subst hv
        rw [hod]
        refine ⟨(hI.own.below hb).weak hro,?_⟩
        exact ih _ _ _ _ (hcount i hil hun) (hI.next hf hdep hF him ho' hall hd hun b hb hn)
      have same:∀b,(specs[i]).isNew=false->(specs[i]).v β=Xx specs (λk=>if k=i then b else β k) i:=λb hn=>by
        unfold Xx
        rw [hs]
        refine hdep i _ hs _ _ (λk hk=>?_) (λh=>by rw [hn] at h;cases h)
        have hki:k≠i:=λe=>by
          subst e
          rcases (hf.need k _ o hs ho').2 k hk with h|⟨i',s',h1,h2,h3⟩
          · obtain ⟨e,he,hb,hon⟩:=BK h
            have:=hall e he hb
            rw [hon] at this
            simp [hil] at this hun
            rw [this] at hun;cases hun
          · obtain ⟨e,he,hb,hon⟩:=BK h1
            have h4:=hall e he hb
            rw [hon] at h4
            have:=hI.need i' s' h4 h2 k h3
            simp [hil] at this hun
            rw [this] at hun;cases hun
        simp [hki]
      unfold wpOp
      simp only [ho]
      generalize hsp:specs[i]=sp at hs hvc hneeds hcs same
      unfold Vc at hvc
      cases hkd:sp.kind with
      | pure =>
        have hn:sp.isNew=false:=by simp [Sp.isNew,hkd]
        simp only [hkd] at hvc
        rcases hvc β a hpre hcs with ⟨h1,h2⟩|⟨h1,h2⟩
        · rw [if_pos h1]
          left
          unfold Oper.wp
          rw [h2 w,Oper.upon_value]
          exact go undef _ w (GB.refl _ _) (λs h h'=>by rw [hs] at h;injection h with h;subst h;rw [hn] at h';cases h') (same undef hn)
        · rw [if_neg (by rw [h1];simp),<-h2]
          exact go undef _ w (GB.refl _ _) (λs h h'=>by rw [hs] at h;injection h with h;subst h;rw [hn] at h';cases h') (same undef hn)
      | held =>
        have hn:sp.isNew=false:=by simp [Sp.isNew,hkd]
        simp only [hkd] at hvc
        obtain ⟨h1,h2⟩:=hvc β a hpre hcs
        rw [if_pos h1]
        left
        unfold Oper.wp
        rw [h2 w (hI.own.weak hro),Oper.upon_value]
        exact go undef _ w (GB.refl _ _) (λs h h'=>by rw [hs] at h;injection h with h;subst h;rw [hn] at h';cases h') (same undef hn)
      | look =>
        have hn:sp.isNew=false:=by simp [Sp.isNew,hkd]
        simp only [hkd] at hvc
        obtain ⟨h1,h2⟩:=hvc β a w hpre hcs hneeds
        rw [if_pos h1]
        left
        unfold Oper.wp
        rw [h2,Oper.upon_value]
        exact go undef _ w (GB.refl _ _) (λs h h'=>by rw [hs] at h;injection h with h;subst h;rw [hn] at h';cases h') (same undef hn)
      | call =>
        have hn:sp.isNew=false:=by simp [Sp.isNew,hkd]
        simp only [hkd] at hvc
        obtain ⟨h1,f,args,h2,h3⟩:=hvc β a w hpre hcs hneeds
        rw [if_pos h1]
        left
        unfold Oper.wp
        rw [h2,Oper.upon_enter]
        refine h3.mono ?_
        rintro e w' ⟨rfl,hb⟩
        exact go undef _ w' hb (λs h h'=>by rw [hs] at h;injection h with h;subst h;rw [hn] at h';cases h') (same undef hn)
      | new =>
        simp only [hkd] at hvc
        obtain ⟨h1,V,hV,h2⟩:=hvc β a w hpre hcs hneeds
        rw [if_pos h1]
        left
        unfold Oper.wp
        have fin:∀v w',V v=v->GB w.heap.size w w'->sp.C v->LJ w w' (DQ specs β sp.need++L) (sp.A v)->A_ w0 w' Lro/\wpAnyH P .any l.toArray Q (λw=>A_ w0 w Lro) k (listed.setIfInBounds i true) (a.put o.dst v) w':=λv w' hv h3 h4 h5=>by
          refine go v _ _ h3 (λs h _=>?_) ?_
          · rw [hs] at h;injection h with h;subst h
            exact ⟨h4,h5⟩
          · unfold Xx
            rw [hs]
            simp only [hV i hs ho',if_true]
            exact hv.symm
        rcases h2 with ⟨v,w',h2,hv,h3,h4,h5⟩|⟨f,args,h2,h3⟩
        · rw [h2,Oper.upon_value]
          exact fin v w' hv h3 h4 h5
        · rw [h2,Oper.upon_enter]
          refine h3.mono ?_
          rintro e w' ⟨v,rfl,hv,h3,h4,h5⟩
          exact fin v w' hv h3 h4 h5
    by_cases hp:∃i∈Region.ready .any l.toArray listed,∃s,specs[i]?=some s/\s.isPure=true
    · obtain ⟨i,hi,s,hs,hps⟩:=hp
      obtain ⟨hun,o,ho,hall⟩:=mem_ready.1 hi
      have ho':l[i]?=some o:=by simpa using ho
      have him:i<specs.length:=(List.getElem?_eq_some_iff.1 hs).1
      have hil:i<listed.size:=by rw [hI.size];exact (List.getElem?_eq_some_iff.1 ho').1
      obtain ⟨d,hd,hdn,_⟩:=hf.dst i him
      have hod:o.dst=some d:=by simpa [ho'] using hd
      have hpre:=hI.pre hall
      have hn:s.isNew=false:=by cases h:s.kind<;>simp [Sp.isPure,Sp.isNew,h] at hps ⊢
      have hvc:=hA i o _ ho' hs
      unfold Vc at hvc
      have hy:YieldsIf P l.toArray (λw=>A_ w0 w Lro) o (s.v β) a:=by
        cases hkd:s.kind<;>simp [Sp.isPure,hkd] at hps
        · simp only [hkd] at hvc
          rcases hvc β a hpre (hI.conds hf ho' hs hall) with ⟨h1,h2⟩|⟨h1,h2⟩
          · exact .inl ⟨h1,λw _=>h2 w⟩
          · exact .inr ⟨h1,h2⟩
        · simp only [hkd] at hvc
          obtain ⟨h1,h2⟩:=hvc β a hpre (hI.conds hf ho' hs hall)
          exact .inl ⟨h1,h2⟩
      refine wpAnyH_first (by simpa using ho) (Region.noSelect_spec hf.sel) (λc a w=>hQ c a _ _ w) k listed a w (λj oj hj hji hju hno=>?_) hi hy (hI.own.weak hro) ?_
      · have hj':l[j]?=some oj:=by simpa using hj
        rcases hf.free i _ o hs hps ho' j oj hj' hji with h|h|h
        · obtain ⟨e,he,hb,hon⟩:=BK h
          have h1:=hall e he hb
          rw [hon] at h1
          have hjl:j<listed.size:=by rw [hI.size];exact (List.getElem?_eq_some_iff.1 hj').1
          simp [hjl] at h1 hju
          rw [h1] at hju;cases hju
        · obtain ⟨e,he,hb,hon⟩:=BK h
          exact absurd hon (hno e he hb)
        · exact h
      · have hv:s.v β=Xx specs (λk=>if k=i then undef else β k) i:=by
          unfold Xx
          rw [hs]
          refine hdep i _ hs _ _ (λk hk=>?_) (λh=>by rw [hn] at h;cases h)
          have hki:k≠i:=λe=>by
            subst e
            rcases (hf.need k _ o hs ho').2 k hk with h|⟨i',s',h1,h2,h3⟩
            · obtain ⟨e,he,hb,hon⟩:=BK h
              have:=hall e he hb
              rw [hon] at this
              simp [hil] at this hun
              rw [this] at hun;cases hun
            · obtain ⟨e,he,hb,hon⟩:=BK h1
              have h4:=hall e he hb
              rw [hon] at h4
              have:=hI.need i' s' h4 h2 k h3
              simp [hil] at this hun
              rw [this] at hun;cases hun
          simp [hki]
        rw [hod,hv]
        exact ih _ _ _ _ (hcount i hil hun) (hI.next hf hdep hF him ho' hall hd hun undef (GB.refl _ _) (λs2 h h'=>by rw [hs] at h;injection h with h;subst h;rw [hn] at h';cases h'))
    · by_cases hB':∃i∈Region.ready .any l.toArray listed,specs.length<=i
      · -- the first part is done
        obtain ⟨i,hi,him⟩:=hB'
        obtain ⟨hun,o,ho,hall⟩:=mem_ready.1 hi
        have ho':l[i]?=some o:=by simpa using ho
        have hdone:∀j,j<specs.length->listed.getD j false=true:=by
          intro j
          induction j using Nat.strongRecOn with
          | _ j ihj =>
            intro hj
            have hs:specs[j]?=some specs[j]:=xN hj
            cases hps:specs[j].isPure with
            | false =>
              exact hI.reach 3 i o ho' hall ((hf.late i o him ho').1 j _ hs hps)
            | true =>
              have hjl:j<l.length:=Nat.lt_of_lt_of_le hj hf.len
              have hjsz:j<listed.size:=by rw [hI.size];exact hjl
              cases hv:listed.getD j false with
              | true=>rfl
              | false =>
                exfalso
                refine hp ⟨j,mem_ready.2 ⟨?_,l[j],by simp [hjl],λe he hb=>?_⟩,_,hs,hps⟩
                · simp [hjsz] at hv ⊢;exact hv
                · have hlt:=hf.back j _ (xN hjl) e he hb
                  exact ihj _ hlt Z
        obtain ⟨h1,h2,h5⟩:=hI.finish hdone
        have hk2:k+1=l.length-specs.length:=by
          have hlist:listed.toList=List.replicate specs.length true++List.replicate (l.length-specs.length) false:=by
            apply List.ext_getElem
            · simp [hI.size];have:=hf.len;omega
            · intro j hj1 hj2
              have hj1':j<listed.size:=by simpa using hj1
              by_cases hjm:j<specs.length
              · have:=hdone j hjm
                rw [List.getElem_append_left (by simpa using hjm)]
                simpa [hj1'] using this
              · have:=hI.tail j Z (by rw [<-hI.size];exact hj1')
                rw [List.getElem_append_right (by simpa using hjm)]
                simpa [hj1'] using this
          rw [hlist] at hk
          simp [List.countP_append,List.countP_replicate] at hk
          exact hk.symm
        rw [hk2]
        exact Pj hf _ specs.length listed a w (Nat.le_refl _) (by have:=hf.len;omega) hI.size hdone hI.tail (hB β h5 a w h1 h2)
      · -- no operation of the last part,no pure one
        refine ⟨λh0=>?_,λi hi=>stepA i hi (by
          rcases Nat.lt_or_ge i specs.length with h|h
          · exact h
          · exact absurd ⟨i,hi,h⟩ hB')⟩
        -- something is ready as long as something is left
        exfalso
        have hex:∃j,j<l.length/\listed.getD j true=false/\∀j',j'<j->listed.getD j' false=true:=by
          have hsome:∃j,j<l.length/\listed.getD j true=false:=by
            obtain ⟨b,hb,hb2⟩:=List.countP_pos_iff.1 (show 0<listed.toList.countP (λb=>!b) by omega)
            obtain ⟨j,hj,rfl⟩:=List.getElem_of_mem hb
            have hj':j<listed.size:=by simpa using hj
            exact ⟨j,by rw [<-hI.size];exact hj',by simpa [hj'] using hb2⟩
          obtain ⟨j,hj,hu⟩:=hsome
          induction j using Nat.strongRecOn with
          | _ j ihj =>
            by_cases hx:∃j',j'<j/\listed.getD j' true=false
            · obtain ⟨j',h1,h2⟩:=hx
              exact ihj j' h1 Z h2
            · refine ⟨j,hj,hu,λj' hj'=>?_⟩
              have hsz:j'<listed.size:=by rw [hI.size];omega
              cases hv:listed.getD j' false with
              | true=>rfl
              | false=>exact absurd ⟨j',hj',by simp [hsz] at hv ⊢;exact hv⟩ hx
        obtain ⟨j,hj,hu,hlow⟩:=hex
        have:j∈Region.ready .any l.toArray listed:=mem_ready.2 ⟨hu,l[j],by simp [hj],λe he hb=>hlow _ (hf.back j _ (xN hj) e he hb)⟩
        rw [h0] at this
        cases this
theorem OkC.drawn {id:Nat} (hro:Lro.Sublist L) (hdep:Th specs) (hm:P.follows .mixedOrders=true) (hc:V2 n l specs=true)
    (hF:((List.range specs.length).all λj=>match (l[j]?).bind (·.dst) with|some d=>(F.lookup d).isNone|none=>false)=true)
    (hQ:∀c a d v w,Q (.panic c) (a.put d v) w->Q (.panic c) a w)
    (hA:∀(j:Nat) (o:Oper) (s:Sp),l[j]?=some o->specs[j]?=some s->Vc P n l specs F w0 Lro L o s)
    (hB:∀β,Cs specs β (List.range specs.length)->Fd P l.toArray (l.drop specs.length) Q n (Yp l specs β++F) w0 Lro (Uh specs β++L)):OkC P (.region id l.toArray true) Q n F w0 L:=λa w ha hw=>by
  have hf:=ZN hc
  refine wp_region_held (S:=λw=>A_ w0 w Lro) hm ?_
  have hsize:(l.toArray).size=l.length:=by simp
  have hz:∀j,(Array.replicate l.length false).getD j false=false:=λj=>by
    by_cases h:j<l.length<;>simp [h]
  have hk:((Array.replicate (l.toArray).size false).toList.countP λb=>!b)=(l.toArray).size:=by simp [List.countP_replicate]
  refine Z7 hf hro hdep (λj hj d hd=>?_) hQ hA hB _ _ (λ_=>undef) a w.drew hk ⟨by simp,λi _ hi=>by simp [hi],ha,λj hj=>?_,hw.drew,λj s hj=>?_,λi j s s' _ hi=>?_,λj s hj=>?_,λj o hj=>?_⟩
  · have:=List.all_eq_true.1 hF j (List.mem_range.2 hj)
    simp only [hd] at this
    simpa using this
  · rw [hsize,hz] at hj;cases hj
  · rw [hsize,hz] at hj;cases hj
  · rw [hsize,hz] at hi;cases hi
  · rw [hsize,hz] at hj;cases hj
  · rw [hsize,hz] at hj;cases hj
@[reducible] def ep:Value->List As:=λ_=>[]
@[reducible] def eu:Value->Prop:=λ_=>True
theorem bD {o:Oper} {v:(Nat->Value)->Value} {ks:List Nat} {G:(Nat->Value)->List (Nat×Value)} (hG:∀β,CK (G β) (MK l specs β o++F)) (hw:∀β,Wt l.toArray n (G β) o) (h:∀β w0,Ex P n (G β) w0 [] o (v β)):Vc P n l specs F w0 Lro L o ⟨.pure,v,ks,ep,eu⟩ :=
  λβ a ha _=>.inl ⟨hw β a (ha.sub (hG β)),λw=>h β ⟨w,none⟩ a w (ha.sub (hG β)) (A_.start w)⟩
theorem bC {o:Oper} {v:(Nat->Value)->Value} {ks:List Nat} {G:(Nat->Value)->List (Nat×Value)} (hG:∀β,CK (G β) (MK l specs β o++F)) (hw:∀β,Wt l.toArray n (G β) o) (h:∀β,Ex P n (G β) w0 (DQ specs β ks++L) o (v β)):Vc P n l specs F w0 Lro L o ⟨.look,v,ks,ep,eu⟩ :=
  λβ a w ha _ hW=>⟨hw β a (ha.sub (hG β)),h β a w (ha.sub (hG β)) hW⟩
def IX:Nat->List Sp->Prop
  | _,[]=>True
  | j,s::ss=>(∀β β':Nat->Value,(∀k∈s.need,β k=β' k)->(s.isNew=true->β j=β' j)->s.v β=s.v β')/\IX (j+1) ss
theorem Sk:∀(ss:List Sp) (i:Nat),IX i ss->∀(j:Nat) (s:Sp),ss[j]?=some s->∀β β':Nat->Value,(∀k∈s.need,β k=β' k)->(s.isNew=true->β (i+j)=β' (i+j))->s.v β=s.v β'
  | [],_,_,j,s,hs=>by simp at hs
  | a::ss,i,h,0,s,hs=>by
    simp only [List.getElem?_cons_zero,Option.some.injEq] at hs
    subst hs
    exact h.1
  | a::ss,i,h,j+1,s,hs=>by
    have:=Sk ss (i+1) h.2 j s (by simpa using hs)
    rwa [show i+1+j=i+(j+1) from by omega] at this
theorem Th.of (h:IX 0 specs):Th specs:=λj s hs β β' h1 h2=>Sk specs 0 h j s hs β β' h1 (by simpa using h2)
def KE (P:Program) (n:Nat) (l:List Oper) (specs:List Sp) (F:List (Nat×Value)) (w0:Ay) (Lro L:List As):List Oper->List Sp->Prop
  | o::os,s::ss=>Vc P n l specs F w0 Lro L o s/\KE P n l specs F w0 Lro L os ss
  | _,_=>True
theorem YI:∀(os:List Oper) (ss:List Sp),KE P n l specs F w0 Lro L os ss->∀(j:Nat) (o:Oper) (s:Sp),os[j]?=some o->ss[j]?=some s->Vc P n l specs F w0 Lro L o s
  | [],_,_,j,o,s,ho,_=>by simp at ho
  | _::_,[],_,j,o,s,_,hs=>by simp at hs
  | a::os,b::ss,h,0,o,s,ho,hs=>by
    simp only [List.getElem?_cons_zero,Option.some.injEq] at ho hs
    subst ho;subst hs;exact h.1
  | a::os,b::ss,h,j+1,o,s,ho,hs=>YI os ss h.2 j o s (by simpa using ho) (by simpa using hs)
end
section
variable {P:Program} {ops:Array Oper} {rest:List Oper} {Q:Exit->Act->World->Prop} {n:Nat} {F F':List (Nat×Value)} {w0:Ay} {Lro L L':List As} {o:Oper} {v:Value}
theorem Fd.nil (h:OkQ Q .normal n F w0 L):Fd P ops [] Q n F w0 Lro L:=λa w ha hw=>h a w ha hw
theorem Fd.sub (hs:CK F' F) (hl:L'.Sublist L) (h:Fd P ops rest Q n F' w0 Lro L'):Fd P ops rest Q n F w0 Lro L:=λa w ha hw=>h a w (ha.sub hs) (hw.weak hl)
theorem Fd.step {d:Nat} (hro:Lro.Sublist L) (hw:Wt ops n F o) (he:Ex P n F w0 L o v) (ho:o.dst=some d) (hd:d<n) (next:Fd P ops rest Q n ((d,v)::F) w0 Lro L):Fd P ops (o::rest) Q n F w0 Lro L:=λa w ha hW=>by
  unfold GN
  rw [if_pos (hw a ha)]
  left
  unfold Oper.wp
  rw [he a w ha hW,Oper.upon_value,ho]
  exact ⟨hW.weak hro,next _ _ (ha.put hd) hW⟩
theorem Fd.store {i b:Nat} {T:TypeId} {cs cs':List Value} (hro:Lro.Sublist (L.set i (AO b T cs'))) (hw:Wt ops n F o)
    (he:∀a w,Cg n a F->A_ w0 w L->(execOp a.eval o).run P w=.ok .skip (w.setRow b cs'.toArray))
    (ho:o.dst=none) (hi:L[i]?=some (AO b T cs)) (next:Fd P ops rest Q n F w0 Lro (L.set i (AO b T cs'))):Fd P ops (o::rest) Q n F w0 Lro L:=λa w ha hW=>by
  unfold GN
  rw [if_pos (hw a ha)]
  left
  unfold Oper.wp
  rw [he a w ha hW,Oper.upon_skip,ho]
  have hg:=hW.get hi
  have hW2:A_ w0 (w.setRow b cs'.toArray) (L.set i (AO b T cs')):=hW.turn hi rfl rfl ⟨⟨rfl,rfl,rfl,by simp,λk _ hk=>setRow_other w b k _ (λe=>hk (by simp [e]))⟩,Nat.le_refl _⟩ ⟨_,setRow_heap w b cs.toArray _ T _ hg,rfl⟩
  exact ⟨hW2.weak hro,next _ _ ha.put_none hW2⟩
theorem y1 {v:Value} {x y:Operand} {d:Option Tmp} {t:TypeId} {p:String} {af:Array Edge} {g:Option (Nat×Bool)}
    {i b off:Nat} {ty T:TypeId} {cs vs cs':List Value} (hro:Lro.Sublist L') (hw:Wt ops n F ⟨d,.store ty x y,t,p,af,g⟩) (ho:d=none) (hx:evF F x=some (.pointer (some ⟨b,off,none⟩))) (hy:evF F y=some v) (hi:L[i]?=some (AO b T cs))
    (hv:v.cells=vs.toArray) (hs:∀w,(sizeOf ty).run P w=.ok vs.length w) (h1:(vs.all λu=>u.oneCell')=true) (hl:Nat.ble (off+vs.length) cs.length=true)
    (hc:I7 cs off vs=cs') (hL:L.set i (AO b T cs')=L') (next:Fd P ops rest Q n F w0 Lro L'):Fd P ops (⟨d,.store ty x y,t,p,af,g⟩::rest) Q n F w0 Lro L:=by
  subst hc;subst hL
  exact Fd.store hro hw (QH hx hy hi hv hs h1 hl) ho hi next
end
end
end Go.Proofs.YtcpkbjjmcleplaaGreatDoor
