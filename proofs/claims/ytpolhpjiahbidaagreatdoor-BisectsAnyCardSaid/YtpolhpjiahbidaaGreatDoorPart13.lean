import Derived.Lib.SliceRun
import Derived.WideKeyEntry
import Derived.Test.YtpolhpjiahbidaaGreatDoorPart12
namespace Go.Proofs.YtpolhpjiahbidaaGreatDoor
open Go Go.RowKit Go.Proofs.Tryz
open Go.Value renaming slice→qw,bool→qa
set_option linter.unusedVariables false
set_option linter.unusedSimpArgs false
section
def V2 (S:Nat->Prop) (W w:World) (G:List As):Prop :=
  (∀x∈G,∀b,x.foot=some b->(W.heap.size<=b\/(x.ro=true/\S b))/\∃o,w.heap[b]?=some o/\x.P o)/\G.Pairwise λx y=>(x.ro=true/\y.ro=true)\/∀b,x.foot=some b->y.foot≠some b
def CS {α:Type} (V:α->Value) (LW:α->List As) (S:Nat->Prop) (W:World) (e:Ending) (w:World):Prop:=∃a:α,e=.returned (V a)/\Gx W.heap.size W w/\V2 S W w (LW a)
def GL (w0:BC) (S:Nat->Prop) (G:List As):Prop:=∀y∈G,y.ro=true->∀b,y.foot=some b->Nw w0 S b
section
variable {w0:BC} {S:Nat->Prop} {w w' W:World} {L G:List As}
theorem Own.give (h:Own w0 w L) (hb:Gx w.heap.size w w') (hg:V2 (SL w0 S L) w w' G):Own w0 w' (G++L):=by
  have h1:=h.below hb
  refine ⟨h1.1,λy hy b e=>?_,List.pairwise_append.2 ⟨hg.2,h1.2.2,λx hx y hy=>?_⟩⟩
  · rcases List.mem_append.1 hy with hy|hy
    · obtain ⟨h2,h3⟩:=hg.1 y hy b e
      refine ⟨?_,h3⟩
      rcases h2 with h2|⟨h2,_⟩
      · exact .inr (.inl (xK h.size h2))
      · exact .inl h2
    · exact h1.2.1 y hy b e
  · by_cases hr:x.ro=true/\y.ro=true
    · exact .inl hr
    · refine .inr λb e e2=>?_
      rcases (hg.1 x hx b e).1 with h2|⟨h2,⟨z,hz,hzr,hzf⟩,_⟩
      · exact absurd (h.lt hy e2) Z
      · have hyr:¬y.ro=true:=λk=>hr ⟨h2,k⟩
        obtain ⟨i,hi,rfl⟩:=List.getElem_of_mem hz
        obtain ⟨j,hj,rfl⟩:=List.getElem_of_mem hy
        have hp:=List.pairwise_iff_getElem.1 h.2.2
        rcases Nat.lt_trichotomy i j with hij|hij|hij
        · exact (hp i j hi hj hij).elim (λk=>hyr k.2) (λk=>k b hzf e2)
        · subst hij;exact hyr hzr
        · exact (hp j i hj hi hij).elim (λk=>hyr k.1) (λk=>k b e2 hzf)
theorem Own.gives (h:Own ⟨W,none⟩ w L) (hs:G.Sublist L) (hS:GL ⟨W,none⟩ S G):V2 S W w G:=by
  refine ⟨λx hx b e=>?_,h.2.2.sublist hs⟩
  obtain ⟨h1,h2⟩:=h.2.1 x (hs.subset hx) b e
  refine ⟨?_,h2⟩
  by_cases hr:x.ro=true
  · rcases hS x hx hr b e with h3|h3
    · exact .inl h3
    · exact .inr ⟨hr,h3⟩
  · rcases h1 with h1|h1|h1
    · exact absurd h1 hr
    · exact .inl h1
    · cases h1
theorem J6 {α:Type} {V:α->Value} {LW:α->List As} (hw:Own ⟨W,none⟩ w L) (a:α) (hs:(LW a).Sublist L) (hS:GL ⟨W,none⟩ S (LW a)) {v:Value} (hv:v=V a):CS V LW S W (.returned v) w:=⟨a,by rw [hv],hw.out,hw.gives hs hS⟩
theorem GL.nil:GL w0 S []:=λy hy=>by cases hy
theorem GL.own {x:As} (hx:x.ro=false) (h:GL w0 S G):GL w0 S (x::G):=λy hy hr b e=>by
  rcases xL.1 hy with rfl|hy
  · rw [hx] at hr;cases hr
  · exact h y hy hr b e
theorem GL.row {α:Type} [C8 α] {a:α} {x:As} (ha:At w0 S a) (hx:C8.rows a=[x]) (h:GL w0 S G):GL w0 S (x::G):=λy hy hr b e=>by
  rcases xL.1 hy with rfl|hy
  · exact ha y (by rw [hx];exact List.mem_cons_self) b e
  · exact h y hy hr b e
end
section
variable {P:Program} {ops:Array Oper} {rest:List Oper} {Q:Exit->Act->World->Prop} {n d:Nat} {F:List (Nat×Value)} {w0:BC} {S:Nat->Prop} {L:List As} {t:TypeId} {p:String} {af:Array Edge} {y:Operand} {f:FuncId} {xs:List Operand} {args:List Value} {ts:Array TypeId} {α:Type} {V:α->Value} {LW:α->List As}
theorem yH (hc:∀args w,(callFunc f args).run P w=.ok (.enter f args) w) (h:∀w,Own w0 w L->Calls P f args.toArray w (CS V LW (SL w0 S L) w))
    (h2:(evF F y,xs.map (evF F),Nat.ble (d+1) n)=(some (.func (.func f) #[] #[]),args.map some,true)) (next:∀a:α,GL w0 S (LW a)->AL P ops rest Q n ((d,V a)::F) w0 (LW a++L)) :
    AL P ops (⟨some d,.call { callee:=.value y,args:=xs.toArray,argTypes:=ts },t,p,af,none⟩::rest) Q n F w0 L:=λa w ha hW=>by
  unfold wpList
  rw [if_pos (AJ rfl a ha)]
  left
  unfold Oper.wp
  rw [Aw (Co h2) (Co (BR h2)) hc a w ha hW,Oper.upon_enter]
  refine (h w hW).mono ?_
  rintro e w' ⟨x,rfl,hb,hg⟩
  refine next x (λz hz hr b e=>?_) _ _ (ha.put (B5 (BR (BR h2)))) (hW.give hb hg)
  rcases (hg.1 z hz b e).1 with h3|⟨_,h3⟩
  · exact .inl (xK hW.size h3)
  · exact h3.2
end
structure OX (T z:Nat) (cs:List Value) (n:Nat) where
  p:Option Addr
  c:Nat
  ok:OwnOk p n c
@[reducible] def MO {T z:Nat} {cs:List Value} {n:Nat} (a:OX T z cs n):Value:=.slice a.p n a.c
@[reducible] def Oy {T z:Nat} {cs:List Value} {n:Nat} (a:OX T z cs n):List As:=[rowW a.p T z n a.c cs]
@[reducible] def Qu {T z:Nat} {cs:List Value} {n:Nat} (a:OX T z cs n):Value:=.slice a.p n n
theorem OwnOk.clip {p:Option Addr} {n c:Nat} (h:OwnOk p n c):An p n n:=⟨λe=>⟨(h.nil e).1,(h.nil e).1⟩,λa e=>by rw [h.at0 a e],Nat.le_refl _⟩
theorem X5 (p:Pt):((BB p).all λu=>u.oneCell')=true:=rfl
theorem Cu {α:Type} {enc:α->List Value} (h:∀x,((enc x).all λu=>u.oneCell')=true):∀xs:List α,((rowsL enc xs).all λu=>u.oneCell')=true
  | []=>rfl
  | x::r=>by
    have e:rowsL enc (x::r)=enc x++rowsL enc r:=rfl
    rw [e,List.all_append,h x,Cu h r];rfl
theorem Ui {A B vs:List Value} {r:Nat} (h:r+vs.length<=A.length):Gu (A++B) r vs=Gu A r vs++B:=by
  unfold Gu
  rw [List.take_append_of_le_length Z,List.drop_append_of_le_length h,<-xw]
theorem Tn {A B vs:List Value} {o:Nat}:Gu (A++B) (A.length+o) vs=A++Gu B o vs:=by
  unfold Gu
  rw [List.take_append,List.take_of_length_le Z,Nat.add_sub_cancel_left,List.drop_append,List.drop_of_length_le Z,show A.length+o+vs.length-A.length=o+vs.length by omega]
  simp
theorem NT {α:Type} {enc:α->List Value} {z:Nat} (hl:∀x,(enc x).length=z) (d:α) {r:Nat} {vs:List Value} {x':α}:∀{xs:List α} {j:Nat},j<xs.length->r+vs.length<=z->Gu (enc (xs.getD j d)) r vs=enc x'->Gu (rowsL enc xs) (j*z+r) vs=rowsL enc (xs.set j x')
  | x::q,0,_,h2,h3=>by
    have e:∀y,rowsL enc (y::q)=enc y++rowsL enc q:=λ_=>rfl
    rw [Nat.zero_mul,Nat.zero_add,List.set_cons_zero,e,e,Ui (by rw [hl];exact h2)]
    exact congrArg (·++rowsL enc q) h3
  | x::q,j+1,h1,h2,h3=>by
    have e:∀y l,rowsL enc (y::l)=enc y++rowsL enc l:=λ_ _=>rfl
    rw [List.set_cons_succ,e,e,show (j+1)*z+r=(enc x).length+(j*z+r) by rw [hl,Nat.add_mul];omega,Tn,NT hl d (by simpa using h1) h2 (by simpa using h3)]
section
variable {P:Program} {ops:Array Oper} {rest:List Oper} {Q:Exit->Act->World->Prop} {n d:Nat} {F:List (Nat×Value)} {w0:BC} {S:Nat->Prop} {L L':List As} {t ty T:TypeId} {p:String} {af:Array Edge} {x y:Operand} {dd:Option Tmp} {g:Option (Nat×Bool)} {q:Option Addr} {z m c:Nat} {cs vs:List Value} {v:Value}
theorem IL {tx ye e:TypeId} (hx:evF F x=some (.slice q m c)) (hy:evF F y=some (.slice none 0 0)) (hu:P.underlying tx=some (.slice e)):Ex P n F w0 L ⟨dd,.binOp .eql tx x y ye,t,p,af,g⟩ (.bool q.isNone):=λA w ha _=>by
  have h1:(eqGuard .eql tx x y (.slice q m c) (.slice none 0 0)).run P w=.ok () w:=rfl
  simp only [execOp,ha.ev hx,ha.ev hy,Sem.run_bind,h1,Result.andThen_ok,Lib.run_eql_slice_nil w tx e q m c 0 0 hu,Sem.run_pure]
theorem zy {s:Operand} {bytes c2:Nat} {q2:Option Addr} {news:List Value} (ht:ElemT P t T z bytes) (hs:evF F s=some (.slice q 0 c)) (ho:OwnOk q 0 c)
    (hx:evF F x=some (.slice q2 m c2)) (hsrc:bS w0 (rowW q T z 0 c []::L) q2 m news) (hnl:news.length=m*z) (h1:(news.all λu=>u.oneCell')=true) (h63:m<=maxLen) (hbytes:m*bytes<=140737488355328) (hd:Nat.ble (d+1) n=true)
    (next:∀p' c',OwnOk p' m c'->AL P ops rest Q n ((d,.slice p' m c')::F) w0 (rowW p' T z m c' news::L)) :
    AL P ops (⟨some d,.call { callee:=.builtin .append,args:=#[s,x],argTypes:=#[t,t] },ty,p,af,none⟩::rest) Q n F w0 (rowW q T z 0 c []::L):=by
  refine yl (cs2:=news) ht hs ho jX hx hsrc hnl h1 (by rw [Nat.zero_add];exact h63) (by rw [Nat.zero_add];exact hbytes) O hd λp' c' h=>?_
  rw [Nat.zero_add] at h ⊢
  exact next p' c' h
theorem yP (i:Nat) {α:Type} {enc:α->List Value} {j r:Nat} {x':α} {xs:List α} (df:α) (hlen:∀a,(enc a).length=z) (ho:OwnOk q m c) (hxs:xs.length=m) (hx:evF F x=some (pP (pB q) (pO q+(j*z+r)))) (hy:evF F y=some v) (hi:L[i]?=some (rowW q T z m c (rowsL enc xs))) (hq:q≠none) (hj:j<m)
    (hv:v.cells=vs.toArray) (hs:∀w,(sizeOf ty).run P w=.ok vs.length w) (h1:(vs.all λu=>u.oneCell',Nat.ble (r+vs.length) z,Pa L i (rowW q T z m c (rowsL enc (xs.set j x'))))=(true,true,some L')) (he:Gu (enc (xs.getD j df)) r vs=enc x')
    (next:AL P ops rest Q n F w0 L'):AL P ops (⟨none,.store ty x y,t,p,af,none⟩::rest) Q n F w0 L:=by
  have hz:=Nat.le_of_ble_eq_true (Co (BR h1))
  have hjz:(j+1)*z<=m*z:=Nat.mul_le_mul_right z hj
  rw [Nat.add_mul] at hjz
  refine ya i hx hy hi ho (by rw [AV hlen,hxs]) hq hv hs (Co h1) Z ?_
  rw [NT hlen df Z hz he,Hj (BR (BR h1))]
  exact next
theorem yL (i:Nat) (hi:L[i]?=some (rowW q T z m c cs)) (ho:OwnOk q m c) (hl:cs.length=m*z) (hex:w0.ex=none) (hs:Pa L i (AB q cs)=some L') (next:(∀b,q.map (·.block)=some b->w0.w.heap.size<=b)->AL P ops rest Q n F w0 L'):AL P ops rest Q n F w0 L:=λa w ha hw=>by
  refine next (λb e=>?_) a w ha (Hj hs▸hw.freeze hi O (λo hp=>Cd ho hl hp) (λe=>by cases e))
  rcases (hw.2.1 _ (List.mem_of_getElem? hi) b e).1 with h1|h1|h1
  · cases h1
  · exact h1
  · rw [hex] at h1;cases h1
theorem At.new {n:Nat} {cs:List Value} {a:RX cs n} (h:∀b,a.p.map (·.block)=some b->w0.w.heap.size<=b):At w0 S a:=λy hy b e=>by
  rcases xM.1 hy with rfl
  exact .inl (h b e)
end
structure fV (ps:List Pt) (ts ss:List (Tq3)) where
  a:OX 99 10 (rowsL BB ps) ps.length
  b:OX 105 3 (rowsL Ac ts) ts.length
  c:OX 110 3 (rowsL Ac ss) ss.length
@[reducible] def fo {ps:List Pt} {ts ss:List (Tq3)} (x:fV ps ts ss):List As:=[rowW x.c.p 110 3 ss.length x.c.c (rowsL Ac ss),rowW x.b.p 105 3 ts.length x.b.c (rowsL Ac ts),rowW x.a.p 99 10 ps.length x.a.c (rowsL BB ps)]
structure ZY (ps:List Pt) (ts ss:List (Tq3)) (l:List Nat) (e:Nat) where
  m:MX ps ts ss
  q:RX (inL l) l.length
theorem cT {ps:List Pt} {ts ss:List (Tq3)} {l:List Nat} {e:Nat} {x:ZY ps ts ss l e} {y:As} (hy:y∈[x.m.a.row,x.m.b.row,x.m.c.row,x.q.row]):y.ro=true:=by
  simp only [xL,List.not_mem_nil,or_false] at hy
  rcases hy with rfl|rfl|rfl|rfl<;>rfl
instance {ps:List Pt} {ts ss:List (Tq3)} {l:List Nat} {e:Nat}:C8 (ZY ps ts ss l e):=⟨λx=>.tuple #[aG (UU x.m),x.q.val,vN e],λx=>[x.m.a.row,x.m.b.row,x.m.c.row,x.q.row],λx y hy=>cT hy⟩
section
variable {P:Program} {ops:Array Oper} {rest:List Oper} {Q:Exit->Act->World->Prop} {n d:Nat} {F:List (Nat×Value)} {w0:BC} {S:Nat->Prop} {L:List As} {t:TypeId} {p:String} {af:Array Edge} {y:Operand} {f:FuncId} {xs:List Operand} {args:List Value} {tys:Array TypeId} {ps:List Pt} {ts ss:List (Tq3)} {l:List Nat} {e:Nat}
theorem fG (hc:∀args w,(callFunc f args).run P w=.ok (.enter f args) w) (h:∀w,Own w0 w L->Calls P f args.toArray w (Ad (ZY ps ts ss l e) (SL w0 S L) w))
    (h2:(evF F y,xs.map (evF F),Nat.ble (d+1) n)=(some (.func (.func f) #[] #[]),args.map some,true)) (next:∀a:ZY ps ts ss l e,At w0 S a.m->At w0 S a.q->AL P ops rest Q n ((d,.tuple #[aG (UU a.m),.slice a.q.p l.length a.q.c,vN e])::F) w0 (AB a.m.a.p (rowsL BB ps)::AB a.m.b.p (rowsL Ac ts)::AB a.m.c.p (rowsL Ac ss)::AB a.q.p (inL l)::L)) :
    AL P ops (⟨some d,.call { callee:=.value y,args:=xs.toArray,argTypes:=tys },t,p,af,none⟩::rest) Q n F w0 L:=zm hc h (Co h2) (Co (BR h2)) (BR (BR h2)) λa ha =>
  next a (λz hz=>ha z (xz [a.q.row] (show z∈[a.m.a.row,a.m.b.row,a.m.c.row] from hz))) (λz hz=>ha z (by rcases xM.1 hz with rfl;exact xG [a.m.a.row,a.m.b.row,a.m.c.row] List.mem_cons_self))
end
end
section
section
variable {α β:Type} [DecidableEq α]
theorem CB {kvs:List (α×β)} {x z:α} {y:β}:Ap (BZ kvs x y) z=if z=x then some y else Ap kvs z:=by
  induction kvs with
  | nil=>rfl
  | cons p r ih =>
    obtain ⟨k,v⟩:=p
    unfold BZ
    split
    · rename_i e
      subst e
      unfold Ap
      split<;>rfl
    · rename_i e
      rw [Ap,ih]
      by_cases h:z=k
      · rw [if_pos h,if_neg (λe2=>e (e2.symm.trans h)),Ap,if_pos h]
      · rw [if_neg h]
        split
        · rfl
        · rw [Ap,if_neg h]
end
section
variable {ts:List (Tq3)}
def Ch (ts:List (Tq3)) (u:Nat):P2:=(CJ (ts.getD (u/3) (0,0,0)) (u%3),CJ (ts.getD (u/3) (0,0,0)) ((u%3+1)%3))
def H1 (ts:List (Tq3)) (s a b:Nat) (z:Int):Prop:=(z = -1/\∀u,u<s->Ch ts u≠(a,b))\/∃u,u<s/\z=((u/3:Nat):Int)/\Ch ts u=(a,b)/\∀v,v<u->Ch ts v≠(a,b)
theorem H1.none {s a b:Nat} (h:∀u,u<s->Ch ts u≠(a,b)):H1 ts s a b (-1):=.inl ⟨rfl,h⟩
theorem H1.skip {s a b:Nat} {z:Int} (h:H1 ts s a b z) (hn:Ch ts s≠(a,b)):H1 ts (s+1) a b z:=by
  rcases h with ⟨h1,h2⟩|⟨u,h1,h2,h3,h4⟩
  · refine .inl ⟨h1,λu hu=>?_⟩
    rcases Nat.lt_or_ge u s with h|h
    · exact h2 u h
    · rw [show u=s by omega];exact hn
  · exact .inr ⟨u,Z,h2,h3,h4⟩
theorem H1.take {s a b:Nat} (h:H1 ts s a b (-1)) (hn:Ch ts s=(a,b)):H1 ts (s+1) a b ((s/3:Nat):Int):=by
  rcases h with ⟨h1,h2⟩|⟨u,h1,h2,h3,h4⟩
  · exact .inr ⟨s,Z,rfl,hn,h2⟩
  · omega
theorem H1.keep {s a b:Nat} {z:Int} (h:H1 ts s a b z) (hz:z ≠ -1):H1 ts (s+1) a b z:=by
  rcases h with ⟨h1,h2⟩|⟨u,h1,h2,h3,h4⟩
  · exact absurd h1 hz
  · exact .inr ⟨u,Z,h2,h3,h4⟩
structure a8 (ts:List (Tq3)) (s:Nat) (k:P2) (e:E4):Prop where
  ea:e.a=k.1
  eb:e.b=k.2
  lt:k.1<k.2
  l:H1 ts s k.1 k.2 e.l
  r:H1 ts s k.2 k.1 e.r
  some:∃u,u<s/\(Ch ts u=(k.1,k.2)\/Ch ts u=(k.2,k.1))
theorem KP (hd:∀u,u<3*ts.length->(Ch ts u).1≠(Ch ts u).2):∀s,s<=3*ts.length->(∀k e,Ap (C4 ts s) k=some e->a8 ts s k e)/\(∀k,Ap (C4 ts s) k=none->k.1<k.2->∀u,u<s->Ch ts u≠(k.1,k.2)/\Ch ts u≠(k.2,k.1))
  | 0,_=>⟨λk e h=>(by cases h),λk _ _ u hu=>absurd hu (Nat.not_lt_zero _)⟩
  | s+1,hs=>by
    obtain ⟨i1,i2⟩:=KP hd s Z
    have hne:=hd s Z
    obtain ⟨a,ha⟩:∃a,a=CJ (ts.getD (s/3) (0,0,0)) (s%3):=⟨_,rfl⟩
    obtain ⟨b,hb⟩:∃b,b=CJ (ts.getD (s/3) (0,0,0)) ((s%3+1)%3):=⟨_,rfl⟩
    have hdir:Ch ts s=(a,b):=by rw [ha,hb];rfl
    rw [hdir] at hne
    have hE:C4 ts (s+1)=T7 (C4 ts s) (s/3) a b:=by rw [ha,hb];rfl
    rw [hE]
    unfold T7
    have hky:(Br a b).1<(Br a b).2:=by unfold Br;simp only at hne ⊢;omega
    -- what the old edge,or the new one,knows
    have h0:∀e0,e0=(Ap (C4 ts s) (Br a b)).getD (Jc (Br a b))->e0.a=(Br a b).1/\e0.b=(Br a b).2/\H1 ts s (Br a b).1 (Br a b).2 e0.l/\H1 ts s (Br a b).2 (Br a b).1 e0.r:=by
      intro e0 he0
      cases hg:Ap (C4 ts s) (Br a b) with
      | none =>
        rw [hg] at he0
        have h2:=i2 _ hg hky
        subst he0
        exact ⟨rfl,rfl,H1.none λu hu=>(h2 u hu).1,H1.none λu hu=>(h2 u hu).2⟩
      | some e =>
        rw [hg] at he0
        have h2:=i1 _ _ hg
        subst he0
        exact ⟨h2.ea,h2.eb,h2.l,h2.r⟩
    constructor
    · intro k e hk
      rw [CB] at hk
      split at hk
      · rename_i e1
        injection hk with hk
        obtain ⟨c1,c2,c3,c4⟩:=h0 _ rfl
        obtain ⟨e0,he0⟩:∃e0,e0=(Ap (C4 ts s) (Br a b)).getD (Jc (Br a b)):=⟨_,rfl⟩
        rw [<-he0] at hk c1 c2 c3 c4
        subst hk
        have hends:=NS e0 (s/3) a b
        rw [e1]
        rcases Nat.lt_or_ge a b with hab|hab
        · have k1:(Br a b).1=a:=by unfold Br;simp only;omega
          have k2:(Br a b).2=b:=by unfold Br;simp only;omega
          rw [k1,k2] at c3 c4
          refine ⟨hends.1.trans c1,hends.2.trans c2,hky,?_,?_,s,Z,.inl (by rw [k1,k2];exact hdir)⟩<;>rw [k1,k2]
          · unfold F1
            by_cases hl:e0.l = -1
            · rw [if_pos ⟨hab,hl⟩]
              rw [hl] at c3
              exact c3.take hdir
            · rw [if_neg (λh=>hl h.2),if_neg (λh=>by omega)]
              exact c3.keep hl
          · have hn2:Ch ts s≠(b,a):=by rw [hdir];intro h;injection h with h _;omega
            unfold F1
            split
            · exact c4.skip hn2
            · rw [if_neg (λh=>by omega)]
              exact c4.skip hn2
        · have hba:b<a:=by simp only at hne;omega
          have k1:(Br a b).1=b:=by unfold Br;simp only;omega
          have k2:(Br a b).2=a:=by unfold Br;simp only;omega
          rw [k1,k2] at c3 c4
          have hn2:Ch ts s≠(b,a):=by rw [hdir];intro h;injection h with h _;omega
          refine ⟨hends.1.trans c1,hends.2.trans c2,hky,?_,?_,s,Z,.inr (by rw [k1,k2];exact hdir)⟩<;>rw [k1,k2]
          · unfold F1
            rw [if_neg (λh=>by omega)]
            split
            · exact c3.skip hn2
            · exact c3.skip hn2
          · unfold F1
            rw [if_neg (λh=>by omega)]
            by_cases hl:e0.r = -1
            · rw [if_pos ⟨hba,hl⟩]
              rw [hl] at c4
              exact c4.take hdir
            · rw [if_neg (λh=>hl h.2)]
              exact c4.keep hl
      · rename_i e1
        obtain ⟨a1,a2,a3,a4,a5,u,a6,a7⟩:=i1 k e hk
        have n1:Ch ts s≠(k.1,k.2):=by
          rw [hdir];intro h;injection h with h1 h2
          exact e1 (Prod.ext (by unfold Br;simp only;omega) (by unfold Br;simp only;omega))
        have n2:Ch ts s≠(k.2,k.1):=by
          rw [hdir];intro h;injection h with h1 h2
          exact e1 (Prod.ext (by unfold Br;simp only;omega) (by unfold Br;simp only;omega))
        exact ⟨a1,a2,a3,a4.skip n1,a5.skip n2,u,Z,a7⟩
    · intro k hk hlt u hu
      rw [CB] at hk
      split at hk
      · cases hk
      · rename_i e1
        rcases Nat.lt_or_ge u s with h|h
        · exact i2 k hk hlt u h
        · rw [show u=s by omega,hdir]
          constructor
          · intro h;injection h with h1 h2
            exact e1 (Prod.ext (by unfold Br;simp only;omega) (by unfold Br;simp only;omega))
          · intro h;injection h with h1 h2
            exact e1 (Prod.ext (by unfold Br;simp only;omega) (by unfold Br;simp only;omega))
theorem YO {N:Nat} (hn:Bu N ts=true) (hN:N<=4611686018427387904) (hd:∀u,u<3*ts.length->(Ch ts u).1≠(Ch ts u).2) {e:E4} (he:e∈BG ts):a8 ts (3*ts.length) (e.a,e.b) e:=by
  unfold BG at he
  obtain ⟨p,hp,h1⟩:=List.mem_map.1 ((EN _).mem_iff.1 he)
  obtain ⟨j,hj,h2⟩:=List.getElem_of_mem hp
  have h3:=KS (x:=p.1) (v:=p.2) (F2 hn hN _ (Nat.le_refl _)).once (show (C4 ts (3*ts.length))[j]?=some (p.1,p.2) by rw [xN hj,h2])
  have h4:=(KP hd _ (Nat.le_refl _)).1 _ _ h3
  rw [h1] at h4
  rw [show (e.a,e.b)=p.1 from Prod.ext h4.ea h4.eb]
  exact h4
end
end
section
theorem RN {P:Program} {k e:TypeId} (hu:P.underlying k=some (.array 2 e)) (he:P.underlying e=some (.int .i64)) (ce:P.cellsOf e=1) (ck:P.cellsOf k=2) (hk:P.keyType k=true) (hr:k<P.types.size)
    {a b:Int} (wa:(Lit.int .i64 a).wf=true) (wb:(Lit.int .i64 b).wf=true):∃l,keyOf P k (.agg #[.int .i64 a,.int .i64 b])=some l:=by
  have h0:0<P.types.size:=Nat.lt_of_le_of_lt (xH _) hr
  obtain ⟨d,hd⟩:∃d,P.types.size=d+1:=⟨P.types.size-1,Z⟩
  have hf:(Value.agg #[.int .i64 a,.int .i64 b]).formed P k=true:=by
    unfold Value.formed
    simp only [hu,ck]
    rfl
  have hl:P.keyLits (P.types.size+1) k (Value.agg #[.int .i64 a,.int .i64 b]).cells.toList=some [.int .i64 a,.int .i64 b]:=by
    rw [hd]
    unfold Program.keyLits
    simp only [hu]
    show (if ([Value.int .i64 a,Value.int .i64 b]:List Value).length=P.cellsOf k then _ else _)=_
    rw [if_pos (by rw [ck];rfl)]
    have e0:P.keyLits (d+1) e ((([Value.int .i64 a,Value.int .i64 b]:List Value).drop (0*P.cellsOf e)).take (P.cellsOf e))=some [.int .i64 a]:=by
      rw [ce];exact Ft he d wa
    have e1:P.keyLits (d+1) e ((([Value.int .i64 a,Value.int .i64 b]:List Value).drop (1*P.cellsOf e)).take (P.cellsOf e))=some [.int .i64 b]:=by
      rw [ce];exact Ft he d wb
    show (List.mapM (λi=>P.keyLits (d+1) e ((([Value.int .i64 a,Value.int .i64 b]:List Value).drop (i*P.cellsOf e)).take (P.cellsOf e))) [0,1]).map List.flatten=_
    simp only [List.mapM_cons,List.mapM_nil,e0,e1]
    rfl
  refine ⟨.string (keyBytes [.int .i64 a,.int .i64 b]),?_⟩
  unfold keyOf
  simp only [hu,hk,hf,Bool.and_self,if_true,hl]
  rfl
theorem Sf {P:Program} (hl:laidOutB P=true) {k e:TypeId} (hr:k<P.types.size) (ht:P.keyTypeAt 2 k=true) (hw:(match P.underlying k with|some (.array _ _)|some (.struct _)=>true|_=>false)=true) (hu:P.underlying k=some (.array 2 e)) (he:P.underlying e=some (.int .i64)) (ce:P.cellsOf e=1) (ck:P.cellsOf k=2) (hk:P.keyType k=true):Lk P k ER KD where
  law:=.of_law (deep_law_laid hl (m:=2) jY hr ht hw)
  key:=λa h=>RN hu he ce ck hk hr (Jh h.1) (Jh h.2)
  inj:=λa b h=>La h
theorem aX {a b:Nat} (ha:a<4611686018427387904) (hb:b<4611686018427387904):KD (a,b):=⟨ha,hb⟩
def DP {α β:Type} [DecidableEq α]:List (α×β)->α->Nat
  | [],_=>0
  | (k,v)::r,x=>if x=k then 0 else DP r x+1
section
variable {α β:Type} {enc:α->Value} {eV:β->Value} {ok:α->Prop} {P:Program} {kt:TypeId} {n:Nat} {F:List (Nat×Value)} {w0:BC} {L:List As} {d:Nat} {mp kp vp sp:Operand} {t:TypeId} {pp:String} {af:Array Edge} {g:Option (Nat×Bool)} {tx et:TypeId} {b:Nat} {ops:Array Oper} {rest:List Oper} {Q:Exit->Act->World->Prop}
def Rt {α β:Type} [DecidableEq α] (b:Nat) (enc:α->Value) (eV:β->Value) (kvs:List (α×β)) (x:α) (v:β):As:=⟨some b,λo=>o=.map (entsM enc eV kvs 0).toArray kvs.length\/o=.map (entsM enc eV (BZ kvs x v) 0).toArray (BZ kvs x v).length,false⟩
variable [DecidableEq α]
theorem M9:∀{kvs:List (α×β)} {x:α} {v:β},Ap kvs x=some v->BZ kvs x v=kvs
  | (k,u)::r,x,v,h=>by
    unfold Ap at h
    unfold BZ
    split at h
    · rename_i e;injection h with h;rw [if_pos e,h]
    · rename_i e;rw [if_neg e,M9 h]
theorem In:∀{kvs:List (α×β)} {x:α} {v:β},(BZ kvs x v)[DP kvs x]?=some (x,v)
  | [],_,_=>rfl
  | (k,u)::r,x,v=>by
    unfold BZ DP
    split
    · rename_i e;rw [List.getElem?_cons_zero,e]
    · rw [List.getElem?_cons_succ,In]
theorem QF {x:α} {u v:β}:∀{kvs:List (α×β)},(BZ kvs x u).set (DP kvs x) (x,v)=BZ kvs x v
  | []=>rfl
  | (k,w)::r=>by
    by_cases e:x=k
    · simp [BZ,DP,e]
    · simp [BZ,DP,e,QF]
theorem QJ:∀{kvs:List (α×β)} {j:Nat} {x:α} {v:β},kvs.Pairwise (λp q=>p.1≠q.1)->kvs[j]?=some (x,v)->DP kvs x=j
  | (k,u)::r,0,x,v,_,h=>by
    simp only [List.getElem?_cons_zero,Option.some.injEq,Prod.mk.injEq] at h
    rw [DP,if_pos h.1.symm]
  | (k,u)::r,j+1,x,v,hp,h=>by
    obtain ⟨h1,h2⟩:=List.pairwise_cons.1 hp
    rw [List.getElem?_cons_succ] at h
    rw [DP,if_neg (λe=>h1 (x,v) (List.mem_of_getElem? h) e.symm),QJ h2 h]
theorem L7:∀{kvs:List (α×β)} {x:α},(∀p∈kvs,p.1≠x)->DP kvs x=kvs.length
  | [],_,_=>rfl
  | (k,v)::r,x,h=>by
    rw [DP,if_neg (λe=>h (k,v) List.mem_cons_self e.symm),L7 λp hp=>h p (List.mem_cons_of_mem _ hp)];rfl
theorem Y3 {i:Nat} {kvs:List (α×β)} (x:α) (v:β) (hi:L[i]?=some (CC b enc eV kvs)):Wk (L.set i (Rt b enc eV kvs x v)) L:=λw0 w hw=>by
  exact hw.freeze (i:=i) (y:=Rt b enc eV kvs x v) hi O (λo h=>.inl h) (λe=>by cases e)
theorem XL {i:Nat} {kvs:List (α×β)} (x:α) (v:β) (hi:L[i]?=some (CC b enc eV (BZ kvs x v))):Wk (L.set i (Rt b enc eV kvs x v)) L:=λw0 w hw=>by
  exact hw.freeze (i:=i) (y:=Rt b enc eV kvs x v) hi O (λo h=>.inr h) (λe=>by cases e)
theorem ew (i:Nat) {kvs:List (α×β)} {x:α} {v:β} {LA:List As} (hi:L[i]?=some (CC b enc eV kvs)) (hs:Pa L i (Rt b enc eV kvs x v)=some LA):Wk LA L:=Hj hs▸Y3 x v hi
theorem ax (i:Nat) {kvs:List (α×β)} {x:α} {v:β} {LA:List As} (hi:L[i]?=some (CC b enc eV (BZ kvs x v))) (hs:Pa L i (Rt b enc eV kvs x v)=some LA):Wk LA L:=Hj hs▸XL x v hi
theorem IQ (K:Lk P kt enc ok) (i:Nat) {kvs:List (α×β)} {x:α} {z0 v:β} {dd:Option Tmp} (hx:evF F mp=some (.map (some b))) (hk:evF F kp=some (enc x)) (ht:P.underlying tx=some (.map kt et)) (hz:∀w,(zeroValue et).run P w=.ok (eV z0) w) (hi:L[i]?=some (Rt b enc eV kvs x v)) (hm:H3 ok kvs) (hok:ok x) (hv:v=(Ap kvs x).getD z0) :
    Ex P n F w0 L ⟨dd,.lookup tx mp kp false,t,pp,af,g⟩ (eV v):=λA w ha hw=>by
  obtain ⟨_,o,ho,hp⟩:=hw.2.1 _ (List.mem_of_getElem? hi) b rfl
  obtain ⟨lx,hlx⟩:=K.key x hok
  have hc:=λem=>K.law.check w em hlx
  have key:∀kvs':List (α×β),H3 ok kvs'->(Ap kvs' x).getD z0=v->w.heap[b]?=some (.map (entsM enc eV kvs' 0).toArray kvs'.length)->(execOp A.eval ⟨dd,.lookup tx mp kp false,t,pp,af,g⟩).run P w=.ok (.value (eV v)) w:=λkvs' hm' hg ho=>by
    rcases GH (eV:=eV) K hm' hok w with ⟨h1,_,h2⟩|⟨j,u,_,h1,h2⟩
    · rw [h1] at hg
      simp only [execOp,ha.ev hx,ha.ev hk,Instr.lookup,Sem.run_bind,run_underlying ht,CG ho,Result.andThen_ok,Sem.run_pure,hc,List.toList_toArray,h2,hz]
      rw [<-hg];rfl
    · rw [h1] at hg
      simp only [execOp,ha.ev hx,ha.ev hk,Instr.lookup,Sem.run_bind,run_underlying ht,CG ho,Result.andThen_ok,Sem.run_pure,hc,List.toList_toArray,h2]
      rw [<-hg];rfl
  rcases hp with hp|hp
  · exact key kvs hm hv.symm (by rw [ho,hp])
  · exact key (BZ kvs x v) (hm.put hok) (by rw [CB,if_pos O];rfl) (by rw [ho,hp])
theorem yf (K:Lk P kt enc ok) (i:Nat) {kvs:List (α×β)} {x:α} {z0 v:β} (hx:evF F mp=some (.map (some b))) (hk:evF F kp=some (enc x)) (ht:P.underlying tx=some (.map kt et)) (hz:∀w,(zeroValue et).run P w=.ok (eV z0) w) (hi:L[i]?=some (CC b enc eV kvs)) (hm:H3 ok kvs) (hok:ok x) (hv:v=(Ap kvs x).getD z0) (hd:Nat.ble (d+1) n=true)
    (next:AL P ops rest Q n ((d,.tuple #[eV v,vN (DP kvs x)])::F) w0 (L.set i (CC b enc eV (BZ kvs x v)))):AL P ops (⟨some d,.mapEntry tx mp kp,t,pp,af,none⟩::rest) Q n F w0 L:=λa w ha hW=>by
  obtain ⟨_,o,ho,hp⟩:=hW.2.1 _ (List.mem_of_getElem? hi) b rfl
  have ho:w.heap[b]?=some (.map (entsM enc eV kvs 0).toArray kvs.length):=by rw [ho,hp]
  obtain ⟨lx,hlx⟩:=K.key x hok
  have hc:=λem=>K.law.check w em hlx
  have hst:=K.law.stays w hlx
  have hrun:(execOp a.eval ⟨some d,.mapEntry tx mp kp,t,pp,af,none⟩).run P w=.ok (.value (.tuple #[eV v,vN (DP kvs x)])) (Go.ChangeMaps.setBlock w b (.map (entsM enc eV (BZ kvs x v) 0).toArray (BZ kvs x v).length)):=by
    rcases GH (eV:=eV) K hm hok w with ⟨h0,h1,h2⟩|⟨j,u,hj,h1,h2⟩
    · rw [h0] at hv
      simp only [Option.getD_none] at hv
      subst hv
      rw [JP h1,L7 h1,GN,xJ]
      simp only [execOp,ha.ev hx,ha.ev hk,Instr.mapEntry,Sem.run_bind,run_underlying ht,CG ho,Result.andThen_ok,hc,List.toList_toArray,h2,hz,Eq ho,Sem.run_pure,List.push_toArray,Nat.zero_add,List.length_singleton]
      rfl
    · rw [h1] at hv
      simp only [Option.getD_some] at hv
      subst hv
      rw [M9 h1,QJ hm.once hj]
      have e1:(entsM enc eV kvs 0)[j]?=some ⟨enc x,eV v,0+j⟩:=by rw [DS,hj];rfl
      have e2:=HD (enc:=enc) (eV:=eV) (y:=v) hj
      have e3:kvs.set j (x,v)=kvs:=by
        apply List.ext_getElem?
        intro q
        rw [List.getElem?_set]
        split
        · rename_i e;subst e;split
          · exact hj.symm
          · rename_i h9;rw [List.getElem?_eq_none Z]
        · rfl
      rw [e3] at e2
      have e4:(entsM enc eV kvs 0).toArray.modify j (λe=>{ e with key:=enc x })=(entsM enc eV kvs 0).toArray:=by
        apply Array.ext_getElem?
        intro q
        rw [Array.getElem?_modify]
        simp only [List.getElem?_toArray]
        split
        · rename_i e;subst e;rw [e1];rfl
        · rfl
      simp only [execOp,ha.ev hx,ha.ev hk,Instr.mapEntry,Sem.run_bind,run_underlying ht,CG ho,Result.andThen_ok,hc,List.toList_toArray,List.getElem?_toArray,h2,e1,hst,e4,Eq ho,Sem.run_pure,Option.map_some,Option.getD_some]
      simp [goInt,e1,hst,e4,Eq ho,Result.andThen]
  unfold wpList
  rw [if_pos (AJ rfl a ha)]
  left
  unfold Oper.wp
  rw [hrun,Oper.upon_value]
  exact next _ _ (ha.put (B5 hd)) (hW.turn hi O O (FL _ _ _) ⟨_,Fr ho,rfl⟩)
theorem yU (i:Nat) {kvs:List (α×β)} {x:α} {u y:β} (hx:evF F mp=some (.map (some b))) (hs:evF F sp=some (vN (DP kvs x))) (hv:evF F vp=some (eV y)) (hi:L[i]?=some (CC b enc eV (BZ kvs x u)))
    (next:AL P ops rest Q n F w0 (L.set i (CC b enc eV (BZ kvs x y)))):AL P ops (⟨none,.entryStore tx mp sp vp,t,pp,af,none⟩::rest) Q n F w0 L:=λa w ha hW=>by
  obtain ⟨_,o,ho,hp⟩:=hW.2.1 _ (List.mem_of_getElem? hi) b rfl
  have ho:w.heap[b]?=some (.map (entsM enc eV (BZ kvs x u) 0).toArray (BZ kvs x u).length):=by rw [ho,hp]
  have hf:=In (kvs:=kvs) (x:=x) (v:=u)
  have hlt:DP kvs x<(BZ kvs x u).length:=(List.getElem?_eq_some_iff.1 hf).1
  have e0:(entsM enc eV (BZ kvs x u) 0)[DP kvs x]?=some ⟨enc x,eV u,DP kvs x⟩:=by rw [DS,hf];simp
  have hnd:((entsM enc eV (BZ kvs x u) 0).map (·.born)).Nodup:=by
    have e1:∀(l:List (α×β)) (s:Nat),(entsM enc eV l s).map (·.born)=List.range' s l.length:=by
      intro l
      induction l with
      | nil=>intro s;rfl
      | cons p r ih=>intro s;rw [entsM,List.map_cons,ih,List.length_cons,List.range'_succ]
    rw [e1];exact List.nodup_range'
  have hidx:(entsM enc eV (BZ kvs x u) 0).toArray.findIdx? (λe=>((e.born:Nat):Int) == ((DP kvs x:Nat):Int))=some (DP kvs x):=by
    rw [WideElems.findIdx_arr]
    exact WideElems.findIdx_born hnd e0
  have hset:(BZ kvs x u).set (DP kvs x) (x,y)=BZ kvs x y:=QF
  have hmod:=HD (enc:=enc) (eV:=eV) (y:=y) hf
  have hmod2:(entsM enc eV (BZ kvs x u) 0).toArray.modify (DP kvs x) (λe=>{ e with val:=eV y })=(entsM enc eV (BZ kvs x y) 0).toArray:=by
    rw [<-hset,<-hmod]
    apply Array.ext_getElem?
    intro q
    rw [Array.getElem?_modify,Array.getElem?_modify]
    simp only [List.getElem?_toArray]
    split
    · rename_i e;subst e;rw [e0];rfl
    · rfl
  have hl2:(BZ kvs x y).length=(BZ kvs x u).length:=by rw [<-hset,List.length_set]
  have hrun:(execOp a.eval ⟨none,.entryStore tx mp sp vp,t,pp,af,none⟩).run P w=.ok .skip (Go.ChangeMaps.setBlock w b (.map (entsM enc eV (BZ kvs x y) 0).toArray (BZ kvs x y).length)):=by
    rw [<-hmod2,hl2]
    simp only [execOp,ha.ev hx,ha.ev hs,ha.ev hv,Instr.entryStore,Sem.run_bind,CG ho,Result.andThen_ok,asInt,asIntOf,Sem.run_pure,hidx,Eq ho]
  unfold wpList
  rw [if_pos (AJ rfl a ha)]
  left
  unfold Oper.wp
  rw [hrun,Oper.upon_skip]
  exact next _ _ ha.put_none (hW.turn hi O O (FL _ _ _) ⟨_,Fr ho,rfl⟩)
end
end
section
theorem L_ {α:Type} {R:α->α->Prop} (ha:∀x y,R x y->¬R y x) {l l':List α} (h:l.Pairwise R) (h':l'.Pairwise R) (hm:∀x,x∈l↔x∈l'):l=l':=by
  have nd:∀{l:List α},l.Pairwise R->l.Nodup:=λ{l} h=>h.imp λ{x y} hxy e=>by subst e;exact ha _ _ hxy hxy
  exact List.Perm.eq_of_pairwise (le:=R) (λx y _ _ h1 h2=>absurd h2 (ha x y h1)) h h' ((List.perm_ext_iff_of_nodup (nd h) (nd h')).2 hm)
abbrev T3:=Tq3
section
variable {ts ts':List T3} {N:Nat}
theorem QZ {t:T3} (h:On N t=true):t.1≠t.2.1/\t.2.1≠t.2.2/\t.2.2≠t.1:=by
  simp only [On,xZ,xV,xS,xT] at h
  exact ⟨h.1.1.2,h.1.2,h.2⟩
theorem Kw (hn:Bu N ts=true) {u:Nat} (hu:u<3*ts.length):(Ch ts u).1≠(Ch ts u).2:=by
  obtain ⟨hab,hbc,hca⟩:=QZ (Dt hn (show u/3<ts.length by omega))
  have h3:u%3=0\/u%3=1\/u%3=2:=by omega
  unfold Ch
  rcases h3 with h3|h3|h3<;>rw [h3]
  · exact hab
  · exact hbc
  · exact hca
theorem Sv (hn:Bu N ts=true) {u:Nat} (hu:u<3*ts.length):(Ch ts u).1<N/\(Ch ts u).2<N:=by
  have h:=Dt hn (show u/3<ts.length by omega)
  exact ⟨Nr h _,Nr h _⟩
theorem H1.uniq {s a b:Nat} {y z:Int} (h:H1 ts s a b y) (k:H1 ts s a b z):y=z:=by
  rcases h with ⟨h1,h2⟩|⟨u,h1,h2,h3,h4⟩<;>rcases k with ⟨k1,k2⟩|⟨v,k1,k2,k3,k4⟩
  · omega
  · exact absurd k3 (h2 v k1)
  · exact absurd h3 (k2 u h1)
  · rcases Nat.lt_trichotomy u v with h|h|h
    · exact absurd h3 (k4 u h)
    · rw [h2,k2,h]
    · exact absurd k3 (h4 v h)
theorem KO (hn:Bu N ts=true) (hN:N<=4611686018427387904) {e:E4}:e∈BG ts↔a8 ts (3*ts.length) (e.a,e.b) e:=by
  have hd:∀u,u<3*ts.length->(Ch ts u).1≠(Ch ts u).2:=λu hu=>Kw hn hu
  refine ⟨λh=>YO hn hN hd h,λh=>?_⟩
  obtain ⟨i1,i2⟩:=KP hd _ (Nat.le_refl _)
  cases hg:Ap (C4 ts (3*ts.length)) (e.a,e.b) with
  | none =>
    obtain ⟨u,hu,hs⟩:=h.some
    have h3:=i2 _ hg h.lt u hu
    rcases hs with hs|hs
    · exact absurd hs h3.1
    · exact absurd hs h3.2
  | some e' =>
    have h3:=i1 _ _ hg
    have e1:e'=e:=by
      have a1:=h3.ea;have a2:=h3.eb;have a3:=h3.l.uniq h.l;have a4:=h3.r.uniq h.r
      cases e;cases e';simp only at a1 a2 a3 a4;subst a1 a2 a3 a4;rfl
    rw [e1] at hg
    unfold BG
    exact (EN _).mem_iff.2 (List.mem_map.2 ⟨_,MA hg,rfl⟩)
def M6 (x y:E4):Prop:=x.a<y.a\/(x.a=y.a/\x.b<y.b)
theorem M6.asymm (x y:E4) (h:M6 x y):¬M6 y x:=by unfold M6 at *;omega
theorem Fi (hn:Bu N ts=true) (hN:N<=4611686018427387904):(BG ts).Pairwise M6:=by
  have h1:ND ((C4 ts (3*ts.length)).map (·.2)):=NF (F2 hn hN _ (Nat.le_refl _)) (LY ts _)
  have h2:ND (BG ts):=(List.Perm.pairwise_iff (R:=λx y:E4=>¬(x.a=y.a/\x.b=y.b)) (λh k=>h ⟨k.1.symm,k.2.symm⟩) (EN _)).2 h1
  exact (List.Pairwise.and (HQ _) h2).imp λ{x y} h=>by
    have h3:=Kf.1 h.1
    have h4:=h.2
    unfold M6
    omega
def Qi (ts:List T3) (j a b:Nat):Prop:=∃r,r<3/\Ch ts (3*j+r)=(a,b)
def b_ (ts:List T3) (n a b:Nat) (z:Int):Prop:=(z = -1/\∀j,j<n->¬Qi ts j a b)\/∃j,j<n/\z=(j:Int)/\Qi ts j a b/\∀i,i<j->¬Qi ts i a b
theorem Xg {n a b:Nat} {z:Int} (h:H1 ts (3*n) a b z):b_ ts n a b z:=by
  rcases h with ⟨h1,h2⟩|⟨u,h1,h2,h3,h4⟩
  · exact .inl ⟨h1,λj hj ⟨r,hr,k⟩=>h2 _ Z k⟩
  · exact .inr ⟨u/3,Z,h2,⟨u%3,Z,by rw [show 3*(u/3)+u%3=u by omega];exact h3⟩,λi hi ⟨r,hr,k⟩=>h4 _ Z k⟩
theorem QV {n a b:Nat} {z:Int} (h:b_ ts n a b z):H1 ts (3*n) a b z:=by
  rcases h with ⟨h1,h2⟩|⟨j,h1,h2,⟨r,hr,h3⟩,h4⟩
  · exact .inl ⟨h1,λu hu k=>h2 (u/3) Z ⟨u%3,Z,by rw [show 3*(u/3)+u%3=u by omega];exact k⟩⟩
  · have key:∀m,m<=3->(∀q,q<m->Ch ts (3*j+q)≠(a,b))\/∃q,q<m/\Ch ts (3*j+q)=(a,b)/\∀p,p<q->Ch ts (3*j+p)≠(a,b):=by
      intro m
      induction m with
      | zero=>intro _;exact .inl λq hq=>absurd hq (Nat.not_lt_zero _)
      | succ m ih =>
        intro hm
        rcases ih Z with h|⟨q,h5,h6,h7⟩
        · by_cases k:Ch ts (3*j+m)=(a,b)
          · exact .inr ⟨m,Z,k,h⟩
          · refine .inl λq hq=>?_
            rcases Nat.lt_or_ge q m with h8|h8
            · exact h q h8
            · rw [show q=m by omega];exact k
        · exact .inr ⟨q,Z,h6,h7⟩
    rcases key 3 (Nat.le_refl _) with k|⟨q,h5,h6,h7⟩
    · exact absurd h3 (k r hr)
    · refine .inr ⟨3*j+q,Z,by rw [h2];congr 1;omega,h6,λv hv k=>?_⟩
      rcases Nat.lt_or_ge v (3*j) with h8|h8
      · exact h4 (v/3) Z ⟨v%3,Z,by rw [show 3*(v/3)+v%3=v by omega];exact k⟩
      · exact h7 (v-3*j) Z (by rw [show 3*j+(v-3*j)=v by omega];exact k)
structure PL (ts ts':List T3):Prop where
  len:ts.length=ts'.length
  way:∀j,j<ts.length->∀a b,Qi ts j a b↔Qi ts' j a b
theorem PL.symm (h:PL ts ts'):PL ts' ts:=⟨h.len.symm,λj hj a b=>(h.way j (by rw [h.len];exact hj) a b).symm⟩
theorem PL.fst (h:PL ts ts') {a b:Nat} {z:Int} (k:H1 ts (3*ts.length) a b z):H1 ts' (3*ts'.length) a b z:=by
  rw [<-h.len]
  refine QV ?_
  rcases Xg k with ⟨h1,h2⟩|⟨j,h1,h2,h3,h4⟩
  · exact .inl ⟨h1,λj hj k=>h2 j hj ((h.way j hj a b).2 k)⟩
  · exact .inr ⟨j,h1,h2,(h.way j h1 a b).1 h3,λi hi k=>h4 i hi ((h.way i Z a b).2 k)⟩
def Tk (t:T3) (i:Nat):T3:=(CJ t (i%3),CJ t ((i+1)%3),CJ t ((i+2)%3))
def CL (ts:List T3) (f:Nat->Nat):Nat->List T3
  | 0=>ts
  | k+1=>(CL ts f k).set k (Tk (ts.getD k (0,0,0)) (f k))
theorem Dm (f:Nat->Nat):∀k,(CL ts f k).length=ts.length
  | 0=>rfl
  | k+1=>by rw [CL,List.length_set,Dm f k]
theorem G6 (f:Nat->Nat):∀k j,k<=ts.length->j<ts.length->(CL ts f k).getD j (0,0,0)=if j<k then Tk (ts.getD j (0,0,0)) (f j) else ts.getD j (0,0,0)
  | 0,j,_,_=>by rw [if_neg (Nat.not_lt_zero _)];rfl
  | k+1,j,hk,hj=>by
    have h:=G6 f k j Z hj
    rw [CL,List.getD,List.getElem?_set]
    by_cases e:k=j
    · subst e
      rw [if_pos rfl,if_pos (by rw [Dm];exact hj),if_pos Z];rfl
    · rw [if_neg e]
      have h2:(CL ts f k)[j]?.getD (0,0,0)=_:=h
      rw [h2]
      by_cases h3:j<k
      · rw [if_pos h3,if_pos Z]
      · rw [if_neg h3,if_neg Z]
theorem Fx {j r:Nat} (hr:r<3):Ch ts (3*j+r)=(CJ (ts.getD j (0,0,0)) r,CJ (ts.getD j (0,0,0)) ((r+1)%3)):=by
  unfold Ch
  rw [show (3*j+r)/3=j by omega,show (3*j+r)%3=r by omega]
def MS (ts:List T3) (u:Nat):P2:=Br (Ch ts u).1 (Ch ts u).2
def DE (ts:List T3):Nat->List (P2×Nat)
  | 0=>[]
  | s+1=>BZ (DE ts s) (MS ts s) ((Ap (DE ts s) (MS ts s)).getD 0+1)
def FJ (ts:List T3):List P2:=ts.flatMap λt=>[Br t.1 t.2.1,Br t.2.1 t.2.2,Br t.2.2 t.1]
theorem Ge (k:P2):∀s,(Ap (DE ts s) k).getD 0=((List.range s).map (MS ts)).count k
  | 0=>rfl
  | s+1=>by
    rw [DE,CB,List.range_succ,List.map_append,List.count_append,List.map_singleton,List.count_singleton]
    by_cases h:k=MS ts s
    · subst h
      rw [if_pos rfl,Option.getD_some,Ge _ s];simp
    · rw [if_neg h,Ge k s,if_neg (by simpa using λe=>h e.symm)];rfl
theorem JG {t i:Nat} (hi:i<3):DE ts (3*t+i+1)=BZ (DE ts (3*t+i)) (Br (CJ (ts.getD t (0,0,0)) i) (CJ (ts.getD t (0,0,0)) ((i+1)%3))) ((Ap (DE ts (3*t+i)) (Br (CJ (ts.getD t (0,0,0)) i) (CJ (ts.getD t (0,0,0)) ((i+1)%3)))).getD 0+1):=by
  rw [DE]
  unfold MS
  rw [Fx hi]
theorem Nv (s:Nat) (k:P2):(Ap (DE ts s) k).getD 0<=s:=by
  rw [Ge]
  exact xK List.count_le_length jX
theorem Fq (hn:Bu N ts=true) (hN:N<=4611686018427387904):∀s,s<=3*ts.length->H3 KD (DE ts s)
  | 0,_=>H3.nil
  | s+1,hs=>by
    obtain ⟨h1,h2⟩:=Sv hn (show s<3*ts.length by omega)
    exact (Fq hn hN s Z).put (Bm (Nat.lt_of_lt_of_le h1 hN) (Nat.lt_of_lt_of_le h2 hN))
theorem LC:(List.range (3*ts.length)).map (MS ts)=FJ ts:=by
  have key:∀n,n<=ts.length->(List.range (3*n)).map (MS ts)=FJ (ts.take n):=by
    intro n
    induction n with
    | zero=>intro _;rfl
    | succ n ih =>
      intro hn
      have e1:List.range (3*(n+1))=List.range (3*n)++[3*n,3*n+1,3*n+2]:=by
        rw [show 3*(n+1)=3*n+1+1+1 by omega,List.range_succ,List.range_succ,List.range_succ];simp
      have e2:ts.take (n+1)=ts.take n++[ts.getD n (0,0,0)]:=by
        rw [List.take_add_one,xN (show n<ts.length by omega),List.getD,xN (show n<ts.length by omega)];rfl
      have k0:=Fx (ts:=ts) (j:=n) (show 0<3 by decide)
      have k1:=Fx (ts:=ts) (j:=n) (show 1<3 by decide)
      have k2:=Fx (ts:=ts) (j:=n) (show 2<3 by decide)
      rw [e1,e2,List.map_append,ih Z]
      unfold FJ
      rw [List.flatMap_append]
      congr 1
      simp only [List.map_cons,List.map_nil,List.flatMap_cons,List.flatMap_nil,List.append_nil,MS]
      rw [show 3*n=3*n+0 by omega,k0,show 3*n+0+1=3*n+1 by omega,k1,show 3*n+0+2=3*n+2 by omega,k2]
      rfl
  have h:=key ts.length (Nat.le_refl _)
  rwa [List.take_length] at h
def Vy (ts:List T3) (k:P2):Nat:=(Ap (DE ts (3*ts.length)) k).getD 0
theorem St (k:P2):Vy ts k=(FJ ts).count k:=by unfold Vy;rw [Ge,LC]
def JI (ts:List T3) (i:Nat):List T3:=(((BG ts).take i).filter λe=>decide (Vy ts (e.a,e.b)=1)).map λe=>(e.a,e.b,0)
def GW (ts:List T3):List T3:=JI ts (BG ts).length
theorem Wa {i:Nat} (hi:i<(BG ts).length) (h:Vy ts (((BG ts).getD i ⟨0,0,0,0⟩).a,((BG ts).getD i ⟨0,0,0,0⟩).b)=1):JI ts (i+1)=JI ts i++[(((BG ts).getD i ⟨0,0,0,0⟩).a,((BG ts).getD i ⟨0,0,0,0⟩).b,0)]:=by
  rw [List.getD,xN hi] at h ⊢
  unfold JI
  rw [List.take_add_one,xN hi,List.filter_append,List.map_append]
  simp only [Option.toList_some,Option.getD_some] at h ⊢
  rw [List.filter_cons,if_pos (xy h)];rfl
theorem Y_ {i:Nat} (hi:i<(BG ts).length) (h:¬Vy ts (((BG ts).getD i ⟨0,0,0,0⟩).a,((BG ts).getD i ⟨0,0,0,0⟩).b)=1):JI ts (i+1)=JI ts i:=by
  rw [List.getD,xN hi] at h
  unfold JI
  rw [List.take_add_one,xN hi,List.filter_append,List.map_append]
  simp only [Option.toList_some,Option.getD_some] at h ⊢
  rw [List.filter_cons,if_neg (by simpa using h)];simp
theorem Pl (i:Nat):(JI ts i).length<=i:=by
  unfold JI
  rw [xI]
  exact xK (List.length_filter_le _ _) (List.length_take_le _ _)
theorem JA (hn:Bu N ts=true) (hN:N<=4611686018427387904) {a b:Nat}:(a,b)∈FJ ts↔∃e∈BG ts,e.a=a/\e.b=b:=by
  rw [<-LC,List.mem_map]
  constructor
  · rintro ⟨u,hu,hk⟩
    have hu:=List.mem_range.1 hu
    have hne:=Kw hn hu
    unfold MS Br at hk
    injection hk with h1 h2
    have hlt:a<b:=by omega
    have hd:Ch ts u=(a,b)\/Ch ts u=(b,a):=by
      rcases Nat.lt_or_ge (Ch ts u).1 (Ch ts u).2 with h|h
      · exact .inl (Prod.ext Z Z)
      · exact .inr (Prod.ext Z Z)
    obtain ⟨i1,i2⟩:=KP (λu hu=>Kw hn hu) _ (Nat.le_refl _)
    cases hg:Ap (C4 ts (3*ts.length)) (a,b) with
    | none =>
      have h3:=i2 _ hg hlt u hu
      rcases hd with hd|hd
      · exact absurd hd h3.1
      · exact absurd hd h3.2
    | some e =>
      have h3:=i1 _ _ hg
      refine ⟨e,?_,h3.ea,h3.eb⟩
      unfold BG
      exact (EN _).mem_iff.2 (List.mem_map.2 ⟨_,MA hg,rfl⟩)
  · rintro ⟨e,he,rfl,rfl⟩
    have h:=(KO hn hN).1 he
    obtain ⟨u,hu,hs⟩:=h.some
    have hlt:=h.lt
    simp only at hlt hs
    refine ⟨u,List.mem_range.2 hu,?_⟩
    unfold MS Br
    rcases hs with hs|hs<;>rw [hs]<;>exact Prod.ext (by simp only;omega) (by simp only;omega)
def ZT (x y:T3):Prop:=x.1<y.1\/(x.1=y.1/\x.2.1<y.2.1)
theorem ZT.asymm (x y:T3) (h:ZT x y):¬ZT y x:=by unfold ZT at *;omega
theorem PR (hn:Bu N ts=true) (hN:N<=4611686018427387904):(GW ts).Pairwise ZT:=by
  unfold GW JI
  rw [List.pairwise_map,List.take_length]
  exact (Fi hn hN).filter _
theorem W3 (hn:Bu N ts=true) (hN:N<=4611686018427387904) {s:T3}:s∈GW ts↔(FJ ts).count (s.1,s.2.1)=1/\s.2.2=0:=by
  unfold GW JI
  rw [List.take_length,List.mem_map]
  constructor
  · rintro ⟨e,he,rfl⟩
    obtain ⟨h1,h2⟩:=List.mem_filter.1 he
    exact ⟨by rw [<-St];exact xR h2,rfl⟩
  · rintro ⟨h1,h2⟩
    have hm:(s.1,s.2.1)∈FJ ts:=List.count_pos_iff.1 Z
    obtain ⟨e,he,ea,eb⟩:=(JA hn hN).1 hm
    refine ⟨e,List.mem_filter.2 ⟨he,xy (by rw [St,ea,eb];exact h1)⟩,?_⟩
    exact Prod.ext ea (Prod.ext eb h2.symm)
end
end
section
abbrev E0:E4:=⟨0,0,0,0⟩
def Aq (N:Nat) (es:List E4):Nat->List (P2×Nat)
  | 0=>[]
  | i+1=>BZ (Aq N es i) (Br (es.getD i E0).a (es.getD i E0).b) (N+i)
def Xu (N:Nat) (es:List E4) (a b:Nat):Nat:=(Ap (Aq N es es.length) (Br a b)).getD 0
def aF (N:Nat) (ss:List T3):Nat->List (P2×Nat)
  | 0=>[]
  | k+1=>if (ss.getD (ss.length-1-k) (0,0,0)).1<N/\(ss.getD (ss.length-1-k) (0,0,0)).2.1<N then BZ (aF N ss k) (Br (ss.getD (ss.length-1-k) (0,0,0)).1 (ss.getD (ss.length-1-k) (0,0,0)).2.1) (ss.getD (ss.length-1-k) (0,0,0)).2.2 else aF N ss k
def ZE (N:Nat) (ss:List T3) (es:List E4):Nat->List (P2×Nat)
  | 0=>aF N ss ss.length
  | i+1=>BZ (BZ (ZE N ss es i) (Br (es.getD i E0).a (N+i)) ((Ap (ZE N ss es i) (Br (es.getD i E0).a (es.getD i E0).b)).getD 0)) (Br (es.getD i E0).b (N+i)) ((Ap (ZE N ss es i) (Br (es.getD i E0).a (es.getD i E0).b)).getD 0)
def d9 (N:Nat) (ss:List T3) (es:List E4) (a b:Nat):Nat:=(Ap (ZE N ss es es.length) (Br a b)).getD 0
def fb (ps:List Pt) (e:E4):Pt:=CE (IR ps e.a+IR ps e.b) (1/2)
def b9 (ps:List Pt) (es:List E4):Nat->List Pt
  | 0=>ps
  | i+1=>b9 ps es i++[fb ps (es.getD i E0)]
def eM (ps:List Pt) (es:List E4):List Pt:=b9 ps es es.length
def eD (N:Nat) (ss:List T3) (es:List E4) (ts:List T3):List T3:=(GW ts).map λs=>(s.1,s.2.1,d9 N ss es s.1 s.2.1)
section
variable {N M i:Nat} {es:List E4} {ts:List T3} {t:T3} {ss rs:List T3} {ps:List Pt}
theorem Bd {α:Type} {l:List α} {d:α} {i:Nat} (h:i<l.length):l.take (i+1)=l.take i++[l.getD i d]:=by
  rw [List.take_add_one,xN h,List.getD,xN h];rfl
theorem No (hes:∀e∈es,e.a<N/\e.b<N) (hN:N<=4611686018427387904):∀i,i<=es.length->H3 KD (Aq N es i)
  | 0,_=>H3.nil
  | i+1,h=>by
    have h1:=hes (es.getD i E0) (by rw [List.getD,xN (show i<es.length by omega)];exact List.getElem_mem _)
    exact (No hes hN i Z).put (Bm Z Z)
theorem GD (hn:Bu N ts=true) (hN:N<=4611686018427387904) {e:E4} (he:e∈BG ts):e.a<e.b/\e.b<N:=by
  have h:=(KO hn hN).1 he
  obtain ⟨u,hu,hs⟩:=h.some
  have h2:=Sv hn hu
  have hlt:=h.lt
  simp only at hlt hs
  rcases hs with hs|hs<;>rw [hs] at h2<;>simp only at h2<;>omega
theorem Ie (hn:Bu N ts=true) (hN:N<=4611686018427387904):∀e∈BG ts,e.a<N/\e.b<N:=λe he=>by
  have:=GD hn hN he;omega
theorem Yk (hn:Bu N ts=true) (hN:N<=4611686018427387904) {s:T3} (hs:s∈GW ts):s.1<N/\s.2.1<N:=by
  unfold GW JI at hs
  rw [List.take_length,List.mem_map] at hs
  obtain ⟨e,he,rfl⟩:=hs
  exact Ie hn hN e (List.mem_filter.1 he).1
theorem MH (hs:es.Pairwise M6) (hl:∀e∈es,e.a<e.b) {j:Nat}:∀i,i<=es.length->j<i->Ap (Aq N es i) ((es.getD j E0).a,(es.getD j E0).b)=some (N+j)
  | 0,_,h=>absurd h (Nat.not_lt_zero _)
  | i+1,hi,hj=>by
    have m:∀k,k<es.length->es.getD k E0∈es:=λk hk=>by rw [List.getD,xN hk];exact List.getElem_mem _
    have k1:Br (es.getD i E0).a (es.getD i E0).b=((es.getD i E0).a,(es.getD i E0).b):=by
      have:=hl _ (m i Z);unfold Br;exact Prod.ext (by simp only;omega) (by simp only;omega)
    rw [Aq,CB,k1]
    rcases Nat.lt_or_ge j i with h|h
    · have h2:M6 (es.getD j E0) (es.getD i E0):=by
        rw [List.getD,List.getD,xN (show j<es.length by omega),xN (show i<es.length by omega)]
        exact List.pairwise_iff_getElem.1 hs j i Z Z h
      rw [if_neg (λe=>by injection e with e1 e2;unfold M6 at h2;omega)]
      exact MH hs hl i Z h
    · rw [show j=i by omega,if_pos rfl]
theorem NJ (hn:Bu N ts=true) (hN:N<=4611686018427387904) {a b:Nat} (h:Br a b∈FJ ts):∃j,j<(BG ts).length/\((BG ts).getD j E0).a=min a b/\((BG ts).getD j E0).b=max a b/\Xu M (BG ts) a b=M+j:=by
  obtain ⟨e,he,ea,eb⟩:=(JA hn hN (a:=min a b) (b:=max a b)).1 h
  obtain ⟨j,hj,hje⟩:=List.getElem_of_mem he
  have hd:(BG ts).getD j E0=e:=by rw [List.getD,xN hj,hje];rfl
  refine ⟨j,hj,by rw [hd];exact ea,by rw [hd];exact eb,?_⟩
  have h1:=MH (N:=M) (Fi hn hN) (λe he=>(GD hn hN he).1) _ (Nat.le_refl _) hj
  rw [hd,ea,eb] at h1
  unfold Xu Br
  rw [h1];rfl
theorem OR {t:T3} (h:t∈ts):Br t.1 t.2.1∈FJ ts/\Br t.2.1 t.2.2∈FJ ts/\Br t.2.2 t.1∈FJ ts:=by
  unfold FJ
  refine ⟨List.mem_flatMap.2 ⟨t,h,?_⟩,List.mem_flatMap.2 ⟨t,h,?_⟩,List.mem_flatMap.2 ⟨t,h,?_⟩⟩<;>simp
end
end
section
set_option maxRecDepth 100000
theorem QP (p:Option Addr) (n cp:Nat) (h:n<=cp) (w:World)  :Calls prog 55 #[(qw p n cp)] w (Ak w (qw p n n)):=by
 refine Ab (args:=[(qw p n cp)]) func55 O O (Av O) (zN (sL [0] O) (q4 (asg' O (oNl' (q2 (AM O (AM O (AG (v:=(vN n)) (AC O underlying28) O (AM O (AG (v:=(vN n)) (AC O underlying28) O (AG (v:=(qw p n n)) (D4 (m:=n) O O O underlying28 sizeOf99 Z) O ?_)))))))))))
 exact asg' O (oNl' (zB (sL [2] O) (zA (zF (ret_one O (rd_tmp (v:=(qw p n n)) O) (λw hw=>⟨rfl,hw.out⟩))))))
theorem Mw (ts:List Pt) (x:RX (rowsL BB ts) ts.length) (hl:ts.length<=1000000000) (w:World) {S:Nat->Prop} (hx:Ro S w x):Calls prog 51 #[(qw x.p ts.length x.c)] w (CS MO (Oy (T:=99) (z:=10) (cs:=rowsL BB ts) (n:=ts.length)) S w):=by
 have lx:=Bx (W:=w) hx
 refine AX (args:=[(qw x.p ts.length x.c)]) (L:=[AB x.p (rowsL BB ts)]) func51 O O (Av O) (DF hx Ah) (zN (sL [0] O) (q4 (asg' O (zf 99 10 (oNl' (q1 (q4 (AM O (AG (v:=(qa x.p.isNone)) (IL O O underlying28) O (oNl' (zB (sL [0,2,4] O) ?_)))))))))))
 refine zA ?_
 refine zM O (λhc0=>?_) (λhc0=>?_)
 ·have hts:ts=[]:=List.eq_nil_of_length_eq_zero (x.ok.nil (Option.isNone_iff_eq_none.1 hc0)).1
  exact q4 (asg' O (zf 99 10 (oNl' (zA (zF (zO (ret_one O (rd_tmp (v:=jj) O) (λw hw=>(by subst hts;exact J6 hw (OX.mk none 0 OwnOk.none) (by exact (sk (sl (sl sr)))) (GL.own O GL.nil) (by show qw none 0 0=_;rfl))))))))))
 ·exact zG (q2 (zZ (V:=λb1=>(qw (jk b1) 0 0)) (T:=99) (cs:=[]) (AJ O) (Hg underlying28 sizeOf99) O (Av O) λb1=>yJ (z:=10) 0 O Z λho_b1=>AM O (zy bH O ho_b1 O (JV (k:=2) O x.ok) (AV Bs _) (Cu X5 _) (FD Z) Z O λp_1 c_1 ho_1=>asg' O (oNl' (zB (sL [0,2] O) (zA (zF (ret_one O (rd_tmp (v:=(qw p_1 ts.length c_1)) O) (λw hw=>(J6 hw (OX.mk p_1 c_1 ho_1) (sk (sl (sl sr))) (GL.own O GL.nil) O))))))))))
theorem O3 (p:Option Addr) (n cp:Nat) (h:n<=cp) (w:World)  :Calls prog 52 #[(qw p n cp)] w (Ak w (qw p n n)):=by
 refine Ab (args:=[(qw p n cp)]) func52 O O (Av O) (zN (sL [0] O) (q4 (asg' O (oNl' (q2 (AM O (AM O (AG (v:=(vN n)) (AC O underlying23) O (AM O (AG (v:=(vN n)) (AC O underlying23) O (AG (v:=(qw p n n)) (D4 (m:=n) O O O underlying23 sizeOf105 Z) O ?_)))))))))))
 exact asg' O (oNl' (zB (sL [2] O) (zA (zF (ret_one O (rd_tmp (v:=(qw p n n)) O) (λw hw=>⟨rfl,hw.out⟩))))))
theorem Pg (p:Option Addr) (n cp:Nat) (h:n<=cp) (w:World)  :Calls prog 102 #[(qw p n cp)] w (Ak w (qw p n n)):=by
 refine Ab (args:=[(qw p n cp)]) func102 O O (Av O) (zN (sL [0] O) (q4 (asg' O (oNl' (q2 (AM O (AM O (AG (v:=(vN n)) (AC O underlying24) O (AM O (AG (v:=(vN n)) (AC O underlying24) O (AG (v:=(qw p n n)) (D4 (m:=n) O O O underlying24 sizeOf110 Z) O ?_)))))))))))
 exact asg' O (oNl' (zB (sL [2] O) (zA (zF (ret_one O (rd_tmp (v:=(qw p n n)) O) (λw hw=>⟨rfl,hw.out⟩))))))
theorem KE (x0 x1:Nat):Instr.fill (λi=>some (i*1,1)) (DC ((0,0):P2)).toArray [(0,vN x0),(1,vN x1)]=some (DC (x0,x1)).toArray:=by kernel_rfl
theorem JE (a b:Nat) (w:World)  :Calls prog 44 #[(vN a),(vN b)] w (Ak w (aG (DC (min a b,max a b)))):=by
 refine Ab (args:=[(vN a),(vN b)]) func44 O O (Av O) (zN (sL [0,1] O) (q4 (al dI O λb1=>oNl' (q2 (AM O (AM O (AG (FS (c:=((min a b:Nat):Int)) O O (by split<;>omega)) O (AM O (AM O (AG (Eu (c:=((max a b:Nat):Int)) O O (by split<;>omega)) O ?_))))))))))
 exact AG (v:=(aG (DC (min a b,max a b)))) (BF (zs:=DC ((0,0):P2)) (vs:=DC (min a b,max a b)) (pv:=[(0,(vN (min a b))),(1,(vN (max a b)))]) zeroValue114 underlying114 sizeOf3 O (KE (min a b) (max a b))) O (Ax O sizeOf114 O (oNl' (zB (sL [4] O) (zA (zF (ret_one O (Ai (i:=0) (cs:=DC (min a b,max a b)) O O isAgg114 sizeOf114 O) (λw hw=>⟨rfl,hw.out⟩)))))))
theorem KK (x0 x1:Nat):Instr.fill (λi=>some (i*1,1)) (DC ((0,0):P2)).toArray [(0,vN x0),(1,vN x1)]=some (DC (x0,x1)).toArray:=by kernel_rfl
theorem HZ (a b:Nat) (w:World)  :Calls prog 66 #[(vN a),(vN b)] w (Ak w (aG (DC (min a b,max a b)))):=by
 refine Ab (args:=[(vN a),(vN b)]) func66 O O (Av O) (zN (sL [0,1] O) (q4 (al ZQ O λb1=>oNl' (q2 (AM O (AM O (AG (FS (c:=((min a b:Nat):Int)) O O (by split<;>omega)) O (AM O (AM O (AG (Eu (c:=((max a b:Nat):Int)) O O (by split<;>omega)) O ?_))))))))))
 exact AG (v:=(aG (DC (min a b,max a b)))) (BF (zs:=DC ((0,0):P2)) (vs:=DC (min a b,max a b)) (pv:=[(0,(vN (min a b))),(1,(vN (max a b)))]) zeroValue137 underlying137 sizeOf3 O (KK (min a b) (max a b))) O (Ax O sizeOf137 O (oNl' (zB (sL [4] O) (zA (zF (ret_one O (Ai (i:=0) (cs:=DC (min a b,max a b)) O O isAgg137 sizeOf137 O) (λw hw=>⟨rfl,hw.out⟩)))))))
end
end Go.Proofs.YtpolhpjiahbidaaGreatDoor
