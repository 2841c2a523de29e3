import Derived.Lib.SliceRun
import Derived.WideKeyEntry
import Derived.Test.YtpolhpjiahbidaaGreatDoorPrt13
namespace Go.Proofs.YtpolhpjiahbidaaGreatDoor
open Go Go.RowKit Go.Proofs.Tryz
open Go.Value renaming slice→qz,bool→qa
set_option linter.unusedVariables false
set_option linter.unusedSimpArgs false
section
def U5 (S:Nat->Prop) (W w:World) (G:List As):Prop :=
  (∀x∈G,∀b,x.foot=some b->(W.heap.size<=b\/(x.ro=true/\S b))/\∃o,w.heap[b]?=some o/\x.P o)/\G.Pairwise λx y=>(x.ro=true/\y.ro=true)\/∀b,x.foot=some b->y.foot≠some b
def DC {α:Type} (V:α->Value) (LW:α->List As) (S:Nat->Prop) (W:World) (e:Ending) (w:World):Prop:=∃a:α,e=.returned (V a)/\Hu W.heap.size W w/\U5 S W w (LW a)
def Ht (w0:BA) (S:Nat->Prop) (G:List As):Prop:=∀y∈G,y.ro=true->∀b,y.foot=some b->Nw w0 S b
section
variable {w0:BA} {S:Nat->Prop} {w w' W:World} {L G:List As}
theorem BE.give (h:BE w0 w L) (hb:Hu w.heap.size w w') (hg:U5 (SL w0 S L) w w' G):BE w0 w' (G++L):=by
  have h1:=h.below hb
  refine ⟨h1.1,λy hy b e=>?_,List.pairwise_append.2 ⟨hg.2,h1.2.2,λx hx y hy=>?_⟩⟩
  · rcases List.mem_append.1 hy with hy|hy
    · obtain ⟨h2,h3⟩:=hg.1 y hy b e
      refine ⟨?_,h3⟩
      rcases h2 with h2|⟨h2,_⟩
      · exact .inr (.inl (xx h.size h2))
      · exact .inl h2
    · exact h1.2.1 y hy b e
  · by_cases hr:x.ro=true/\y.ro=true
    · exact .inl hr
    · refine .inr λb e e2=>?_
      rcases (hg.1 x hx b e).1 with h2|⟨h2,⟨z,hz,hzr,hzf⟩,_⟩
      · exact absurd (h.lt hy e2) Z
      · have hyr:¬y.ro=true:=λk=>hr ⟨h2,k⟩
        obtain ⟨i,hi,rfl⟩:=List.getElem_of_mem hz
        obtain ⟨j,hj,rfl⟩:=List.getElem_of_mem hy
        have hp:=List.pairwise_iff_getElem.1 h.2.2
        rcases Nat.lt_trichotomy i j with hij|hij|hij
        · exact (hp i j hi hj hij).elim (λk=>hyr k.2) (λk=>k b hzf e2)
        · subst hij;exact hyr hzr
        · exact (hp j i hj hi hij).elim (λk=>hyr k.1) (λk=>k b e2 hzf)
theorem BE.gives (h:BE ⟨W,none⟩ w L) (hs:G.Sublist L) (hS:Ht ⟨W,none⟩ S G):U5 S W w G:=by
  refine ⟨λx hx b e=>?_,h.2.2.sublist hs⟩
  obtain ⟨h1,h2⟩:=h.2.1 x (hs.subset hx) b e
  refine ⟨?_,h2⟩
  by_cases hr:x.ro=true
  · rcases hS x hx hr b e with h3|h3
    · exact .inl h3
    · exact .inr ⟨hr,h3⟩
  · rcases h1 with h1|h1|h1
    · exact absurd h1 hr
    · exact .inl h1
    · cases h1
theorem OE {α:Type} {V:α->Value} {LW:α->List As} (hw:BE ⟨W,none⟩ w L) (a:α) (hs:(LW a).Sublist L) (hS:Ht ⟨W,none⟩ S (LW a)) {v:Value} (hv:v=V a):DC V LW S W (.returned v) w:=⟨a,by rw [hv],hw.out,hw.gives hs hS⟩
theorem Ht.nil:Ht w0 S []:=λy hy=>by cases hy
theorem Ht.own {x:As} (hx:x.ro=false) (h:Ht w0 S G):Ht w0 S (x::G):=λy hy hr b e=>by
  rcases xy.1 hy with rfl|hy
  · rw [hx] at hr;cases hr
  · exact h y hy hr b e
theorem Ht.row {α:Type} [Cl α] {a:α} {x:As} (ha:At w0 S a) (hx:Cl.rows a=[x]) (h:Ht w0 S G):Ht w0 S (x::G):=λy hy hr b e=>by
  rcases xy.1 hy with rfl|hy
  · exact ha y (by rw [hx];exact List.mem_cons_self) b e
  · exact h y hy hr b e
end
section
variable {P:Program} {ops:Array Oper} {rest:List Oper} {Q:Exit->Act->World->Prop} {n d:Nat} {F:List (Nat×Value)} {w0:BA} {S:Nat->Prop} {L:List As} {t:TypeId} {p:String} {af:Array Edge} {y:Operand} {f:FuncId} {xs:List Operand} {args:List Value} {ts:Array TypeId} {α:Type} {V:α->Value} {LW:α->List As}
theorem yR (hc:∀args w,(callFunc f args).run P w=.ok (.enter f args) w) (h:∀w,BE w0 w L->Calls P f args.toArray w (DC V LW (SL w0 S L) w))
    (h2:(evF F y,xs.map (evF F),Nat.ble (d+1) n)=(some (.func (.func f) #[] #[]),args.map some,true)) (next:∀a:α,Ht w0 S (LW a)->AQ P ops rest Q n ((d,V a)::F) w0 (LW a++L)) :
    AQ P ops (⟨some d,.call { callee:=.value y,args:=xs.toArray,argTypes:=ts },t,p,af,none⟩::rest) Q n F w0 L:=λa w ha hW=>by
  unfold wpList
  rw [if_pos (AM rfl a ha)]
  left
  unfold Oper.wp
  rw [Ak (Ck h2) (Ck (BS h2)) hc a w ha hW,Oper.upon_enter]
  refine (h w hW).mono ?_
  rintro e w' ⟨x,rfl,hb,hg⟩
  refine next x (λz hz hr b e=>?_) _ _ (ha.put (B1 (BS (BS h2)))) (hW.give hb hg)
  rcases (hg.1 z hz b e).1 with h3|⟨_,h3⟩
  · exact .inl (xx hW.size h3)
  · exact h3.2
end
structure OX (T z:Nat) (cs:List Value) (n:Nat) where
  p:Option Addr
  c:Nat
  ok:OwnOk p n c
@[reducible] def Pc {T z:Nat} {cs:List Value} {n:Nat} (a:OX T z cs n):Value:=.slice a.p n a.c
@[reducible] def ZO {T z:Nat} {cs:List Value} {n:Nat} (a:OX T z cs n):List As:=[rowW a.p T z n a.c cs]
@[reducible] def Ul {T z:Nat} {cs:List Value} {n:Nat} (a:OX T z cs n):Value:=.slice a.p n n
theorem OwnOk.clip {p:Option Addr} {n c:Nat} (h:OwnOk p n c):Ao p n n:=⟨λe=>⟨(h.nil e).1,(h.nil e).1⟩,λa e=>by rw [h.at0 a e],Nat.le_refl _⟩
theorem ZT (p:Pt):((Ad p).all λu=>u.oneCell')=true:=rfl
theorem DJ {α:Type} {enc:α->List Value} (h:∀x,((enc x).all λu=>u.oneCell')=true):∀xs:List α,((rowsL enc xs).all λu=>u.oneCell')=true
  | []=>rfl
  | x::r=>by
    have e:rowsL enc (x::r)=enc x++rowsL enc r:=rfl
    rw [e,List.all_append,h x,DJ h r];rfl
theorem WR {A B vs:List Value} {r:Nat} (h:r+vs.length<=A.length):Gy (A++B) r vs=Gy A r vs++B:=by
  unfold Gy
  rw [List.take_append_of_le_length Z,List.drop_append_of_le_length h,<-List.append_assoc]
theorem Te {A B vs:List Value} {o:Nat}:Gy (A++B) (A.length+o) vs=A++Gy B o vs:=by
  unfold Gy
  rw [List.take_append,List.take_of_length_le Z,Nat.add_sub_cancel_left,List.drop_append,List.drop_of_length_le Z,show A.length+o+vs.length-A.length=o+vs.length by omega]
  simp
theorem NG {α:Type} {enc:α->List Value} {z:Nat} (hl:∀x,(enc x).length=z) (d:α) {r:Nat} {vs:List Value} {x':α}:∀{xs:List α} {j:Nat},j<xs.length->r+vs.length<=z->Gy (enc (xs.getD j d)) r vs=enc x'->Gy (rowsL enc xs) (j*z+r) vs=rowsL enc (xs.set j x')
  | x::q,0,_,h2,h3=>by
    have e:∀y,rowsL enc (y::q)=enc y++rowsL enc q:=λ_=>rfl
    rw [Nat.zero_mul,Nat.zero_add,List.set_cons_zero,e,e,WR (by rw [hl];exact h2)]
    exact congrArg (·++rowsL enc q) h3
  | x::q,j+1,h1,h2,h3=>by
    have e:∀y l,rowsL enc (y::l)=enc y++rowsL enc l:=λ_ _=>rfl
    rw [List.set_cons_succ,e,e,show (j+1)*z+r=(enc x).length+(j*z+r) by rw [hl,Nat.add_mul];omega,Te,NG hl d (by simpa using h1) h2 (by simpa using h3)]
section
variable {P:Program} {ops:Array Oper} {rest:List Oper} {Q:Exit->Act->World->Prop} {n d:Nat} {F:List (Nat×Value)} {w0:BA} {S:Nat->Prop} {L L':List As} {t ty T:TypeId} {p:String} {af:Array Edge} {x y:Operand} {dd:Option Tmp} {g:Option (Nat×Bool)} {q:Option Addr} {z m c:Nat} {cs vs:List Value} {v:Value}
theorem H7 {tx ye e:TypeId} (hx:evF F x=some (.slice q m c)) (hy:evF F y=some (.slice none 0 0)) (hu:P.underlying tx=some (.slice e)):Ex P n F w0 L ⟨dd,.binOp .eql tx x y ye,t,p,af,g⟩ (.bool q.isNone):=λA w ha _=>by
  have h1:(eqGuard .eql tx x y (.slice q m c) (.slice none 0 0)).run P w=.ok () w:=rfl
  simp only [execOp,ha.ev hx,ha.ev hy,Sem.run_bind,h1,Result.andThen_ok,Lib.run_eql_slice_nil w tx e q m c 0 0 hu,Sem.run_pure]
theorem yL {s:Operand} {bytes c2:Nat} {q2:Option Addr} {news:List Value} (ht:ElemT P t T z bytes) (hs:evF F s=some (.slice q 0 c)) (ho:OwnOk q 0 c)
    (hx:evF F x=some (.slice q2 m c2)) (hsrc:c8 w0 (rowW q T z 0 c []::L) q2 m news) (hnl:news.length=m*z) (h1:(news.all λu=>u.oneCell')=true) (h63:m<=maxLen) (hbytes:m*bytes<=140737488355328) (hd:Nat.ble (d+1) n=true)
    (next:∀p' c',OwnOk p' m c'->AQ P ops rest Q n ((d,.slice p' m c')::F) w0 (rowW p' T z m c' news::L)) :
    AQ P ops (⟨some d,.call { callee:=.builtin .append,args:=#[s,x],argTypes:=#[t,t] },ty,p,af,none⟩::rest) Q n F w0 (rowW q T z 0 c []::L):=by
  refine yz (cs2:=news) ht hs ho jX hx hsrc hnl h1 (by rw [Nat.zero_add];exact h63) (by rw [Nat.zero_add];exact hbytes) O hd λp' c' h=>?_
  rw [Nat.zero_add] at h ⊢
  exact next p' c' h
theorem yh (i:Nat) {α:Type} {enc:α->List Value} {j r:Nat} {x':α} {xs:List α} (df:α) (hlen:∀a,(enc a).length=z) (ho:OwnOk q m c) (hxs:xs.length=m) (hx:evF F x=some (pP (pB q) (pO q+(j*z+r)))) (hy:evF F y=some v) (hi:L[i]?=some (rowW q T z m c (rowsL enc xs))) (hq:q≠none) (hj:j<m)
    (hv:v.cells=vs.toArray) (hs:∀w,(sizeOf ty).run P w=.ok vs.length w) (h1:(vs.all λu=>u.oneCell',Nat.ble (r+vs.length) z,Pr L i (rowW q T z m c (rowsL enc (xs.set j x'))))=(true,true,some L')) (he:Gy (enc (xs.getD j df)) r vs=enc x')
    (next:AQ P ops rest Q n F w0 L'):AQ P ops (⟨none,.store ty x y,t,p,af,none⟩::rest) Q n F w0 L:=by
  have hz:=Nat.le_of_ble_eq_true (Ck (BS h1))
  have hjz:(j+1)*z<=m*z:=Nat.mul_le_mul_right z hj
  rw [Nat.add_mul] at hjz
  refine yi i hx hy hi ho (by rw [Al hlen,hxs]) hq hv hs (Ck h1) Z ?_
  rw [NG hlen df Z hz he,Hp (BS (BS h1))]
  exact next
theorem yJ (i:Nat) (hi:L[i]?=some (rowW q T z m c cs)) (ho:OwnOk q m c) (hl:cs.length=m*z) (hex:w0.ex=none) (hs:Pr L i (AC q cs)=some L') (next:(∀b,q.map (·.block)=some b->w0.w.heap.size<=b)->AQ P ops rest Q n F w0 L'):AQ P ops rest Q n F w0 L:=λa w ha hw=>by
  refine next (λb e=>?_) a w ha (Hp hs▸hw.freeze hi O (λo hp=>CV ho hl hp) (λe=>by cases e))
  rcases (hw.2.1 _ (List.mem_of_getElem? hi) b e).1 with h1|h1|h1
  · cases h1
  · exact h1
  · rw [hex] at h1;cases h1
theorem At.new {n:Nat} {cs:List Value} {a:RX cs n} (h:∀b,a.p.map (·.block)=some b->w0.w.heap.size<=b):At w0 S a:=λy hy b e=>by
  rcases xz.1 hy with rfl
  exact .inl (h b e)
end
theorem f4 {S:Nat->Prop} {w:World} {ps:List Pt} {ts ss:List (Tq3)} {x:MX ps ts ss} (h:Ro S w x):Ro S w x.c:=λy hy=>by rcases xz.1 hy with rfl;exact h _ (List.mem_cons_of_mem _ (List.mem_cons_of_mem _ List.mem_cons_self))
structure gl (ps:List Pt) (ts ss:List (Tq3)) where
  a:OX 99 10 (rowsL Ad ps) ps.length
  b:OX 105 3 (rowsL Am ts) ts.length
  c:OX 110 3 (rowsL Am ss) ss.length
@[reducible] def iT {ps:List Pt} {ts ss:List (Tq3)} (x:gl ps ts ss):List As:=[rowW x.c.p 110 3 ss.length x.c.c (rowsL Am ss),rowW x.b.p 105 3 ts.length x.b.c (rowsL Am ts),rowW x.a.p 99 10 ps.length x.a.c (rowsL Ad ps)]
structure fG (ps:List Pt) (ts ss:List (Tq3)) (l:List Nat) (e:Nat) where
  m:MX ps ts ss
  q:RX (dj l) l.length
theorem dy {ps:List Pt} {ts ss:List (Tq3)} {l:List Nat} {e:Nat} {x:fG ps ts ss l e} {y:As} (hy:y∈[x.m.a.row,x.m.b.row,x.m.c.row,x.q.row]):y.ro=true:=by
  simp only [xy,List.not_mem_nil,or_false] at hy
  rcases hy with rfl|rfl|rfl|rfl<;>rfl
instance {ps:List Pt} {ts ss:List (Tq3)} {l:List Nat} {e:Nat}:Cl (fG ps ts ss l e):=⟨λx=>.tuple #[aG (E9 x.m),x.q.val,vN e],λx=>[x.m.a.row,x.m.b.row,x.m.c.row,x.q.row],λx y hy=>dy hy⟩
section
variable {P:Program} {ops:Array Oper} {rest:List Oper} {Q:Exit->Act->World->Prop} {n d:Nat} {F:List (Nat×Value)} {w0:BA} {S:Nat->Prop} {L:List As} {t:TypeId} {p:String} {af:Array Edge} {y:Operand} {f:FuncId} {xs:List Operand} {args:List Value} {tys:Array TypeId} {ps:List Pt} {ts ss:List (Tq3)} {l:List Nat} {e:Nat}
end
end
section
section
variable {α β:Type} [DecidableEq α]
theorem GJ {kvs:List (α×β)} {x z:α} {y:β}:Bb (Br kvs x y) z=if z=x then some y else Bb kvs z:=by
  induction kvs with
  | nil=>rfl
  | cons p r ih =>
    obtain ⟨k,v⟩:=p
    unfold Br
    split
    · rename_i e
      subst e
      unfold Bb
      split<;>rfl
    · rename_i e
      rw [Bb,ih]
      by_cases h:z=k
      · rw [if_pos h,if_neg (λe2=>e (e2.symm.trans h)),Bb,if_pos h]
      · rw [if_neg h]
        split
        · rfl
        · rw [Bb,if_neg h]
end
section
variable {ts:List (Tq3)}
def CT (ts:List (Tq3)) (u:Nat):P2:=(FH (ts.getD (u/3) (0,0,0)) (u%3),FH (ts.getD (u/3) (0,0,0)) ((u%3+1)%3))
def HX (ts:List (Tq3)) (s a b:Nat) (z:Int):Prop:=(z = -1/\∀u,u<s->CT ts u≠(a,b))\/∃u,u<s/\z=((u/3:Nat):Int)/\CT ts u=(a,b)/\∀v,v<u->CT ts v≠(a,b)
theorem HX.none {s a b:Nat} (h:∀u,u<s->CT ts u≠(a,b)):HX ts s a b (-1):=.inl ⟨rfl,h⟩
theorem HX.skip {s a b:Nat} {z:Int} (h:HX ts s a b z) (hn:CT ts s≠(a,b)):HX ts (s+1) a b z:=by
  rcases h with ⟨h1,h2⟩|⟨u,h1,h2,h3,h4⟩
  · refine .inl ⟨h1,λu hu=>?_⟩
    rcases Nat.lt_or_ge u s with h|h
    · exact h2 u h
    · rw [show u=s by omega];exact hn
  · exact .inr ⟨u,Z,h2,h3,h4⟩
theorem HX.take {s a b:Nat} (h:HX ts s a b (-1)) (hn:CT ts s=(a,b)):HX ts (s+1) a b ((s/3:Nat):Int):=by
  rcases h with ⟨h1,h2⟩|⟨u,h1,h2,h3,h4⟩
  · exact .inr ⟨s,Z,rfl,hn,h2⟩
  · omega
theorem HX.keep {s a b:Nat} {z:Int} (h:HX ts s a b z) (hz:z ≠ -1):HX ts (s+1) a b z:=by
  rcases h with ⟨h1,h2⟩|⟨u,h1,h2,h3,h4⟩
  · exact absurd h1 hz
  · exact .inr ⟨u,Z,h2,h3,h4⟩
structure aZ (ts:List (Tq3)) (s:Nat) (k:P2) (e:E4):Prop where
  ea:e.a=k.1
  eb:e.b=k.2
  lt:k.1<k.2
  l:HX ts s k.1 k.2 e.l
  r:HX ts s k.2 k.1 e.r
  some:∃u,u<s/\(CT ts u=(k.1,k.2)\/CT ts u=(k.2,k.1))
theorem KJ (hd:∀u,u<3*ts.length->(CT ts u).1≠(CT ts u).2):∀s,s<=3*ts.length->(∀k e,Bb (C0 ts s) k=some e->aZ ts s k e)/\(∀k,Bb (C0 ts s) k=none->k.1<k.2->∀u,u<s->CT ts u≠(k.1,k.2)/\CT ts u≠(k.2,k.1))
  | 0,_=>⟨λk e h=>(by cases h),λk _ _ u hu=>absurd hu (Nat.not_lt_zero _)⟩
  | s+1,hs=>by
    obtain ⟨i1,i2⟩:=KJ hd s Z
    have hne:=hd s Z
    obtain ⟨a,ha⟩:∃a,a=FH (ts.getD (s/3) (0,0,0)) (s%3):=⟨_,rfl⟩
    obtain ⟨b,hb⟩:∃b,b=FH (ts.getD (s/3) (0,0,0)) ((s%3+1)%3):=⟨_,rfl⟩
    have hdir:CT ts s=(a,b):=by rw [ha,hb];rfl
    rw [hdir] at hne
    have hE:C0 ts (s+1)=UR (C0 ts s) (s/3) a b:=by rw [ha,hb];rfl
    rw [hE]
    unfold UR
    have hky:(D8 a b).1<(D8 a b).2:=by unfold D8;simp only at hne ⊢;omega
    -- what the old edge,or the new one,knows
    have h0:∀e0,e0=(Bb (C0 ts s) (D8 a b)).getD (JO (D8 a b))->e0.a=(D8 a b).1/\e0.b=(D8 a b).2/\HX ts s (D8 a b).1 (D8 a b).2 e0.l/\HX ts s (D8 a b).2 (D8 a b).1 e0.r:=by
      intro e0 he0
      cases hg:Bb (C0 ts s) (D8 a b) with
      | none =>
        rw [hg] at he0
        have h2:=i2 _ hg hky
        subst he0
        exact ⟨rfl,rfl,HX.none λu hu=>(h2 u hu).1,HX.none λu hu=>(h2 u hu).2⟩
      | some e =>
        rw [hg] at he0
        have h2:=i1 _ _ hg
        subst he0
        exact ⟨h2.ea,h2.eb,h2.l,h2.r⟩
    constructor
    · intro k e hk
      rw [GJ] at hk
      split at hk
      · rename_i e1
        injection hk with hk
        obtain ⟨c1,c2,c3,c4⟩:=h0 _ rfl
        obtain ⟨e0,he0⟩:∃e0,e0=(Bb (C0 ts s) (D8 a b)).getD (JO (D8 a b)):=⟨_,rfl⟩
        rw [<-he0] at hk c1 c2 c3 c4
        subst hk
        have hends:=NS e0 (s/3) a b
        rw [e1]
        rcases Nat.lt_or_ge a b with hab|hab
        · have k1:(D8 a b).1=a:=by unfold D8;simp only;omega
          have k2:(D8 a b).2=b:=by unfold D8;simp only;omega
          rw [k1,k2] at c3 c4
          refine ⟨hends.1.trans c1,hends.2.trans c2,hky,?_,?_,s,Z,.inl (by rw [k1,k2];exact hdir)⟩<;>rw [k1,k2]
          · unfold GA
            by_cases hl:e0.l = -1
            · rw [if_pos ⟨hab,hl⟩]
              rw [hl] at c3
              exact c3.take hdir
            · rw [if_neg (λh=>hl h.2),if_neg (λh=>by omega)]
              exact c3.keep hl
          · have hn2:CT ts s≠(b,a):=by rw [hdir];intro h;injection h with h _;omega
            unfold GA
            split
            · exact c4.skip hn2
            · rw [if_neg (λh=>by omega)]
              exact c4.skip hn2
        · have hba:b<a:=by simp only at hne;omega
          have k1:(D8 a b).1=b:=by unfold D8;simp only;omega
          have k2:(D8 a b).2=a:=by unfold D8;simp only;omega
          rw [k1,k2] at c3 c4
          have hn2:CT ts s≠(b,a):=by rw [hdir];intro h;injection h with h _;omega
          refine ⟨hends.1.trans c1,hends.2.trans c2,hky,?_,?_,s,Z,.inr (by rw [k1,k2];exact hdir)⟩<;>rw [k1,k2]
          · unfold GA
            rw [if_neg (λh=>by omega)]
            split
            · exact c3.skip hn2
            · exact c3.skip hn2
          · unfold GA
            rw [if_neg (λh=>by omega)]
            by_cases hl:e0.r = -1
            · rw [if_pos ⟨hba,hl⟩]
              rw [hl] at c4
              exact c4.take hdir
            · rw [if_neg (λh=>hl h.2)]
              exact c4.keep hl
      · rename_i e1
        obtain ⟨a1,a2,a3,a4,a5,u,a6,a7⟩:=i1 k e hk
        have n1:CT ts s≠(k.1,k.2):=by
          rw [hdir];intro h;injection h with h1 h2
          exact e1 (Prod.ext (by unfold D8;simp only;omega) (by unfold D8;simp only;omega))
        have n2:CT ts s≠(k.2,k.1):=by
          rw [hdir];intro h;injection h with h1 h2
          exact e1 (Prod.ext (by unfold D8;simp only;omega) (by unfold D8;simp only;omega))
        exact ⟨a1,a2,a3,a4.skip n1,a5.skip n2,u,Z,a7⟩
    · intro k hk hlt u hu
      rw [GJ] at hk
      split at hk
      · cases hk
      · rename_i e1
        rcases Nat.lt_or_ge u s with h|h
        · exact i2 k hk hlt u h
        · rw [show u=s by omega,hdir]
          constructor
          · intro h;injection h with h1 h2
            exact e1 (Prod.ext (by unfold D8;simp only;omega) (by unfold D8;simp only;omega))
          · intro h;injection h with h1 h2
            exact e1 (Prod.ext (by unfold D8;simp only;omega) (by unfold D8;simp only;omega))
theorem Yi {N:Nat} (hn:Bn N ts=true) (hN:N<=4611686018427387904) (hd:∀u,u<3*ts.length->(CT ts u).1≠(CT ts u).2) {e:E4} (he:e∈BI ts):aZ ts (3*ts.length) (e.a,e.b) e:=by
  unfold BI at he
  obtain ⟨p,hp,h1⟩:=List.mem_map.1 ((EH _).mem_iff.1 he)
  obtain ⟨j,hj,h2⟩:=List.getElem_of_mem hp
  have h3:=KQ (x:=p.1) (v:=p.2) (F6 hn hN _ (Nat.le_refl _)).once (show (C0 ts (3*ts.length))[j]?=some (p.1,p.2) by rw [xN hj,h2])
  have h4:=(KJ hd _ (Nat.le_refl _)).1 _ _ h3
  rw [h1] at h4
  rw [show (e.a,e.b)=p.1 from Prod.ext h4.ea h4.eb]
  exact h4
end
end
section
theorem RZ {α:Type} {R:α->α->Prop} (ha:∀x y,R x y->¬R y x) {l l':List α} (h:l.Pairwise R) (h':l'.Pairwise R) (hm:∀x,x∈l↔x∈l'):l=l':=by
  have nd:∀{l:List α},l.Pairwise R->l.Nodup:=λ{l} h=>h.imp λ{x y} hxy e=>by subst e;exact ha _ _ hxy hxy
  exact List.Perm.eq_of_pairwise (le:=R) (λx y _ _ h1 h2=>absurd h2 (ha x y h1)) h h' ((List.perm_ext_iff_of_nodup (nd h) (nd h')).2 hm)
abbrev T3:=Tq3
section
variable {ts ts':List T3} {N:Nat}
theorem Wv {t:T3} (h:MV N t=true):t.1≠t.2.1/\t.2.1≠t.2.2/\t.2.2≠t.1:=by
  simp only [MV,xZ,xV,xS,xT] at h
  exact ⟨h.1.1.2,h.1.2,h.2⟩
theorem Ku (hn:Bn N ts=true) {u:Nat} (hu:u<3*ts.length):(CT ts u).1≠(CT ts u).2:=by
  obtain ⟨hab,hbc,hca⟩:=Wv (Cs hn (show u/3<ts.length by omega))
  have h3:u%3=0\/u%3=1\/u%3=2:=by omega
  unfold CT
  rcases h3 with h3|h3|h3<;>rw [h3]
  · exact hab
  · exact hbc
  · exact hca
theorem SH (hn:Bn N ts=true) {u:Nat} (hu:u<3*ts.length):(CT ts u).1<N/\(CT ts u).2<N:=by
  have h:=Cs hn (show u/3<ts.length by omega)
  exact ⟨Kq h _,Kq h _⟩
theorem HX.uniq {s a b:Nat} {y z:Int} (h:HX ts s a b y) (k:HX ts s a b z):y=z:=by
  rcases h with ⟨h1,h2⟩|⟨u,h1,h2,h3,h4⟩<;>rcases k with ⟨k1,k2⟩|⟨v,k1,k2,k3,k4⟩
  · omega
  · exact absurd k3 (h2 v k1)
  · exact absurd h3 (k2 u h1)
  · rcases Nat.lt_trichotomy u v with h|h|h
    · exact absurd h3 (k4 u h)
    · rw [h2,k2,h]
    · exact absurd k3 (h4 v h)
theorem Ig (hn:Bn N ts=true) (hN:N<=4611686018427387904) {e:E4}:e∈BI ts↔aZ ts (3*ts.length) (e.a,e.b) e:=by
  have hd:∀u,u<3*ts.length->(CT ts u).1≠(CT ts u).2:=λu hu=>Ku hn hu
  refine ⟨λh=>Yi hn hN hd h,λh=>?_⟩
  obtain ⟨i1,i2⟩:=KJ hd _ (Nat.le_refl _)
  cases hg:Bb (C0 ts (3*ts.length)) (e.a,e.b) with
  | none =>
    obtain ⟨u,hu,hs⟩:=h.some
    have h3:=i2 _ hg h.lt u hu
    rcases hs with hs|hs
    · exact absurd hs h3.1
    · exact absurd hs h3.2
  | some e' =>
    have h3:=i1 _ _ hg
    have e1:e'=e:=by
      have a1:=h3.ea;have a2:=h3.eb;have a3:=h3.l.uniq h.l;have a4:=h3.r.uniq h.r
      cases e;cases e';simp only at a1 a2 a3 a4;subst a1 a2 a3 a4;rfl
    rw [e1] at hg
    unfold BI
    exact (EH _).mem_iff.2 (List.mem_map.2 ⟨_,LJ hg,rfl⟩)
def YM (x y:E4):Prop:=x.a<y.a\/(x.a=y.a/\x.b<y.b)
theorem YM.asymm (x y:E4) (h:YM x y):¬YM y x:=by unfold YM at *;omega
theorem Ql (hn:Bn N ts=true) (hN:N<=4611686018427387904):(BI ts).Pairwise YM:=by
  have h1:Mh ((C0 ts (3*ts.length)).map (·.2)):=NB (F6 hn hN _ (Nat.le_refl _)) (Kx ts _)
  have h2:Mh (BI ts):=(List.Perm.pairwise_iff (R:=λx y:E4=>¬(x.a=y.a/\x.b=y.b)) (λh k=>h ⟨k.1.symm,k.2.symm⟩) (EH _)).2 h1
  exact (List.Pairwise.and (HP _) h2).imp λ{x y} h=>by
    have h3:=KR.1 h.1
    have h4:=h.2
    unfold YM
    omega
def QQ (ts:List T3) (j a b:Nat):Prop:=∃r,r<3/\CT ts (3*j+r)=(a,b)
def dI (ts:List T3) (n a b:Nat) (z:Int):Prop:=(z = -1/\∀j,j<n->¬QQ ts j a b)\/∃j,j<n/\z=(j:Int)/\QQ ts j a b/\∀i,i<j->¬QQ ts i a b
theorem Ys {n a b:Nat} {z:Int} (h:HX ts (3*n) a b z):dI ts n a b z:=by
  rcases h with ⟨h1,h2⟩|⟨u,h1,h2,h3,h4⟩
  · exact .inl ⟨h1,λj hj ⟨r,hr,k⟩=>h2 _ Z k⟩
  · exact .inr ⟨u/3,Z,h2,⟨u%3,Z,by rw [show 3*(u/3)+u%3=u by omega];exact h3⟩,λi hi ⟨r,hr,k⟩=>h4 _ Z k⟩
theorem PK {n a b:Nat} {z:Int} (h:dI ts n a b z):HX ts (3*n) a b z:=by
  rcases h with ⟨h1,h2⟩|⟨j,h1,h2,⟨r,hr,h3⟩,h4⟩
  · exact .inl ⟨h1,λu hu k=>h2 (u/3) Z ⟨u%3,Z,by rw [show 3*(u/3)+u%3=u by omega];exact k⟩⟩
  · have key:∀m,m<=3->(∀q,q<m->CT ts (3*j+q)≠(a,b))\/∃q,q<m/\CT ts (3*j+q)=(a,b)/\∀p,p<q->CT ts (3*j+p)≠(a,b):=by
      intro m
      induction m with
      | zero=>intro _;exact .inl λq hq=>absurd hq (Nat.not_lt_zero _)
      | succ m ih =>
        intro hm
        rcases ih Z with h|⟨q,h5,h6,h7⟩
        · by_cases k:CT ts (3*j+m)=(a,b)
          · exact .inr ⟨m,Z,k,h⟩
          · refine .inl λq hq=>?_
            rcases Nat.lt_or_ge q m with h8|h8
            · exact h q h8
            · rw [show q=m by omega];exact k
        · exact .inr ⟨q,Z,h6,h7⟩
    rcases key 3 (Nat.le_refl _) with k|⟨q,h5,h6,h7⟩
    · exact absurd h3 (k r hr)
    · refine .inr ⟨3*j+q,Z,by rw [h2];congr 1;omega,h6,λv hv k=>?_⟩
      rcases Nat.lt_or_ge v (3*j) with h8|h8
      · exact h4 (v/3) Z ⟨v%3,Z,by rw [show 3*(v/3)+v%3=v by omega];exact k⟩
      · exact h7 (v-3*j) Z (by rw [show 3*j+(v-3*j)=v by omega];exact k)
structure Of (ts ts':List T3):Prop where
  len:ts.length=ts'.length
  way:∀j,j<ts.length->∀a b,QQ ts j a b↔QQ ts' j a b
theorem Of.symm (h:Of ts ts'):Of ts' ts:=⟨h.len.symm,λj hj a b=>(h.way j (by rw [h.len];exact hj) a b).symm⟩
theorem Of.fst (h:Of ts ts') {a b:Nat} {z:Int} (k:HX ts (3*ts.length) a b z):HX ts' (3*ts'.length) a b z:=by
  rw [<-h.len]
  refine PK ?_
  rcases Ys k with ⟨h1,h2⟩|⟨j,h1,h2,h3,h4⟩
  · exact .inl ⟨h1,λj hj k=>h2 j hj ((h.way j hj a b).2 k)⟩
  · exact .inr ⟨j,h1,h2,(h.way j h1 a b).1 h3,λi hi k=>h4 i hi ((h.way i Z a b).2 k)⟩
theorem Fs {j r:Nat} (hr:r<3):CT ts (3*j+r)=(FH (ts.getD j (0,0,0)) r,FH (ts.getD j (0,0,0)) ((r+1)%3)):=by
  unfold CT
  rw [show (3*j+r)/3=j by omega,show (3*j+r)%3=r by omega]
def MU (ts:List T3) (u:Nat):P2:=D8 (CT ts u).1 (CT ts u).2
def C_ (ts:List T3):Nat->List (P2×Nat)
  | 0=>[]
  | s+1=>Br (C_ ts s) (MU ts s) ((Bb (C_ ts s) (MU ts s)).getD 0+1)
def TE (ts:List T3):List P2:=ts.flatMap λt=>[D8 t.1 t.2.1,D8 t.2.1 t.2.2,D8 t.2.2 t.1]
theorem IB (k:P2):∀s,(Bb (C_ ts s) k).getD 0=((List.range s).map (MU ts)).count k
  | 0=>rfl
  | s+1=>by
    rw [C_,GJ,List.range_succ,List.map_append,List.count_append,List.map_singleton,List.count_singleton]
    by_cases h:k=MU ts s
    · subst h
      rw [if_pos rfl,Option.getD_some,IB _ s];simp
    · rw [if_neg h,IB k s,if_neg (by simpa using λe=>h e.symm)];rfl
theorem JJ {t i:Nat} (hi:i<3):C_ ts (3*t+i+1)=Br (C_ ts (3*t+i)) (D8 (FH (ts.getD t (0,0,0)) i) (FH (ts.getD t (0,0,0)) ((i+1)%3))) ((Bb (C_ ts (3*t+i)) (D8 (FH (ts.getD t (0,0,0)) i) (FH (ts.getD t (0,0,0)) ((i+1)%3)))).getD 0+1):=by
  rw [C_]
  unfold MU
  rw [Fs hi]
theorem N7 (s:Nat) (k:P2):(Bb (C_ ts s) k).getD 0<=s:=by
  rw [IB]
  exact xx List.count_le_length jX
theorem Fw (hn:Bn N ts=true) (hN:N<=4611686018427387904):∀s,s<=3*ts.length->Nb YE (C_ ts s)
  | 0,_=>Nb.nil
  | s+1,hs=>by
    obtain ⟨h1,h2⟩:=SH hn (show s<3*ts.length by omega)
    exact (Fw hn hN s Z).put (EQ (Nat.lt_of_lt_of_le h1 hN) (Nat.lt_of_lt_of_le h2 hN))
theorem QR:(List.range (3*ts.length)).map (MU ts)=TE ts:=by
  have key:∀n,n<=ts.length->(List.range (3*n)).map (MU ts)=TE (ts.take n):=by
    intro n
    induction n with
    | zero=>intro _;rfl
    | succ n ih =>
      intro hn
      have e1:List.range (3*(n+1))=List.range (3*n)++[3*n,3*n+1,3*n+2]:=by
        rw [show 3*(n+1)=3*n+1+1+1 by omega,List.range_succ,List.range_succ,List.range_succ];simp
      have e2:ts.take (n+1)=ts.take n++[ts.getD n (0,0,0)]:=by
        rw [List.take_add_one,xN (show n<ts.length by omega),List.getD,xN (show n<ts.length by omega)];rfl
      have k0:=Fs (ts:=ts) (j:=n) (show 0<3 by decide)
      have k1:=Fs (ts:=ts) (j:=n) (show 1<3 by decide)
      have k2:=Fs (ts:=ts) (j:=n) (show 2<3 by decide)
      rw [e1,e2,List.map_append,ih Z]
      unfold TE
      rw [List.flatMap_append]
      congr 1
      simp only [List.map_cons,List.map_nil,List.flatMap_cons,List.flatMap_nil,List.append_nil,MU]
      rw [show 3*n=3*n+0 by omega,k0,show 3*n+0+1=3*n+1 by omega,k1,show 3*n+0+2=3*n+2 by omega,k2]
      rfl
  have h:=key ts.length (Nat.le_refl _)
  rwa [List.take_length] at h
def a0 (ts:List T3) (k:P2):Nat:=(Bb (C_ ts (3*ts.length)) k).getD 0
def MW (ts:List T3) (i:Nat):List T3:=(((BI ts).take i).filter λe=>decide (a0 ts (e.a,e.b)=1)).map λe=>(e.a,e.b,0)
def J3 (ts:List T3):List T3:=MW ts (BI ts).length
theorem XI {i:Nat} (hi:i<(BI ts).length) (h:a0 ts (((BI ts).getD i ⟨0,0,0,0⟩).a,((BI ts).getD i ⟨0,0,0,0⟩).b)=1):MW ts (i+1)=MW ts i++[(((BI ts).getD i ⟨0,0,0,0⟩).a,((BI ts).getD i ⟨0,0,0,0⟩).b,0)]:=by
  rw [List.getD,xN hi] at h ⊢
  unfold MW
  rw [List.take_add_one,xN hi,List.filter_append,List.map_append]
  simp only [Option.toList_some,Option.getD_some] at h ⊢
  rw [List.filter_cons,if_pos (xr h)];rfl
theorem Zi {i:Nat} (hi:i<(BI ts).length) (h:¬a0 ts (((BI ts).getD i ⟨0,0,0,0⟩).a,((BI ts).getD i ⟨0,0,0,0⟩).b)=1):MW ts (i+1)=MW ts i:=by
  rw [List.getD,xN hi] at h
  unfold MW
  rw [List.take_add_one,xN hi,List.filter_append,List.map_append]
  simp only [Option.toList_some,Option.getD_some] at h ⊢
  rw [List.filter_cons,if_neg (by simpa using h)];simp
theorem XH (i:Nat):(MW ts i).length<=i:=by
  unfold MW
  rw [xv]
  exact xx (List.length_filter_le _ _) (List.length_take_le _ _)
theorem PV (hn:Bn N ts=true) (hN:N<=4611686018427387904) {a b:Nat}:(a,b)∈TE ts↔∃e∈BI ts,e.a=a/\e.b=b:=by
  rw [<-QR,List.mem_map]
  constructor
  · rintro ⟨u,hu,hk⟩
    have hu:=List.mem_range.1 hu
    have hne:=Ku hn hu
    unfold MU D8 at hk
    injection hk with h1 h2
    have hlt:a<b:=by omega
    have hd:CT ts u=(a,b)\/CT ts u=(b,a):=by
      rcases Nat.lt_or_ge (CT ts u).1 (CT ts u).2 with h|h
      · exact .inl (Prod.ext Z Z)
      · exact .inr (Prod.ext Z Z)
    obtain ⟨i1,i2⟩:=KJ (λu hu=>Ku hn hu) _ (Nat.le_refl _)
    cases hg:Bb (C0 ts (3*ts.length)) (a,b) with
    | none =>
      have h3:=i2 _ hg hlt u hu
      rcases hd with hd|hd
      · exact absurd hd h3.1
      · exact absurd hd h3.2
    | some e =>
      have h3:=i1 _ _ hg
      refine ⟨e,?_,h3.ea,h3.eb⟩
      unfold BI
      exact (EH _).mem_iff.2 (List.mem_map.2 ⟨_,LJ hg,rfl⟩)
  · rintro ⟨e,he,rfl,rfl⟩
    have h:=(Ig hn hN).1 he
    obtain ⟨u,hu,hs⟩:=h.some
    have hlt:=h.lt
    simp only at hlt hs
    refine ⟨u,List.mem_range.2 hu,?_⟩
    unfold MU D8
    rcases hs with hs|hs<;>rw [hs]<;>exact Prod.ext (by simp only;omega) (by simp only;omega)
end
end
section
abbrev E0:E4:=⟨0,0,0,0⟩
def Tm (N:Nat) (es:List E4):Nat->List (P2×Nat)
  | 0=>[]
  | i+1=>Br (Tm N es i) (D8 (es.getD i E0).a (es.getD i E0).b) (N+i)
def cW (N:Nat) (ss:List T3):Nat->List (P2×Nat)
  | 0=>[]
  | k+1=>if (ss.getD (ss.length-1-k) (0,0,0)).1<N/\(ss.getD (ss.length-1-k) (0,0,0)).2.1<N then Br (cW N ss k) (D8 (ss.getD (ss.length-1-k) (0,0,0)).1 (ss.getD (ss.length-1-k) (0,0,0)).2.1) (ss.getD (ss.length-1-k) (0,0,0)).2.2 else cW N ss k
def Yt (N:Nat) (ss:List T3) (es:List E4):Nat->List (P2×Nat)
  | 0=>cW N ss ss.length
  | i+1=>Br (Br (Yt N ss es i) (D8 (es.getD i E0).a (N+i)) ((Bb (Yt N ss es i) (D8 (es.getD i E0).a (es.getD i E0).b)).getD 0)) (D8 (es.getD i E0).b (N+i)) ((Bb (Yt N ss es i) (D8 (es.getD i E0).a (es.getD i E0).b)).getD 0)
def fk (N:Nat) (ss:List T3) (es:List E4) (a b:Nat):Nat:=(Bb (Yt N ss es es.length) (D8 a b)).getD 0
def iA (ps:List Pt) (e:E4):Pt:=IL (BQ ps e.a+BQ ps e.b) (1/2)
def dh (ps:List Pt) (es:List E4):Nat->List Pt
  | 0=>ps
  | i+1=>dh ps es i++[iA ps (es.getD i E0)]
def fW (ps:List Pt) (es:List E4):List Pt:=dh ps es es.length
def fY (N:Nat) (ss:List T3) (es:List E4) (ts:List T3):List T3:=(J3 ts).map λs=>(s.1,s.2.1,fk N ss es s.1 s.2.1)
section
variable {N M i:Nat} {es:List E4} {ts:List T3} {t:T3} {ss rs:List T3} {ps:List Pt}
theorem Lw {α:Type} {l:List α} {d:α} {i:Nat} (h:i<l.length):l.take (i+1)=l.take i++[l.getD i d]:=by
  rw [List.take_add_one,xN h,List.getD,xN h];rfl
theorem Ms (hn:Bn N ts=true) (hN:N<=4611686018427387904) {e:E4} (he:e∈BI ts):e.a<e.b/\e.b<N:=by
  have h:=(Ig hn hN).1 he
  obtain ⟨u,hu,hs⟩:=h.some
  have h2:=SH hn hu
  have hlt:=h.lt
  simp only at hlt hs
  rcases hs with hs|hs<;>rw [hs] at h2<;>simp only at h2<;>omega
theorem Vq (hn:Bn N ts=true) (hN:N<=4611686018427387904):∀e∈BI ts,e.a<N/\e.b<N:=λe he=>by
  have:=Ms hn hN he;omega
end
end
section
theorem cf (a b:T3):(((a.1:Int) == (b.1:Int))&&(((a.2.1:Int) == (b.2.1:Int))&&(((a.2.2:Int) == (b.2.2:Int))&&true)))=decide (a=b):=by
  obtain ⟨a1,a2,a3⟩:=a
  obtain ⟨b1,b2,b3⟩:=b
  rw [Bool.eq_iff_iff]
  simp
  constructor<;>(rintro ⟨h1,h2,h3⟩;refine ⟨?_,?_,?_⟩<;>omega)
theorem bF (D:Nat) (a b:T3):Fj prog (D+2) 105 (.agg (Am a).toArray) (.agg (Am b).toArray) (decide (a=b)):=by
  rw [<-cf]
  exact Fj.array underlying105 PP Mk (Rw.one isAgg3 O O (Fj.int underlying3) (Rw.one isAgg3 O O (Fj.int underlying3) (Rw.one isAgg3 O O (Fj.int underlying3) Rw.nil)))
theorem O8 (D:Nat) {a b:T3} (h:a=b):Fj prog (D+2) 105 (.agg (Am a).toArray) (.agg (Am b).toArray) true:=by
  have:=bF D a b;rwa [xr h] at this
theorem JW (b n:Nat):Ao (jk b) n n:=⟨λe=>(by cases e),λa e=>(by injection e with e;subst e;rfl),Nat.le_refl _⟩
theorem cd {ps:List Pt} {k:Nat} (h:(ps.all λp=>decide (BV p<=k))=true) (h0:BV (⟨0,0⟩:Pt)<=k) (i:Nat):BV (BQ ps i)<=k:=by
  unfold BQ
  rcases Nat.lt_or_ge i ps.length with hi|hi
  · rw [List.getD,xN hi]
    exact xR (List.all_eq_true.1 h _ (List.getElem_mem hi))
  · rw [List.getD,List.getElem?_eq_none hi];exact h0
theorem eK {T:T3} {r:Nat} (h:r<3):(Am T)[r]?=some (vN (FH T r)):=by
  have e:r=0\/r=1\/r=2:=by omega
  rcases e with rfl|rfl|rfl<;>rfl
section
variable {P:Program} {ops:Array Oper} {rest:List Oper} {Q:Exit->Act->World->Prop} {n:Nat} {F:List (Nat×Value)} {w0:BA} {S:Nat->Prop} {L:List As} {ps:List Pt} {ts ss:List T3}
theorem Q9 {w:World} {i b:Nat} {T:TypeId} {cs:List Value} (hw:BE w0 w L) (hi:L[i]?=some (AU b T cs)) (hex:w0.ex=none):w0.w.heap.size<=b:=by
  rcases (hw.2.1 _ (List.mem_of_getElem? hi) b rfl).1 with h1|h1|h1
  · cases h1
  · exact h1
  · rw [hex] at h1;cases h1
theorem AQ.litM {b1 b2 b3 U1 U2 U3:Nat} {cs1 cs2 cs3:List Value} (LL:MX ps ts ss->List As) (i j k:Nat) (hn:i≠j/\i≠k/\j≠k) (h1:L[i]?=some (AU b1 U1 cs1)) (h2:L[j]?=some (AU b2 U2 cs2)) (h3:L[k]?=some (AU b3 U3 cs3)) (hex:w0.ex=none)
    (e:(cs1,cs2,cs3)=(rowsL Ad ps,rowsL Am ts,rowsL Am ss))
    (hL:((L.set i (AC (jk b1) cs1)).set j (AC (jk b2) cs2)).set k (AC (jk b3) cs3)=LL ⟨⟨some ⟨b1,0,none⟩,ps.length,JW _ _⟩,⟨some ⟨b2,0,none⟩,ts.length,JW _ _⟩,⟨some ⟨b3,0,none⟩,ss.length,JW _ _⟩⟩)
    (next:∀mm:MX ps ts ss,At w0 S mm->AQ P ops rest Q n F w0 (LL mm)):AQ P ops rest Q n F w0 L:=λa w ha hw=>by
  have n1:=Q9 hw h1 hex
  have n2:=Q9 hw h2 hex
  have n3:=Q9 hw h3 hex
  have w1:=hw.freeze (x:=AU b1 U1 cs1) (y:=AC (jk b1) cs1) h1 rfl (λo hp=>Hg hp) (λe=>by cases e)
  have w2:=w1.freeze (i:=j) (x:=AU b2 U2 cs2) (y:=AC (jk b2) cs2) (by rw [List.getElem?_set_ne hn.1];exact h2) rfl (λo hp=>Hg hp) (λe=>by cases e)
  have w3:=w2.freeze (i:=k) (x:=AU b3 U3 cs3) (y:=AC (jk b3) cs3) (by rw [List.getElem?_set_ne hn.2.2,List.getElem?_set_ne hn.2.1];exact h3) rfl (λo hp=>Hg hp) (λe=>by cases e)
  rw [hL] at w3
  refine next _ (λy hy b eb=>?_) a w ha w3
  have hy:y∈[AC (jk b1) (rowsL Ad ps),AC (jk b2) (rowsL Am ts),AC (jk b3) (rowsL Am ss)]:=hy
  simp only [xy,List.not_mem_nil,or_false] at hy
  rcases hy with rfl|rfl|rfl<;>(injection eb with eb;subst eb;exact .inl (by assumption))
end
theorem WF {α:Type} [Cl α] {w0:BA} {w:World} {S:Nat->Prop} {L:List As} (hw:BE w0 w L) (is:List Nat) {a:α} (hi:(is.map λi=>L[i]?)=(Cl.rows a).map some) (ha:At w0 S a):Ro (SL w0 S L) w a:=λy hy=>by
  have h1:some y∈(is.map λi=>L[i]?):=by rw [hi];exact List.mem_map.2 ⟨y,hy,rfl⟩
  obtain ⟨i,_,h2⟩:=List.mem_map.1 h1
  have hm:=List.mem_of_getElem? h2
  exact ⟨λb e=>(hw.2.1 y hm b e).2,λb e=>⟨⟨y,hm,Cl.ro a y hy,e⟩,ha y hy b e⟩⟩
end
section
abbrev M3:=List Pt×List T3×List T3
def fe (M:M3):Prop:=M.1.length+(BI M.2.1).length<=4096/\4*M.2.1.length<=8192
instance (M:M3):Decidable (fe M):=inferInstanceAs (Decidable (_/\_))
theorem JB (ts:List T3):(BI ts).length<=3*ts.length:=by rw [KH];exact KK _
structure gt (ps:List Pt) (ts ss:List T3) (e:Nat) where
  m:MX ps ts ss
instance {ps:List Pt} {ts ss:List T3} {e:Nat}:Cl (gt ps ts ss e):=⟨λx=>.tuple #[aG (E9 x.m),vN e],λx=>Cl.rows x.m,λx y hy=>Cl.ro x.m y hy⟩
section
variable {P:Program} {ops:Array Oper} {rest:List Oper} {Q:Exit->Act->World->Prop} {n d:Nat} {F:List (Nat×Value)} {w0:BA} {S:Nat->Prop} {L:List As} {t:TypeId} {p:String} {af:Array Edge} {y:Operand} {f:FuncId} {xs:List Operand} {args:List Value} {tys:Array TypeId} {ps:List Pt} {ts ss:List T3} {e:Nat}
end
def fL (ts:List T3):List Value:=vI (-1)::vN 0::vN 1::rowsL Am ts
structure MB (ps:List Pt) (ts ss:List T3) where
  a:RX (rowsL Ad ps) ps.length
  b:RX (fL ts) (1+ts.length)
  c:RX (rowsL Am ss) ss.length
def h_ {ps:List Pt} {ts ss:List T3} (x:MB ps ts ss):List Value:=[x.a.val,x.b.val,x.c.val]
theorem dq {ps:List Pt} {ts ss:List T3} {x:MB ps ts ss} {y:As} (hy:y∈[x.a.row,x.b.row,x.c.row]):y.ro=true:=by
  simp only [xy,List.not_mem_nil,or_false] at hy
  rcases hy with rfl|rfl|rfl<;>rfl
instance {ps:List Pt} {ts ss:List T3}:Cl (MB ps ts ss):=⟨λx=>aG (h_ x),λx=>[x.a.row,x.b.row,x.c.row],λx y hy=>dq hy⟩
end
section
theorem b_ {a b:Nat} (ha:a<4611686018427387904) (hb:b<4611686018427387904):YE (a,b):=⟨ha,hb⟩
def DL {α β:Type} [DecidableEq α]:List (α×β)->α->Nat
  | [],_=>0
  | (k,v)::r,x=>if x=k then 0 else DL r x+1
section
variable {α β:Type} {enc:α->Value} {eV:β->Value} {ok:α->Prop} {P:Program} {kt:TypeId} {n:Nat} {F:List (Nat×Value)} {w0:BA} {L:List As} {d:Nat} {mp kp vp sp:Operand} {t:TypeId} {pp:String} {af:Array Edge} {g:Option (Nat×Bool)} {tx et:TypeId} {b:Nat} {ops:Array Oper} {rest:List Oper} {Q:Exit->Act->World->Prop}
def Q6 {α β:Type} [DecidableEq α] (b:Nat) (enc:α->Value) (eV:β->Value) (kvs:List (α×β)) (x:α) (v:β):As:=⟨some b,λo=>o=.map (entsM enc eV kvs 0).toArray kvs.length\/o=.map (entsM enc eV (Br kvs x v) 0).toArray (Br kvs x v).length,false⟩
variable [DecidableEq α]
theorem NE:∀{kvs:List (α×β)} {x:α} {v:β},Bb kvs x=some v->Br kvs x v=kvs
  | (k,u)::r,x,v,h=>by
    unfold Bb at h
    unfold Br
    split at h
    · rename_i e;injection h with h;rw [if_pos e,h]
    · rename_i e;rw [if_neg e,NE h]
theorem Iq:∀{kvs:List (α×β)} {x:α} {v:β},(Br kvs x v)[DL kvs x]?=some (x,v)
  | [],_,_=>rfl
  | (k,u)::r,x,v=>by
    unfold Br DL
    split
    · rename_i e;rw [List.getElem?_cons_zero,e]
    · rw [List.getElem?_cons_succ,Iq]
theorem Pi {x:α} {u v:β}:∀{kvs:List (α×β)},(Br kvs x u).set (DL kvs x) (x,v)=Br kvs x v
  | []=>rfl
  | (k,w)::r=>by
    by_cases e:x=k
    · simp [Br,DL,e]
    · simp [Br,DL,e,Pi]
theorem PA:∀{kvs:List (α×β)} {j:Nat} {x:α} {v:β},kvs.Pairwise (λp q=>p.1≠q.1)->kvs[j]?=some (x,v)->DL kvs x=j
  | (k,u)::r,0,x,v,_,h=>by
    simp only [List.getElem?_cons_zero,Option.some.injEq,Prod.mk.injEq] at h
    rw [DL,if_pos h.1.symm]
  | (k,u)::r,j+1,x,v,hp,h=>by
    obtain ⟨h1,h2⟩:=List.pairwise_cons.1 hp
    rw [List.getElem?_cons_succ] at h
    rw [DL,if_neg (λe=>h1 (x,v) (List.mem_of_getElem? h) e.symm),PA h2 h]
theorem K_:∀{kvs:List (α×β)} {x:α},(∀p∈kvs,p.1≠x)->DL kvs x=kvs.length
  | [],_,_=>rfl
  | (k,v)::r,x,h=>by
    rw [DL,if_neg (λe=>h (k,v) List.mem_cons_self e.symm),K_ λp hp=>h p (List.mem_cons_of_mem _ hp)];rfl
theorem Z2 {i:Nat} {kvs:List (α×β)} (x:α) (v:β) (hi:L[i]?=some (Dw b enc eV kvs)):Wk (L.set i (Q6 b enc eV kvs x v)) L:=λw0 w hw=>by
  exact hw.freeze (i:=i) (y:=Q6 b enc eV kvs x v) hi O (λo h=>.inl h) (λe=>by cases e)
theorem X3 {i:Nat} {kvs:List (α×β)} (x:α) (v:β) (hi:L[i]?=some (Dw b enc eV (Br kvs x v))):Wk (L.set i (Q6 b enc eV kvs x v)) L:=λw0 w hw=>by
  exact hw.freeze (i:=i) (y:=Q6 b enc eV kvs x v) hi O (λo h=>.inr h) (λe=>by cases e)
theorem gI (i:Nat) {kvs:List (α×β)} {x:α} {v:β} {LA:List As} (hi:L[i]?=some (Dw b enc eV kvs)) (hs:Pr L i (Q6 b enc eV kvs x v)=some LA):Wk LA L:=Hp hs▸Z2 x v hi
theorem cv (i:Nat) {kvs:List (α×β)} {x:α} {v:β} {LA:List As} (hi:L[i]?=some (Dw b enc eV (Br kvs x v))) (hs:Pr L i (Q6 b enc eV kvs x v)=some LA):Wk LA L:=Hp hs▸X3 x v hi
theorem H8 (K:QI P kt enc ok) (i:Nat) {kvs:List (α×β)} {x:α} {z0 v:β} {dd:Option Tmp} (hx:evF F mp=some (.map (some b))) (hk:evF F kp=some (enc x)) (ht:P.underlying tx=some (.map kt et)) (hz:∀w,(zeroValue et).run P w=.ok (eV z0) w) (hi:L[i]?=some (Q6 b enc eV kvs x v)) (hm:Nb ok kvs) (hok:ok x) (hv:v=(Bb kvs x).getD z0) :
    Ex P n F w0 L ⟨dd,.lookup tx mp kp false,t,pp,af,g⟩ (eV v):=λA w ha hw=>by
  obtain ⟨_,o,ho,hp⟩:=hw.2.1 _ (List.mem_of_getElem? hi) b rfl
  obtain ⟨lx,hlx⟩:=K.key x hok
  have hc:=λem=>K.law.check w em hlx
  have key:∀kvs':List (α×β),Nb ok kvs'->(Bb kvs' x).getD z0=v->w.heap[b]?=some (.map (entsM enc eV kvs' 0).toArray kvs'.length)->(execOp A.eval ⟨dd,.lookup tx mp kp false,t,pp,af,g⟩).run P w=.ok (.value (eV v)) w:=λkvs' hm' hg ho=>by
    rcases Ho (eV:=eV) K hm' hok w with ⟨h1,_,h2⟩|⟨j,u,_,h1,h2⟩
    · rw [h1] at hg
      simp only [execOp,ha.ev hx,ha.ev hk,Instr.lookup,Sem.run_bind,run_underlying ht,Ch ho,Result.andThen_ok,Sem.run_pure,hc,List.toList_toArray,h2,hz]
      rw [<-hg];rfl
    · rw [h1] at hg
      simp only [execOp,ha.ev hx,ha.ev hk,Instr.lookup,Sem.run_bind,run_underlying ht,Ch ho,Result.andThen_ok,Sem.run_pure,hc,List.toList_toArray,h2]
      rw [<-hg];rfl
  rcases hp with hp|hp
  · exact key kvs hm hv.symm (by rw [ho,hp])
  · exact key (Br kvs x v) (hm.put hok) (by rw [GJ,if_pos O];rfl) (by rw [ho,hp])
theorem y5 (K:QI P kt enc ok) (i:Nat) {kvs:List (α×β)} {x:α} {z0 v:β} (hx:evF F mp=some (.map (some b))) (hk:evF F kp=some (enc x)) (ht:P.underlying tx=some (.map kt et)) (hz:∀w,(zeroValue et).run P w=.ok (eV z0) w) (hi:L[i]?=some (Dw b enc eV kvs)) (hm:Nb ok kvs) (hok:ok x) (hv:v=(Bb kvs x).getD z0) (hd:Nat.ble (d+1) n=true)
    (next:AQ P ops rest Q n ((d,.tuple #[eV v,vN (DL kvs x)])::F) w0 (L.set i (Dw b enc eV (Br kvs x v)))):AQ P ops (⟨some d,.mapEntry tx mp kp,t,pp,af,none⟩::rest) Q n F w0 L:=λa w ha hW=>by
  obtain ⟨_,o,ho,hp⟩:=hW.2.1 _ (List.mem_of_getElem? hi) b rfl
  have ho:w.heap[b]?=some (.map (entsM enc eV kvs 0).toArray kvs.length):=by rw [ho,hp]
  obtain ⟨lx,hlx⟩:=K.key x hok
  have hc:=λem=>K.law.check w em hlx
  have hst:=K.law.stays w hlx
  have hrun:(execOp a.eval ⟨some d,.mapEntry tx mp kp,t,pp,af,none⟩).run P w=.ok (.value (.tuple #[eV v,vN (DL kvs x)])) (Go.ChangeMaps.setBlock w b (.map (entsM enc eV (Br kvs x v) 0).toArray (Br kvs x v).length)):=by
    rcases Ho (eV:=eV) K hm hok w with ⟨h0,h1,h2⟩|⟨j,u,hj,h1,h2⟩
    · rw [h0] at hv
      simp only [Option.getD_none] at hv
      subst hv
      rw [JU h1,K_ h1,Gb,xw]
      simp only [execOp,ha.ev hx,ha.ev hk,Instr.mapEntry,Sem.run_bind,run_underlying ht,Ch ho,Result.andThen_ok,hc,List.toList_toArray,h2,hz,Eg ho,Sem.run_pure,List.push_toArray,Nat.zero_add,List.length_singleton]
      rfl
    · rw [h1] at hv
      simp only [Option.getD_some] at hv
      subst hv
      rw [NE h1,PA hm.once hj]
      have e1:(entsM enc eV kvs 0)[j]?=some ⟨enc x,eV v,0+j⟩:=by rw [DI,hj];rfl
      have e2:=G2 (enc:=enc) (eV:=eV) (y:=v) hj
      have e3:kvs.set j (x,v)=kvs:=by
        apply List.ext_getElem?
        intro q
        rw [List.getElem?_set]
        split
        · rename_i e;subst e;split
          · exact hj.symm
          · rename_i h9;rw [List.getElem?_eq_none Z]
        · rfl
      rw [e3] at e2
      have e4:(entsM enc eV kvs 0).toArray.modify j (λe=>{ e with key:=enc x })=(entsM enc eV kvs 0).toArray:=by
        apply Array.ext_getElem?
        intro q
        rw [Array.getElem?_modify]
        simp only [List.getElem?_toArray]
        split
        · rename_i e;subst e;rw [e1];rfl
        · rfl
      simp only [execOp,ha.ev hx,ha.ev hk,Instr.mapEntry,Sem.run_bind,run_underlying ht,Ch ho,Result.andThen_ok,hc,List.toList_toArray,List.getElem?_toArray,h2,e1,hst,e4,Eg ho,Sem.run_pure,Option.map_some,Option.getD_some]
      simp [goInt,e1,hst,e4,Eg ho,Result.andThen]
  unfold wpList
  rw [if_pos (AM rfl a ha)]
  left
  unfold Oper.wp
  rw [hrun,Oper.upon_value]
  exact next _ _ (ha.put (B1 hd)) (hW.turn hi O O (FE _ _ _) ⟨_,F1 ho,rfl⟩)
theorem yn (i:Nat) {kvs:List (α×β)} {x:α} {u y:β} (hx:evF F mp=some (.map (some b))) (hs:evF F sp=some (vN (DL kvs x))) (hv:evF F vp=some (eV y)) (hi:L[i]?=some (Dw b enc eV (Br kvs x u)))
    (next:AQ P ops rest Q n F w0 (L.set i (Dw b enc eV (Br kvs x y)))):AQ P ops (⟨none,.entryStore tx mp sp vp,t,pp,af,none⟩::rest) Q n F w0 L:=λa w ha hW=>by
  obtain ⟨_,o,ho,hp⟩:=hW.2.1 _ (List.mem_of_getElem? hi) b rfl
  have ho:w.heap[b]?=some (.map (entsM enc eV (Br kvs x u) 0).toArray (Br kvs x u).length):=by rw [ho,hp]
  have hf:=Iq (kvs:=kvs) (x:=x) (v:=u)
  have hlt:DL kvs x<(Br kvs x u).length:=(List.getElem?_eq_some_iff.1 hf).1
  have e0:(entsM enc eV (Br kvs x u) 0)[DL kvs x]?=some ⟨enc x,eV u,DL kvs x⟩:=by rw [DI,hf];simp
  have hnd:((entsM enc eV (Br kvs x u) 0).map (·.born)).Nodup:=by
    have e1:∀(l:List (α×β)) (s:Nat),(entsM enc eV l s).map (·.born)=List.range' s l.length:=by
      intro l
      induction l with
      | nil=>intro s;rfl
      | cons p r ih=>intro s;rw [entsM,List.map_cons,ih,List.length_cons,List.range'_succ]
    rw [e1];exact List.nodup_range'
  have hidx:(entsM enc eV (Br kvs x u) 0).toArray.findIdx? (λe=>((e.born:Nat):Int) == ((DL kvs x:Nat):Int))=some (DL kvs x):=by
    rw [WideElems.findIdx_arr]
    exact WideElems.findIdx_born hnd e0
  have hset:(Br kvs x u).set (DL kvs x) (x,y)=Br kvs x y:=Pi
  have hmod:=G2 (enc:=enc) (eV:=eV) (y:=y) hf
  have hmod2:(entsM enc eV (Br kvs x u) 0).toArray.modify (DL kvs x) (λe=>{ e with val:=eV y })=(entsM enc eV (Br kvs x y) 0).toArray:=by
    rw [<-hset,<-hmod]
    apply Array.ext_getElem?
    intro q
    rw [Array.getElem?_modify,Array.getElem?_modify]
    simp only [List.getElem?_toArray]
    split
    · rename_i e;subst e;rw [e0];rfl
    · rfl
  have hl2:(Br kvs x y).length=(Br kvs x u).length:=by rw [<-hset,List.length_set]
  have hrun:(execOp a.eval ⟨none,.entryStore tx mp sp vp,t,pp,af,none⟩).run P w=.ok .skip (Go.ChangeMaps.setBlock w b (.map (entsM enc eV (Br kvs x y) 0).toArray (Br kvs x y).length)):=by
    rw [<-hmod2,hl2]
    simp only [execOp,ha.ev hx,ha.ev hs,ha.ev hv,Instr.entryStore,Sem.run_bind,Ch ho,Result.andThen_ok,asInt,asIntOf,Sem.run_pure,hidx,Eg ho]
  unfold wpList
  rw [if_pos (AM rfl a ha)]
  left
  unfold Oper.wp
  rw [hrun,Oper.upon_skip]
  exact next _ _ ha.put_none (hW.turn hi O O (FE _ _ _) ⟨_,F1 ho,rfl⟩)
end
end
section
def dp {α β:Type} (b:Nat) (enc:α->Value) (eV:β->Value) (kvs:List (α×β)):As:=⟨some b,λo=>o=.map (entsM enc eV kvs 0).toArray kvs.length,true⟩
section
variable {α β:Type} [DecidableEq α] {enc:α->Value} {eV:β->Value} {ok:α->Prop} {P:Program} {kt:TypeId} {n:Nat} {F:List (Nat×Value)} {w0:BA} {L:List As} {d:Option Tmp} {tx et t b:Nat} {pp:String} {af:Array Edge} {g:Option (Nat×Bool)} {mp kp:Operand}
end
def VO (t:T3):P2:=D8 t.2.1 t.2.2
def ek (ts:List T3) (ms:List Int) (k:P2):Prop:=∃z∈ms,0<=z/\z<(ts.length:Int)/\k=VO (ts.getD z.toNat (0,0,0))
inductive aY (ts:List T3) (S:P2->Prop):P2->Prop
  | start {k:P2}:S k->aY ts S k
  | up {t:T3} {k:P2}:t∈ts->aY ts S k->(k=D8 t.1 t.2.1\/k=D8 t.2.2 t.1)->aY ts S (VO t)
section
variable {ts:List T3} {ms:List Int} {i:Nat} {kvs:List (P2×Nat)}
end
structure HC (ts:List T3) (ms:List Int) where
  b:Nat
  kvs:List (P2×Nat)
  ok:Nb YE kvs
  one:∀k,Bb kvs k=none\/Bb kvs k=some 1
  all:∀k,Bb kvs k=some 1↔aY ts (ek ts ms) k
instance {ts:List T3} {ms:List Int}:Cl (HC ts ms):=⟨λx=>.map (some x.b),λx=>[dp x.b J0 vN x.kvs],λx y hy=>by rcases xz.1 hy with rfl;rfl⟩
structure DX (ts:List T3) (ms:List Int) where
  l:List E4
  r:RX (rowsL Ba l) l.length
  p:E4->Bool
  el:l=(BI ts).filter p
  all:∀e,p e=true↔aY ts (ek ts ms) (e.a,e.b)
  hc:r.c=l.length
instance {ts:List T3} {ms:List Int}:Cl (DX ts ms):=⟨λx=>x.r.val,λx=>[x.r.row],λx y hy=>by rcases xz.1 hy with rfl;rfl⟩
end
theorem Mj {P:Program} {f:FuncId} {fn:Func} {c:Code} {args:List Value} {w:World} {R:Ending->World->Prop} {n:Nat} {w0:BA} {L:List As}
    (hf:P.funcs[f]?=some fn) (hb:fn.body=some c) (hn:fn.ntmps=n) (hl:args.length<=n) (hW:BE w0 w L)
    (h:OkC P c (bodyPost P fn R) n (Ep 0 args) w0 L):Calls P f args.toArray w R:=by
  refine calls_of_wp hf hb ?_
  rw [hn]
  exact h _ _ (FJ hl _ λk v hk=>by simpa using (Ci args 0 k v hk).2) hW
theorem yq {P:Program} {ops:Array Oper} {rest:List Oper} {Q:Exit->Act->World->Prop} {n:Nat} {F:List (Nat×Value)} {w0:BA} {L L2:List As} {o:Oper} {f:FuncId} {args:List Value} {v:Value} {α:Type} {K:α->Prop} {LO:α->List As} (hw:Wt ops n F o)
    (he:∀a w,C8 n a F->BE w0 w L->(execOp a.eval o).run P w=.ok (.enter f args.toArray) w) (hp:L.Perm L2)
    (hc:∀w,BE w0 w L2->Calls P f args.toArray w λe w'=>e=.returned v/\∃a:α,K a/\BE w0 w' (LO a))
    (hd:∀d,o.dst=some d->d<n) (next:∀a,K a->AQ P ops rest Q n (match o.dst with|some d=>(d,v)::F|none=>F) w0 (LO a)):AQ P ops (o::rest) Q n F w0 L:=λa w ha hW=>by
  unfold wpList
  rw [if_pos (hw a ha)]
  left
  unfold Oper.wp
  rw [he a w ha hW,Oper.upon_enter]
  refine (hc w (hW.perm hp)).mono ?_
  rintro e w' ⟨rfl,x,hk,hW'⟩
  have next:=next x hk
  cases hdst:o.dst with
  | none=>rw [hdst] at next;exact next _ _ ha.put_none hW'
  | some d=>rw [hdst] at next;exact next _ _ (ha.put (hd d hdst)) hW'
theorem Fc {α:Type}:∀l:List α,(l.map some).filterMap id=l
  | []=>rfl
  | x::r=>by show x::(r.map some).filterMap id=x::r;rw [Fc r]
theorem Dc {α:Type} {L L':List α} (idx:List Nat) (h1:idx.Perm (List.range L.length)) (h2:(idx.map λi=>L[i]?)=L'.map some):L.Perm L':=by
  have h3:((List.range L.length).map λi=>L[i]?)=L.map some:=by
    refine List.ext_getElem jX λj a b=>?_
    simp at a
    simp [a]
  have h4:=(h1.map λi=>L[i]?)
  rw [h2,h3] at h4
  have h5:=h4.filterMap id
  rw [Fc,Fc] at h5
  exact h5.symm
def eo (md:List (P2×Nat)):Nat->T3->List T3
  | 0,c=>[c]
  | d+1,c=>match Bb md (VO c) with
    | none=>[c]
    | some n=>eo md d (n,c.1,c.2.1)++eo md d (n,c.2.2,c.1)
def iJ (n p:Nat):List Nat:=List.replicate n p
section
section
variable {N:Nat} {es:List E4} {T:T3}
end
end
section
section
variable {m:MQ} {ts:List T3} {a b N:Nat}
theorem WN (hn:Bn N ts=true) (hN:N<=4611686018427387904) (h:(a,b)∈TE ts):a<b/\b<N:=by
  obtain ⟨e,he,rfl,rfl⟩:=(PV hn hN).1 h
  exact Ms hn hN he
end
end
section
def fa (md:List (P2×Nat)) (ts:List T3):List T3:=ts.flatMap (eo md 2)
def fZ (md:List (P2×Nat)) (ts:List T3):Nat->List Nat
  | 0=>[]
  | i+1=>fZ md ts i++iJ (eo md 2 (ts.getD i (0,0,0))).length i
section
variable {md:List (P2×Nat)} {ts ss:List T3} {i N:Nat} {es:List E4}
end
structure gk (ps:List Pt) (ts ss:List T3) (ms:List Int) where
  l:List E4
  p:E4->Bool
  el:l=(BI ts).filter p
  all:∀e,p e=true↔aY ts (ek ts ms) (e.a,e.b)
  x:fG (fW ps l) (fa (Tm ps.length l l.length) ts) (fY ps.length ss l (fa (Tm ps.length l l.length) ts)) (fZ (Tm ps.length l l.length) ts ts.length) 0
instance {ps:List Pt} {ts ss:List T3} {ms:List Int}:Cl (gk ps ts ss ms):=⟨λb=>Cl.val b.x,λb=>Cl.rows b.x,λb y hy=>Cl.ro b.x y hy⟩
section
variable {ts ss:List T3} {N:Nat} {es:List E4} {ms:List Int}
structure e_ (ts:List T3) (ms:List Int) (l:List E4):Prop where
  ex:∃p:E4->Bool,l=(BI ts).filter p/\∀e,p e=true↔aY ts (ek ts ms) (e.a,e.b)
end
section
variable {P:Program} {ops:Array Oper} {rest:List Oper} {Q:Exit->Act->World->Prop} {n d:Nat} {F:List (Nat×Value)} {w0:BA} {S:Nat->Prop} {L:List As} {t:TypeId} {p:String} {af:Array Edge} {y:Operand} {f:FuncId} {xs:List Operand} {args:List Value} {tys:Array TypeId} {ps:List Pt} {ts ss:List T3} {ms:List Int}
end
end
end Go.Proofs.YtpolhpjiahbidaaGreatDoor
