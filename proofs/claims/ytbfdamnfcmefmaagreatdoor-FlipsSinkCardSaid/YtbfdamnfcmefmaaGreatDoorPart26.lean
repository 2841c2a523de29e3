import Derived.Lib.SliceRun
import Derived.Test.YtbfdamnfcmefmaaGreatDoorPart25
namespace Go.Proofs.YtbfdamnfcmefmaaGreatDoor
open Go Go.RowKit Go.Proofs.Tryz
open Go.Value renaming slice→qz,bool→qa
set_option linter.unusedVariables false
set_option linter.unusedSimpArgs false
section
def XN (S:Nat->Prop) (W w:World) (G:List As):Prop :=
  (∀x∈G,∀b,x.foot=some b->(W.heap.size<=b\/(x.ro=true/\S b))/\∃o,w.heap[b]?=some o/\x.P o)/\G.Pairwise λx y=>(x.ro=true/\y.ro=true)\/∀b,x.foot=some b->y.foot≠some b
def E9 {α:Type} (V:α->Value) (LW:α->List As) (S:Nat->Prop) (W:World) (e:Ending) (w:World):Prop:=∃a:α,e=.returned (V a)/\Ht W.heap.size W w/\XN S W w (LW a)
def IU (w0:BF) (S:Nat->Prop) (G:List As):Prop:=∀y∈G,y.ro=true->∀b,y.foot=some b->Nw w0 S b
section
variable {w0:BF} {S:Nat->Prop} {w w' W:World} {L G:List As}
theorem BI.give (h:BI w0 w L) (hb:Ht w.heap.size w w') (hg:XN (SL w0 S L) w w' G):BI w0 w' (G++L):=by
  have h1:=h.below hb
  refine ⟨h1.1,λy hy b e=>?_,List.pairwise_append.2 ⟨hg.2,h1.2.2,λx hx y hy=>?_⟩⟩
  · rcases List.mem_append.1 hy with hy|hy
    · obtain ⟨h2,h3⟩:=hg.1 y hy b e
      refine ⟨?_,h3⟩
      rcases h2 with h2|⟨h2,_⟩
      · exact .inr (.inl (xN h.size h2))
      · exact .inl h2
    · exact h1.2.1 y hy b e
  · by_cases hr:x.ro=true/\y.ro=true
    · exact .inl hr
    · refine .inr λb e e2=>?_
      rcases (hg.1 x hx b e).1 with h2|⟨h2,⟨z,hz,hzr,hzf⟩,_⟩
      · exact absurd (h.lt hy e2) Z
      · have hyr:¬y.ro=true:=λk=>hr ⟨h2,k⟩
        obtain ⟨i,hi,rfl⟩:=List.getElem_of_mem hz
        obtain ⟨j,hj,rfl⟩:=List.getElem_of_mem hy
        have hp:=List.pairwise_iff_getElem.1 h.2.2
        rcases Nat.lt_trichotomy i j with hij|hij|hij
        · exact (hp i j hi hj hij).elim (λk=>hyr k.2) (λk=>k b hzf e2)
        · subst hij;exact hyr hzr
        · exact (hp j i hj hi hij).elim (λk=>hyr k.1) (λk=>k b e2 hzf)
theorem BI.gives (h:BI ⟨W,none⟩ w L) (hs:G.Sublist L) (hS:IU ⟨W,none⟩ S G):XN S W w G:=by
  refine ⟨λx hx b e=>?_,h.2.2.sublist hs⟩
  obtain ⟨h1,h2⟩:=h.2.1 x (hs.subset hx) b e
  refine ⟨?_,h2⟩
  by_cases hr:x.ro=true
  · rcases hS x hx hr b e with h3|h3
    · exact .inl h3
    · exact .inr ⟨hr,h3⟩
  · rcases h1 with h1|h1|h1
    · exact absurd h1 hr
    · exact .inl h1
    · cases h1
theorem PV {α:Type} {V:α->Value} {LW:α->List As} (hw:BI ⟨W,none⟩ w L) (a:α) (hs:(LW a).Sublist L) (hS:IU ⟨W,none⟩ S (LW a)) {v:Value} (hv:v=V a):E9 V LW S W (.returned v) w:=⟨a,by rw [hv],hw.out,hw.gives hs hS⟩
theorem IU.nil:IU w0 S []:=λy hy=>by cases hy
theorem IU.own {x:As} (hx:x.ro=false) (h:IU w0 S G):IU w0 S (x::G):=λy hy hr b e=>by
  rcases xO.1 hy with rfl|hy
  · rw [hx] at hr;cases hr
  · exact h y hy hr b e
theorem IU.row {α:Type} [C6 α] {a:α} {x:As} (ha:At w0 S a) (hx:C6.rows a=[x]) (h:IU w0 S G):IU w0 S (x::G):=λy hy hr b e=>by
  rcases xO.1 hy with rfl|hy
  · exact ha y (by rw [hx];exact List.mem_cons_self) b e
  · exact h y hy hr b e
end
section
variable {P:Program} {ops:Array Oper} {rest:List Oper} {Q:Exit->Act->World->Prop} {n d:Nat} {F:List (Nat×Value)} {w0:BF} {S:Nat->Prop} {L:List As} {t:TypeId} {p:String} {af:Array Edge} {y:Operand} {f:FuncId} {xs:List Operand} {args:List Value} {ts:Array TypeId} {α:Type} {V:α->Value} {LW:α->List As}
theorem yK (hc:∀args w,(callFunc f args).run P w=.ok (.enter f args) w) (h:∀w,BI w0 w L->Calls P f args.toArray w (E9 V LW (SL w0 S L) w))
    (h2:(evF F y,xs.map (evF F),Nat.ble (d+1) n)=(some (.func (.func f) #[] #[]),args.map some,true)) (next:∀a:α,IU w0 S (LW a)->AU P ops rest Q n ((d,V a)::F) w0 (LW a++L)) :
    AU P ops (⟨some d,.call { callee:=.value y,args:=xs.toArray,argTypes:=ts },t,p,af,none⟩::rest) Q n F w0 L:=λa w ha hW=>by
  unfold wpList
  rw [if_pos (AK rfl a ha)]
  left
  unfold Oper.wp
  rw [Ao (Cf h2) (Cf (BQ h2)) hc a w ha hW,Oper.upon_enter]
  refine (h w hW).mono ?_
  rintro e w' ⟨x,rfl,hb,hg⟩
  refine next x (λz hz hr b e=>?_) _ _ (ha.put (CH (BQ (BQ h2)))) (hW.give hb hg)
  rcases (hg.1 z hz b e).1 with h3|⟨_,h3⟩
  · exact .inl (xN hW.size h3)
  · exact h3.2
end
structure OX (T z:Nat) (cs:List Value) (n:Nat) where
  p:Option Addr
  c:Nat
  ok:OwnOk p n c
@[reducible] def aI {T z:Nat} {cs:List Value} {n:Nat} (a:OX T z cs n):Value:=.slice a.p n a.c
@[reducible] def Yc {T z:Nat} {cs:List Value} {n:Nat} (a:OX T z cs n):List As:=[rowW a.p T z n a.c cs]
@[reducible] def Ti {T z:Nat} {cs:List Value} {n:Nat} (a:OX T z cs n):Value:=.slice a.p n n
theorem OwnOk.clip {p:Option Addr} {n c:Nat} (h:OwnOk p n c):Aw p n n:=⟨λe=>⟨(h.nil e).1,(h.nil e).1⟩,λa e=>by rw [h.at0 a e],Nat.le_refl _⟩
theorem Yi (p:Pt):((AZ p).all λu=>u.oneCell')=true:=rfl
theorem Ha {α:Type} {enc:α->List Value} (h:∀x,((enc x).all λu=>u.oneCell')=true):∀xs:List α,((rowsL enc xs).all λu=>u.oneCell')=true
  | []=>rfl
  | x::r=>by
    have e:rowsL enc (x::r)=enc x++rowsL enc r:=rfl
    rw [e,List.all_append,h x,Ha h r];rfl
theorem VV {A B vs:List Value} {r:Nat} (h:r+vs.length<=A.length):Gi (A++B) r vs=Gi A r vs++B:=by
  unfold Gi
  rw [List.take_append_of_le_length Z,List.drop_append_of_le_length h,<-List.append_assoc]
theorem Sk {A B vs:List Value} {o:Nat}:Gi (A++B) (A.length+o) vs=A++Gi B o vs:=by
  unfold Gi
  rw [List.take_append,List.take_of_length_le Z,Nat.add_sub_cancel_left,List.drop_append,List.drop_of_length_le Z,show A.length+o+vs.length-A.length=o+vs.length by omega]
  simp
theorem NJ {α:Type} {enc:α->List Value} {z:Nat} (hl:∀x,(enc x).length=z) (d:α) {r:Nat} {vs:List Value} {x':α}:∀{xs:List α} {j:Nat},j<xs.length->r+vs.length<=z->Gi (enc (xs.getD j d)) r vs=enc x'->Gi (rowsL enc xs) (j*z+r) vs=rowsL enc (xs.set j x')
  | x::q,0,_,h2,h3=>by
    have e:∀y,rowsL enc (y::q)=enc y++rowsL enc q:=λ_=>rfl
    rw [Nat.zero_mul,Nat.zero_add,List.set_cons_zero,e,e,VV (by rw [hl];exact h2)]
    exact congrArg (·++rowsL enc q) h3
  | x::q,j+1,h1,h2,h3=>by
    have e:∀y l,rowsL enc (y::l)=enc y++rowsL enc l:=λ_ _=>rfl
    rw [List.set_cons_succ,e,e,show (j+1)*z+r=(enc x).length+(j*z+r) by rw [hl,Nat.add_mul];omega,Sk,NJ hl d (by simpa using h1) h2 (by simpa using h3)]
section
variable {P:Program} {ops:Array Oper} {rest:List Oper} {Q:Exit->Act->World->Prop} {n d:Nat} {F:List (Nat×Value)} {w0:BF} {S:Nat->Prop} {L L':List As} {t ty T:TypeId} {p:String} {af:Array Edge} {x y:Operand} {dd:Option Tmp} {g:Option (Nat×Bool)} {q:Option Addr} {z m c:Nat} {cs vs:List Value} {v:Value}
theorem H0 {tx ye e:TypeId} (hx:evF F x=some (.slice q m c)) (hy:evF F y=some (.slice none 0 0)) (hu:P.underlying tx=some (.slice e)):Ex P n F w0 L ⟨dd,.binOp .eql tx x y ye,t,p,af,g⟩ (.bool q.isNone):=λA w ha _=>by
  have h1:(eqGuard .eql tx x y (.slice q m c) (.slice none 0 0)).run P w=.ok () w:=rfl
  simp only [execOp,ha.ev hx,ha.ev hy,Sem.run_bind,h1,Result.andThen_ok,Lib.run_eql_slice_nil w tx e q m c 0 0 hu,Sem.run_pure]
theorem yf {s:Operand} {bytes c2:Nat} {q2:Option Addr} {news:List Value} (ht:ElemT P t T z bytes) (hs:evF F s=some (.slice q 0 c)) (ho:OwnOk q 0 c)
    (hx:evF F x=some (.slice q2 m c2)) (hsrc:ct w0 (rowW q T z 0 c []::L) q2 m news) (hnl:news.length=m*z) (h1:(news.all λu=>u.oneCell')=true) (h63:m<=maxLen) (hbytes:m*bytes<=140737488355328) (hd:Nat.ble (d+1) n=true)
    (next:∀p' c',OwnOk p' m c'->AU P ops rest Q n ((d,.slice p' m c')::F) w0 (rowW p' T z m c' news::L)) :
    AU P ops (⟨some d,.call { callee:=.builtin .append,args:=#[s,x],argTypes:=#[t,t] },ty,p,af,none⟩::rest) Q n F w0 (rowW q T z 0 c []::L):=by
  refine AU.appendS0 (cs2:=news) ht hs ho jX hx hsrc hnl h1 (by rw [Nat.zero_add];exact h63) (by rw [Nat.zero_add];exact hbytes) O hd λp' c' h=>?_
  rw [Nat.zero_add] at h ⊢
  exact next p' c' h
theorem ym (i:Nat) {α:Type} {enc:α->List Value} {j r:Nat} {x':α} {xs:List α} (df:α) (hlen:∀a,(enc a).length=z) (ho:OwnOk q m c) (hxs:xs.length=m) (hx:evF F x=some (pP (pB q) (pO q+(j*z+r)))) (hy:evF F y=some v) (hi:L[i]?=some (rowW q T z m c (rowsL enc xs))) (hq:q≠none) (hj:j<m)
    (hv:v.cells=vs.toArray) (hs:∀w,(sizeOf ty).run P w=.ok vs.length w) (h1:(vs.all λu=>u.oneCell',Nat.ble (r+vs.length) z,Pa L i (rowW q T z m c (rowsL enc (xs.set j x'))))=(true,true,some L')) (he:Gi (enc (xs.getD j df)) r vs=enc x')
    (next:AU P ops rest Q n F w0 L'):AU P ops (⟨none,.store ty x y,t,p,af,none⟩::rest) Q n F w0 L:=by
  have hz:=Nat.le_of_ble_eq_true (Cf (BQ h1))
  have hjz:(j+1)*z<=m*z:=Nat.mul_le_mul_right z hj
  rw [Nat.add_mul] at hjz
  refine yn i hx hy hi ho (by rw [Ac hlen,hxs]) hq hv hs (Cf h1) Z ?_
  rw [NJ hlen df Z hz he,Hc (BQ (BQ h1))]
  exact next
theorem zz (i:Nat) (hi:L[i]?=some (rowW q T z m c cs)) (ho:OwnOk q m c) (hl:cs.length=m*z) (hex:w0.ex=none) (hs:Pa L i (AP q cs)=some L') (next:(∀b,q.map (·.block)=some b->w0.w.heap.size<=b)->AU P ops rest Q n F w0 L'):AU P ops rest Q n F w0 L:=λa w ha hw=>by
  refine next (λb e=>?_) a w ha (Hc hs▸hw.freeze hi O (λo hp=>Dd ho hl hp) (λe=>by cases e))
  rcases (hw.2.1 _ (List.mem_of_getElem? hi) b e).1 with h1|h1|h1
  · cases h1
  · exact h1
  · rw [hex] at h1;cases h1
theorem At.new {n:Nat} {cs:List Value} {a:RX cs n} (h:∀b,a.p.map (·.block)=some b->w0.w.heap.size<=b):At w0 S a:=λy hy b e=>by
  rcases xP.1 hy with rfl
  exact .inl (h b e)
end
theorem dw {S:Nat->Prop} {w:World} {ps:List Pt} {ts ss:List (Tq3)} {x:MX ps ts ss} (h:Ro S w x):Ro S w x.c:=λy hy=>by rcases xP.1 hy with rfl;exact h _ (List.mem_cons_of_mem _ (List.mem_cons_of_mem _ List.mem_cons_self))
structure eh (ps:List Pt) (ts ss:List (Tq3)) where
  a:OX 78 10 (rowsL AZ ps) ps.length
  b:OX 71 3 (rowsL Ad ts) ts.length
  c:OX 80 3 (rowsL Ad ss) ss.length
@[reducible] def fV {ps:List Pt} {ts ss:List (Tq3)} (x:eh ps ts ss):List As:=[rowW x.c.p 80 3 ss.length x.c.c (rowsL Ad ss),rowW x.b.p 71 3 ts.length x.b.c (rowsL Ad ts),rowW x.a.p 78 10 ps.length x.a.c (rowsL AZ ps)]
structure dD (ps:List Pt) (ts ss:List (Tq3)) (l:List Nat) (e:Nat) where
  m:MX ps ts ss
  q:RX (ba l) l.length
theorem b_ {ps:List Pt} {ts ss:List (Tq3)} {l:List Nat} {e:Nat} {x:dD ps ts ss l e} {y:As} (hy:y∈[x.m.a.row,x.m.b.row,x.m.c.row,x.q.row]):y.ro=true:=by
  simp only [xO,List.not_mem_nil,or_false] at hy
  rcases hy with rfl|rfl|rfl|rfl<;>rfl
instance {ps:List Pt} {ts ss:List (Tq3)} {l:List Nat} {e:Nat}:C6 (dD ps ts ss l e):=⟨λx=>.tuple #[aG (Ce x.m),x.q.val,vN e],λx=>[x.m.a.row,x.m.b.row,x.m.c.row,x.q.row],λx y hy=>b_ hy⟩
section
variable {P:Program} {ops:Array Oper} {rest:List Oper} {Q:Exit->Act->World->Prop} {n d:Nat} {F:List (Nat×Value)} {w0:BF} {S:Nat->Prop} {L:List As} {t:TypeId} {p:String} {af:Array Edge} {y:Operand} {f:FuncId} {xs:List Operand} {args:List Value} {tys:Array TypeId} {ps:List Pt} {ts ss:List (Tq3)} {l:List Nat} {e:Nat}
end
end
section
section
variable {α β:Type} [DecidableEq α]
theorem Ij {kvs:List (α×β)} {x z:α} {y:β}:BU (Bl kvs x y) z=if z=x then some y else BU kvs z:=by
  induction kvs with
  | nil=>rfl
  | cons p r ih =>
    obtain ⟨k,v⟩:=p
    unfold Bl
    split
    · rename_i e
      subst e
      unfold BU
      split<;>rfl
    · rename_i e
      rw [BU,ih]
      by_cases h:z=k
      · rw [if_pos h,if_neg (λe2=>e (e2.symm.trans h)),BU,if_pos h]
      · rw [if_neg h]
        split
        · rfl
        · rw [BU,if_neg h]
end
section
variable {ts:List (Tq3)}
def Br (ts:List (Tq3)) (u:Nat):P2:=(FB (ts.getD (u/3) (0,0,0)) (u%3),FB (ts.getD (u/3) (0,0,0)) ((u%3+1)%3))
def KB (ts:List (Tq3)) (s a b:Nat) (z:Int):Prop:=(z = -1/\∀u,u<s->Br ts u≠(a,b))\/∃u,u<s/\z=((u/3:Nat):Int)/\Br ts u=(a,b)/\∀v,v<u->Br ts v≠(a,b)
theorem KB.none {s a b:Nat} (h:∀u,u<s->Br ts u≠(a,b)):KB ts s a b (-1):=.inl ⟨rfl,h⟩
theorem KB.skip {s a b:Nat} {z:Int} (h:KB ts s a b z) (hn:Br ts s≠(a,b)):KB ts (s+1) a b z:=by
  rcases h with ⟨h1,h2⟩|⟨u,h1,h2,h3,h4⟩
  · refine .inl ⟨h1,λu hu=>?_⟩
    rcases Nat.lt_or_ge u s with h|h
    · exact h2 u h
    · rw [show u=s by omega];exact hn
  · exact .inr ⟨u,Z,h2,h3,h4⟩
theorem KB.take {s a b:Nat} (h:KB ts s a b (-1)) (hn:Br ts s=(a,b)):KB ts (s+1) a b ((s/3:Nat):Int):=by
  rcases h with ⟨h1,h2⟩|⟨u,h1,h2,h3,h4⟩
  · exact .inr ⟨s,Z,rfl,hn,h2⟩
  · omega
theorem KB.keep {s a b:Nat} {z:Int} (h:KB ts s a b z) (hz:z ≠ -1):KB ts (s+1) a b z:=by
  rcases h with ⟨h1,h2⟩|⟨u,h1,h2,h3,h4⟩
  · exact absurd h1 hz
  · exact .inr ⟨u,Z,h2,h3,h4⟩
structure ZV (ts:List (Tq3)) (s:Nat) (k:P2) (e:E4):Prop where
  ea:e.a=k.1
  eb:e.b=k.2
  lt:k.1<k.2
  l:KB ts s k.1 k.2 e.l
  r:KB ts s k.2 k.1 e.r
  some:∃u,u<s/\(Br ts u=(k.1,k.2)\/Br ts u=(k.2,k.1))
theorem Id (hd:∀u,u<3*ts.length->(Br ts u).1≠(Br ts u).2):∀s,s<=3*ts.length->(∀k e,BU (Cl ts s) k=some e->ZV ts s k e)/\(∀k,BU (Cl ts s) k=none->k.1<k.2->∀u,u<s->Br ts u≠(k.1,k.2)/\Br ts u≠(k.2,k.1))
  | 0,_=>⟨λk e h=>(by cases h),λk _ _ u hu=>absurd hu (Nat.not_lt_zero _)⟩
  | s+1,hs=>by
    obtain ⟨i1,i2⟩:=Id hd s Z
    have hne:=hd s Z
    obtain ⟨a,ha⟩:∃a,a=FB (ts.getD (s/3) (0,0,0)) (s%3):=⟨_,rfl⟩
    obtain ⟨b,hb⟩:∃b,b=FB (ts.getD (s/3) (0,0,0)) ((s%3+1)%3):=⟨_,rfl⟩
    have hdir:Br ts s=(a,b):=by rw [ha,hb];rfl
    rw [hdir] at hne
    have hE:Cl ts (s+1)=TQ (Cl ts s) (s/3) a b:=by rw [ha,hb];rfl
    rw [hE]
    unfold TQ
    have hky:(CB a b).1<(CB a b).2:=by unfold CB;simp only at hne ⊢;omega
    -- what the old edge,or the new one,knows
    have h0:∀e0,e0=(BU (Cl ts s) (CB a b)).getD (JI (CB a b))->e0.a=(CB a b).1/\e0.b=(CB a b).2/\KB ts s (CB a b).1 (CB a b).2 e0.l/\KB ts s (CB a b).2 (CB a b).1 e0.r:=by
      intro e0 he0
      cases hg:BU (Cl ts s) (CB a b) with
      | none =>
        rw [hg] at he0
        have h2:=i2 _ hg hky
        subst he0
        exact ⟨rfl,rfl,KB.none λu hu=>(h2 u hu).1,KB.none λu hu=>(h2 u hu).2⟩
      | some e =>
        rw [hg] at he0
        have h2:=i1 _ _ hg
        subst he0
        exact ⟨h2.ea,h2.eb,h2.l,h2.r⟩
    constructor
    · intro k e hk
      rw [Ij] at hk
      split at hk
      · rename_i e1
        injection hk with hk
        obtain ⟨c1,c2,c3,c4⟩:=h0 _ rfl
        obtain ⟨e0,he0⟩:∃e0,e0=(BU (Cl ts s) (CB a b)).getD (JI (CB a b)):=⟨_,rfl⟩
        rw [<-he0] at hk c1 c2 c3 c4
        subst hk
        have hends:=NR e0 (s/3) a b
        rw [e1]
        rcases Nat.lt_or_ge a b with hab|hab
        · have k1:(CB a b).1=a:=by unfold CB;simp only;omega
          have k2:(CB a b).2=b:=by unfold CB;simp only;omega
          rw [k1,k2] at c3 c4
          refine ⟨hends.1.trans c1,hends.2.trans c2,hky,?_,?_,s,Z,.inl (by rw [k1,k2];exact hdir)⟩<;>rw [k1,k2]
          · unfold Fo
            by_cases hl:e0.l = -1
            · rw [if_pos ⟨hab,hl⟩]
              rw [hl] at c3
              exact c3.take hdir
            · rw [if_neg (λh=>hl h.2),if_neg (λh=>by omega)]
              exact c3.keep hl
          · have hn2:Br ts s≠(b,a):=by rw [hdir];intro h;injection h with h _;omega
            unfold Fo
            split
            · exact c4.skip hn2
            · rw [if_neg (λh=>by omega)]
              exact c4.skip hn2
        · have hba:b<a:=by simp only at hne;omega
          have k1:(CB a b).1=b:=by unfold CB;simp only;omega
          have k2:(CB a b).2=a:=by unfold CB;simp only;omega
          rw [k1,k2] at c3 c4
          have hn2:Br ts s≠(b,a):=by rw [hdir];intro h;injection h with h _;omega
          refine ⟨hends.1.trans c1,hends.2.trans c2,hky,?_,?_,s,Z,.inr (by rw [k1,k2];exact hdir)⟩<;>rw [k1,k2]
          · unfold Fo
            rw [if_neg (λh=>by omega)]
            split
            · exact c3.skip hn2
            · exact c3.skip hn2
          · unfold Fo
            rw [if_neg (λh=>by omega)]
            by_cases hl:e0.r = -1
            · rw [if_pos ⟨hba,hl⟩]
              rw [hl] at c4
              exact c4.take hdir
            · rw [if_neg (λh=>hl h.2)]
              exact c4.keep hl
      · rename_i e1
        obtain ⟨a1,a2,a3,a4,a5,u,a6,a7⟩:=i1 k e hk
        have n1:Br ts s≠(k.1,k.2):=by
          rw [hdir];intro h;injection h with h1 h2
          exact e1 (Prod.ext (by unfold CB;simp only;omega) (by unfold CB;simp only;omega))
        have n2:Br ts s≠(k.2,k.1):=by
          rw [hdir];intro h;injection h with h1 h2
          exact e1 (Prod.ext (by unfold CB;simp only;omega) (by unfold CB;simp only;omega))
        exact ⟨a1,a2,a3,a4.skip n1,a5.skip n2,u,Z,a7⟩
    · intro k hk hlt u hu
      rw [Ij] at hk
      split at hk
      · cases hk
      · rename_i e1
        rcases Nat.lt_or_ge u s with h|h
        · exact i2 k hk hlt u h
        · rw [show u=s by omega,hdir]
          constructor
          · intro h;injection h with h1 h2
            exact e1 (Prod.ext (by unfold CB;simp only;omega) (by unfold CB;simp only;omega))
          · intro h;injection h with h1 h2
            exact e1 (Prod.ext (by unfold CB;simp only;omega) (by unfold CB;simp only;omega))
theorem Xm {N:Nat} (hn:BV N ts=true) (hN:N<=4611686018427387904) (hd:∀u,u<3*ts.length->(Br ts u).1≠(Br ts u).2) {e:E4} (he:e∈BJ ts):ZV ts (3*ts.length) (e.a,e.b) e:=by
  unfold BJ at he
  obtain ⟨p,hp,h1⟩:=List.mem_map.1 ((Dx _).mem_iff.1 he)
  obtain ⟨j,hj,h2⟩:=List.getElem_of_mem hp
  have h3:=Nz (x:=p.1) (v:=p.2) (Fh hn hN _ (Nat.le_refl _)).once (show (Cl ts (3*ts.length))[j]?=some (p.1,p.2) by rw [xQ hj,h2])
  have h4:=(Id hd _ (Nat.le_refl _)).1 _ _ h3
  rw [h1] at h4
  rw [show (e.a,e.b)=p.1 from Prod.ext h4.ea h4.eb]
  exact h4
end
end
section
theorem IH {α:Type} {R:α->α->Prop} (ha:∀x y,R x y->¬R y x) {l l':List α} (h:l.Pairwise R) (h':l'.Pairwise R) (hm:∀x,x∈l↔x∈l'):l=l':=by
  have nd:∀{l:List α},l.Pairwise R->l.Nodup:=λ{l} h=>h.imp λ{x y} hxy e=>by subst e;exact ha _ _ hxy hxy
  exact List.Perm.eq_of_pairwise (le:=R) (λx y _ _ h1 h2=>absurd h2 (ha x y h1)) h h' ((List.perm_ext_iff_of_nodup (nd h) (nd h')).2 hm)
abbrev T3:=Tq3
section
variable {ts ts':List T3} {N:Nat}
theorem V2 {t:T3} (h:JM N t=true):t.1≠t.2.1/\t.2.1≠t.2.2/\t.2.2≠t.1:=by
  simp only [JM,yz,xY,xV,xW] at h
  exact ⟨h.1.1.2,h.1.2,h.2⟩
theorem Gr (hn:BV N ts=true) {u:Nat} (hu:u<3*ts.length):(Br ts u).1≠(Br ts u).2:=by
  obtain ⟨hab,hbc,hca⟩:=V2 (CQ hn (show u/3<ts.length by omega))
  have h3:u%3=0\/u%3=1\/u%3=2:=by omega
  unfold Br
  rcases h3 with h3|h3|h3<;>rw [h3]
  · exact hab
  · exact hbc
  · exact hca
theorem RV (hn:BV N ts=true) {u:Nat} (hu:u<3*ts.length):(Br ts u).1<N/\(Br ts u).2<N:=by
  have h:=CQ hn (show u/3<ts.length by omega)
  exact ⟨Nh h _,Nh h _⟩
theorem KB.uniq {s a b:Nat} {y z:Int} (h:KB ts s a b y) (k:KB ts s a b z):y=z:=by
  rcases h with ⟨h1,h2⟩|⟨u,h1,h2,h3,h4⟩<;>rcases k with ⟨k1,k2⟩|⟨v,k1,k2,k3,k4⟩
  · omega
  · exact absurd k3 (h2 v k1)
  · exact absurd h3 (k2 u h1)
  · rcases Nat.lt_trichotomy u v with h|h|h
    · exact absurd h3 (k4 u h)
    · rw [h2,k2,h]
    · exact absurd k3 (h4 v h)
theorem KT (hn:BV N ts=true) (hN:N<=4611686018427387904) {e:E4}:e∈BJ ts↔ZV ts (3*ts.length) (e.a,e.b) e:=by
  have hd:∀u,u<3*ts.length->(Br ts u).1≠(Br ts u).2:=λu hu=>Gr hn hu
  refine ⟨λh=>Xm hn hN hd h,λh=>?_⟩
  obtain ⟨i1,i2⟩:=Id hd _ (Nat.le_refl _)
  cases hg:BU (Cl ts (3*ts.length)) (e.a,e.b) with
  | none =>
    obtain ⟨u,hu,hs⟩:=h.some
    have h3:=i2 _ hg h.lt u hu
    rcases hs with hs|hs
    · exact absurd hs h3.1
    · exact absurd hs h3.2
  | some e' =>
    have h3:=i1 _ _ hg
    have e1:e'=e:=by
      have a1:=h3.ea;have a2:=h3.eb;have a3:=h3.l.uniq h.l;have a4:=h3.r.uniq h.r
      cases e;cases e';simp only at a1 a2 a3 a4;subst a1 a2 a3 a4;rfl
    rw [e1] at hg
    unfold BJ
    exact (Dx _).mem_iff.2 (List.mem_map.2 ⟨_,LN hg,rfl⟩)
def ch (x y:E4):Prop:=x.a<y.a\/(x.a=y.a/\x.b<y.b)
theorem K0 (hn:BV N ts=true) (hN:N<=4611686018427387904):(BJ ts).Pairwise ch:=by
  have h1:Mj ((Cl ts (3*ts.length)).map (·.2)):=NF (Fh hn hN _ (Nat.le_refl _)) (K1 ts _)
  have h2:Mj (BJ ts):=(List.Perm.pairwise_iff (R:=λx y:E4=>¬(x.a=y.a/\x.b=y.b)) (λh k=>h ⟨k.1.symm,k.2.symm⟩) (Dx _)).2 h1
  exact (List.Pairwise.and (G6 _) h2).imp λ{x y} h=>by
    have h3:=KQ.1 h.1
    have h4:=h.2
    unfold ch
    omega
def Md (t:T3) (i:Nat):T3:=(FB t (i%3),FB t ((i+1)%3),FB t ((i+2)%3))
theorem KG {j r:Nat} (hr:r<3):Br ts (3*j+r)=(FB (ts.getD j (0,0,0)) r,FB (ts.getD j (0,0,0)) ((r+1)%3)):=by
  unfold Br
  rw [show (3*j+r)/3=j by omega,show (3*j+r)%3=r by omega]
def Il (ts:List T3) (u:Nat):P2:=CB (Br ts u).1 (Br ts u).2
def C0 (ts:List T3):Nat->List (P2×Nat)
  | 0=>[]
  | s+1=>Bl (C0 ts s) (Il ts s) ((BU (C0 ts s) (Il ts s)).getD 0+1)
def Et (ts:List T3):List P2:=ts.flatMap λt=>[CB t.1 t.2.1,CB t.2.1 t.2.2,CB t.2.2 t.1]
theorem GR (k:P2):∀s,(BU (C0 ts s) k).getD 0=((List.range s).map (Il ts)).count k
  | 0=>rfl
  | s+1=>by
    rw [C0,Ij,List.range_succ,List.map_append,List.count_append,List.map_singleton,List.count_singleton]
    by_cases h:k=Il ts s
    · subst h
      rw [if_pos rfl,Option.getD_some,GR _ s];simp
    · rw [if_neg h,GR k s,if_neg (by simpa using λe=>h e.symm)];rfl
theorem JD {t i:Nat} (hi:i<3):C0 ts (3*t+i+1)=Bl (C0 ts (3*t+i)) (CB (FB (ts.getD t (0,0,0)) i) (FB (ts.getD t (0,0,0)) ((i+1)%3))) ((BU (C0 ts (3*t+i)) (CB (FB (ts.getD t (0,0,0)) i) (FB (ts.getD t (0,0,0)) ((i+1)%3)))).getD 0+1):=by
  rw [C0]
  unfold Il
  rw [KG hi]
theorem N_ (s:Nat) (k:P2):(BU (C0 ts s) k).getD 0<=s:=by
  rw [GR]
  exact xN List.count_le_length jX
theorem Fb (hn:BV N ts=true) (hN:N<=4611686018427387904):∀s,s<=3*ts.length->Oe YX (C0 ts s)
  | 0,_=>Oe.nil
  | s+1,hs=>by
    obtain ⟨h1,h2⟩:=RV hn (show s<3*ts.length by omega)
    exact (Fb hn hN s Z).put (D9 (Nat.lt_of_lt_of_le h1 hN) (Nat.lt_of_lt_of_le h2 hN))
theorem GH:(List.range (3*ts.length)).map (Il ts)=Et ts:=by
  have key:∀n,n<=ts.length->(List.range (3*n)).map (Il ts)=Et (ts.take n):=by
    intro n
    induction n with
    | zero=>intro _;rfl
    | succ n ih =>
      intro hn
      have e1:List.range (3*(n+1))=List.range (3*n)++[3*n,3*n+1,3*n+2]:=by
        rw [show 3*(n+1)=3*n+1+1+1 by omega,List.range_succ,List.range_succ,List.range_succ];simp
      have e2:ts.take (n+1)=ts.take n++[ts.getD n (0,0,0)]:=by
        rw [List.take_add_one,xQ (show n<ts.length by omega),List.getD,xQ (show n<ts.length by omega)];rfl
      have k0:=KG (ts:=ts) (j:=n) (show 0<3 by decide)
      have k1:=KG (ts:=ts) (j:=n) (show 1<3 by decide)
      have k2:=KG (ts:=ts) (j:=n) (show 2<3 by decide)
      rw [e1,e2,List.map_append,ih Z]
      unfold Et
      rw [List.flatMap_append]
      congr 1
      simp only [List.map_cons,List.map_nil,List.flatMap_cons,List.flatMap_nil,List.append_nil,Il]
      rw [show 3*n=3*n+0 by omega,k0,show 3*n+0+1=3*n+1 by omega,k1,show 3*n+0+2=3*n+2 by omega,k2]
      rfl
  have h:=key ts.length (Nat.le_refl _)
  rwa [List.take_length] at h
def Uf (ts:List T3) (k:P2):Nat:=(BU (C0 ts (3*ts.length)) k).getD 0
theorem RS (k:P2):Uf ts k=(Et ts).count k:=by unfold Uf;rw [GR,GH]
def J6 (ts:List T3) (i:Nat):List T3:=(((BJ ts).take i).filter λe=>decide (Uf ts (e.a,e.b)=1)).map λe=>(e.a,e.b,0)
def Eh (ts:List T3):List T3:=J6 ts (BJ ts).length
theorem WG {i:Nat} (hi:i<(BJ ts).length) (h:Uf ts (((BJ ts).getD i ⟨0,0,0,0⟩).a,((BJ ts).getD i ⟨0,0,0,0⟩).b)=1):J6 ts (i+1)=J6 ts i++[(((BJ ts).getD i ⟨0,0,0,0⟩).a,((BJ ts).getD i ⟨0,0,0,0⟩).b,0)]:=by
  rw [List.getD,xQ hi] at h ⊢
  unfold J6
  rw [List.take_add_one,xQ hi,List.filter_append,List.map_append]
  simp only [Option.toList_some,Option.getD_some] at h ⊢
  rw [List.filter_cons,if_pos (xJ h)];rfl
theorem Yl {i:Nat} (hi:i<(BJ ts).length) (h:¬Uf ts (((BJ ts).getD i ⟨0,0,0,0⟩).a,((BJ ts).getD i ⟨0,0,0,0⟩).b)=1):J6 ts (i+1)=J6 ts i:=by
  rw [List.getD,xQ hi] at h
  unfold J6
  rw [List.take_add_one,xQ hi,List.filter_append,List.map_append]
  simp only [Option.toList_some,Option.getD_some] at h ⊢
  rw [List.filter_cons,if_neg (by simpa using h)];simp
theorem WF (i:Nat):(J6 ts i).length<=i:=by
  unfold J6
  rw [xL]
  exact xN (List.length_filter_le _ _) (List.length_take_le _ _)
theorem PI (hn:BV N ts=true) (hN:N<=4611686018427387904) {a b:Nat}:(a,b)∈Et ts↔∃e∈BJ ts,e.a=a/\e.b=b:=by
  rw [<-GH,List.mem_map]
  constructor
  · rintro ⟨u,hu,hk⟩
    have hu:=List.mem_range.1 hu
    have hne:=Gr hn hu
    unfold Il CB at hk
    injection hk with h1 h2
    have hlt:a<b:=by omega
    have hd:Br ts u=(a,b)\/Br ts u=(b,a):=by
      rcases Nat.lt_or_ge (Br ts u).1 (Br ts u).2 with h|h
      · exact .inl (Prod.ext Z Z)
      · exact .inr (Prod.ext Z Z)
    obtain ⟨i1,i2⟩:=Id (λu hu=>Gr hn hu) _ (Nat.le_refl _)
    cases hg:BU (Cl ts (3*ts.length)) (a,b) with
    | none =>
      have h3:=i2 _ hg hlt u hu
      rcases hd with hd|hd
      · exact absurd hd h3.1
      · exact absurd hd h3.2
    | some e =>
      have h3:=i1 _ _ hg
      refine ⟨e,?_,h3.ea,h3.eb⟩
      unfold BJ
      exact (Dx _).mem_iff.2 (List.mem_map.2 ⟨_,LN hg,rfl⟩)
  · rintro ⟨e,he,rfl,rfl⟩
    have h:=(KT hn hN).1 he
    obtain ⟨u,hu,hs⟩:=h.some
    have hlt:=h.lt
    simp only at hlt hs
    refine ⟨u,List.mem_range.2 hu,?_⟩
    unfold Il CB
    rcases hs with hs|hs<;>rw [hs]<;>exact Prod.ext (by simp only;omega) (by simp only;omega)
def Tz (x y:T3):Prop:=x.1<y.1\/(x.1=y.1/\x.2.1<y.2.1)
theorem Tz.asymm (x y:T3) (h:Tz x y):¬Tz y x:=by unfold Tz at *;omega
theorem Ei (hn:BV N ts=true) (hN:N<=4611686018427387904):(Eh ts).Pairwise Tz:=by
  unfold Eh J6
  rw [List.pairwise_map,List.take_length]
  exact (K0 hn hN).filter _
theorem F4 (hn:BV N ts=true) (hN:N<=4611686018427387904) {s:T3}:s∈Eh ts↔(Et ts).count (s.1,s.2.1)=1/\s.2.2=0:=by
  unfold Eh J6
  rw [List.take_length,List.mem_map]
  constructor
  · rintro ⟨e,he,rfl⟩
    obtain ⟨h1,h2⟩:=List.mem_filter.1 he
    exact ⟨by rw [<-RS];exact xU h2,rfl⟩
  · rintro ⟨h1,h2⟩
    have hm:(s.1,s.2.1)∈Et ts:=List.count_pos_iff.1 Z
    obtain ⟨e,he,ea,eb⟩:=(PI hn hN).1 hm
    refine ⟨e,List.mem_filter.2 ⟨he,xJ (by rw [RS,ea,eb];exact h1)⟩,?_⟩
    exact Prod.ext ea (Prod.ext eb h2.symm)
theorem WE (hn:BV N ts=true) (hn':BV N ts'=true) (hN:N<=4611686018427387904) (h:(Et ts).Perm (Et ts')):Eh ts=Eh ts' :=
  IH Tz.asymm (Ei hn hN) (Ei hn' hN) λs=>by rw [F4 hn hN,F4 hn' hN,h.count_eq]
theorem flatMap_perm2 {α β:Type} {g:α->List β} (d:α):∀{l l':List α},l.length=l'.length->(∀j,j<l.length->(g (l.getD j d)).Perm (g (l'.getD j d)))->(l.flatMap g).Perm (l'.flatMap g)
  | [],[],_,_=>List.Perm.refl _
  | x::r,y::r',hl,h=>by
    rw [List.flatMap_cons,List.flatMap_cons]
    refine (h 0 jX).append (flatMap_perm2 d (by simpa using hl) λj hj=>?_)
    have:=h (j+1) (by simpa using hj)
    simpa using this
end
end
section
abbrev E0:E4:=⟨0,0,0,0⟩
def Sw (N:Nat) (es:List E4):Nat->List (P2×Nat)
  | 0=>[]
  | i+1=>Bl (Sw N es i) (CB (es.getD i E0).a (es.getD i E0).b) (N+i)
def aZ (N:Nat) (ss:List T3):Nat->List (P2×Nat)
  | 0=>[]
  | k+1=>if (ss.getD (ss.length-1-k) (0,0,0)).1<N/\(ss.getD (ss.length-1-k) (0,0,0)).2.1<N then Bl (aZ N ss k) (CB (ss.getD (ss.length-1-k) (0,0,0)).1 (ss.getD (ss.length-1-k) (0,0,0)).2.1) (ss.getD (ss.length-1-k) (0,0,0)).2.2 else aZ N ss k
def Xz (N:Nat) (ss:List T3) (es:List E4):Nat->List (P2×Nat)
  | 0=>aZ N ss ss.length
  | i+1=>Bl (Bl (Xz N ss es i) (CB (es.getD i E0).a (N+i)) ((BU (Xz N ss es i) (CB (es.getD i E0).a (es.getD i E0).b)).getD 0)) (CB (es.getD i E0).b (N+i)) ((BU (Xz N ss es i) (CB (es.getD i E0).a (es.getD i E0).b)).getD 0)
def dY (N:Nat) (ss:List T3) (es:List E4) (a b:Nat):Nat:=(BU (Xz N ss es es.length) (CB a b)).getD 0
def fD (ps:List Pt) (e:E4):Pt:=G4 (cor ps e.a+cor ps e.b) (1/2)
def bZ (ps:List Pt) (es:List E4):Nat->List Pt
  | 0=>ps
  | i+1=>bZ ps es i++[fD ps (es.getD i E0)]
def dQ (ps:List Pt) (es:List E4):List Pt:=bZ ps es es.length
def dS (N:Nat) (ss:List T3) (es:List E4) (ts:List T3):List T3:=(Eh ts).map λs=>(s.1,s.2.1,dY N ss es s.1 s.2.1)
section
variable {N M i:Nat} {es:List E4} {ts:List T3} {t:T3} {ss rs:List T3} {ps:List Pt}
theorem HN (hn:BV N ts=true) (hN:N<=4611686018427387904) {e:E4} (he:e∈BJ ts):e.a<e.b/\e.b<N:=by
  have h:=(KT hn hN).1 he
  obtain ⟨u,hu,hs⟩:=h.some
  have h2:=RV hn hu
  have hlt:=h.lt
  simp only at hlt hs
  rcases hs with hs|hs<;>rw [hs] at h2<;>simp only at h2<;>omega
theorem Us (hn:BV N ts=true) (hN:N<=4611686018427387904):∀e∈BJ ts,e.a<N/\e.b<N:=λe he=>by
  have:=HN hn hN he;omega
end
end
section
theorem ak (a b:T3):(((a.1:Int) == (b.1:Int))&&(((a.2.1:Int) == (b.2.1:Int))&&(((a.2.2:Int) == (b.2.2:Int))&&true)))=decide (a=b):=by
  obtain ⟨a1,a2,a3⟩:=a
  obtain ⟨b1,b2,b3⟩:=b
  rw [Bool.eq_iff_iff]
  simp
  constructor<;>(rintro ⟨h1,h2,h3⟩;refine ⟨?_,?_,?_⟩<;>omega)
theorem Fi (D:Nat) (a b:T3):Ej prog (D+2) 71 (.agg (Ad a).toArray) (.agg (Ad b).toArray) (decide (a=b)):=by
  rw [<-ak]
  exact Ej.array underlying71 LX I7 (Oj.one isAgg3 O O (Ej.int underlying3) (Oj.one isAgg3 O O (Ej.int underlying3) (Oj.one isAgg3 O O (Ej.int underlying3) Oj.nil)))
theorem DK (D:Nat) {a b:T3} (h:a=b):Ej prog (D+2) 71 (.agg (Ad a).toArray) (.agg (Ad b).toArray) true:=by
  have:=Fi D a b;rwa [xJ h] at this
theorem JT (b n:Nat):Aw (jk b) n n:=⟨λe=>(by cases e),λa e=>(by injection e with e;subst e;rfl),Nat.le_refl _⟩
theorem aj {ps:List Pt} {k:Nat} (h:(ps.all λp=>decide (Bn p<=k))=true) (h0:Bn (⟨0,0⟩:Pt)<=k) (i:Nat):Bn (cor ps i)<=k:=by
  unfold cor
  rcases Nat.lt_or_ge i ps.length with hi|hi
  · rw [List.getD,xQ hi]
    exact xU (List.all_eq_true.1 h _ (List.getElem_mem hi))
  · rw [List.getD,List.getElem?_eq_none hi];exact h0
section
variable {P:Program} {ops:Array Oper} {rest:List Oper} {Q:Exit->Act->World->Prop} {n:Nat} {F:List (Nat×Value)} {w0:BF} {S:Nat->Prop} {L:List As} {ps:List Pt} {ts ss:List T3}
theorem Qe {w:World} {i b:Nat} {T:TypeId} {cs:List Value} (hw:BI w0 w L) (hi:L[i]?=some (AX b T cs)) (hex:w0.ex=none):w0.w.heap.size<=b:=by
  rcases (hw.2.1 _ (List.mem_of_getElem? hi) b rfl).1 with h1|h1|h1
  · cases h1
  · exact h1
  · rw [hex] at h1;cases h1
theorem AU.litM {b1 b2 b3 U1 U2 U3:Nat} {cs1 cs2 cs3:List Value} (LL:MX ps ts ss->List As) (i j k:Nat) (hn:i≠j/\i≠k/\j≠k) (h1:L[i]?=some (AX b1 U1 cs1)) (h2:L[j]?=some (AX b2 U2 cs2)) (h3:L[k]?=some (AX b3 U3 cs3)) (hex:w0.ex=none)
    (e:(cs1,cs2,cs3)=(rowsL AZ ps,rowsL Ad ts,rowsL Ad ss))
    (hL:((L.set i (AP (jk b1) cs1)).set j (AP (jk b2) cs2)).set k (AP (jk b3) cs3)=LL ⟨⟨some ⟨b1,0,none⟩,ps.length,JT _ _⟩,⟨some ⟨b2,0,none⟩,ts.length,JT _ _⟩,⟨some ⟨b3,0,none⟩,ss.length,JT _ _⟩⟩)
    (next:∀mm:MX ps ts ss,At w0 S mm->AU P ops rest Q n F w0 (LL mm)):AU P ops rest Q n F w0 L:=λa w ha hw=>by
  have n1:=Qe hw h1 hex
  have n2:=Qe hw h2 hex
  have n3:=Qe hw h3 hex
  have w1:=hw.freeze (x:=AX b1 U1 cs1) (y:=AP (jk b1) cs1) h1 rfl (λo hp=>HV hp) (λe=>by cases e)
  have w2:=w1.freeze (i:=j) (x:=AX b2 U2 cs2) (y:=AP (jk b2) cs2) (by rw [List.getElem?_set_ne hn.1];exact h2) rfl (λo hp=>HV hp) (λe=>by cases e)
  have w3:=w2.freeze (i:=k) (x:=AX b3 U3 cs3) (y:=AP (jk b3) cs3) (by rw [List.getElem?_set_ne hn.2.2,List.getElem?_set_ne hn.2.1];exact h3) rfl (λo hp=>HV hp) (λe=>by cases e)
  rw [hL] at w3
  refine next _ (λy hy b eb=>?_) a w ha w3
  have hy:y∈[AP (jk b1) (rowsL AZ ps),AP (jk b2) (rowsL Ad ts),AP (jk b3) (rowsL Ad ss)]:=hy
  simp only [xO,List.not_mem_nil,or_false] at hy
  rcases hy with rfl|rfl|rfl<;>(injection eb with eb;subst eb;exact .inl (by assumption))
end
theorem VK {α:Type} [C6 α] {w0:BF} {w:World} {S:Nat->Prop} {L:List As} (hw:BI w0 w L) (is:List Nat) {a:α} (hi:(is.map λi=>L[i]?)=(C6.rows a).map some) (ha:At w0 S a):Ro (SL w0 S L) w a:=λy hy=>by
  have h1:some y∈(is.map λi=>L[i]?):=by rw [hi];exact List.mem_map.2 ⟨y,hy,rfl⟩
  obtain ⟨i,_,h2⟩:=List.mem_map.1 h1
  have hm:=List.mem_of_getElem? h2
  exact ⟨λb e=>(hw.2.1 y hm b e).2,λb e=>⟨⟨y,hm,C6.ro a y hy,e⟩,ha y hy b e⟩⟩
end
section
abbrev M3:=List Pt×List T3×List T3
def dW (M:M3):Prop:=M.1.length+(BJ M.2.1).length<=4096/\4*M.2.1.length<=8192
instance (M:M3):Decidable (dW M):=inferInstanceAs (Decidable (_/\_))
theorem QC (ts:List T3):(BJ ts).length<=3*ts.length:=by rw [Ic];exact KJ _
structure ep (ps:List Pt) (ts ss:List T3) (e:Nat) where
  m:MX ps ts ss
instance {ps:List Pt} {ts ss:List T3} {e:Nat}:C6 (ep ps ts ss e):=⟨λx=>.tuple #[aG (Ce x.m),vN e],λx=>C6.rows x.m,λx y hy=>C6.ro x.m y hy⟩
section
variable {P:Program} {ops:Array Oper} {rest:List Oper} {Q:Exit->Act->World->Prop} {n d:Nat} {F:List (Nat×Value)} {w0:BF} {S:Nat->Prop} {L:List As} {t:TypeId} {p:String} {af:Array Edge} {y:Operand} {f:FuncId} {xs:List Operand} {args:List Value} {tys:Array TypeId} {ps:List Pt} {ts ss:List T3} {e:Nat}
end
def dK (ts:List T3):List Value:=vI (-1)::vN 0::vN 1::rowsL Ad ts
structure MB (ps:List Pt) (ts ss:List T3) where
  a:RX (rowsL AZ ps) ps.length
  b:RX (dK ts) (1+ts.length)
  c:RX (rowsL Ad ss) ss.length
def fC {ps:List Pt} {ts ss:List T3} (x:MB ps ts ss):List Value:=[x.a.val,x.b.val,x.c.val]
theorem bg {ps:List Pt} {ts ss:List T3} {x:MB ps ts ss} {y:As} (hy:y∈[x.a.row,x.b.row,x.c.row]):y.ro=true:=by
  simp only [xO,List.not_mem_nil,or_false] at hy
  rcases hy with rfl|rfl|rfl<;>rfl
instance {ps:List Pt} {ts ss:List T3}:C6 (MB ps ts ss):=⟨λx=>aG (fC x),λx=>[x.a.row,x.b.row,x.c.row],λx y hy=>bg hy⟩
end
end Go.Proofs.YtbfdamnfcmefmaaGreatDoor
