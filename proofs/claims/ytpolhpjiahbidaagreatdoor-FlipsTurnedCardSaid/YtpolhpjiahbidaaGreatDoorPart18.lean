import Derived.Lib.SliceRun
import Derived.WideKeyEntry
import Derived.Lib.ItoaNum
import Derived.Laws.Runes
import Derived.Test.YtpolhpjiahbidaaGreatDoorPart17
namespace Go.Proofs.YtpolhpjiahbidaaGreatDoor
open Go Go.RowKit Go.Proofs.Tryz
open Go.Value renaming slice→qz,bool→qa
set_option linter.unusedVariables false
set_option linter.unusedSimpArgs false
section
def Wx (S:Nat->Prop) (W w:World) (G:List As):Prop :=
  (∀x∈G,∀b,x.foot=some b->(W.heap.size<=b\/(x.ro=true/\S b))/\∃o,w.heap[b]?=some o/\x.P o)/\G.Pairwise λx y=>(x.ro=true/\y.ro=true)\/∀b,x.foot=some b->y.foot≠some b
def D6 {α:Type} (V:α->Value) (LW:α->List As) (S:Nat->Prop) (W:World) (e:Ending) (w:World):Prop:=∃a:α,e=.returned (V a)/\Fr W.heap.size W w/\Wx S W w (LW a)
def Fq (w0:BC) (S:Nat->Prop) (G:List As):Prop:=∀y∈G,y.ro=true->∀b,y.foot=some b->Nw w0 S b
section
variable {w0:BC} {S:Nat->Prop} {w w' W:World} {L G:List As}
theorem BD.give (h:BD w0 w L) (hb:Fr w.heap.size w w') (hg:Wx (SL w0 S L) w w' G):BD w0 w' (G++L):=by
  have h1:=h.below hb
  refine ⟨h1.1,λy hy b e=>?_,List.pairwise_append.2 ⟨hg.2,h1.2.2,λx hx y hy=>?_⟩⟩
  · rcases List.mem_append.1 hy with hy|hy
    · obtain ⟨h2,h3⟩:=hg.1 y hy b e
      refine ⟨?_,h3⟩
      rcases h2 with h2|⟨h2,_⟩
      · exact .inr (.inl (xM h.size h2))
      · exact .inl h2
    · exact h1.2.1 y hy b e
  · by_cases hr:x.ro=true/\y.ro=true
    · exact .inl hr
    · refine .inr λb e e2=>?_
      rcases (hg.1 x hx b e).1 with h2|⟨h2,⟨z,hz,hzr,hzf⟩,_⟩
      · exact absurd (h.lt hy e2) Z
      · have hyr:¬y.ro=true:=λk=>hr ⟨h2,k⟩
        obtain ⟨i,hi,rfl⟩:=List.getElem_of_mem hz
        obtain ⟨j,hj,rfl⟩:=List.getElem_of_mem hy
        have hp:=List.pairwise_iff_getElem.1 h.2.2
        rcases Nat.lt_trichotomy i j with hij|hij|hij
        · exact (hp i j hi hj hij).elim (λk=>hyr k.2) (λk=>k b hzf e2)
        · subst hij;exact hyr hzr
        · exact (hp j i hj hi hij).elim (λk=>hyr k.1) (λk=>k b e2 hzf)
theorem BD.gives (h:BD ⟨W,none⟩ w L) (hs:G.Sublist L) (hS:Fq ⟨W,none⟩ S G):Wx S W w G:=by
  refine ⟨λx hx b e=>?_,h.2.2.sublist hs⟩
  obtain ⟨h1,h2⟩:=h.2.1 x (hs.subset hx) b e
  refine ⟨?_,h2⟩
  by_cases hr:x.ro=true
  · rcases hS x hx hr b e with h3|h3
    · exact .inl h3
    · exact .inr ⟨hr,h3⟩
  · rcases h1 with h1|h1|h1
    · exact absurd h1 hr
    · exact .inl h1
    · cases h1
theorem JJ {α:Type} {V:α->Value} {LW:α->List As} (hw:BD ⟨W,none⟩ w L) (a:α) (hs:(LW a).Sublist L) (hS:Fq ⟨W,none⟩ S (LW a)) {v:Value} (hv:v=V a):D6 V LW S W (.returned v) w:=⟨a,by rw [hv],hw.out,hw.gives hs hS⟩
theorem Fq.nil:Fq w0 S []:=λy hy=>by cases hy
theorem Fq.own {x:As} (hx:x.ro=false) (h:Fq w0 S G):Fq w0 S (x::G):=λy hy hr b e=>by
  rcases xN.1 hy with rfl|hy
  · rw [hx] at hr;cases hr
  · exact h y hy hr b e
theorem Fq.row {α:Type} [C4 α] {a:α} {x:As} (ha:At w0 S a) (hx:C4.rows a=[x]) (h:Fq w0 S G):Fq w0 S (x::G):=λy hy hr b e=>by
  rcases xN.1 hy with rfl|hy
  · exact ha y (by rw [hx];exact List.mem_cons_self) b e
  · exact h y hy hr b e
end
section
variable {P:Program} {ops:Array Oper} {rest:List Oper} {Q:Exit->Act->World->Prop} {n d:Nat} {F:List (Nat×Value)} {w0:BC} {S:Nat->Prop} {L:List As} {t:TypeId} {p:String} {af:Array Edge} {y:Operand} {f:FuncId} {xs:List Operand} {args:List Value} {ts:Array TypeId} {α:Type} {V:α->Value} {LW:α->List As}
theorem yD (hc:∀args w,(callFunc f args).run P w=.ok (.enter f args) w) (h:∀w,BD w0 w L->Calls P f args.toArray w (D6 V LW (SL w0 S L) w))
    (h2:(evF F y,xs.map (evF F),Nat.ble (d+1) n)=(some (.func (.func f) #[] #[]),args.map some,true)) (next:∀a:α,Fq w0 S (LW a)->AR P ops rest Q n ((d,V a)::F) w0 (LW a++L)) :
    AR P ops (⟨some d,.call { callee:=.value y,args:=xs.toArray,argTypes:=ts },t,p,af,none⟩::rest) Q n F w0 L:=λa w ha hW=>by
  unfold wpList
  rw [if_pos (AI rfl a ha)]
  left
  unfold Oper.wp
  rw [Ar (Cf h2) (Cf (BQ h2)) hc a w ha hW,Oper.upon_enter]
  refine (h w hW).mono ?_
  rintro e w' ⟨x,rfl,hb,hg⟩
  refine next x (λz hz hr b e=>?_) _ _ (ha.put (CG (BQ (BQ h2)))) (hW.give hb hg)
  rcases (hg.1 z hz b e).1 with h3|⟨_,h3⟩
  · exact .inl (xM hW.size h3)
  · exact h3.2
end
structure OX (T z:Nat) (cs:List Value) (n:Nat) where
  p:Option Addr
  c:Nat
  ok:OwnOk p n c
@[reducible] def TD {T z:Nat} {cs:List Value} {n:Nat} (a:OX T z cs n):Value:=.slice a.p n a.c
@[reducible] def RG {T z:Nat} {cs:List Value} {n:Nat} (a:OX T z cs n):List As:=[rowW a.p T z n a.c cs]
@[reducible] def QK {T z:Nat} {cs:List Value} {n:Nat} (a:OX T z cs n):Value:=.slice a.p n n
theorem OwnOk.clip {p:Option Addr} {n c:Nat} (h:OwnOk p n c):Ay p n n:=⟨λe=>⟨(h.nil e).1,(h.nil e).1⟩,λa e=>by rw [h.at0 a e],Nat.le_refl _⟩
theorem YK (p:Pt):((AZ p).all λu=>u.oneCell')=true:=rfl
theorem RV (t:Tq3):((Ac t).all λu=>u.oneCell')=true:=rfl
theorem E7 {α:Type} {enc:α->List Value} (h:∀x,((enc x).all λu=>u.oneCell')=true):∀xs:List α,((rowsL enc xs).all λu=>u.oneCell')=true
  | []=>rfl
  | x::r=>by
    have e:rowsL enc (x::r)=enc x++rowsL enc r:=rfl
    rw [e,List.all_append,h x,E7 h r];rfl
theorem U4 {A B vs:List Value} {r:Nat} (h:r+vs.length<=A.length):Gd (A++B) r vs=Gd A r vs++B:=by
  unfold Gd
  rw [List.take_append_of_le_length Z,List.drop_append_of_le_length h,<-List.append_assoc]
theorem SE {A B vs:List Value} {o:Nat}:Gd (A++B) (A.length+o) vs=A++Gd B o vs:=by
  unfold Gd
  rw [List.take_append,List.take_of_length_le Z,Nat.add_sub_cancel_left,List.drop_append,List.drop_of_length_le Z,show A.length+o+vs.length-A.length=o+vs.length by omega]
  simp
theorem Mv {α:Type} {enc:α->List Value} {z:Nat} (hl:∀x,(enc x).length=z) (d:α) {r:Nat} {vs:List Value} {x':α}:∀{xs:List α} {j:Nat},j<xs.length->r+vs.length<=z->Gd (enc (xs.getD j d)) r vs=enc x'->Gd (rowsL enc xs) (j*z+r) vs=rowsL enc (xs.set j x')
  | x::q,0,_,h2,h3=>by
    have e:∀y,rowsL enc (y::q)=enc y++rowsL enc q:=λ_=>rfl
    rw [Nat.zero_mul,Nat.zero_add,List.set_cons_zero,e,e,U4 (by rw [hl];exact h2)]
    exact congrArg (·++rowsL enc q) h3
  | x::q,j+1,h1,h2,h3=>by
    have e:∀y l,rowsL enc (y::l)=enc y++rowsL enc l:=λ_ _=>rfl
    rw [List.set_cons_succ,e,e,show (j+1)*z+r=(enc x).length+(j*z+r) by rw [hl,Nat.add_mul];omega,SE,Mv hl d (by simpa using h1) h2 (by simpa using h3)]
section
variable {P:Program} {ops:Array Oper} {rest:List Oper} {Q:Exit->Act->World->Prop} {n d:Nat} {F:List (Nat×Value)} {w0:BC} {S:Nat->Prop} {L L':List As} {t ty T:TypeId} {p:String} {af:Array Edge} {x y:Operand} {dd:Option Tmp} {g:Option (Nat×Bool)} {q:Option Addr} {z m c:Nat} {cs vs:List Value} {v:Value}
theorem FD {tx ye e:TypeId} (hx:evF F x=some (.slice q m c)) (hy:evF F y=some (.slice none 0 0)) (hu:P.underlying tx=some (.slice e)):Ex P n F w0 L ⟨dd,.binOp .eql tx x y ye,t,p,af,g⟩ (.bool q.isNone):=λA w ha _=>by
  have h1:(eqGuard .eql tx x y (.slice q m c) (.slice none 0 0)).run P w=.ok () w:=rfl
  simp only [execOp,ha.ev hx,ha.ev hy,Sem.run_bind,h1,Result.andThen_ok,Lib.run_eql_slice_nil w tx e q m c 0 0 hu,Sem.run_pure]
theorem yO {s:Operand} {bytes c2:Nat} {q2:Option Addr} {news:List Value} (ht:ElemT P t T z bytes) (hs:evF F s=some (.slice q 0 c)) (ho:OwnOk q 0 c)
    (hx:evF F x=some (.slice q2 m c2)) (hsrc:cA w0 (rowW q T z 0 c []::L) q2 m news) (hnl:news.length=m*z) (h1:(news.all λu=>u.oneCell')=true) (h63:m<=maxLen) (hbytes:m*bytes<=140737488355328) (hd:Nat.ble (d+1) n=true)
    (next:∀p' c',OwnOk p' m c'->AR P ops rest Q n ((d,.slice p' m c')::F) w0 (rowW p' T z m c' news::L)) :
    AR P ops (⟨some d,.call { callee:=.builtin .append,args:=#[s,x],argTypes:=#[t,t] },ty,p,af,none⟩::rest) Q n F w0 (rowW q T z 0 c []::L):=by
  refine AR.appendS0 (cs2:=news) ht hs ho jX hx hsrc hnl h1 (by rw [Nat.zero_add];exact h63) (by rw [Nat.zero_add];exact hbytes) O hd λp' c' h=>?_
  rw [Nat.zero_add] at h ⊢
  exact next p' c' h
theorem yL (i:Nat) {α:Type} {enc:α->List Value} {j r:Nat} {x':α} {xs:List α} (df:α) (hlen:∀a,(enc a).length=z) (ho:OwnOk q m c) (hxs:xs.length=m) (hx:evF F x=some (pP (pB q) (pO q+(j*z+r)))) (hy:evF F y=some v) (hi:L[i]?=some (rowW q T z m c (rowsL enc xs))) (hq:q≠none) (hj:j<m)
    (hv:v.cells=vs.toArray) (hs:∀w,(sizeOf ty).run P w=.ok vs.length w) (h1:(vs.all λu=>u.oneCell',Nat.ble (r+vs.length) z,O1 L i (rowW q T z m c (rowsL enc (xs.set j x'))))=(true,true,some L')) (he:Gd (enc (xs.getD j df)) r vs=enc x')
    (next:AR P ops rest Q n F w0 L'):AR P ops (⟨none,.store ty x y,t,p,af,none⟩::rest) Q n F w0 L:=by
  have hz:=Nat.le_of_ble_eq_true (Cf (BQ h1))
  have hjz:(j+1)*z<=m*z:=Nat.mul_le_mul_right z hj
  rw [Nat.add_mul] at hjz
  refine ym i hx hy hi ho (by rw [AS hlen,hxs]) hq hv hs (Cf h1) Z ?_
  rw [Mv hlen df Z hz he,Ha (BQ (BQ h1))]
  exact next
theorem zz (i:Nat) (hi:L[i]?=some (rowW q T z m c cs)) (ho:OwnOk q m c) (hl:cs.length=m*z) (hex:w0.ex=none) (hs:O1 L i (AF q cs)=some L') (next:(∀b,q.map (·.block)=some b->w0.w.heap.size<=b)->AR P ops rest Q n F w0 L'):AR P ops rest Q n F w0 L:=λa w ha hw=>by
  refine next (λb e=>?_) a w ha (Ha hs▸hw.freeze hi O (λo hp=>Dd ho hl hp) (λe=>by cases e))
  rcases (hw.2.1 _ (List.mem_of_getElem? hi) b e).1 with h1|h1|h1
  · cases h1
  · exact h1
  · rw [hex] at h1;cases h1
theorem At.new {n:Nat} {cs:List Value} {a:RX cs n} (h:∀b,a.p.map (·.block)=some b->w0.w.heap.size<=b):At w0 S a:=λy hy b e=>by
  rcases xO.1 hy with rfl
  exact .inl (h b e)
end
theorem bH {S:Nat->Prop} {w:World} {ps:List Pt} {ts ss:List (Tq3)} {x:MX ps ts ss} (h:Ro S w x):Ro S w x.c:=λy hy=>by rcases xO.1 hy with rfl;exact h _ (List.mem_cons_of_mem _ (List.mem_cons_of_mem _ List.mem_cons_self))
structure aU (ps:List Pt) (ts ss:List (Tq3)) where
  a:OX 99 10 (rowsL AZ ps) ps.length
  b:OX 105 3 (rowsL Ac ts) ts.length
  c:OX 110 3 (rowsL Ac ss) ss.length
def dQ {ps:List Pt} {ts ss:List (Tq3)} (x:aU ps ts ss):List Value:=[QK x.a,QK x.b,QK x.c]
@[reducible] def dR {ps:List Pt} {ts ss:List (Tq3)} (x:aU ps ts ss):List As:=[rowW x.c.p 110 3 ss.length x.c.c (rowsL Ac ss),rowW x.b.p 105 3 ts.length x.b.c (rowsL Ac ts),rowW x.a.p 99 10 ps.length x.a.c (rowsL AZ ps)]
structure cN (ps:List Pt) (ts ss:List (Tq3)) (l:List Nat) (e:Nat) where
  m:MX ps ts ss
  q:RX (ap l) l.length
theorem bB {ps:List Pt} {ts ss:List (Tq3)} {l:List Nat} {e:Nat} {x:cN ps ts ss l e} {y:As} (hy:y∈[x.m.a.row,x.m.b.row,x.m.c.row,x.q.row]):y.ro=true:=by
  simp only [xN,List.not_mem_nil,or_false] at hy
  rcases hy with rfl|rfl|rfl|rfl<;>rfl
instance {ps:List Pt} {ts ss:List (Tq3)} {l:List Nat} {e:Nat}:C4 (cN ps ts ss l e):=⟨λx=>.tuple #[aG (Dj x.m),x.q.val,vN e],λx=>[x.m.a.row,x.m.b.row,x.m.c.row,x.q.row],λx y hy=>bB hy⟩
section
variable {P:Program} {ops:Array Oper} {rest:List Oper} {Q:Exit->Act->World->Prop} {n d:Nat} {F:List (Nat×Value)} {w0:BC} {S:Nat->Prop} {L:List As} {t:TypeId} {p:String} {af:Array Edge} {y:Operand} {f:FuncId} {xs:List Operand} {args:List Value} {tys:Array TypeId} {ps:List Pt} {ts ss:List (Tq3)} {l:List Nat} {e:Nat}
end
end
section
section
variable {α β:Type} [DecidableEq α]
theorem IU {kvs:List (α×β)} {x z:α} {y:β}:BW (Bl kvs x y) z=if z=x then some y else BW kvs z:=by
  induction kvs with
  | nil=>rfl
  | cons p r ih =>
    obtain ⟨k,v⟩:=p
    unfold Bl
    split
    · rename_i e
      subst e
      unfold BW
      split<;>rfl
    · rename_i e
      rw [BW,ih]
      by_cases h:z=k
      · rw [if_pos h,if_neg (λe2=>e (e2.symm.trans h)),BW,if_pos h]
      · rw [if_neg h]
        split
        · rfl
        · rw [BW,if_neg h]
end
section
variable {ts:List (Tq3)}
def Bw (ts:List (Tq3)) (u:Nat):P2:=(FV (ts.getD (u/3) (0,0,0)) (u%3),FV (ts.getD (u/3) (0,0,0)) ((u%3+1)%3))
def KU (ts:List (Tq3)) (s a b:Nat) (z:Int):Prop:=(z = -1/\∀u,u<s->Bw ts u≠(a,b))\/∃u,u<s/\z=((u/3:Nat):Int)/\Bw ts u=(a,b)/\∀v,v<u->Bw ts v≠(a,b)
theorem KU.none {s a b:Nat} (h:∀u,u<s->Bw ts u≠(a,b)):KU ts s a b (-1):=.inl ⟨rfl,h⟩
theorem KU.skip {s a b:Nat} {z:Int} (h:KU ts s a b z) (hn:Bw ts s≠(a,b)):KU ts (s+1) a b z:=by
  rcases h with ⟨h1,h2⟩|⟨u,h1,h2,h3,h4⟩
  · refine .inl ⟨h1,λu hu=>?_⟩
    rcases Nat.lt_or_ge u s with h|h
    · exact h2 u h
    · rw [show u=s by omega];exact hn
  · exact .inr ⟨u,Z,h2,h3,h4⟩
theorem KU.take {s a b:Nat} (h:KU ts s a b (-1)) (hn:Bw ts s=(a,b)):KU ts (s+1) a b ((s/3:Nat):Int):=by
  rcases h with ⟨h1,h2⟩|⟨u,h1,h2,h3,h4⟩
  · exact .inr ⟨s,Z,rfl,hn,h2⟩
  · omega
theorem KU.keep {s a b:Nat} {z:Int} (h:KU ts s a b z) (hz:z ≠ -1):KU ts (s+1) a b z:=by
  rcases h with ⟨h1,h2⟩|⟨u,h1,h2,h3,h4⟩
  · exact absurd h1 hz
  · exact .inr ⟨u,Z,h2,h3,h4⟩
structure ZB (ts:List (Tq3)) (s:Nat) (k:P2) (e:E4):Prop where
  ea:e.a=k.1
  eb:e.b=k.2
  lt:k.1<k.2
  l:KU ts s k.1 k.2 e.l
  r:KU ts s k.2 k.1 e.r
  some:∃u,u<s/\(Bw ts u=(k.1,k.2)\/Bw ts u=(k.2,k.1))
theorem IM (hd:∀u,u<3*ts.length->(Bw ts u).1≠(Bw ts u).2):∀s,s<=3*ts.length->(∀k e,BW (Cl ts s) k=some e->ZB ts s k e)/\(∀k,BW (Cl ts s) k=none->k.1<k.2->∀u,u<s->Bw ts u≠(k.1,k.2)/\Bw ts u≠(k.2,k.1))
  | 0,_=>⟨λk e h=>(by cases h),λk _ _ u hu=>absurd hu (Nat.not_lt_zero _)⟩
  | s+1,hs=>by
    obtain ⟨i1,i2⟩:=IM hd s Z
    have hne:=hd s Z
    obtain ⟨a,ha⟩:∃a,a=FV (ts.getD (s/3) (0,0,0)) (s%3):=⟨_,rfl⟩
    obtain ⟨b,hb⟩:∃b,b=FV (ts.getD (s/3) (0,0,0)) ((s%3+1)%3):=⟨_,rfl⟩
    have hdir:Bw ts s=(a,b):=by rw [ha,hb];rfl
    rw [hdir] at hne
    have hE:Cl ts (s+1)=Sw (Cl ts s) (s/3) a b:=by rw [ha,hb];rfl
    rw [hE]
    unfold Sw
    have hky:(CP a b).1<(CP a b).2:=by unfold CP;simp only at hne ⊢;omega
    -- what the old edge,or the new one,knows
    have h0:∀e0,e0=(BW (Cl ts s) (CP a b)).getD (JD (CP a b))->e0.a=(CP a b).1/\e0.b=(CP a b).2/\KU ts s (CP a b).1 (CP a b).2 e0.l/\KU ts s (CP a b).2 (CP a b).1 e0.r:=by
      intro e0 he0
      cases hg:BW (Cl ts s) (CP a b) with
      | none =>
        rw [hg] at he0
        have h2:=i2 _ hg hky
        subst he0
        exact ⟨rfl,rfl,KU.none λu hu=>(h2 u hu).1,KU.none λu hu=>(h2 u hu).2⟩
      | some e =>
        rw [hg] at he0
        have h2:=i1 _ _ hg
        subst he0
        exact ⟨h2.ea,h2.eb,h2.l,h2.r⟩
    constructor
    · intro k e hk
      rw [IU] at hk
      split at hk
      · rename_i e1
        injection hk with hk
        obtain ⟨c1,c2,c3,c4⟩:=h0 _ rfl
        obtain ⟨e0,he0⟩:∃e0,e0=(BW (Cl ts s) (CP a b)).getD (JD (CP a b)):=⟨_,rfl⟩
        rw [<-he0] at hk c1 c2 c3 c4
        subst hk
        have hends:=M7 e0 (s/3) a b
        rw [e1]
        rcases Nat.lt_or_ge a b with hab|hab
        · have k1:(CP a b).1=a:=by unfold CP;simp only;omega
          have k2:(CP a b).2=b:=by unfold CP;simp only;omega
          rw [k1,k2] at c3 c4
          refine ⟨hends.1.trans c1,hends.2.trans c2,hky,?_,?_,s,Z,.inl (by rw [k1,k2];exact hdir)⟩<;>rw [k1,k2]
          · unfold Fm
            by_cases hl:e0.l = -1
            · rw [if_pos ⟨hab,hl⟩]
              rw [hl] at c3
              exact c3.take hdir
            · rw [if_neg (λh=>hl h.2),if_neg (λh=>by omega)]
              exact c3.keep hl
          · have hn2:Bw ts s≠(b,a):=by rw [hdir];intro h;injection h with h _;omega
            unfold Fm
            split
            · exact c4.skip hn2
            · rw [if_neg (λh=>by omega)]
              exact c4.skip hn2
        · have hba:b<a:=by simp only at hne;omega
          have k1:(CP a b).1=b:=by unfold CP;simp only;omega
          have k2:(CP a b).2=a:=by unfold CP;simp only;omega
          rw [k1,k2] at c3 c4
          have hn2:Bw ts s≠(b,a):=by rw [hdir];intro h;injection h with h _;omega
          refine ⟨hends.1.trans c1,hends.2.trans c2,hky,?_,?_,s,Z,.inr (by rw [k1,k2];exact hdir)⟩<;>rw [k1,k2]
          · unfold Fm
            rw [if_neg (λh=>by omega)]
            split
            · exact c3.skip hn2
            · exact c3.skip hn2
          · unfold Fm
            rw [if_neg (λh=>by omega)]
            by_cases hl:e0.r = -1
            · rw [if_pos ⟨hba,hl⟩]
              rw [hl] at c4
              exact c4.take hdir
            · rw [if_neg (λh=>hl h.2)]
              exact c4.keep hl
      · rename_i e1
        obtain ⟨a1,a2,a3,a4,a5,u,a6,a7⟩:=i1 k e hk
        have n1:Bw ts s≠(k.1,k.2):=by
          rw [hdir];intro h;injection h with h1 h2
          exact e1 (Prod.ext (by unfold CP;simp only;omega) (by unfold CP;simp only;omega))
        have n2:Bw ts s≠(k.2,k.1):=by
          rw [hdir];intro h;injection h with h1 h2
          exact e1 (Prod.ext (by unfold CP;simp only;omega) (by unfold CP;simp only;omega))
        exact ⟨a1,a2,a3,a4.skip n1,a5.skip n2,u,Z,a7⟩
    · intro k hk hlt u hu
      rw [IU] at hk
      split at hk
      · cases hk
      · rename_i e1
        rcases Nat.lt_or_ge u s with h|h
        · exact i2 k hk hlt u h
        · rw [show u=s by omega,hdir]
          constructor
          · intro h;injection h with h1 h2
            exact e1 (Prod.ext (by unfold CP;simp only;omega) (by unfold CP;simp only;omega))
          · intro h;injection h with h1 h2
            exact e1 (Prod.ext (by unfold CP;simp only;omega) (by unfold CP;simp only;omega))
theorem XP {N:Nat} (hn:Be N ts=true) (hN:N<=4611686018427387904) (hd:∀u,u<3*ts.length->(Bw ts u).1≠(Bw ts u).2) {e:E4} (he:e∈BR ts):ZB ts (3*ts.length) (e.a,e.b) e:=by
  unfold BR at he
  obtain ⟨p,hp,h1⟩:=List.mem_map.1 ((D5 _).mem_iff.1 he)
  obtain ⟨j,hj,h2⟩:=List.getElem_of_mem hp
  have h3:=NU (x:=p.1) (v:=p.2) (Fk hn hN _ (Nat.le_refl _)).once (show (Cl ts (3*ts.length))[j]?=some (p.1,p.2) by rw [xP hj,h2])
  have h4:=(IM hd _ (Nat.le_refl _)).1 _ _ h3
  rw [h1] at h4
  rw [show (e.a,e.b)=p.1 from Prod.ext h4.ea h4.eb]
  exact h4
end
end
section
theorem Ld {α:Type} {R:α->α->Prop} (ha:∀x y,R x y->¬R y x) {l l':List α} (h:l.Pairwise R) (h':l'.Pairwise R) (hm:∀x,x∈l↔x∈l'):l=l':=by
  have nd:∀{l:List α},l.Pairwise R->l.Nodup:=λ{l} h=>h.imp λ{x y} hxy e=>by subst e;exact ha _ _ hxy hxy
  exact List.Perm.eq_of_pairwise (le:=R) (λx y _ _ h1 h2=>absurd h2 (ha x y h1)) h h' ((List.perm_ext_iff_of_nodup (nd h) (nd h')).2 hm)
abbrev T3:=Tq3
section
variable {ts ts':List T3} {N:Nat}
theorem QI {t:T3} (h:LT N t=true):t.1≠t.2.1/\t.2.1≠t.2.2/\t.2.2≠t.1:=by
  simp only [LT,yz,xX,xU,xV] at h
  exact ⟨h.1.1.2,h.1.2,h.2⟩
theorem Gv (hn:Be N ts=true) {u:Nat} (hu:u<3*ts.length):(Bw ts u).1≠(Bw ts u).2:=by
  obtain ⟨hab,hbc,hca⟩:=QI (Cb hn (show u/3<ts.length by omega))
  have h3:u%3=0\/u%3=1\/u%3=2:=by omega
  unfold Bw
  rcases h3 with h3|h3|h3<;>rw [h3]
  · exact hab
  · exact hbc
  · exact hca
theorem Qy (hn:Be N ts=true) {u:Nat} (hu:u<3*ts.length):(Bw ts u).1<N/\(Bw ts u).2<N:=by
  have h:=Cb hn (show u/3<ts.length by omega)
  exact ⟨NI h _,NI h _⟩
theorem KU.uniq {s a b:Nat} {y z:Int} (h:KU ts s a b y) (k:KU ts s a b z):y=z:=by
  rcases h with ⟨h1,h2⟩|⟨u,h1,h2,h3,h4⟩<;>rcases k with ⟨k1,k2⟩|⟨v,k1,k2,k3,k4⟩
  · omega
  · exact absurd k3 (h2 v k1)
  · exact absurd h3 (k2 u h1)
  · rcases Nat.lt_trichotomy u v with h|h|h
    · exact absurd h3 (k4 u h)
    · rw [h2,k2,h]
    · exact absurd k3 (h4 v h)
theorem IZ (hn:Be N ts=true) (hN:N<=4611686018427387904) {e:E4}:e∈BR ts↔ZB ts (3*ts.length) (e.a,e.b) e:=by
  have hd:∀u,u<3*ts.length->(Bw ts u).1≠(Bw ts u).2:=λu hu=>Gv hn hu
  refine ⟨λh=>XP hn hN hd h,λh=>?_⟩
  obtain ⟨i1,i2⟩:=IM hd _ (Nat.le_refl _)
  cases hg:BW (Cl ts (3*ts.length)) (e.a,e.b) with
  | none =>
    obtain ⟨u,hu,hs⟩:=h.some
    have h3:=i2 _ hg h.lt u hu
    rcases hs with hs|hs
    · exact absurd hs h3.1
    · exact absurd hs h3.2
  | some e' =>
    have h3:=i1 _ _ hg
    have e1:e'=e:=by
      have a1:=h3.ea;have a2:=h3.eb;have a3:=h3.l.uniq h.l;have a4:=h3.r.uniq h.r
      cases e;cases e';simp only at a1 a2 a3 a4;subst a1 a2 a3 a4;rfl
    rw [e1] at hg
    unfold BR
    exact (D5 _).mem_iff.2 (List.mem_map.2 ⟨_,K5 hg,rfl⟩)
def bu (x y:E4):Prop:=x.a<y.a\/(x.a=y.a/\x.b<y.b)
theorem Kp (hn:Be N ts=true) (hN:N<=4611686018427387904):(BR ts).Pairwise bu:=by
  have h1:ML ((Cl ts (3*ts.length)).map (·.2)):=Mr (Fk hn hN _ (Nat.le_refl _)) (Kq ts _)
  have h2:ML (BR ts):=(List.Perm.pairwise_iff (R:=λx y:E4=>¬(x.a=y.a/\x.b=y.b)) (λh k=>h ⟨k.1.symm,k.2.symm⟩) (D5 _)).2 h1
  exact (List.Pairwise.and (G8 _) h2).imp λ{x y} h=>by
    have h3:=KE.1 h.1
    have h4:=h.2
    unfold bu
    omega
def MH (t:T3) (i:Nat):T3:=(FV t (i%3),FV t ((i+1)%3),FV t ((i+2)%3))
theorem J_ {j r:Nat} (hr:r<3):Bw ts (3*j+r)=(FV (ts.getD j (0,0,0)) r,FV (ts.getD j (0,0,0)) ((r+1)%3)):=by
  unfold Bw
  rw [show (3*j+r)/3=j by omega,show (3*j+r)%3=r by omega]
def MC (ts:List T3) (u:Nat):P2:=CP (Bw ts u).1 (Bw ts u).2
def C1 (ts:List T3):Nat->List (P2×Nat)
  | 0=>[]
  | s+1=>Bl (C1 ts s) (MC ts s) ((BW (C1 ts s) (MC ts s)).getD 0+1)
def IJ (ts:List T3):List P2:=ts.flatMap λt=>[CP t.1 t.2.1,CP t.2.1 t.2.2,CP t.2.2 t.1]
theorem GR (k:P2):∀s,(BW (C1 ts s) k).getD 0=((List.range s).map (MC ts)).count k
  | 0=>rfl
  | s+1=>by
    rw [C1,IU,List.range_succ,List.map_append,List.count_append,List.map_singleton,List.count_singleton]
    by_cases h:k=MC ts s
    · subst h
      rw [if_pos rfl,Option.getD_some,GR _ s];simp
    · rw [if_neg h,GR k s,if_neg (by simpa using λe=>h e.symm)];rfl
theorem I8 {t i:Nat} (hi:i<3):C1 ts (3*t+i+1)=Bl (C1 ts (3*t+i)) (CP (FV (ts.getD t (0,0,0)) i) (FV (ts.getD t (0,0,0)) ((i+1)%3))) ((BW (C1 ts (3*t+i)) (CP (FV (ts.getD t (0,0,0)) i) (FV (ts.getD t (0,0,0)) ((i+1)%3)))).getD 0+1):=by
  rw [C1]
  unfold MC
  rw [J_ hi]
theorem Nk (s:Nat) (k:P2):(BW (C1 ts s) k).getD 0<=s:=by
  rw [GR]
  exact xM List.count_le_length jX
theorem Fa (hn:Be N ts=true) (hN:N<=4611686018427387904):∀s,s<=3*ts.length->N8 X9 (C1 ts s)
  | 0,_=>N8.nil
  | s+1,hs=>by
    obtain ⟨h1,h2⟩:=Qy hn (show s<3*ts.length by omega)
    exact (Fa hn hN s Z).put (EE (Nat.lt_of_lt_of_le h1 hN) (Nat.lt_of_lt_of_le h2 hN))
theorem Kb:(List.range (3*ts.length)).map (MC ts)=IJ ts:=by
  have key:∀n,n<=ts.length->(List.range (3*n)).map (MC ts)=IJ (ts.take n):=by
    intro n
    induction n with
    | zero=>intro _;rfl
    | succ n ih =>
      intro hn
      have e1:List.range (3*(n+1))=List.range (3*n)++[3*n,3*n+1,3*n+2]:=by
        rw [show 3*(n+1)=3*n+1+1+1 by omega,List.range_succ,List.range_succ,List.range_succ];simp
      have e2:ts.take (n+1)=ts.take n++[ts.getD n (0,0,0)]:=by
        rw [List.take_add_one,xP (show n<ts.length by omega),List.getD,xP (show n<ts.length by omega)];rfl
      have k0:=J_ (ts:=ts) (j:=n) (show 0<3 by decide)
      have k1:=J_ (ts:=ts) (j:=n) (show 1<3 by decide)
      have k2:=J_ (ts:=ts) (j:=n) (show 2<3 by decide)
      rw [e1,e2,List.map_append,ih Z]
      unfold IJ
      rw [List.flatMap_append]
      congr 1
      simp only [List.map_cons,List.map_nil,List.flatMap_cons,List.flatMap_nil,List.append_nil,MC]
      rw [show 3*n=3*n+0 by omega,k0,show 3*n+0+1=3*n+1 by omega,k1,show 3*n+0+2=3*n+2 by omega,k2]
      rfl
  have h:=key ts.length (Nat.le_refl _)
  rwa [List.take_length] at h
def UA (ts:List T3) (k:P2):Nat:=(BW (C1 ts (3*ts.length)) k).getD 0
theorem Qu (k:P2):UA ts k=(IJ ts).count k:=by unfold UA;rw [GR,Kb]
def Js (ts:List T3) (i:Nat):List T3:=(((BR ts).take i).filter λe=>decide (UA ts (e.a,e.b)=1)).map λe=>(e.a,e.b,0)
def FS (ts:List T3):List T3:=Js ts (BR ts).length
theorem Vo {i:Nat} (hi:i<(BR ts).length) (h:UA ts (((BR ts).getD i ⟨0,0,0,0⟩).a,((BR ts).getD i ⟨0,0,0,0⟩).b)=1):Js ts (i+1)=Js ts i++[(((BR ts).getD i ⟨0,0,0,0⟩).a,((BR ts).getD i ⟨0,0,0,0⟩).b,0)]:=by
  rw [List.getD,xP hi] at h ⊢
  unfold Js
  rw [List.take_add_one,xP hi,List.filter_append,List.map_append]
  simp only [Option.toList_some,Option.getD_some] at h ⊢
  rw [List.filter_cons,if_pos (xI h)];rfl
theorem YP {i:Nat} (hi:i<(BR ts).length) (h:¬UA ts (((BR ts).getD i ⟨0,0,0,0⟩).a,((BR ts).getD i ⟨0,0,0,0⟩).b)=1):Js ts (i+1)=Js ts i:=by
  rw [List.getD,xP hi] at h
  unfold Js
  rw [List.take_add_one,xP hi,List.filter_append,List.map_append]
  simp only [Option.toList_some,Option.getD_some] at h ⊢
  rw [List.filter_cons,if_neg (by simpa using h)];simp
theorem Vn (i:Nat):(Js ts i).length<=i:=by
  unfold Js
  rw [xK]
  exact xM (List.length_filter_le _ _) (List.length_take_le _ _)
theorem Om (hn:Be N ts=true) (hN:N<=4611686018427387904) {a b:Nat}:(a,b)∈IJ ts↔∃e∈BR ts,e.a=a/\e.b=b:=by
  rw [<-Kb,List.mem_map]
  constructor
  · rintro ⟨u,hu,hk⟩
    have hu:=List.mem_range.1 hu
    have hne:=Gv hn hu
    unfold MC CP at hk
    injection hk with h1 h2
    have hlt:a<b:=by omega
    have hd:Bw ts u=(a,b)\/Bw ts u=(b,a):=by
      rcases Nat.lt_or_ge (Bw ts u).1 (Bw ts u).2 with h|h
      · exact .inl (Prod.ext Z Z)
      · exact .inr (Prod.ext Z Z)
    obtain ⟨i1,i2⟩:=IM (λu hu=>Gv hn hu) _ (Nat.le_refl _)
    cases hg:BW (Cl ts (3*ts.length)) (a,b) with
    | none =>
      have h3:=i2 _ hg hlt u hu
      rcases hd with hd|hd
      · exact absurd hd h3.1
      · exact absurd hd h3.2
    | some e =>
      have h3:=i1 _ _ hg
      refine ⟨e,?_,h3.ea,h3.eb⟩
      unfold BR
      exact (D5 _).mem_iff.2 (List.mem_map.2 ⟨_,K5 hg,rfl⟩)
  · rintro ⟨e,he,rfl,rfl⟩
    have h:=(IZ hn hN).1 he
    obtain ⟨u,hu,hs⟩:=h.some
    have hlt:=h.lt
    simp only at hlt hs
    refine ⟨u,List.mem_range.2 hu,?_⟩
    unfold MC CP
    rcases hs with hs|hs<;>rw [hs]<;>exact Prod.ext (by simp only;omega) (by simp only;omega)
def Wf (x y:T3):Prop:=x.1<y.1\/(x.1=y.1/\x.2.1<y.2.1)
theorem Wf.asymm (x y:T3) (h:Wf x y):¬Wf y x:=by unfold Wf at *;omega
theorem G3 (hn:Be N ts=true) (hN:N<=4611686018427387904):(FS ts).Pairwise Wf:=by
  unfold FS Js
  rw [List.pairwise_map,List.take_length]
  exact (Kp hn hN).filter _
theorem Ia (hn:Be N ts=true) (hN:N<=4611686018427387904) {s:T3}:s∈FS ts↔(IJ ts).count (s.1,s.2.1)=1/\s.2.2=0:=by
  unfold FS Js
  rw [List.take_length,List.mem_map]
  constructor
  · rintro ⟨e,he,rfl⟩
    obtain ⟨h1,h2⟩:=List.mem_filter.1 he
    exact ⟨by rw [<-Qu];exact xT h2,rfl⟩
  · rintro ⟨h1,h2⟩
    have hm:(s.1,s.2.1)∈IJ ts:=List.count_pos_iff.1 Z
    obtain ⟨e,he,ea,eb⟩:=(Om hn hN).1 hm
    refine ⟨e,List.mem_filter.2 ⟨he,xI (by rw [Qu,ea,eb];exact h1)⟩,?_⟩
    exact Prod.ext ea (Prod.ext eb h2.symm)
theorem Vm (hn:Be N ts=true) (hn':Be N ts'=true) (hN:N<=4611686018427387904) (h:(IJ ts).Perm (IJ ts')):FS ts=FS ts' :=
  Ld Wf.asymm (G3 hn hN) (G3 hn' hN) λs=>by rw [Ia hn hN,Ia hn' hN,h.count_eq]
theorem flatMap_perm2 {α β:Type} {g:α->List β} (d:α):∀{l l':List α},l.length=l'.length->(∀j,j<l.length->(g (l.getD j d)).Perm (g (l'.getD j d)))->(l.flatMap g).Perm (l'.flatMap g)
  | [],[],_,_=>List.Perm.refl _
  | x::r,y::r',hl,h=>by
    rw [List.flatMap_cons,List.flatMap_cons]
    refine (h 0 jX).append (flatMap_perm2 d (by simpa using hl) λj hj=>?_)
    have:=h (j+1) (by simpa using hj)
    simpa using this
end
end
section
abbrev E0:E4:=⟨0,0,0,0⟩
def SQ (N:Nat) (es:List E4):Nat->List (P2×Nat)
  | 0=>[]
  | i+1=>Bl (SQ N es i) (CP (es.getD i E0).a (es.getD i E0).b) (N+i)
def Z8 (N:Nat) (ss:List T3):Nat->List (P2×Nat)
  | 0=>[]
  | k+1=>if (ss.getD (ss.length-1-k) (0,0,0)).1<N/\(ss.getD (ss.length-1-k) (0,0,0)).2.1<N then Bl (Z8 N ss k) (CP (ss.getD (ss.length-1-k) (0,0,0)).1 (ss.getD (ss.length-1-k) (0,0,0)).2.1) (ss.getD (ss.length-1-k) (0,0,0)).2.2 else Z8 N ss k
def Xd (N:Nat) (ss:List T3) (es:List E4):Nat->List (P2×Nat)
  | 0=>Z8 N ss ss.length
  | i+1=>Bl (Bl (Xd N ss es i) (CP (es.getD i E0).a (N+i)) ((BW (Xd N ss es i) (CP (es.getD i E0).a (es.getD i E0).b)).getD 0)) (CP (es.getD i E0).b (N+i)) ((BW (Xd N ss es i) (CP (es.getD i E0).a (es.getD i E0).b)).getD 0)
def ch (N:Nat) (ss:List T3) (es:List E4) (a b:Nat):Nat:=(BW (Xd N ss es es.length) (CP a b)).getD 0
def eC (ps:List Pt) (e:E4):Pt:=Dk (cor ps e.a+cor ps e.b) (1/2)
def ao (ps:List Pt) (es:List E4):Nat->List Pt
  | 0=>ps
  | i+1=>ao ps es i++[eC ps (es.getD i E0)]
def cW (ps:List Pt) (es:List E4):List Pt:=ao ps es es.length
def cZ (N:Nat) (ss:List T3) (es:List E4) (ts:List T3):List T3:=(FS ts).map λs=>(s.1,s.2.1,ch N ss es s.1 s.2.1)
section
variable {N M i:Nat} {es:List E4} {ts:List T3} {t:T3} {ss rs:List T3} {ps:List Pt}
theorem Lj {α:Type} {l:List α} {d:α} {i:Nat} (h:i<l.length):l.take (i+1)=l.take i++[l.getD i d]:=by
  rw [List.take_add_one,xP h,List.getD,xP h];rfl
theorem HL (hn:Be N ts=true) (hN:N<=4611686018427387904) {e:E4} (he:e∈BR ts):e.a<e.b/\e.b<N:=by
  have h:=(IZ hn hN).1 he
  obtain ⟨u,hu,hs⟩:=h.some
  have h2:=Qy hn hu
  have hlt:=h.lt
  simp only at hlt hs
  rcases hs with hs|hs<;>rw [hs] at h2<;>simp only at h2<;>omega
theorem UQ (hn:Be N ts=true) (hN:N<=4611686018427387904):∀e∈BR ts,e.a<N/\e.b<N:=λe he=>by
  have:=HL hn hN he;omega
end
end
section
theorem aA (a b:T3):(((a.1:Int) == (b.1:Int))&&(((a.2.1:Int) == (b.2.1:Int))&&(((a.2.2:Int) == (b.2.2:Int))&&true)))=decide (a=b):=by
  obtain ⟨a1,a2,a3⟩:=a
  obtain ⟨b1,b2,b3⟩:=b
  rw [Bool.eq_iff_iff]
  simp
  constructor<;>(rintro ⟨h1,h2,h3⟩;refine ⟨?_,?_,?_⟩<;>omega)
theorem ZS (D:Nat) (a b:T3):E1 prog (D+2) 105 (.agg (Ac a).toArray) (.agg (Ac b).toArray) (decide (a=b)):=by
  rw [<-aA]
  exact E1.array underlying105 K9 Ix (OC.one isAgg3 O O (E1.int underlying3) (OC.one isAgg3 O O (E1.int underlying3) (OC.one isAgg3 O O (E1.int underlying3) OC.nil)))
theorem Ob (D:Nat) {a b:T3} (h:a=b):E1 prog (D+2) 105 (.agg (Ac a).toArray) (.agg (Ac b).toArray) true:=by
  have:=ZS D a b;rwa [xI h] at this
theorem JL (b n:Nat):Ay (jk b) n n:=⟨λe=>(by cases e),λa e=>(by injection e with e;subst e;rfl),Nat.le_refl _⟩
theorem Z_ {ps:List Pt} {k:Nat} (h:(ps.all λp=>decide (Bc p<=k))=true) (h0:Bc (⟨0,0⟩:Pt)<=k) (i:Nat):Bc (cor ps i)<=k:=by
  unfold cor
  rcases Nat.lt_or_ge i ps.length with hi|hi
  · rw [List.getD,xP hi]
    exact xT (List.all_eq_true.1 h _ (List.getElem_mem hi))
  · rw [List.getD,List.getElem?_eq_none hi];exact h0
section
variable {P:Program} {ops:Array Oper} {rest:List Oper} {Q:Exit->Act->World->Prop} {n:Nat} {F:List (Nat×Value)} {w0:BC} {S:Nat->Prop} {L:List As} {ps:List Pt} {ts ss:List T3}
theorem QB {w:World} {i b:Nat} {T:TypeId} {cs:List Value} (hw:BD w0 w L) (hi:L[i]?=some (AX b T cs)) (hex:w0.ex=none):w0.w.heap.size<=b:=by
  rcases (hw.2.1 _ (List.mem_of_getElem? hi) b rfl).1 with h1|h1|h1
  · cases h1
  · exact h1
  · rw [hex] at h1;cases h1
theorem AR.litM {b1 b2 b3 U1 U2 U3:Nat} {cs1 cs2 cs3:List Value} (LL:MX ps ts ss->List As) (i j k:Nat) (hn:i≠j/\i≠k/\j≠k) (h1:L[i]?=some (AX b1 U1 cs1)) (h2:L[j]?=some (AX b2 U2 cs2)) (h3:L[k]?=some (AX b3 U3 cs3)) (hex:w0.ex=none)
    (e:(cs1,cs2,cs3)=(rowsL AZ ps,rowsL Ac ts,rowsL Ac ss))
    (hL:((L.set i (AF (jk b1) cs1)).set j (AF (jk b2) cs2)).set k (AF (jk b3) cs3)=LL ⟨⟨some ⟨b1,0,none⟩,ps.length,JL _ _⟩,⟨some ⟨b2,0,none⟩,ts.length,JL _ _⟩,⟨some ⟨b3,0,none⟩,ss.length,JL _ _⟩⟩)
    (next:∀mm:MX ps ts ss,At w0 S mm->AR P ops rest Q n F w0 (LL mm)):AR P ops rest Q n F w0 L:=λa w ha hw=>by
  have n1:=QB hw h1 hex
  have n2:=QB hw h2 hex
  have n3:=QB hw h3 hex
  have w1:=hw.freeze (x:=AX b1 U1 cs1) (y:=AF (jk b1) cs1) h1 rfl (λo hp=>HU hp) (λe=>by cases e)
  have w2:=w1.freeze (i:=j) (x:=AX b2 U2 cs2) (y:=AF (jk b2) cs2) (by rw [List.getElem?_set_ne hn.1];exact h2) rfl (λo hp=>HU hp) (λe=>by cases e)
  have w3:=w2.freeze (i:=k) (x:=AX b3 U3 cs3) (y:=AF (jk b3) cs3) (by rw [List.getElem?_set_ne hn.2.2,List.getElem?_set_ne hn.2.1];exact h3) rfl (λo hp=>HU hp) (λe=>by cases e)
  rw [hL] at w3
  refine next _ (λy hy b eb=>?_) a w ha w3
  have hy:y∈[AF (jk b1) (rowsL AZ ps),AF (jk b2) (rowsL Ac ts),AF (jk b3) (rowsL Ac ss)]:=hy
  simp only [xN,List.not_mem_nil,or_false] at hy
  rcases hy with rfl|rfl|rfl<;>(injection eb with eb;subst eb;exact .inl (by assumption))
end
theorem Uq {α:Type} [C4 α] {w0:BC} {w:World} {S:Nat->Prop} {L:List As} (hw:BD w0 w L) (is:List Nat) {a:α} (hi:(is.map λi=>L[i]?)=(C4.rows a).map some) (ha:At w0 S a):Ro (SL w0 S L) w a:=λy hy=>by
  have h1:some y∈(is.map λi=>L[i]?):=by rw [hi];exact List.mem_map.2 ⟨y,hy,rfl⟩
  obtain ⟨i,_,h2⟩:=List.mem_map.1 h1
  have hm:=List.mem_of_getElem? h2
  exact ⟨λb e=>(hw.2.1 y hm b e).2,λb e=>⟨⟨y,hm,C4.ro a y hy,e⟩,ha y hy b e⟩⟩
end
section
abbrev M3:=List Pt×List T3×List T3
def cg (M:M3):Prop:=M.1.length+(BR M.2.1).length<=4096/\4*M.2.1.length<=8192
instance (M:M3):Decidable (cg M):=inferInstanceAs (Decidable (_/\_))
theorem Pk (ts:List T3):(BR ts).length<=3*ts.length:=by rw [IL];exact KB _
structure dv (ps:List Pt) (ts ss:List T3) (e:Nat) where
  m:MX ps ts ss
instance {ps:List Pt} {ts ss:List T3} {e:Nat}:C4 (dv ps ts ss e):=⟨λx=>.tuple #[aG (Dj x.m),vN e],λx=>C4.rows x.m,λx y hy=>C4.ro x.m y hy⟩
section
variable {P:Program} {ops:Array Oper} {rest:List Oper} {Q:Exit->Act->World->Prop} {n d:Nat} {F:List (Nat×Value)} {w0:BC} {S:Nat->Prop} {L:List As} {t:TypeId} {p:String} {af:Array Edge} {y:Operand} {f:FuncId} {xs:List Operand} {args:List Value} {tys:Array TypeId} {ps:List Pt} {ts ss:List T3} {e:Nat}
end
def cR (ts:List T3):List Value:=vI (-1)::vN 0::vN 1::rowsL Ac ts
structure MB (ps:List Pt) (ts ss:List T3) where
  a:RX (rowsL AZ ps) ps.length
  b:RX (cR ts) (1+ts.length)
  c:RX (rowsL Ac ss) ss.length
def eB {ps:List Pt} {ts ss:List T3} (x:MB ps ts ss):List Value:=[x.a.val,x.b.val,x.c.val]
theorem aw {ps:List Pt} {ts ss:List T3} {x:MB ps ts ss} {y:As} (hy:y∈[x.a.row,x.b.row,x.c.row]):y.ro=true:=by
  simp only [xN,List.not_mem_nil,or_false] at hy
  rcases hy with rfl|rfl|rfl<;>rfl
instance {ps:List Pt} {ts ss:List T3}:C4 (MB ps ts ss):=⟨λx=>aG (eB x),λx=>[x.a.row,x.b.row,x.c.row],λx y hy=>aw hy⟩
end
section
theorem Zp {a b:Nat} (ha:a<4611686018427387904) (hb:b<4611686018427387904):X9 (a,b):=⟨ha,hb⟩
def DF {α β:Type} [DecidableEq α]:List (α×β)->α->Nat
  | [],_=>0
  | (k,v)::r,x=>if x=k then 0 else DF r x+1
section
variable {α β:Type} {enc:α->Value} {eV:β->Value} {ok:α->Prop} {P:Program} {kt:TypeId} {n:Nat} {F:List (Nat×Value)} {w0:BC} {L:List As} {d:Nat} {mp kp vp sp:Operand} {t:TypeId} {pp:String} {af:Array Edge} {g:Option (Nat×Bool)} {tx et:TypeId} {b:Nat} {ops:Array Oper} {rest:List Oper} {Q:Exit->Act->World->Prop}
def P8 {α β:Type} [DecidableEq α] (b:Nat) (enc:α->Value) (eV:β->Value) (kvs:List (α×β)) (x:α) (v:β):As:=⟨some b,λo=>o=.map (entsM enc eV kvs 0).toArray kvs.length\/o=.map (entsM enc eV (Bl kvs x v) 0).toArray (Bl kvs x v).length,false⟩
variable [DecidableEq α]
theorem Mu:∀{kvs:List (α×β)} {x:α} {v:β},BW kvs x=some v->Bl kvs x v=kvs
  | (k,u)::r,x,v,h=>by
    unfold BW at h
    unfold Bl
    split at h
    · rename_i e;injection h with h;rw [if_pos e,h]
    · rename_i e;rw [if_neg e,Mu h]
theorem Ii:∀{kvs:List (α×β)} {x:α} {v:β},(Bl kvs x v)[DF kvs x]?=some (x,v)
  | [],_,_=>rfl
  | (k,u)::r,x,v=>by
    unfold Bl DF
    split
    · rename_i e;rw [List.getElem?_cons_zero,e]
    · rw [List.getElem?_cons_succ,Ii]
theorem Ow {x:α} {u v:β}:∀{kvs:List (α×β)},(Bl kvs x u).set (DF kvs x) (x,v)=Bl kvs x v
  | []=>rfl
  | (k,w)::r=>by
    by_cases e:x=k
    · simp [Bl,DF,e]
    · simp [Bl,DF,e,Ow]
theorem Oe:∀{kvs:List (α×β)} {j:Nat} {x:α} {v:β},kvs.Pairwise (λp q=>p.1≠q.1)->kvs[j]?=some (x,v)->DF kvs x=j
  | (k,u)::r,0,x,v,_,h=>by
    simp only [List.getElem?_cons_zero,Option.some.injEq,Prod.mk.injEq] at h
    rw [DF,if_pos h.1.symm]
  | (k,u)::r,j+1,x,v,hp,h=>by
    obtain ⟨h1,h2⟩:=List.pairwise_cons.1 hp
    rw [List.getElem?_cons_succ] at h
    rw [DF,if_neg (λe=>h1 (x,v) (List.mem_of_getElem? h) e.symm),Oe h2 h]
theorem K0:∀{kvs:List (α×β)} {x:α},(∀p∈kvs,p.1≠x)->DF kvs x=kvs.length
  | [],_,_=>rfl
  | (k,v)::r,x,h=>by
    rw [DF,if_neg (λe=>h (k,v) List.mem_cons_self e.symm),K0 λp hp=>h p (List.mem_cons_of_mem _ hp)];rfl
theorem Yq {i:Nat} {kvs:List (α×β)} (x:α) (v:β) (hi:L[i]?=some (Ds b enc eV kvs)):Wk (L.set i (P8 b enc eV kvs x v)) L:=λw0 w hw=>by
  exact hw.freeze (i:=i) (y:=P8 b enc eV kvs x v) hi O (λo h=>.inl h) (λe=>by cases e)
theorem WY {i:Nat} {kvs:List (α×β)} (x:α) (v:β) (hi:L[i]?=some (Ds b enc eV (Bl kvs x v))):Wk (L.set i (P8 b enc eV kvs x v)) L:=λw0 w hw=>by
  exact hw.freeze (i:=i) (y:=P8 b enc eV kvs x v) hi O (λo h=>.inr h) (λe=>by cases e)
theorem dI (i:Nat) {kvs:List (α×β)} {x:α} {v:β} {LA:List As} (hi:L[i]?=some (Ds b enc eV kvs)) (hs:O1 L i (P8 b enc eV kvs x v)=some LA):Wk LA L:=Ha hs▸Yq x v hi
theorem aK (i:Nat) {kvs:List (α×β)} {x:α} {v:β} {LA:List As} (hi:L[i]?=some (Ds b enc eV (Bl kvs x v))) (hs:O1 L i (P8 b enc eV kvs x v)=some LA):Wk LA L:=Ha hs▸WY x v hi
theorem Hw (K:PU P kt enc ok) (i:Nat) {kvs:List (α×β)} {x:α} {z0 v:β} {dd:Option Tmp} (hx:evF F mp=some (.map (some b))) (hk:evF F kp=some (enc x)) (ht:P.underlying tx=some (.map kt et)) (hz:∀w,(zeroValue et).run P w=.ok (eV z0) w) (hi:L[i]?=some (P8 b enc eV kvs x v)) (hm:N8 ok kvs) (hok:ok x) (hv:v=(BW kvs x).getD z0) :
    Ex P n F w0 L ⟨dd,.lookup tx mp kp false,t,pp,af,g⟩ (eV v):=λA w ha hw=>by
  obtain ⟨_,o,ho,hp⟩:=hw.2.1 _ (List.mem_of_getElem? hi) b rfl
  obtain ⟨lx,hlx⟩:=K.key x hok
  have hc:=λem=>K.law.check w em hlx
  have key:∀kvs':List (α×β),N8 ok kvs'->(BW kvs' x).getD z0=v->w.heap[b]?=some (.map (entsM enc eV kvs' 0).toArray kvs'.length)->(execOp A.eval ⟨dd,.lookup tx mp kp false,t,pp,af,g⟩).run P w=.ok (.value (eV v)) w:=λkvs' hm' hg ho=>by
    rcases HZ (eV:=eV) K hm' hok w with ⟨h1,_,h2⟩|⟨j,u,_,h1,h2⟩
    · rw [h1] at hg
      simp only [execOp,ha.ev hx,ha.ev hk,Instr.lookup,Sem.run_bind,run_underlying ht,CV ho,Result.andThen_ok,Sem.run_pure,hc,List.toList_toArray,h2,hz]
      rw [<-hg];rfl
    · rw [h1] at hg
      simp only [execOp,ha.ev hx,ha.ev hk,Instr.lookup,Sem.run_bind,run_underlying ht,CV ho,Result.andThen_ok,Sem.run_pure,hc,List.toList_toArray,h2]
      rw [<-hg];rfl
  rcases hp with hp|hp
  · exact key kvs hm hv.symm (by rw [ho,hp])
  · exact key (Bl kvs x v) (hm.put hok) (by rw [IU,if_pos O];rfl) (by rw [ho,hp])
theorem yh (K:PU P kt enc ok) (i:Nat) {kvs:List (α×β)} {x:α} {z0 v:β} (hx:evF F mp=some (.map (some b))) (hk:evF F kp=some (enc x)) (ht:P.underlying tx=some (.map kt et)) (hz:∀w,(zeroValue et).run P w=.ok (eV z0) w) (hi:L[i]?=some (Ds b enc eV kvs)) (hm:N8 ok kvs) (hok:ok x) (hv:v=(BW kvs x).getD z0) (hd:Nat.ble (d+1) n=true)
    (next:AR P ops rest Q n ((d,.tuple #[eV v,vN (DF kvs x)])::F) w0 (L.set i (Ds b enc eV (Bl kvs x v)))):AR P ops (⟨some d,.mapEntry tx mp kp,t,pp,af,none⟩::rest) Q n F w0 L:=λa w ha hW=>by
  obtain ⟨_,o,ho,hp⟩:=hW.2.1 _ (List.mem_of_getElem? hi) b rfl
  have ho:w.heap[b]?=some (.map (entsM enc eV kvs 0).toArray kvs.length):=by rw [ho,hp]
  obtain ⟨lx,hlx⟩:=K.key x hok
  have hc:=λem=>K.law.check w em hlx
  have hst:=K.law.stays w hlx
  have hrun:(execOp a.eval ⟨some d,.mapEntry tx mp kp,t,pp,af,none⟩).run P w=.ok (.value (.tuple #[eV v,vN (DF kvs x)])) (Go.ChangeMaps.setBlock w b (.map (entsM enc eV (Bl kvs x v) 0).toArray (Bl kvs x v).length)):=by
    rcases HZ (eV:=eV) K hm hok w with ⟨h0,h1,h2⟩|⟨j,u,hj,h1,h2⟩
    · rw [h0] at hv
      simp only [Option.getD_none] at hv
      subst hv
      rw [JI h1,K0 h1,GI,xL]
      simp only [execOp,ha.ev hx,ha.ev hk,Instr.mapEntry,Sem.run_bind,run_underlying ht,CV ho,Result.andThen_ok,hc,List.toList_toArray,h2,hz,ET ho,Sem.run_pure,List.push_toArray,Nat.zero_add,List.length_singleton]
      rfl
    · rw [h1] at hv
      simp only [Option.getD_some] at hv
      subst hv
      rw [Mu h1,Oe hm.once hj]
      have e1:(entsM enc eV kvs 0)[j]?=some ⟨enc x,eV v,0+j⟩:=by rw [C_,hj];rfl
      have e2:=Gw (enc:=enc) (eV:=eV) (y:=v) hj
      have e3:kvs.set j (x,v)=kvs:=by
        apply List.ext_getElem?
        intro q
        rw [List.getElem?_set]
        split
        · rename_i e;subst e;split
          · exact hj.symm
          · rename_i h9;rw [List.getElem?_eq_none Z]
        · rfl
      rw [e3] at e2
      have e4:(entsM enc eV kvs 0).toArray.modify j (λe=>{ e with key:=enc x })=(entsM enc eV kvs 0).toArray:=by
        apply Array.ext_getElem?
        intro q
        rw [Array.getElem?_modify]
        simp only [List.getElem?_toArray]
        split
        · rename_i e;subst e;rw [e1];rfl
        · rfl
      simp only [execOp,ha.ev hx,ha.ev hk,Instr.mapEntry,Sem.run_bind,run_underlying ht,CV ho,Result.andThen_ok,hc,List.toList_toArray,List.getElem?_toArray,h2,e1,hst,e4,ET ho,Sem.run_pure,Option.map_some,Option.getD_some]
      simp [goInt,e1,hst,e4,ET ho,Result.andThen]
  unfold wpList
  rw [if_pos (AI rfl a ha)]
  left
  unfold Oper.wp
  rw [hrun,Oper.upon_value]
  exact next _ _ (ha.put (CG hd)) (hW.turn hi O O (Et _ _ _) ⟨_,Fe ho,rfl⟩)
theorem yV (i:Nat) {kvs:List (α×β)} {x:α} {u y:β} (hx:evF F mp=some (.map (some b))) (hs:evF F sp=some (vN (DF kvs x))) (hv:evF F vp=some (eV y)) (hi:L[i]?=some (Ds b enc eV (Bl kvs x u)))
    (next:AR P ops rest Q n F w0 (L.set i (Ds b enc eV (Bl kvs x y)))):AR P ops (⟨none,.entryStore tx mp sp vp,t,pp,af,none⟩::rest) Q n F w0 L:=λa w ha hW=>by
  obtain ⟨_,o,ho,hp⟩:=hW.2.1 _ (List.mem_of_getElem? hi) b rfl
  have ho:w.heap[b]?=some (.map (entsM enc eV (Bl kvs x u) 0).toArray (Bl kvs x u).length):=by rw [ho,hp]
  have hf:=Ii (kvs:=kvs) (x:=x) (v:=u)
  have hlt:DF kvs x<(Bl kvs x u).length:=(List.getElem?_eq_some_iff.1 hf).1
  have e0:(entsM enc eV (Bl kvs x u) 0)[DF kvs x]?=some ⟨enc x,eV u,DF kvs x⟩:=by rw [C_,hf];simp
  have hnd:((entsM enc eV (Bl kvs x u) 0).map (·.born)).Nodup:=by
    have e1:∀(l:List (α×β)) (s:Nat),(entsM enc eV l s).map (·.born)=List.range' s l.length:=by
      intro l
      induction l with
      | nil=>intro s;rfl
      | cons p r ih=>intro s;rw [entsM,List.map_cons,ih,List.length_cons,List.range'_succ]
    rw [e1];exact List.nodup_range'
  have hidx:(entsM enc eV (Bl kvs x u) 0).toArray.findIdx? (λe=>((e.born:Nat):Int) == ((DF kvs x:Nat):Int))=some (DF kvs x):=by
    rw [WideElems.findIdx_arr]
    exact WideElems.findIdx_born hnd e0
  have hset:(Bl kvs x u).set (DF kvs x) (x,y)=Bl kvs x y:=Ow
  have hmod:=Gw (enc:=enc) (eV:=eV) (y:=y) hf
  have hmod2:(entsM enc eV (Bl kvs x u) 0).toArray.modify (DF kvs x) (λe=>{ e with val:=eV y })=(entsM enc eV (Bl kvs x y) 0).toArray:=by
    rw [<-hset,<-hmod]
    apply Array.ext_getElem?
    intro q
    rw [Array.getElem?_modify,Array.getElem?_modify]
    simp only [List.getElem?_toArray]
    split
    · rename_i e;subst e;rw [e0];rfl
    · rfl
  have hl2:(Bl kvs x y).length=(Bl kvs x u).length:=by rw [<-hset,List.length_set]
  have hrun:(execOp a.eval ⟨none,.entryStore tx mp sp vp,t,pp,af,none⟩).run P w=.ok .skip (Go.ChangeMaps.setBlock w b (.map (entsM enc eV (Bl kvs x y) 0).toArray (Bl kvs x y).length)):=by
    rw [<-hmod2,hl2]
    simp only [execOp,ha.ev hx,ha.ev hs,ha.ev hv,Instr.entryStore,Sem.run_bind,CV ho,Result.andThen_ok,asInt,asIntOf,Sem.run_pure,hidx,ET ho]
  unfold wpList
  rw [if_pos (AI rfl a ha)]
  left
  unfold Oper.wp
  rw [hrun,Oper.upon_skip]
  exact next _ _ ha.put_none (hW.turn hi O O (Et _ _ _) ⟨_,Fe ho,rfl⟩)
end
end
section
def av {α β:Type} (b:Nat) (enc:α->Value) (eV:β->Value) (kvs:List (α×β)):As:=⟨some b,λo=>o=.map (entsM enc eV kvs 0).toArray kvs.length,true⟩
section
variable {α β:Type} [DecidableEq α] {enc:α->Value} {eV:β->Value} {ok:α->Prop} {P:Program} {kt:TypeId} {n:Nat} {F:List (Nat×Value)} {w0:BC} {L:List As} {d:Option Tmp} {tx et t b:Nat} {pp:String} {af:Array Edge} {g:Option (Nat×Bool)} {mp kp:Operand}
end
def Tp (t:T3):P2:=CP t.2.1 t.2.2
def bv (ts:List T3) (ms:List Int) (k:P2):Prop:=∃z∈ms,0<=z/\z<(ts.length:Int)/\k=Tp (ts.getD z.toNat (0,0,0))
inductive ZA (ts:List T3) (S:P2->Prop):P2->Prop
  | start {k:P2}:S k->ZA ts S k
  | up {t:T3} {k:P2}:t∈ts->ZA ts S k->(k=CP t.1 t.2.1\/k=CP t.2.2 t.1)->ZA ts S (Tp t)
section
variable {ts:List T3} {ms:List Int} {i:Nat} {kvs:List (P2×Nat)}
end
structure HC (ts:List T3) (ms:List Int) where
  b:Nat
  kvs:List (P2×Nat)
  ok:N8 X9 kvs
  one:∀k,BW kvs k=none\/BW kvs k=some 1
  all:∀k,BW kvs k=some 1↔ZA ts (bv ts ms) k
instance {ts:List T3} {ms:List Int}:C4 (HC ts ms):=⟨λx=>.map (some x.b),λx=>[av x.b Jp vN x.kvs],λx y hy=>by rcases xO.1 hy with rfl;rfl⟩
structure DX (ts:List T3) (ms:List Int) where
  l:List E4
  r:RX (rowsL Bg l) l.length
  p:E4->Bool
  el:l=(BR ts).filter p
  all:∀e,p e=true↔ZA ts (bv ts ms) (e.a,e.b)
  hc:r.c=l.length
instance {ts:List T3} {ms:List Int}:C4 (DX ts ms):=⟨λx=>x.r.val,λx=>[x.r.row],λx y hy=>by rcases xO.1 hy with rfl;rfl⟩
end
theorem MR {P:Program} {f:FuncId} {fn:Func} {c:Code} {args:List Value} {w:World} {R:Ending->World->Prop} {n:Nat} {w0:BC} {L:List As}
    (hf:P.funcs[f]?=some fn) (hb:fn.body=some c) (hn:fn.ntmps=n) (hl:args.length<=n) (hW:BD w0 w L)
    (h:OkC P c (bodyPost P fn R) n (Fg 0 args) w0 L):Calls P f args.toArray w R:=by
  refine calls_of_wp hf hb ?_
  rw [hn]
  exact h _ _ (HP hl _ λk v hk=>by simpa using (DN args 0 k v hk).2) hW
theorem yX {P:Program} {ops:Array Oper} {rest:List Oper} {Q:Exit->Act->World->Prop} {n:Nat} {F:List (Nat×Value)} {w0:BC} {L L2:List As} {o:Oper} {f:FuncId} {args:List Value} {v:Value} {α:Type} {K:α->Prop} {LO:α->List As} (hw:Wt ops n F o)
    (he:∀a w,Ce n a F->BD w0 w L->(execOp a.eval o).run P w=.ok (.enter f args.toArray) w) (hp:L.Perm L2)
    (hc:∀w,BD w0 w L2->Calls P f args.toArray w λe w'=>e=.returned v/\∃a:α,K a/\BD w0 w' (LO a))
    (hd:∀d,o.dst=some d->d<n) (next:∀a,K a->AR P ops rest Q n (match o.dst with|some d=>(d,v)::F|none=>F) w0 (LO a)):AR P ops (o::rest) Q n F w0 L:=λa w ha hW=>by
  unfold wpList
  rw [if_pos (hw a ha)]
  left
  unfold Oper.wp
  rw [he a w ha hW,Oper.upon_enter]
  refine (hc w (hW.perm hp)).mono ?_
  rintro e w' ⟨rfl,x,hk,hW'⟩
  have next:=next x hk
  cases hdst:o.dst with
  | none=>rw [hdst] at next;exact next _ _ ha.put_none hW'
  | some d=>rw [hdst] at next;exact next _ _ (ha.put (hd d hdst)) hW'
theorem FH {α:Type}:∀l:List α,(l.map some).filterMap id=l
  | []=>rfl
  | x::r=>by show x::(r.map some).filterMap id=x::r;rw [FH r]
theorem DS {α:Type} {L L':List α} (idx:List Nat) (h1:idx.Perm (List.range L.length)) (h2:(idx.map λi=>L[i]?)=L'.map some):L.Perm L':=by
  have h3:((List.range L.length).map λi=>L[i]?)=L.map some:=by
    refine List.ext_getElem jX λj a b=>?_
    simp at a
    simp [a]
  have h4:=(h1.map λi=>L[i]?)
  rw [h2,h3] at h4
  have h5:=h4.filterMap id
  rw [FH,FH] at h5
  exact h5.symm
def cC (md:List (P2×Nat)):Nat->T3->List T3
  | 0,c=>[c]
  | d+1,c=>match BW md (Tp c) with
    | none=>[c]
    | some n=>cC md d (n,c.1,c.2.1)++cC md d (n,c.2.2,c.1)
def eJ (n p:Nat):List Nat:=List.replicate n p
section
section
variable {N:Nat} {es:List E4} {T:T3}
end
end
section
section
variable {m:MQ} {ts:List T3} {a b N:Nat}
theorem Ik {s:T3}:∀j,s∈Jt m ts a j↔s.1=a/\a<s.2.1/\s.2.1<a+1+j/\Hv ts s.1 s.2.1 ts.length=1/\s=YX m s.1 s.2.1
  | 0=>⟨λh=>(by cases h),λh=>Z⟩
  | j+1=>by
    show s∈Jt m ts a j++(if _ then _ else _)↔_
    rw [List.mem_append,Ik j]
    constructor
    · rintro (h|h)
      · exact ⟨h.1,h.2.1,Z,h.2.2.2⟩
      · split at h
        · rename_i hc
          rw [xO] at h
          subst h
          exact ⟨rfl,(by show a<a+1+j;omega),(by show a+1+j<a+1+(j+1);omega),hc,rfl⟩
        · cases h
    · rintro ⟨h1,h2,h3,h4,h5⟩
      rcases Nat.lt_or_ge s.2.1 (a+1+j) with h6|h6
      · exact .inl ⟨h1,h2,h6,h4,h5⟩
      · have e:s.2.1=a+1+j:=by omega
        rw [h1,e] at h4 h5
        rw [if_pos h4]
        exact .inr (xO.2 h5)
theorem GZ {s:T3}:∀A,s∈FO m ts N A↔s.1<A/\s.1<s.2.1/\s.2.1<N/\Hv ts s.1 s.2.1 ts.length=1/\s=YX m s.1 s.2.1
  | 0=>⟨λh=>(by cases h),λh=>Z⟩
  | A+1=>by
    show s∈FO m ts N A++Jt m ts A (N-(A+1))↔_
    rw [List.mem_append,GZ A,Ik]
    constructor
    · rintro (h|h)
      · exact ⟨Z,h.2⟩
      · exact ⟨Z,Z,Z,h.2.2.2⟩
    · rintro ⟨h1,h2,h3,h4⟩
      rcases Nat.lt_or_ge s.1 A with h5|h5
      · exact .inl ⟨h5,h2,h3,h4⟩
      · exact .inr ⟨Z,Z,Z,h4⟩
theorem G5:∀j,(Jt m ts a j).Pairwise Wf
  | 0=>List.Pairwise.nil
  | j+1=>by
    show (Jt m ts a j++(if _ then _ else _)).Pairwise Wf
    split
    · refine List.pairwise_append.2 ⟨G5 j,List.pairwise_singleton _ _,λx hx y hy=>?_⟩
      rw [xO] at hy
      subst hy
      have h:=(Ik j).1 hx
      exact .inr ⟨h.1,(by show x.2.1<a+1+j;exact h.2.2.1)⟩
    · rw [List.append_nil];exact G5 j
theorem Hn:∀A,(FO m ts N A).Pairwise Wf
  | 0=>List.Pairwise.nil
  | A+1=>List.pairwise_append.2 ⟨Hn A,G5 _,λx hx y hy=>.inl (by
      have h1:=(GZ A).1 hx
      have h2:=(Ik _).1 hy
      omega)⟩
theorem Ng {x y:Nat} (hab:a<b) (hxy:x≠y):CP x y=(a,b)↔(x=a/\y=b)\/(x=b/\y=a):=by
  unfold CP
  rw [Prod.mk.injEq]
  omega
theorem XI {t:T3} (hab:a<b) (h:t.1≠t.2.1/\t.2.1≠t.2.2/\t.2.2≠t.1):[CP t.1 t.2.1,CP t.2.1 t.2.2,CP t.2.2 t.1].count (a,b)=if Gk t a=true/\Gk t b=true then 1 else 0:=by
  obtain ⟨h1,h2,h3⟩:=h
  simp only [List.count_cons,List.count_nil,beq_iff_eq,Ng hab h1,Ng hab h2,Ng hab h3,Gk,yy,xV]
  split<;>split<;>split<;>split<;>omega
theorem Qv (hn:Be N ts=true) (hab:a<b):∀i,i<=ts.length->Hv ts a b i=((ts.take i).flatMap λt=>[CP t.1 t.2.1,CP t.2.1 t.2.2,CP t.2.2 t.1]).count (a,b)
  | 0,_=>rfl
  | i+1,hi=>by
    rw [M4 Z,List.flatMap_append,List.count_append,<-Qv hn hab i Z]
    have h:=QI (Cb hn (show i<ts.length by omega))
    have e:=XI hab h
    show Hv ts a b i+(if _ then 1 else 0)=_
    rw [<-e]
    simp [List.flatMap]
theorem OR (hn:Be N ts=true) (hab:a<b):Hv ts a b ts.length=(IJ ts).count (a,b):=by
  rw [Qv hn hab _ (Nat.le_refl _),List.take_length];rfl
theorem Uw (hn:Be N ts=true) (hN:N<=4611686018427387904) (h:(a,b)∈IJ ts):a<b/\b<N:=by
  obtain ⟨e,he,rfl,rfl⟩:=(Om hn hN).1 h
  exact HL hn hN he
theorem Sr (hn:Be N ts=true) (hN:N<=4611686018427387904):FO m ts N N=(FS ts).map λs=>YX m s.1 s.2.1:=by
  refine Ld Wf.asymm (Hn N) ?_ λs=>?_
  · exact List.pairwise_map.2 ((G3 hn hN).imp λ{x y} h=>h)
  · rw [GZ,List.mem_map]
    constructor
    · rintro ⟨h1,h2,h3,h4,h5⟩
      refine ⟨(s.1,s.2.1,0),(Ia hn hN).2 ⟨?_,rfl⟩,h5.symm⟩
      rw [<-OR hn h2];exact h4
    · rintro ⟨r,hr,rfl⟩
      have h:=(Ia hn hN).1 hr
      have hk:=Uw hn hN (List.count_pos_iff.1 (by rw [h.1];decide))
      exact ⟨by show r.1<N;omega,hk.1,hk.2,by show Hv ts r.1 r.2.1 ts.length=1;rw [OR hn hk.1];exact h.1,rfl⟩
end
end
section
def cf (md:List (P2×Nat)) (ts:List T3):List T3:=ts.flatMap (cC md 2)
def cd (md:List (P2×Nat)) (ts:List T3):Nat->List Nat
  | 0=>[]
  | i+1=>cd md ts i++eJ (cC md 2 (ts.getD i (0,0,0))).length i
section
variable {md:List (P2×Nat)} {ts ss:List T3} {i N:Nat} {es:List E4}
end
structure dj (ps:List Pt) (ts ss:List T3) (ms:List Int) where
  l:List E4
  p:E4->Bool
  el:l=(BR ts).filter p
  all:∀e,p e=true↔ZA ts (bv ts ms) (e.a,e.b)
  x:cN (cW ps l) (cf (SQ ps.length l l.length) ts) (cZ ps.length ss l (cf (SQ ps.length l l.length) ts)) (cd (SQ ps.length l l.length) ts ts.length) 0
instance {ps:List Pt} {ts ss:List T3} {ms:List Int}:C4 (dj ps ts ss ms):=⟨λb=>C4.val b.x,λb=>C4.rows b.x,λb y hy=>C4.ro b.x y hy⟩
section
variable {ts ss:List T3} {N:Nat} {es:List E4} {ms:List Int}
structure cH (ts:List T3) (ms:List Int) (l:List E4):Prop where
  ex:∃p:E4->Bool,l=(BR ts).filter p/\∀e,p e=true↔ZA ts (bv ts ms) (e.a,e.b)
end
section
variable {P:Program} {ops:Array Oper} {rest:List Oper} {Q:Exit->Act->World->Prop} {n d:Nat} {F:List (Nat×Value)} {w0:BC} {S:Nat->Prop} {L:List As} {t:TypeId} {p:String} {af:Array Edge} {y:Operand} {f:FuncId} {xs:List Operand} {args:List Value} {tys:Array TypeId} {ps:List Pt} {ts ss:List T3} {ms:List Int}
end
end
section
def dU:Nat->Nat->List Nat
  | 0,_=>[]
  | f+1,x=>if x=0 then [] else x%10000::dU f (x/10000)
def dg (x:Nat):List Nat:=dU x x
def dy (ds:List Nat):List Value:=ds.map λ(d:Nat)=>vN d
structure NV where
  p:Option Addr
  c:Nat
  x:Nat
  ok:Ay p (dg x).length c
@[reducible] def NV.n (v:NV):Nat:=(dg v.x).length
@[reducible] def nV (v:NV):Value:=.slice v.p (dg v.x).length v.c
theorem Hd.take {off k:Nat} {cs:List Value} {o:Obj} (h:Hd off cs o):Hd off (cs.take k) o:=by
  obtain ⟨cur,T,fr,rfl,hcs⟩:=h
  refine ⟨cur,T,fr,rfl,?_⟩
  rw [List.length_take]
  conv=>rhs;rw [<-hcs,List.take_take]
section
variable {P:Program} {ops:Array Oper} {rest:List Oper} {Q:Exit->Act->World->Prop} {n d x:Nat} {F:List (Nat×Value)} {w0:BC} {L:List As} {t:TypeId} {p:String} {af:Array Edge} {y:Operand}
end
section
variable {P:Program} {ops:Array Oper} {rest:List Oper} {Q:Exit->Act->World->Prop} {n d x z:Nat} {F:List (Nat×Value)} {w0:BC} {L:List As} {t T:TypeId} {p:String} {af:Array Edge} {y:Operand}
end
end
section
def txB (l:List UInt8):ByteArray:=⟨l.toArray⟩
theorem Ir (l:List UInt8):(txB l).size=l.length:=by simp [txB,ByteArray.size]
theorem IB (a b:List UInt8):txB a++txB b=txB (a++b):=by
  apply ByteArray.ext
  simp [txB]
section
variable {P:Program} {n:Nat} {F:List (Nat×Value)} {w0:BC} {L:List As} {t:TypeId} {p:String} {af:Array Edge} {d:Option Tmp} {g:Option (Nat×Bool)} {x:Operand}
end
end
section
structure NX (x:Nat) where
  p:Option Addr
  c:Nat
  ok:Ay p (dg x).length c
@[reducible] def NX.nv {x:Nat} (a:NX x):NV:=⟨a.p,a.c,x,a.ok⟩
@[reducible] def NX.cast {x y:Nat} (h:x=y) (a:NX x):NX y:=⟨a.p,a.c,h▸a.ok⟩
@[reducible] def a8 {x:Nat} (a:NX x):Value:=.slice a.p (dg x).length a.c
def Wm {x:Nat} (a:NX x):As:=AF a.p (dy (dg x))
structure ZX (z:Int) where
  n:NX z.natAbs
structure FX (q:Rat) where
  z:ZX q.num
  m:NX (q.den-1)
structure PX (p:Pt) where
  x:FX p.x
  y:FX p.y
def dh {z:Int} (a:ZX z):List Value:=[.bool (decide (z<0)),a8 a.n]
def cT {q:Rat} (a:FX q):List Value:=dh a.z++[a8 a.m]
def dX {p:Pt} (a:PX p):List Value:=cT a.x++cT a.y
instance {x:Nat}:C4 (NX x):=⟨λa=>a8 a,λa=>[Wm a],λa y hy=>by rcases xO.1 hy with rfl;rfl⟩
instance {z:Int}:C4 (ZX z):=⟨λa=>aG (dh a),λa=>[Wm a.n],λa y hy=>by rcases xO.1 hy with rfl;rfl⟩
theorem QO {a b y:As} (ha:a.ro=true) (hb:b.ro=true) (hy:y∈[a,b]):y.ro=true:=by
  rcases xN.1 hy with rfl|hy
  · exact ha
  · rcases xO.1 hy with rfl;exact hb
instance {q:Rat}:C4 (FX q):=⟨λa=>aG (cT a),λa=>[Wm a.z.n,Wm a.m],λa y hy=>QO rfl rfl hy⟩
instance {p:Pt}:C4 (PX p):=⟨λa=>aG (dX a),λa=>[Wm a.x.z.n,Wm a.x.m,Wm a.y.z.n,Wm a.y.m],λa y hy=>by
  rcases xN.1 hy with rfl|hy
  · rfl
  · rcases xN.1 hy with rfl|hy
    · rfl
    · exact QO O O hy⟩
section
variable {w0:BC} {S:Nat->Prop} {w W:World} {L:List As} {α:Type} [C4 α]
-- parts
end
section
variable {P:Program} {ops:Array Oper} {rest:List Oper} {Q:Exit->Act->World->Prop} {n d:Nat} {F:List (Nat×Value)} {w0:BC} {S:Nat->Prop} {L:List As} {t:TypeId} {p:String} {af:Array Edge} {y:Operand} {f:FuncId} {xs:List Operand} {args:List Value} {ts:Array TypeId}
end
end
end Go.Proofs.YtpolhpjiahbidaaGreatDoor
