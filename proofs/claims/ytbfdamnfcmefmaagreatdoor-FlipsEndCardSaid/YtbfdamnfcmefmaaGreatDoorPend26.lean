import Derived.Lib.SliceRun
import Derived.Test.YtbfdamnfcmefmaaGreatDoorPend25
namespace Go.Proofs.YtbfdamnfcmefmaaGreatDoor
open Go Go.RowKit Go.Proofs.Tryz
open Go.Value renaming slice→qz,bool→qa
set_option linter.unusedVariables false
set_option linter.unusedSimpArgs false
section
def XS (S:Nat->Prop) (W w:World) (G:List As):Prop :=
  (∀x∈G,∀b,x.foot=some b->(W.heap.size<=b\/(x.ro=true/\S b))/\∃o,w.heap[b]?=some o/\x.P o)/\G.Pairwise λx y=>(x.ro=true/\y.ro=true)\/∀b,x.foot=some b->y.foot≠some b
def E9 {α:Type} (V:α->Value) (LW:α->List As) (S:Nat->Prop) (W:World) (e:Ending) (w:World):Prop:=∃a:α,e=.returned (V a)/\Hm W.heap.size W w/\XS S W w (LW a)
def IL (w0:BD) (S:Nat->Prop) (G:List As):Prop:=∀y∈G,y.ro=true->∀b,y.foot=some b->Nw w0 S b
section
variable {w0:BD} {S:Nat->Prop} {w w' W:World} {L G:List As}
theorem BH.give (h:BH w0 w L) (hb:Hm w.heap.size w w') (hg:XS (SL w0 S L) w w' G):BH w0 w' (G++L):=by
  have h1:=h.below hb
  refine ⟨h1.1,λy hy b e=>?_,List.pairwise_append.2 ⟨hg.2,h1.2.2,λx hx y hy=>?_⟩⟩
  · rcases List.mem_append.1 hy with hy|hy
    · obtain ⟨h2,h3⟩:=hg.1 y hy b e
      refine ⟨?_,h3⟩
      rcases h2 with h2|⟨h2,_⟩
      · exact .inr (.inl (xM h.size h2))
      · exact .inl h2
    · exact h1.2.1 y hy b e
  · by_cases hr:x.ro=true/\y.ro=true
    · exact .inl hr
    · refine .inr λb e e2=>?_
      rcases (hg.1 x hx b e).1 with h2|⟨h2,⟨z,hz,hzr,hzf⟩,_⟩
      · exact absurd (h.lt hy e2) Z
      · have hyr:¬y.ro=true:=λk=>hr ⟨h2,k⟩
        obtain ⟨i,hi,rfl⟩:=List.getElem_of_mem hz
        obtain ⟨j,hj,rfl⟩:=List.getElem_of_mem hy
        have hp:=List.pairwise_iff_getElem.1 h.2.2
        rcases Nat.lt_trichotomy i j with hij|hij|hij
        · exact (hp i j hi hj hij).elim (λk=>hyr k.2) (λk=>k b hzf e2)
        · subst hij;exact hyr hzr
        · exact (hp j i hj hi hij).elim (λk=>hyr k.1) (λk=>k b e2 hzf)
theorem BH.gives (h:BH ⟨W,none⟩ w L) (hs:G.Sublist L) (hS:IL ⟨W,none⟩ S G):XS S W w G:=by
  refine ⟨λx hx b e=>?_,h.2.2.sublist hs⟩
  obtain ⟨h1,h2⟩:=h.2.1 x (hs.subset hx) b e
  refine ⟨?_,h2⟩
  by_cases hr:x.ro=true
  · rcases hS x hx hr b e with h3|h3
    · exact .inl h3
    · exact .inr ⟨hr,h3⟩
  · rcases h1 with h1|h1|h1
    · exact absurd h1 hr
    · exact .inl h1
    · cases h1
theorem PV {α:Type} {V:α->Value} {LW:α->List As} (hw:BH ⟨W,none⟩ w L) (a:α) (hs:(LW a).Sublist L) (hS:IL ⟨W,none⟩ S (LW a)) {v:Value} (hv:v=V a):E9 V LW S W (.returned v) w:=⟨a,by rw [hv],hw.out,hw.gives hs hS⟩
theorem IL.nil:IL w0 S []:=λy hy=>by cases hy
theorem IL.own {x:As} (hx:x.ro=false) (h:IL w0 S G):IL w0 S (x::G):=λy hy hr b e=>by
  rcases xN.1 hy with rfl|hy
  · rw [hx] at hr;cases hr
  · exact h y hy hr b e
theorem IL.row {α:Type} [Cy α] {a:α} {x:As} (ha:At w0 S a) (hx:Cy.rows a=[x]) (h:IL w0 S G):IL w0 S (x::G):=λy hy hr b e=>by
  rcases xN.1 hy with rfl|hy
  · exact ha y (by rw [hx];exact List.mem_cons_self) b e
  · exact h y hy hr b e
end
section
variable {P:Program} {ops:Array Oper} {rest:List Oper} {Q:Exit->Act->World->Prop} {n d:Nat} {F:List (Nat×Value)} {w0:BD} {S:Nat->Prop} {L:List As} {t:TypeId} {p:String} {af:Array Edge} {y:Operand} {f:FuncId} {xs:List Operand} {args:List Value} {ts:Array TypeId} {α:Type} {V:α->Value} {LW:α->List As}
theorem yH (hc:∀args w,(callFunc f args).run P w=.ok (.enter f args) w) (h:∀w,BH w0 w L->Calls P f args.toArray w (E9 V LW (SL w0 S L) w))
    (h2:(evF F y,xs.map (evF F),Nat.ble (d+1) n)=(some (.func (.func f) #[] #[]),args.map some,true)) (next:∀a:α,IL w0 S (LW a)->AR P ops rest Q n ((d,V a)::F) w0 (LW a++L)) :
    AR P ops (⟨some d,.call { callee:=.value y,args:=xs.toArray,argTypes:=ts },t,p,af,none⟩::rest) Q n F w0 L:=λa w ha hW=>by
  unfold wpList
  rw [if_pos (AI rfl a ha)]
  left
  unfold Oper.wp
  rw [Am (CV h2) (CV (BN h2)) hc a w ha hW,Oper.upon_enter]
  refine (h w hW).mono ?_
  rintro e w' ⟨x,rfl,hb,hg⟩
  refine next x (λz hz hr b e=>?_) _ _ (ha.put (B_ (BN (BN h2)))) (hW.give hb hg)
  rcases (hg.1 z hz b e).1 with h3|⟨_,h3⟩
  · exact .inl (xM hW.size h3)
  · exact h3.2
end
structure OX (T z:Nat) (cs:List Value) (n:Nat) where
  p:Option Addr
  c:Nat
  ok:OwnOk p n c
@[reducible] def aV {T z:Nat} {cs:List Value} {n:Nat} (a:OX T z cs n):Value:=.slice a.p n a.c
@[reducible] def Yo {T z:Nat} {cs:List Value} {n:Nat} (a:OX T z cs n):List As:=[rowW a.p T z n a.c cs]
@[reducible] def Ti {T z:Nat} {cs:List Value} {n:Nat} (a:OX T z cs n):Value:=.slice a.p n n
theorem OwnOk.clip {p:Option Addr} {n c:Nat} (h:OwnOk p n c):A8 p n n:=⟨λe=>⟨(h.nil e).1,(h.nil e).1⟩,λa e=>by rw [h.at0 a e],Nat.le_refl _⟩
theorem Yu (p:Pt):((Aa p).all λu=>u.oneCell')=true:=rfl
theorem HY {α:Type} {enc:α->List Value} (h:∀x,((enc x).all λu=>u.oneCell')=true):∀xs:List α,((rowsL enc xs).all λu=>u.oneCell')=true
  | []=>rfl
  | x::r=>by
    have e:rowsL enc (x::r)=enc x++rowsL enc r:=rfl
    rw [e,List.all_append,h x,HY h r];rfl
theorem VY {A B vs:List Value} {r:Nat} (h:r+vs.length<=A.length):Gc (A++B) r vs=Gc A r vs++B:=by
  unfold Gc
  rw [List.take_append_of_le_length Z,List.drop_append_of_le_length h,<-List.append_assoc]
theorem Sj {A B vs:List Value} {o:Nat}:Gc (A++B) (A.length+o) vs=A++Gc B o vs:=by
  unfold Gc
  rw [List.take_append,List.take_of_length_le Z,Nat.add_sub_cancel_left,List.drop_append,List.drop_of_length_le Z,show A.length+o+vs.length-A.length=o+vs.length by omega]
  simp
theorem NG {α:Type} {enc:α->List Value} {z:Nat} (hl:∀x,(enc x).length=z) (d:α) {r:Nat} {vs:List Value} {x':α}:∀{xs:List α} {j:Nat},j<xs.length->r+vs.length<=z->Gc (enc (xs.getD j d)) r vs=enc x'->Gc (rowsL enc xs) (j*z+r) vs=rowsL enc (xs.set j x')
  | x::q,0,_,h2,h3=>by
    have e:∀y,rowsL enc (y::q)=enc y++rowsL enc q:=λ_=>rfl
    rw [Nat.zero_mul,Nat.zero_add,List.set_cons_zero,e,e,VY (by rw [hl];exact h2)]
    exact congrArg (·++rowsL enc q) h3
  | x::q,j+1,h1,h2,h3=>by
    have e:∀y l,rowsL enc (y::l)=enc y++rowsL enc l:=λ_ _=>rfl
    rw [List.set_cons_succ,e,e,show (j+1)*z+r=(enc x).length+(j*z+r) by rw [hl,Nat.add_mul];omega,Sj,NG hl d (by simpa using h1) h2 (by simpa using h3)]
section
variable {P:Program} {ops:Array Oper} {rest:List Oper} {Q:Exit->Act->World->Prop} {n d:Nat} {F:List (Nat×Value)} {w0:BD} {S:Nat->Prop} {L L':List As} {t ty T:TypeId} {p:String} {af:Array Edge} {x y:Operand} {dd:Option Tmp} {g:Option (Nat×Bool)} {q:Option Addr} {z m c:Nat} {cs vs:List Value} {v:Value}
theorem Hu {tx ye e:TypeId} (hx:evF F x=some (.slice q m c)) (hy:evF F y=some (.slice none 0 0)) (hu:P.underlying tx=some (.slice e)):Ex P n F w0 L ⟨dd,.binOp .eql tx x y ye,t,p,af,g⟩ (.bool q.isNone):=λA w ha _=>by
  have h1:(eqGuard .eql tx x y (.slice q m c) (.slice none 0 0)).run P w=.ok () w:=rfl
  simp only [execOp,ha.ev hx,ha.ev hy,Sem.run_bind,h1,Result.andThen_ok,Lib.run_eql_slice_nil w tx e q m c 0 0 hu,Sem.run_pure]
theorem yf {s:Operand} {bytes c2:Nat} {q2:Option Addr} {news:List Value} (ht:ElemT P t T z bytes) (hs:evF F s=some (.slice q 0 c)) (ho:OwnOk q 0 c)
    (hx:evF F x=some (.slice q2 m c2)) (hsrc:dC w0 (rowW q T z 0 c []::L) q2 m news) (hnl:news.length=m*z) (h1:(news.all λu=>u.oneCell')=true) (h63:m<=maxLen) (hbytes:m*bytes<=140737488355328) (hd:Nat.ble (d+1) n=true)
    (next:∀p' c',OwnOk p' m c'->AR P ops rest Q n ((d,.slice p' m c')::F) w0 (rowW p' T z m c' news::L)) :
    AR P ops (⟨some d,.call { callee:=.builtin .append,args:=#[s,x],argTypes:=#[t,t] },ty,p,af,none⟩::rest) Q n F w0 (rowW q T z 0 c []::L):=by
  refine AR.appendS0 (cs2:=news) ht hs ho jX hx hsrc hnl h1 (by rw [Nat.zero_add];exact h63) (by rw [Nat.zero_add];exact hbytes) O hd λp' c' h=>?_
  rw [Nat.zero_add] at h ⊢
  exact next p' c' h
theorem ym (i:Nat) {α:Type} {enc:α->List Value} {j r:Nat} {x':α} {xs:List α} (df:α) (hlen:∀a,(enc a).length=z) (ho:OwnOk q m c) (hxs:xs.length=m) (hx:evF F x=some (pP (pB q) (pO q+(j*z+r)))) (hy:evF F y=some v) (hi:L[i]?=some (rowW q T z m c (rowsL enc xs))) (hq:q≠none) (hj:j<m)
    (hv:v.cells=vs.toArray) (hs:∀w,(sizeOf ty).run P w=.ok vs.length w) (h1:(vs.all λu=>u.oneCell',Nat.ble (r+vs.length) z,Pa L i (rowW q T z m c (rowsL enc (xs.set j x'))))=(true,true,some L')) (he:Gc (enc (xs.getD j df)) r vs=enc x')
    (next:AR P ops rest Q n F w0 L'):AR P ops (⟨none,.store ty x y,t,p,af,none⟩::rest) Q n F w0 L:=by
  have hz:=Nat.le_of_ble_eq_true (CV (BN h1))
  have hjz:(j+1)*z<=m*z:=Nat.mul_le_mul_right z hj
  rw [Nat.add_mul] at hjz
  refine yn i hx hy hi ho (by rw [AZ hlen,hxs]) hq hv hs (CV h1) Z ?_
  rw [NG hlen df Z hz he,Ha (BN (BN h1))]
  exact next
theorem zx (i:Nat) (hi:L[i]?=some (rowW q T z m c cs)) (ho:OwnOk q m c) (hl:cs.length=m*z) (hex:w0.ex=none) (hs:Pa L i (AN q cs)=some L') (next:(∀b,q.map (·.block)=some b->w0.w.heap.size<=b)->AR P ops rest Q n F w0 L'):AR P ops rest Q n F w0 L:=λa w ha hw=>by
  refine next (λb e=>?_) a w ha (Ha hs▸hw.freeze hi O (λo hp=>DY ho hl hp) (λe=>by cases e))
  rcases (hw.2.1 _ (List.mem_of_getElem? hi) b e).1 with h1|h1|h1
  · cases h1
  · exact h1
  · rw [hex] at h1;cases h1
theorem At.new {n:Nat} {cs:List Value} {a:RX cs n} (h:∀b,a.p.map (·.block)=some b->w0.w.heap.size<=b):At w0 S a:=λy hy b e=>by
  rcases xO.1 hy with rfl
  exact .inl (h b e)
end
theorem cP {S:Nat->Prop} {w:World} {ps:List Pt} {ts ss:List (Tq3)} {x:MX ps ts ss} (h:Ro S w x):Ro S w x.c:=λy hy=>by rcases xO.1 hy with rfl;exact h _ (List.mem_cons_of_mem _ (List.mem_cons_of_mem _ List.mem_cons_self))
structure fD (ps:List Pt) (ts ss:List (Tq3)) where
  a:OX 78 10 (rowsL Aa ps) ps.length
  b:OX 71 3 (rowsL Af ts) ts.length
  c:OX 80 3 (rowsL Af ss) ss.length
@[reducible] def fo {ps:List Pt} {ts ss:List (Tq3)} (x:fD ps ts ss):List As:=[rowW x.c.p 80 3 ss.length x.c.c (rowsL Af ss),rowW x.b.p 71 3 ts.length x.b.c (rowsL Af ts),rowW x.a.p 78 10 ps.length x.a.c (rowsL Aa ps)]
structure dP (ps:List Pt) (ts ss:List (Tq3)) (l:List Nat) (e:Nat) where
  m:MX ps ts ss
  q:RX (bu l) l.length
theorem cJ {ps:List Pt} {ts ss:List (Tq3)} {l:List Nat} {e:Nat} {x:dP ps ts ss l e} {y:As} (hy:y∈[x.m.a.row,x.m.b.row,x.m.c.row,x.q.row]):y.ro=true:=by
  simp only [xN,List.not_mem_nil,or_false] at hy
  rcases hy with rfl|rfl|rfl|rfl<;>rfl
instance {ps:List Pt} {ts ss:List (Tq3)} {l:List Nat} {e:Nat}:Cy (dP ps ts ss l e):=⟨λx=>.tuple #[aG (Cf x.m),x.q.val,vN e],λx=>[x.m.a.row,x.m.b.row,x.m.c.row,x.q.row],λx y hy=>cJ hy⟩
section
variable {P:Program} {ops:Array Oper} {rest:List Oper} {Q:Exit->Act->World->Prop} {n d:Nat} {F:List (Nat×Value)} {w0:BD} {S:Nat->Prop} {L:List As} {t:TypeId} {p:String} {af:Array Edge} {y:Operand} {f:FuncId} {xs:List Operand} {args:List Value} {tys:Array TypeId} {ps:List Pt} {ts ss:List (Tq3)} {l:List Nat} {e:Nat}
end
end
section
section
variable {α β:Type} [DecidableEq α]
theorem IX {kvs:List (α×β)} {x z:α} {y:β}:BR (Bj kvs x y) z=if z=x then some y else BR kvs z:=by
  induction kvs with
  | nil=>rfl
  | cons p r ih =>
    obtain ⟨k,v⟩:=p
    unfold Bj
    split
    · rename_i e
      subst e
      unfold BR
      split<;>rfl
    · rename_i e
      rw [BR,ih]
      by_cases h:z=k
      · rw [if_pos h,if_neg (λe2=>e (e2.symm.trans h)),BR,if_pos h]
      · rw [if_neg h]
        split
        · rfl
        · rw [BR,if_neg h]
end
section
variable {ts:List (Tq3)}
def CC (ts:List (Tq3)) (u:Nat):P2:=(FW (ts.getD (u/3) (0,0,0)) (u%3),FW (ts.getD (u/3) (0,0,0)) ((u%3+1)%3))
def MI (ts:List (Tq3)) (s a b:Nat) (z:Int):Prop:=(z = -1/\∀u,u<s->CC ts u≠(a,b))\/∃u,u<s/\z=((u/3:Nat):Int)/\CC ts u=(a,b)/\∀v,v<u->CC ts v≠(a,b)
theorem MI.none {s a b:Nat} (h:∀u,u<s->CC ts u≠(a,b)):MI ts s a b (-1):=.inl ⟨rfl,h⟩
theorem MI.skip {s a b:Nat} {z:Int} (h:MI ts s a b z) (hn:CC ts s≠(a,b)):MI ts (s+1) a b z:=by
  rcases h with ⟨h1,h2⟩|⟨u,h1,h2,h3,h4⟩
  · refine .inl ⟨h1,λu hu=>?_⟩
    rcases Nat.lt_or_ge u s with h|h
    · exact h2 u h
    · rw [show u=s by omega];exact hn
  · exact .inr ⟨u,Z,h2,h3,h4⟩
theorem MI.take {s a b:Nat} (h:MI ts s a b (-1)) (hn:CC ts s=(a,b)):MI ts (s+1) a b ((s/3:Nat):Int):=by
  rcases h with ⟨h1,h2⟩|⟨u,h1,h2,h3,h4⟩
  · exact .inr ⟨s,Z,rfl,hn,h2⟩
  · omega
theorem MI.keep {s a b:Nat} {z:Int} (h:MI ts s a b z) (hz:z ≠ -1):MI ts (s+1) a b z:=by
  rcases h with ⟨h1,h2⟩|⟨u,h1,h2,h3,h4⟩
  · exact absurd h1 hz
  · exact .inr ⟨u,Z,h2,h3,h4⟩
structure Zd (ts:List (Tq3)) (s:Nat) (k:P2) (e:E4):Prop where
  ea:e.a=k.1
  eb:e.b=k.2
  lt:k.1<k.2
  l:MI ts s k.1 k.2 e.l
  r:MI ts s k.2 k.1 e.r
  some:∃u,u<s/\(CC ts u=(k.1,k.2)\/CC ts u=(k.2,k.1))
theorem KA (hd:∀u,u<3*ts.length->(CC ts u).1≠(CC ts u).2):∀s,s<=3*ts.length->(∀k e,BR (Ci ts s) k=some e->Zd ts s k e)/\(∀k,BR (Ci ts s) k=none->k.1<k.2->∀u,u<s->CC ts u≠(k.1,k.2)/\CC ts u≠(k.2,k.1))
  | 0,_=>⟨λk e h=>(by cases h),λk _ _ u hu=>absurd hu (Nat.not_lt_zero _)⟩
  | s+1,hs=>by
    obtain ⟨i1,i2⟩:=KA hd s Z
    have hne:=hd s Z
    obtain ⟨a,ha⟩:∃a,a=FW (ts.getD (s/3) (0,0,0)) (s%3):=⟨_,rfl⟩
    obtain ⟨b,hb⟩:∃b,b=FW (ts.getD (s/3) (0,0,0)) ((s%3+1)%3):=⟨_,rfl⟩
    have hdir:CC ts s=(a,b):=by rw [ha,hb];rfl
    rw [hdir] at hne
    have hE:Ci ts (s+1)=TM (Ci ts s) (s/3) a b:=by rw [ha,hb];rfl
    rw [hE]
    unfold TM
    have hky:(B5 a b).1<(B5 a b).2:=by unfold B5;simp only at hne ⊢;omega
    -- what the old edge,or the new one,knows
    have h0:∀e0,e0=(BR (Ci ts s) (B5 a b)).getD (I8 (B5 a b))->e0.a=(B5 a b).1/\e0.b=(B5 a b).2/\MI ts s (B5 a b).1 (B5 a b).2 e0.l/\MI ts s (B5 a b).2 (B5 a b).1 e0.r:=by
      intro e0 he0
      cases hg:BR (Ci ts s) (B5 a b) with
      | none =>
        rw [hg] at he0
        have h2:=i2 _ hg hky
        subst he0
        exact ⟨rfl,rfl,MI.none λu hu=>(h2 u hu).1,MI.none λu hu=>(h2 u hu).2⟩
      | some e =>
        rw [hg] at he0
        have h2:=i1 _ _ hg
        subst he0
        exact ⟨h2.ea,h2.eb,h2.l,h2.r⟩
    constructor
    · intro k e hk
      rw [IX] at hk
      split at hk
      · rename_i e1
        injection hk with hk
        obtain ⟨c1,c2,c3,c4⟩:=h0 _ rfl
        obtain ⟨e0,he0⟩:∃e0,e0=(BR (Ci ts s) (B5 a b)).getD (I8 (B5 a b)):=⟨_,rfl⟩
        rw [<-he0] at hk c1 c2 c3 c4
        subst hk
        have hends:=NO e0 (s/3) a b
        rw [e1]
        rcases Nat.lt_or_ge a b with hab|hab
        · have k1:(B5 a b).1=a:=by unfold B5;simp only;omega
          have k2:(B5 a b).2=b:=by unfold B5;simp only;omega
          rw [k1,k2] at c3 c4
          refine ⟨hends.1.trans c1,hends.2.trans c2,hky,?_,?_,s,Z,.inl (by rw [k1,k2];exact hdir)⟩<;>rw [k1,k2]
          · unfold Fr
            by_cases hl:e0.l = -1
            · rw [if_pos ⟨hab,hl⟩]
              rw [hl] at c3
              exact c3.take hdir
            · rw [if_neg (λh=>hl h.2),if_neg (λh=>by omega)]
              exact c3.keep hl
          · have hn2:CC ts s≠(b,a):=by rw [hdir];intro h;injection h with h _;omega
            unfold Fr
            split
            · exact c4.skip hn2
            · rw [if_neg (λh=>by omega)]
              exact c4.skip hn2
        · have hba:b<a:=by simp only at hne;omega
          have k1:(B5 a b).1=b:=by unfold B5;simp only;omega
          have k2:(B5 a b).2=a:=by unfold B5;simp only;omega
          rw [k1,k2] at c3 c4
          have hn2:CC ts s≠(b,a):=by rw [hdir];intro h;injection h with h _;omega
          refine ⟨hends.1.trans c1,hends.2.trans c2,hky,?_,?_,s,Z,.inr (by rw [k1,k2];exact hdir)⟩<;>rw [k1,k2]
          · unfold Fr
            rw [if_neg (λh=>by omega)]
            split
            · exact c3.skip hn2
            · exact c3.skip hn2
          · unfold Fr
            rw [if_neg (λh=>by omega)]
            by_cases hl:e0.r = -1
            · rw [if_pos ⟨hba,hl⟩]
              rw [hl] at c4
              exact c4.take hdir
            · rw [if_neg (λh=>hl h.2)]
              exact c4.keep hl
      · rename_i e1
        obtain ⟨a1,a2,a3,a4,a5,u,a6,a7⟩:=i1 k e hk
        have n1:CC ts s≠(k.1,k.2):=by
          rw [hdir];intro h;injection h with h1 h2
          exact e1 (Prod.ext (by unfold B5;simp only;omega) (by unfold B5;simp only;omega))
        have n2:CC ts s≠(k.2,k.1):=by
          rw [hdir];intro h;injection h with h1 h2
          exact e1 (Prod.ext (by unfold B5;simp only;omega) (by unfold B5;simp only;omega))
        exact ⟨a1,a2,a3,a4.skip n1,a5.skip n2,u,Z,a7⟩
    · intro k hk hlt u hu
      rw [IX] at hk
      split at hk
      · cases hk
      · rename_i e1
        rcases Nat.lt_or_ge u s with h|h
        · exact i2 k hk hlt u h
        · rw [show u=s by omega,hdir]
          constructor
          · intro h;injection h with h1 h2
            exact e1 (Prod.ext (by unfold B5;simp only;omega) (by unfold B5;simp only;omega))
          · intro h;injection h with h1 h2
            exact e1 (Prod.ext (by unfold B5;simp only;omega) (by unfold B5;simp only;omega))
theorem Xt {N:Nat} (hn:Ba N ts=true) (hN:N<=4611686018427387904) (hd:∀u,u<3*ts.length->(CC ts u).1≠(CC ts u).2) {e:E4} (he:e∈BK ts):Zd ts (3*ts.length) (e.a,e.b) e:=by
  unfold BK at he
  obtain ⟨p,hp,h1⟩:=List.mem_map.1 ((Dv _).mem_iff.1 he)
  obtain ⟨j,hj,h2⟩:=List.getElem_of_mem hp
  have h3:=Nt (x:=p.1) (v:=p.2) (Fm hn hN _ (Nat.le_refl _)).once (show (Ci ts (3*ts.length))[j]?=some (p.1,p.2) by rw [xP hj,h2])
  have h4:=(KA hd _ (Nat.le_refl _)).1 _ _ h3
  rw [h1] at h4
  rw [show (e.a,e.b)=p.1 from Prod.ext h4.ea h4.eb]
  exact h4
end
end
section
theorem IA {α:Type} {R:α->α->Prop} (ha:∀x y,R x y->¬R y x) {l l':List α} (h:l.Pairwise R) (h':l'.Pairwise R) (hm:∀x,x∈l↔x∈l'):l=l':=by
  have nd:∀{l:List α},l.Pairwise R->l.Nodup:=λ{l} h=>h.imp λ{x y} hxy e=>by subst e;exact ha _ _ hxy hxy
  exact List.Perm.eq_of_pairwise (le:=R) (λx y _ _ h1 h2=>absurd h2 (ha x y h1)) h h' ((List.perm_ext_iff_of_nodup (nd h) (nd h')).2 hm)
abbrev T3:=Tq3
section
variable {ts ts':List T3} {N:Nat}
theorem V6 {t:T3} (h:Ig N t=true):t.1≠t.2.1/\t.2.1≠t.2.2/\t.2.2≠t.1:=by
  simp only [Ig,yz,xX,xU,xV] at h
  exact ⟨h.1.1.2,h.1.2,h.2⟩
theorem Kt (hn:Ba N ts=true) {u:Nat} (hu:u<3*ts.length):(CC ts u).1≠(CC ts u).2:=by
  obtain ⟨hab,hbc,hca⟩:=V6 (Bw hn (show u/3<ts.length by omega))
  have h3:u%3=0\/u%3=1\/u%3=2:=by omega
  unfold CC
  rcases h3 with h3|h3|h3<;>rw [h3]
  · exact hab
  · exact hbc
  · exact hca
theorem RV (hn:Ba N ts=true) {u:Nat} (hu:u<3*ts.length):(CC ts u).1<N/\(CC ts u).2<N:=by
  have h:=Bw hn (show u/3<ts.length by omega)
  exact ⟨Ng h _,Ng h _⟩
theorem MI.uniq {s a b:Nat} {y z:Int} (h:MI ts s a b y) (k:MI ts s a b z):y=z:=by
  rcases h with ⟨h1,h2⟩|⟨u,h1,h2,h3,h4⟩<;>rcases k with ⟨k1,k2⟩|⟨v,k1,k2,k3,k4⟩
  · omega
  · exact absurd k3 (h2 v k1)
  · exact absurd h3 (k2 u h1)
  · rcases Nat.lt_trichotomy u v with h|h|h
    · exact absurd h3 (k4 u h)
    · rw [h2,k2,h]
    · exact absurd k3 (h4 v h)
theorem OA (hn:Ba N ts=true) (hN:N<=4611686018427387904) {e:E4}:e∈BK ts↔Zd ts (3*ts.length) (e.a,e.b) e:=by
  have hd:∀u,u<3*ts.length->(CC ts u).1≠(CC ts u).2:=λu hu=>Kt hn hu
  refine ⟨λh=>Xt hn hN hd h,λh=>?_⟩
  obtain ⟨i1,i2⟩:=KA hd _ (Nat.le_refl _)
  cases hg:BR (Ci ts (3*ts.length)) (e.a,e.b) with
  | none =>
    obtain ⟨u,hu,hs⟩:=h.some
    have h3:=i2 _ hg h.lt u hu
    rcases hs with hs|hs
    · exact absurd hs h3.1
    · exact absurd hs h3.2
  | some e' =>
    have h3:=i1 _ _ hg
    have e1:e'=e:=by
      have a1:=h3.ea;have a2:=h3.eb;have a3:=h3.l.uniq h.l;have a4:=h3.r.uniq h.r
      cases e;cases e';simp only at a1 a2 a3 a4;subst a1 a2 a3 a4;rfl
    rw [e1] at hg
    unfold BK
    exact (Dv _).mem_iff.2 (List.mem_map.2 ⟨_,LG hg,rfl⟩)
def c9 (x y:E4):Prop:=x.a<y.a\/(x.a=y.a/\x.b<y.b)
theorem Kw (hn:Ba N ts=true) (hN:N<=4611686018427387904):(BK ts).Pairwise c9:=by
  have h1:Mi ((Ci ts (3*ts.length)).map (·.2)):=NC (Fm hn hN _ (Nat.le_refl _)) (Kx ts _)
  have h2:Mi (BK ts):=(List.Perm.pairwise_iff (R:=λx y:E4=>¬(x.a=y.a/\x.b=y.b)) (λh k=>h ⟨k.1.symm,k.2.symm⟩) (Dv _)).2 h1
  exact (List.Pairwise.and (G3 _) h2).imp λ{x y} h=>by
    have h3:=KJ.1 h.1
    have h4:=h.2
    unfold c9
    omega
def Md (t:T3) (i:Nat):T3:=(FW t (i%3),FW t ((i+1)%3),FW t ((i+2)%3))
theorem J8 {j r:Nat} (hr:r<3):CC ts (3*j+r)=(FW (ts.getD j (0,0,0)) r,FW (ts.getD j (0,0,0)) ((r+1)%3)):=by
  unfold CC
  rw [show (3*j+r)/3=j by omega,show (3*j+r)%3=r by omega]
def IZ (ts:List T3) (u:Nat):P2:=B5 (CC ts u).1 (CC ts u).2
def Cw (ts:List T3):Nat->List (P2×Nat)
  | 0=>[]
  | s+1=>Bj (Cw ts s) (IZ ts s) ((BR (Cw ts s) (IZ ts s)).getD 0+1)
def Ep (ts:List T3):List P2:=ts.flatMap λt=>[B5 t.1 t.2.1,B5 t.2.1 t.2.2,B5 t.2.2 t.1]
theorem GN (k:P2):∀s,(BR (Cw ts s) k).getD 0=((List.range s).map (IZ ts)).count k
  | 0=>rfl
  | s+1=>by
    rw [Cw,IX,List.range_succ,List.map_append,List.count_append,List.map_singleton,List.count_singleton]
    by_cases h:k=IZ ts s
    · subst h
      rw [if_pos rfl,Option.getD_some,GN _ s];simp
    · rw [if_neg h,GN k s,if_neg (by simpa using λe=>h e.symm)];rfl
theorem I3 {t i:Nat} (hi:i<3):Cw ts (3*t+i+1)=Bj (Cw ts (3*t+i)) (B5 (FW (ts.getD t (0,0,0)) i) (FW (ts.getD t (0,0,0)) ((i+1)%3))) ((BR (Cw ts (3*t+i)) (B5 (FW (ts.getD t (0,0,0)) i) (FW (ts.getD t (0,0,0)) ((i+1)%3)))).getD 0+1):=by
  rw [Cw]
  unfold IZ
  rw [J8 hi]
theorem N6 (s:Nat) (k:P2):(BR (Cw ts s) k).getD 0<=s:=by
  rw [GN]
  exact xM List.count_le_length jX
theorem Fd (hn:Ba N ts=true) (hN:N<=4611686018427387904):∀s,s<=3*ts.length->OZ Yj (Cw ts s)
  | 0,_=>OZ.nil
  | s+1,hs=>by
    obtain ⟨h1,h2⟩:=RV hn (show s<3*ts.length by omega)
    exact (Fd hn hN s Z).put (D8 (Nat.lt_of_lt_of_le h1 hN) (Nat.lt_of_lt_of_le h2 hN))
theorem GD:(List.range (3*ts.length)).map (IZ ts)=Ep ts:=by
  have key:∀n,n<=ts.length->(List.range (3*n)).map (IZ ts)=Ep (ts.take n):=by
    intro n
    induction n with
    | zero=>intro _;rfl
    | succ n ih =>
      intro hn
      have e1:List.range (3*(n+1))=List.range (3*n)++[3*n,3*n+1,3*n+2]:=by
        rw [show 3*(n+1)=3*n+1+1+1 by omega,List.range_succ,List.range_succ,List.range_succ];simp
      have e2:ts.take (n+1)=ts.take n++[ts.getD n (0,0,0)]:=by
        rw [List.take_add_one,xP (show n<ts.length by omega),List.getD,xP (show n<ts.length by omega)];rfl
      have k0:=J8 (ts:=ts) (j:=n) (show 0<3 by decide)
      have k1:=J8 (ts:=ts) (j:=n) (show 1<3 by decide)
      have k2:=J8 (ts:=ts) (j:=n) (show 2<3 by decide)
      rw [e1,e2,List.map_append,ih Z]
      unfold Ep
      rw [List.flatMap_append]
      congr 1
      simp only [List.map_cons,List.map_nil,List.flatMap_cons,List.flatMap_nil,List.append_nil,IZ]
      rw [show 3*n=3*n+0 by omega,k0,show 3*n+0+1=3*n+1 by omega,k1,show 3*n+0+2=3*n+2 by omega,k2]
      rfl
  have h:=key ts.length (Nat.le_refl _)
  rwa [List.take_length] at h
def Ui (ts:List T3) (k:P2):Nat:=(BR (Cw ts (3*ts.length)) k).getD 0
theorem RS (k:P2):Ui ts k=(Ep ts).count k:=by unfold Ui;rw [GN,GD]
def Jx (ts:List T3) (i:Nat):List T3:=(((BK ts).take i).filter λe=>decide (Ui ts (e.a,e.b)=1)).map λe=>(e.a,e.b,0)
def Ea (ts:List T3):List T3:=Jx ts (BK ts).length
theorem WJ {i:Nat} (hi:i<(BK ts).length) (h:Ui ts (((BK ts).getD i ⟨0,0,0,0⟩).a,((BK ts).getD i ⟨0,0,0,0⟩).b)=1):Jx ts (i+1)=Jx ts i++[(((BK ts).getD i ⟨0,0,0,0⟩).a,((BK ts).getD i ⟨0,0,0,0⟩).b,0)]:=by
  rw [List.getD,xP hi] at h ⊢
  unfold Jx
  rw [List.take_add_one,xP hi,List.filter_append,List.map_append]
  simp only [Option.toList_some,Option.getD_some] at h ⊢
  rw [List.filter_cons,if_pos (xI h)];rfl
theorem Yx {i:Nat} (hi:i<(BK ts).length) (h:¬Ui ts (((BK ts).getD i ⟨0,0,0,0⟩).a,((BK ts).getD i ⟨0,0,0,0⟩).b)=1):Jx ts (i+1)=Jx ts i:=by
  rw [List.getD,xP hi] at h
  unfold Jx
  rw [List.take_add_one,xP hi,List.filter_append,List.map_append]
  simp only [Option.toList_some,Option.getD_some] at h ⊢
  rw [List.filter_cons,if_neg (by simpa using h)];simp
theorem WI (i:Nat):(Jx ts i).length<=i:=by
  unfold Jx
  rw [xK]
  exact xM (List.length_filter_le _ _) (List.length_take_le _ _)
theorem PH (hn:Ba N ts=true) (hN:N<=4611686018427387904) {a b:Nat}:(a,b)∈Ep ts↔∃e∈BK ts,e.a=a/\e.b=b:=by
  rw [<-GD,List.mem_map]
  constructor
  · rintro ⟨u,hu,hk⟩
    have hu:=List.mem_range.1 hu
    have hne:=Kt hn hu
    unfold IZ B5 at hk
    injection hk with h1 h2
    have hlt:a<b:=by omega
    have hd:CC ts u=(a,b)\/CC ts u=(b,a):=by
      rcases Nat.lt_or_ge (CC ts u).1 (CC ts u).2 with h|h
      · exact .inl (Prod.ext Z Z)
      · exact .inr (Prod.ext Z Z)
    obtain ⟨i1,i2⟩:=KA (λu hu=>Kt hn hu) _ (Nat.le_refl _)
    cases hg:BR (Ci ts (3*ts.length)) (a,b) with
    | none =>
      have h3:=i2 _ hg hlt u hu
      rcases hd with hd|hd
      · exact absurd hd h3.1
      · exact absurd hd h3.2
    | some e =>
      have h3:=i1 _ _ hg
      refine ⟨e,?_,h3.ea,h3.eb⟩
      unfold BK
      exact (Dv _).mem_iff.2 (List.mem_map.2 ⟨_,LG hg,rfl⟩)
  · rintro ⟨e,he,rfl,rfl⟩
    have h:=(OA hn hN).1 he
    obtain ⟨u,hu,hs⟩:=h.some
    have hlt:=h.lt
    simp only at hlt hs
    refine ⟨u,List.mem_range.2 hu,?_⟩
    unfold IZ B5
    rcases hs with hs|hs<;>rw [hs]<;>exact Prod.ext (by simp only;omega) (by simp only;omega)
def T8 (x y:T3):Prop:=x.1<y.1\/(x.1=y.1/\x.2.1<y.2.1)
theorem T8.asymm (x y:T3) (h:T8 x y):¬T8 y x:=by unfold T8 at *;omega
theorem Eb (hn:Ba N ts=true) (hN:N<=4611686018427387904):(Ea ts).Pairwise T8:=by
  unfold Ea Jx
  rw [List.pairwise_map,List.take_length]
  exact (Kw hn hN).filter _
theorem F3 (hn:Ba N ts=true) (hN:N<=4611686018427387904) {s:T3}:s∈Ea ts↔(Ep ts).count (s.1,s.2.1)=1/\s.2.2=0:=by
  unfold Ea Jx
  rw [List.take_length,List.mem_map]
  constructor
  · rintro ⟨e,he,rfl⟩
    obtain ⟨h1,h2⟩:=List.mem_filter.1 he
    exact ⟨by rw [<-RS];exact xT h2,rfl⟩
  · rintro ⟨h1,h2⟩
    have hm:(s.1,s.2.1)∈Ep ts:=List.count_pos_iff.1 Z
    obtain ⟨e,he,ea,eb⟩:=(PH hn hN).1 hm
    refine ⟨e,List.mem_filter.2 ⟨he,xI (by rw [RS,ea,eb];exact h1)⟩,?_⟩
    exact Prod.ext ea (Prod.ext eb h2.symm)
theorem WH (hn:Ba N ts=true) (hn':Ba N ts'=true) (hN:N<=4611686018427387904) (h:(Ep ts).Perm (Ep ts')):Ea ts=Ea ts' :=
  IA T8.asymm (Eb hn hN) (Eb hn' hN) λs=>by rw [F3 hn hN,F3 hn' hN,h.count_eq]
theorem flatMap_perm2 {α β:Type} {g:α->List β} (d:α):∀{l l':List α},l.length=l'.length->(∀j,j<l.length->(g (l.getD j d)).Perm (g (l'.getD j d)))->(l.flatMap g).Perm (l'.flatMap g)
  | [],[],_,_=>List.Perm.refl _
  | x::r,y::r',hl,h=>by
    rw [List.flatMap_cons,List.flatMap_cons]
    refine (h 0 jX).append (flatMap_perm2 d (by simpa using hl) λj hj=>?_)
    have:=h (j+1) (by simpa using hj)
    simpa using this
end
end
section
abbrev E0:E4:=⟨0,0,0,0⟩
def Sv (N:Nat) (es:List E4):Nat->List (P2×Nat)
  | 0=>[]
  | i+1=>Bj (Sv N es i) (B5 (es.getD i E0).a (es.getD i E0).b) (N+i)
def aw (N:Nat) (ss:List T3):Nat->List (P2×Nat)
  | 0=>[]
  | k+1=>if (ss.getD (ss.length-1-k) (0,0,0)).1<N/\(ss.getD (ss.length-1-k) (0,0,0)).2.1<N then Bj (aw N ss k) (B5 (ss.getD (ss.length-1-k) (0,0,0)).1 (ss.getD (ss.length-1-k) (0,0,0)).2.1) (ss.getD (ss.length-1-k) (0,0,0)).2.2 else aw N ss k
def YA (N:Nat) (ss:List T3) (es:List E4):Nat->List (P2×Nat)
  | 0=>aw N ss ss.length
  | i+1=>Bj (Bj (YA N ss es i) (B5 (es.getD i E0).a (N+i)) ((BR (YA N ss es i) (B5 (es.getD i E0).a (es.getD i E0).b)).getD 0)) (B5 (es.getD i E0).b (N+i)) ((BR (YA N ss es i) (B5 (es.getD i E0).a (es.getD i E0).b)).getD 0)
def dy (N:Nat) (ss:List T3) (es:List E4) (a b:Nat):Nat:=(BR (YA N ss es es.length) (B5 a b)).getD 0
def fS (ps:List Pt) (e:E4):Pt:=G0 (cor ps e.a+cor ps e.b) (1/2)
def bt (ps:List Pt) (es:List E4):Nat->List Pt
  | 0=>ps
  | i+1=>bt ps es i++[fS ps (es.getD i E0)]
def di (ps:List Pt) (es:List E4):List Pt:=bt ps es es.length
def dm (N:Nat) (ss:List T3) (es:List E4) (ts:List T3):List T3:=(Ea ts).map λs=>(s.1,s.2.1,dy N ss es s.1 s.2.1)
section
variable {N M i:Nat} {es:List E4} {ts:List T3} {t:T3} {ss rs:List T3} {ps:List Pt}
theorem HL (hn:Ba N ts=true) (hN:N<=4611686018427387904) {e:E4} (he:e∈BK ts):e.a<e.b/\e.b<N:=by
  have h:=(OA hn hN).1 he
  obtain ⟨u,hu,hs⟩:=h.some
  have h2:=RV hn hu
  have hlt:=h.lt
  simp only at hlt hs
  rcases hs with hs|hs<;>rw [hs] at h2<;>simp only at h2<;>omega
theorem Uu (hn:Ba N ts=true) (hN:N<=4611686018427387904):∀e∈BK ts,e.a<N/\e.b<N:=λe he=>by
  have:=HL hn hN he;omega
end
end
section
theorem a9 (a b:T3):(((a.1:Int) == (b.1:Int))&&(((a.2.1:Int) == (b.2.1:Int))&&(((a.2.2:Int) == (b.2.2:Int))&&true)))=decide (a=b):=by
  obtain ⟨a1,a2,a3⟩:=a
  obtain ⟨b1,b2,b3⟩:=b
  rw [Bool.eq_iff_iff]
  simp
  constructor<;>(rintro ⟨h1,h2,h3⟩;refine ⟨?_,?_,?_⟩<;>omega)
theorem Z6 (D:Nat) (a b:T3):Ef prog (D+2) 71 (.agg (Af a).toArray) (.agg (Af b).toArray) (decide (a=b)):=by
  rw [<-a9]
  exact Ef.array underlying71 LQ Ix (Oe.one isAgg3 O O (Ef.int underlying3) (Oe.one isAgg3 O O (Ef.int underlying3) (Oe.one isAgg3 O O (Ef.int underlying3) Oe.nil)))
theorem O4 (D:Nat) {a b:T3} (h:a=b):Ef prog (D+2) 71 (.agg (Af a).toArray) (.agg (Af b).toArray) true:=by
  have:=Z6 D a b;rwa [xI h] at this
theorem JK (b n:Nat):A8 (jk b) n n:=⟨λe=>(by cases e),λa e=>(by injection e with e;subst e;rfl),Nat.le_refl _⟩
theorem a8 {ps:List Pt} {k:Nat} (h:(ps.all λp=>decide (Bl p<=k))=true) (h0:Bl (⟨0,0⟩:Pt)<=k) (i:Nat):Bl (cor ps i)<=k:=by
  unfold cor
  rcases Nat.lt_or_ge i ps.length with hi|hi
  · rw [List.getD,xP hi]
    exact xT (List.all_eq_true.1 h _ (List.getElem_mem hi))
  · rw [List.getD,List.getElem?_eq_none hi];exact h0
section
variable {P:Program} {ops:Array Oper} {rest:List Oper} {Q:Exit->Act->World->Prop} {n:Nat} {F:List (Nat×Value)} {w0:BD} {S:Nat->Prop} {L:List As} {ps:List Pt} {ts ss:List T3}
theorem Qg {w:World} {i b:Nat} {T:TypeId} {cs:List Value} (hw:BH w0 w L) (hi:L[i]?=some (AY b T cs)) (hex:w0.ex=none):w0.w.heap.size<=b:=by
  rcases (hw.2.1 _ (List.mem_of_getElem? hi) b rfl).1 with h1|h1|h1
  · cases h1
  · exact h1
  · rw [hex] at h1;cases h1
theorem AR.litM {b1 b2 b3 U1 U2 U3:Nat} {cs1 cs2 cs3:List Value} (LL:MX ps ts ss->List As) (i j k:Nat) (hn:i≠j/\i≠k/\j≠k) (h1:L[i]?=some (AY b1 U1 cs1)) (h2:L[j]?=some (AY b2 U2 cs2)) (h3:L[k]?=some (AY b3 U3 cs3)) (hex:w0.ex=none)
    (e:(cs1,cs2,cs3)=(rowsL Aa ps,rowsL Af ts,rowsL Af ss))
    (hL:((L.set i (AN (jk b1) cs1)).set j (AN (jk b2) cs2)).set k (AN (jk b3) cs3)=LL ⟨⟨some ⟨b1,0,none⟩,ps.length,JK _ _⟩,⟨some ⟨b2,0,none⟩,ts.length,JK _ _⟩,⟨some ⟨b3,0,none⟩,ss.length,JK _ _⟩⟩)
    (next:∀mm:MX ps ts ss,At w0 S mm->AR P ops rest Q n F w0 (LL mm)):AR P ops rest Q n F w0 L:=λa w ha hw=>by
  have n1:=Qg hw h1 hex
  have n2:=Qg hw h2 hex
  have n3:=Qg hw h3 hex
  have w1:=hw.freeze (x:=AY b1 U1 cs1) (y:=AN (jk b1) cs1) h1 rfl (λo hp=>HT hp) (λe=>by cases e)
  have w2:=w1.freeze (i:=j) (x:=AY b2 U2 cs2) (y:=AN (jk b2) cs2) (by rw [List.getElem?_set_ne hn.1];exact h2) rfl (λo hp=>HT hp) (λe=>by cases e)
  have w3:=w2.freeze (i:=k) (x:=AY b3 U3 cs3) (y:=AN (jk b3) cs3) (by rw [List.getElem?_set_ne hn.2.2,List.getElem?_set_ne hn.2.1];exact h3) rfl (λo hp=>HT hp) (λe=>by cases e)
  rw [hL] at w3
  refine next _ (λy hy b eb=>?_) a w ha w3
  have hy:y∈[AN (jk b1) (rowsL Aa ps),AN (jk b2) (rowsL Af ts),AN (jk b3) (rowsL Af ss)]:=hy
  simp only [xN,List.not_mem_nil,or_false] at hy
  rcases hy with rfl|rfl|rfl<;>(injection eb with eb;subst eb;exact .inl (by assumption))
end
theorem inX {α:Type} [Cy α] {w0:BD} {w:World} {S:Nat->Prop} {L:List As} (hw:BH w0 w L) (is:List Nat) {a:α} (hi:(is.map λi=>L[i]?)=(Cy.rows a).map some) (ha:At w0 S a):Ro (SL w0 S L) w a:=λy hy=>by
  have h1:some y∈(is.map λi=>L[i]?):=by rw [hi];exact List.mem_map.2 ⟨y,hy,rfl⟩
  obtain ⟨i,_,h2⟩:=List.mem_map.1 h1
  have hm:=List.mem_of_getElem? h2
  exact ⟨λb e=>(hw.2.1 y hm b e).2,λb e=>⟨⟨y,hm,Cy.ro a y hy,e⟩,ha y hy b e⟩⟩
end
section
abbrev M3:=List Pt×List T3×List T3
def dw (M:M3):Prop:=M.1.length+(BK M.2.1).length<=4096/\4*M.2.1.length<=8192
instance (M:M3):Decidable (dw M):=inferInstanceAs (Decidable (_/\_))
theorem QA (ts:List T3):(BK ts).length<=3*ts.length:=by rw [J_];exact KB _
structure fH (ps:List Pt) (ts ss:List T3) (e:Nat) where
  m:MX ps ts ss
instance {ps:List Pt} {ts ss:List T3} {e:Nat}:Cy (fH ps ts ss e):=⟨λx=>.tuple #[aG (Cf x.m),vN e],λx=>Cy.rows x.m,λx y hy=>Cy.ro x.m y hy⟩
section
variable {P:Program} {ops:Array Oper} {rest:List Oper} {Q:Exit->Act->World->Prop} {n d:Nat} {F:List (Nat×Value)} {w0:BD} {S:Nat->Prop} {L:List As} {t:TypeId} {p:String} {af:Array Edge} {y:Operand} {f:FuncId} {xs:List Operand} {args:List Value} {tys:Array TypeId} {ps:List Pt} {ts ss:List T3} {e:Nat}
end
def dW (ts:List T3):List Value:=vI (-1)::vN 0::vN 1::rowsL Af ts
structure MB (ps:List Pt) (ts ss:List T3) where
  a:RX (rowsL Aa ps) ps.length
  b:RX (dW ts) (1+ts.length)
  c:RX (rowsL Af ss) ss.length
def fR {ps:List Pt} {ts ss:List T3} (x:MB ps ts ss):List Value:=[x.a.val,x.b.val,x.c.val]
theorem cB {ps:List Pt} {ts ss:List T3} {x:MB ps ts ss} {y:As} (hy:y∈[x.a.row,x.b.row,x.c.row]):y.ro=true:=by
  simp only [xN,List.not_mem_nil,or_false] at hy
  rcases hy with rfl|rfl|rfl<;>rfl
instance {ps:List Pt} {ts ss:List T3}:Cy (MB ps ts ss):=⟨λx=>aG (fR x),λx=>[x.a.row,x.b.row,x.c.row],λx y hy=>cB hy⟩
end
end Go.Proofs.YtbfdamnfcmefmaaGreatDoor
