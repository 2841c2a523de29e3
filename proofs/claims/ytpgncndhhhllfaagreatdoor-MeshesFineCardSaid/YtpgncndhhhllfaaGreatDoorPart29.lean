import Derived.Lib.SliceRun
import Derived.WideKeyEntry
import Derived.Test.YtpgncndhhhllfaaGreatDoorPart04
import Derived.Test.YtpgncndhhhllfaaGreatDoorPart12
import Derived.Test.YtpgncndhhhllfaaGreatDoorPart23
import Derived.Test.YtpgncndhhhllfaaGreatDoorPart27
import Derived.Test.YtpgncndhhhllfaaGreatDoorPart28
namespace Go.Proofs.YtpgncndhhhllfaaGreatDoor
open Go Go.RowKit Go.Proofs.Tryz
set_option linter.unusedVariables false
set_option linter.unusedSimpArgs false
def inL (l:List Nat):List Value:=l.map λ(d:Nat)=>vN d
theorem GJ (l:List Nat):(inL l).length=l.length:=by simp [inL]
theorem Qt {l:List Nat} {j:Nat} (h:j<l.length):(inL l)[j*1]?=some (vN (l.getD j 0)):=by simp [inL,h]
theorem K3 (a b:List Nat):inL (a++b)=inL a++inL b:=by simp [inL]
section
set_option maxRecDepth 100000
theorem bk:ElemT prog 70 3 1 8:=⟨underlying70,DA (by kernel_rfl)⟩
theorem V3 (p:Option Addr) (n cp:Nat) (h:n<=cp) (w:World)  :Calls prog 83 #[(Value.slice p n cp)] w (An w (Value.slice p n n)):=by
 refine Af (args:=[(Value.slice p n cp)]) func83 O O (AT O) (AF.subF (sL [0] O) (q4 (asg' O (AE.nil (q2 ?_)))))
 refine AM O (AM O (AH (v:=(vN n)) (AG O underlying70) O (AM O (AH (v:=(vN n)) (AG O underlying70) O (AH (v:=(Value.slice p n n)) (Fb (m:=n) O O O underlying70 sizeOf3 Z) O ?_)))))
 exact asg' O (AE.nil (AC.subF (sL [2] O) (AC.then_ (AF.ret (AI O (AY (v:=(Value.slice p n n)) O) (λw hw=>⟨rfl,hw.out⟩))))))
theorem Mg {ps:List Pt} {ts ss:List (Nat×Nat×Nat)} (x:MX ps ts ss) (hl:ts.length<=1000000000) (hN:ps.length<=4611686018427387904) (hnb:By ps.length ts=true) (w:World) {S:Nat->Prop} (hx:Ro S w x):Calls prog 37 #[(aG (CI x))] w (Aw (CX (rowsL Bo (BV ts)) (BV ts).length) S w):=by
 have lx:=Cl (W:=w) hx
 refine Ah (args:=[(aG (CI x))]) (L:=[AQ x.a.p (rowsL Am ps),AQ x.b.p (rowsL Ai ts),AQ x.c.p (rowsL Ai ss)]) func37 O O (AT O) (Ed hx Ax) (AF.subF (sL [0] O) (q4 (BU (cs:=CI x) O λb1=>asg' O (q6 (sL [1,2] O) ?_))))
 refine q4 (BD 0 Dq O (Cj (args:=[(aG (CI x))]) (v:=(Value.bool true)) call76 (λw hw=>(by have h9:=M_ x Z w (inS hw 1 O lx);rw [hnb] at h9;exact h9)) O (AH (BQ (c:=false) O O) O (AE.nil (AC.subF (sL [1,2,5] O) ?_)))))
 refine AC.then_ (AF.cond_false O (AF.skip (q2 (AH (v:=(pP b1 1)) (AA O underlying30 O sizeOf23 O) O (BA 0 (Value.slice x.b.p ts.length x.b.c) CP O ?_)))))
 exact AE.callR (S:=S) (α:=CX (rowsL Bo (BV ts)) (BV ts).length) (args:=[(Value.slice x.b.p ts.length x.b.c)]) call93 (λw hw=>Mn ts x.b ps.length hnb hN hl w (Wg (inS hw 1 O lx))) O O O λo lo=>asg' O (AE.nil (AC.subF (sL [1,2] O) (AC.then_ (AF.ret (AI O (AY (v:=(Value.slice o.p ((BV ts).length) ((BV ts).length))) O) (λw hw=>ED hw (inS hw 0 O lo) O))))))
theorem Uj {ps:List Pt} {ts ss:List (Nat×Nat×Nat)} (x:MX ps ts ss) (hl:ts.length<=1000000000) (hN:ps.length<=4611686018427387904) (hnb:By ps.length ts=true) (w:World) {S:Nat->Prop} (hx:Ro S w x):Calls prog 37 #[(aG (CI x))] w (Aw (RX (rowsL Bo (BV ts)) (BV ts).length) S w):=(Mg x hl hN hnb w hx).mono λe w1 h=>h.ofCX
end
section
def Zh (S:Nat->Prop) (W w:World) (G:List As):Prop :=
  (∀x∈G,∀b,x.foot=some b->(W.heap.size<=b\/(x.ro=true/\S b))/\∃o,w.heap[b]?=some o/\x.P o)/\G.Pairwise λx y=>(x.ro=true/\y.ro=true)\/∀b,x.foot=some b->y.foot≠some b
def ND {α:Type} (V:α->Value) (LW:α->List As) (S:Nat->Prop) (W:World) (e:Ending) (w:World):Prop:=∃a:α,e=.returned (V a)/\Gj W.heap.size W w/\Zh S W w (LW a)
def RK (w0:BJ) (S:Nat->Prop) (G:List As):Prop:=∀y∈G,y.ro=true->∀b,y.foot=some b->Nw w0 S b
section
variable {w0:BJ} {S:Nat->Prop} {w w' W:World} {L G:List As}
theorem BN.give (h:BN w0 w L) (hb:Gj w.heap.size w w') (hg:Zh (SL w0 S L) w w' G):BN w0 w' (G++L):=by
  have h1:=h.below hb
  refine ⟨h1.1,λy hy b e=>?_,List.pairwise_append.2 ⟨hg.2,h1.2.2,λx hx y hy=>?_⟩⟩
  · rcases List.mem_append.1 hy with hy|hy
    · obtain ⟨h2,h3⟩:=hg.1 y hy b e
      refine ⟨?_,h3⟩
      rcases h2 with h2|⟨h2,_⟩
      · exact .inr (.inl (Nat.le_trans h.size h2))
      · exact .inl h2
    · exact h1.2.1 y hy b e
  · by_cases hr:x.ro=true/\y.ro=true
    · exact .inl hr
    · refine .inr λb e e2=>?_
      rcases (hg.1 x hx b e).1 with h2|⟨h2,⟨z,hz,hzr,hzf⟩,_⟩
      · exact absurd (h.lt hy e2) Z
      · have hyr:¬y.ro=true:=λk=>hr ⟨h2,k⟩
        obtain ⟨i,hi,rfl⟩:=List.getElem_of_mem hz
        obtain ⟨j,hj,rfl⟩:=List.getElem_of_mem hy
        have hp:=List.pairwise_iff_getElem.1 h.2.2
        rcases Nat.lt_trichotomy i j with hij|hij|hij
        · exact (hp i j hi hj hij).elim (λk=>hyr k.2) (λk=>k b hzf e2)
        · subst hij;exact hyr hzr
        · exact (hp j i hj hi hij).elim (λk=>hyr k.1) (λk=>k b e2 hzf)
theorem BN.gives (h:BN ⟨W,none⟩ w L) (hs:G.Sublist L) (hS:RK ⟨W,none⟩ S G):Zh S W w G:=by
  refine ⟨λx hx b e=>?_,h.2.2.sublist hs⟩
  obtain ⟨h1,h2⟩:=h.2.1 x (hs.subset hx) b e
  refine ⟨?_,h2⟩
  by_cases hr:x.ro=true
  · rcases hS x hx hr b e with h3|h3
    · exact .inl h3
    · exact .inr ⟨hr,h3⟩
  · rcases h1 with h1|h1|h1
    · exact absurd h1 hr
    · exact .inl h1
    · cases h1
theorem ZK {α:Type} {V:α->Value} {LW:α->List As} (hw:BN ⟨W,none⟩ w L) (a:α) (hs:(LW a).Sublist L) (hS:RK ⟨W,none⟩ S (LW a)) {v:Value} (hv:v=V a):ND V LW S W (.returned v) w:=⟨a,by rw [hv],hw.out,hw.gives hs hS⟩
theorem RK.nil:RK w0 S []:=λy hy=>by cases hy
theorem RK.own {x:As} (hx:x.ro=false) (h:RK w0 S G):RK w0 S (x::G):=λy hy hr b e=>by
  rcases List.mem_cons.1 hy with rfl|hy
  · rw [hx] at hr;cases hr
  · exact h y hy hr b e
end
section
variable {P:Program} {ops:Array Oper} {rest:List Oper} {Q:Exit->Act->World->Prop} {n d:Nat} {F:List (Nat×Value)} {w0:BJ} {S:Nat->Prop} {L:List As} {t:TypeId} {p:String} {af:Array Edge} {y:Operand} {f:FuncId} {xs:List Operand} {args:List Value} {ts:Array TypeId} {α:Type} {V:α->Value} {LW:α->List As}
theorem AE.callL (hc:∀args w,(callFunc f args).run P w=.ok (.enter f args) w) (h:∀w,BN w0 w L->Calls P f args.toArray w (ND V LW (SL w0 S L) w))
    (h2:(evF F y,xs.map (evF F),Nat.ble (d+1) n)=(some (.func (.func f) #[] #[]),args.map some,true)) (next:∀a:α,RK w0 S (LW a)->AE P ops rest Q n ((d,V a)::F) w0 (LW a++L)) :
    AE P ops (⟨some d,.call { callee:=.value y,args:=xs.toArray,argTypes:=ts },t,p,af,none⟩::rest) Q n F w0 L:=λa w ha hW=>by
  unfold wpList
  rw [if_pos (AS rfl a ha)]
  left
  unfold Oper.wp
  rw [Ao (DJ h2) (DJ (Bg h2)) hc a w ha hW,Oper.upon_enter]
  refine (h w hW).mono ?_
  rintro e w' ⟨x,rfl,hb,hg⟩
  refine next x (λz hz hr b e=>?_) _ _ (ha.put (B0 (Bg (Bg h2)))) (hW.give hb hg)
  rcases (hg.1 z hz b e).1 with h3|⟨_,h3⟩
  · exact .inl (Nat.le_trans hW.size h3)
  · exact h3.2
end
structure OX (T z:Nat) (cs:List Value) (n:Nat) where
  p:Option Addr
  c:Nat
  ok:OwnOk p n c
@[reducible] def dU {T z:Nat} {cs:List Value} {n:Nat} (a:OX T z cs n):Value:=.slice a.p n a.c
@[reducible] def ah {T z:Nat} {cs:List Value} {n:Nat} (a:OX T z cs n):List As:=[rowW a.p T z n a.c cs]
@[reducible] def c9 {T z:Nat} {cs:List Value} {n:Nat} (a:OX T z cs n):Value:=.slice a.p n n
theorem OwnOk.clip {p:Option Addr} {n c:Nat} (h:OwnOk p n c):BF p n n:=⟨λe=>⟨(h.nil e).1,(h.nil e).1⟩,λa e=>by rw [h.at0 a e],Nat.le_refl _⟩
theorem YG (p:Pt):((Am p).all λu=>u.oneCell')=true:=rfl
theorem Mf {α:Type} {enc:α->List Value} (h:∀x,((enc x).all λu=>u.oneCell')=true):∀xs:List α,((rowsL enc xs).all λu=>u.oneCell')=true
  | []=>rfl
  | x::r=>by
    have e:rowsL enc (x::r)=enc x++rowsL enc r:=rfl
    rw [e,List.all_append,h x,Mf h r];rfl
section
variable {P:Program} {ops:Array Oper} {rest:List Oper} {Q:Exit->Act->World->Prop} {n d:Nat} {F:List (Nat×Value)} {w0:BJ} {S:Nat->Prop} {L L':List As} {t ty T:TypeId} {p:String} {af:Array Edge} {x y:Operand} {dd:Option Tmp} {g:Option (Nat×Bool)} {q:Option Addr} {z m c:Nat} {cs vs:List Value} {v:Value}
theorem Px {tx ye e:TypeId} (hx:evF F x=some (.slice q m c)) (hy:evF F y=some (.slice none 0 0)) (hu:P.underlying tx=some (.slice e)):Ex P n F w0 L ⟨dd,.binOp .eql tx x y ye,t,p,af,g⟩ (.bool q.isNone):=λA w ha _=>by
  have h1:(eqGuard .eql tx x y (.slice q m c) (.slice none 0 0)).run P w=.ok () w:=rfl
  simp only [execOp,ha.ev hx,ha.ev hy,Sem.run_bind,h1,Result.andThen_ok,Lib.run_eql_slice_nil w tx e q m c 0 0 hu,Sem.run_pure]
theorem AE.appendE0 {s:Operand} {bytes c2:Nat} {q2:Option Addr} {news:List Value} (ht:ElemT P t T z bytes) (hs:evF F s=some (.slice q 0 c)) (ho:OwnOk q 0 c)
    (hx:evF F x=some (.slice q2 m c2)) (hsrc:aZ w0 (rowW q T z 0 c []::L) q2 m news) (hnl:news.length=m*z) (h1:(news.all λu=>u.oneCell')=true) (h63:m<=maxLen) (hbytes:m*bytes<=140737488355328) (hd:Nat.ble (d+1) n=true)
    (next:∀p' c',OwnOk p' m c'->AE P ops rest Q n ((d,.slice p' m c')::F) w0 (rowW p' T z m c' news::L)) :
    AE P ops (⟨some d,.call { callee:=.builtin .append,args:=#[s,x],argTypes:=#[t,t] },ty,p,af,none⟩::rest) Q n F w0 (rowW q T z 0 c []::L):=by
  refine AE.appendS0 (cs2:=news) ht hs ho (by simp) hx hsrc hnl h1 (by rw [Nat.zero_add];exact h63) (by rw [Nat.zero_add];exact hbytes) O hd λp' c' h=>?_
  rw [Nat.zero_add] at h ⊢
  exact next p' c' h
theorem AE.frzRow (i:Nat) (hi:L[i]?=some (rowW q T z m c cs)) (ho:OwnOk q m c) (hl:cs.length=m*z) (hex:w0.ex=none) (hs:QW L i (AQ q cs)=some L') (next:(∀b,q.map (·.block)=some b->w0.w.heap.size<=b)->AE P ops rest Q n F w0 L'):AE P ops rest Q n F w0 L:=λa w ha hw=>by
  refine next (λb e=>?_) a w ha (IQ hs▸hw.freeze hi O (λo hp=>Cg ho hl hp) (λe=>by cases e))
  rcases (hw.2.1 _ (List.mem_of_getElem? hi) b e).1 with h1|h1|h1
  · cases h1
  · exact h1
  · rw [hex] at h1;cases h1
theorem At.new {n:Nat} {cs:List Value} {a:RX cs n} (h:∀b,a.p.map (·.block)=some b->w0.w.heap.size<=b):At w0 S a:=λy hy b e=>by
  rcases List.mem_singleton.1 hy with rfl
  exact .inl (h b e)
end
theorem cT {S:Nat->Prop} {w:World} {ps:List Pt} {ts ss:List (Nat×Nat×Nat)} {x:MX ps ts ss} (h:Ro S w x):Ro S w x.c:=λy hy=>by rcases List.mem_singleton.1 hy with rfl;exact h _ (List.mem_cons_of_mem _ (List.mem_cons_of_mem _ List.mem_cons_self))
structure dy (ps:List Pt) (ts ss:List (Nat×Nat×Nat)) where
  a:OX 51 10 (rowsL Am ps) ps.length
  b:OX 53 3 (rowsL Ai ts) ts.length
  c:OX 55 3 (rowsL Ai ss) ss.length
@[reducible] def eB {ps:List Pt} {ts ss:List (Nat×Nat×Nat)} (x:dy ps ts ss):List As:=[rowW x.c.p 55 3 ss.length x.c.c (rowsL Ai ss),rowW x.b.p 53 3 ts.length x.b.c (rowsL Ai ts),rowW x.a.p 51 10 ps.length x.a.c (rowsL Am ps)]
structure dF (ps:List Pt) (ts ss:List (Nat×Nat×Nat)) (l:List Nat) (e:Nat) where
  m:MX ps ts ss
  q:RX (inL l) l.length
theorem bt {ps:List Pt} {ts ss:List (Nat×Nat×Nat)} {l:List Nat} {e:Nat} {x:dF ps ts ss l e} {y:As} (hy:y∈[x.m.a.row,x.m.b.row,x.m.c.row,x.q.row]):y.ro=true:=by
  simp only [List.mem_cons,List.not_mem_nil,or_false] at hy
  rcases hy with rfl|rfl|rfl|rfl<;>rfl
instance {ps:List Pt} {ts ss:List (Nat×Nat×Nat)} {l:List Nat} {e:Nat}:DN (dF ps ts ss l e):=⟨λx=>.tuple #[aG (CI x.m),x.q.val,vN e],λx=>[x.m.a.row,x.m.b.row,x.m.c.row,x.q.row],λx y hy=>bt hy⟩
section
variable {P:Program} {ops:Array Oper} {rest:List Oper} {Q:Exit->Act->World->Prop} {n d:Nat} {F:List (Nat×Value)} {w0:BJ} {S:Nat->Prop} {L:List As} {t:TypeId} {p:String} {af:Array Edge} {y:Operand} {f:FuncId} {xs:List Operand} {args:List Value} {tys:Array TypeId} {ps:List Pt} {ts ss:List (Nat×Nat×Nat)} {l:List Nat} {e:Nat}
end
end
section
section
variable {α β:Type} [DecidableEq α]
theorem IK {kvs:List (α×β)} {x z:α} {y:β}:BZ (Bn kvs x y) z=if z=x then some y else BZ kvs z:=by
  induction kvs with
  | nil=>rfl
  | cons p r ih =>
    obtain ⟨k,v⟩:=p
    unfold Bn
    split
    · rename_i e
      subst e
      unfold BZ
      split<;>rfl
    · rename_i e
      rw [BZ,ih]
      by_cases h:z=k
      · rw [if_pos h,if_neg (λe2=>e (e2.symm.trans h)),BZ,if_pos h]
      · rw [if_neg h]
        split
        · rfl
        · rw [BZ,if_neg h]
end
section
variable {ts:List (Nat×Nat×Nat)}
def Ct (ts:List (Nat×Nat×Nat)) (u:Nat):P2:=(EE (ts.getD (u/3) (0,0,0)) (u%3),EE (ts.getD (u/3) (0,0,0)) ((u%3+1)%3))
def Hw (ts:List (Nat×Nat×Nat)) (s a b:Nat) (z:Int):Prop:=(z = -1/\∀u,u<s->Ct ts u≠(a,b))\/∃u,u<s/\z=((u/3:Nat):Int)/\Ct ts u=(a,b)/\∀v,v<u->Ct ts v≠(a,b)
theorem Hw.none {s a b:Nat} (h:∀u,u<s->Ct ts u≠(a,b)):Hw ts s a b (-1):=.inl ⟨rfl,h⟩
theorem Hw.skip {s a b:Nat} {z:Int} (h:Hw ts s a b z) (hn:Ct ts s≠(a,b)):Hw ts (s+1) a b z:=by
  rcases h with ⟨h1,h2⟩|⟨u,h1,h2,h3,h4⟩
  · refine .inl ⟨h1,λu hu=>?_⟩
    rcases Nat.lt_or_ge u s with h|h
    · exact h2 u h
    · rw [show u=s by omega];exact hn
  · exact .inr ⟨u,Z,h2,h3,h4⟩
theorem Hw.take {s a b:Nat} (h:Hw ts s a b (-1)) (hn:Ct ts s=(a,b)):Hw ts (s+1) a b ((s/3:Nat):Int):=by
  rcases h with ⟨h1,h2⟩|⟨u,h1,h2,h3,h4⟩
  · exact .inr ⟨s,Z,rfl,hn,h2⟩
  · omega
theorem Hw.keep {s a b:Nat} {z:Int} (h:Hw ts s a b z) (hz:z ≠ -1):Hw ts (s+1) a b z:=by
  rcases h with ⟨h1,h2⟩|⟨u,h1,h2,h3,h4⟩
  · exact absurd h1 hz
  · exact .inr ⟨u,Z,h2,h3,h4⟩
structure ZZ (ts:List (Nat×Nat×Nat)) (s:Nat) (k:P2) (e:E4):Prop where
  ea:e.a=k.1
  eb:e.b=k.2
  lt:k.1<k.2
  l:Hw ts s k.1 k.2 e.l
  r:Hw ts s k.2 k.1 e.r
  some:∃u,u<s/\(Ct ts u=(k.1,k.2)\/Ct ts u=(k.2,k.1))
theorem Jy (hd:∀u,u<3*ts.length->(Ct ts u).1≠(Ct ts u).2):∀s,s<=3*ts.length->(∀k e,BZ (Cn ts s) k=some e->ZZ ts s k e)/\(∀k,BZ (Cn ts s) k=none->k.1<k.2->∀u,u<s->Ct ts u≠(k.1,k.2)/\Ct ts u≠(k.2,k.1))
  | 0,_=>⟨λk e h=>(by cases h),λk _ _ u hu=>absurd hu (Nat.not_lt_zero _)⟩
  | s+1,hs=>by
    obtain ⟨i1,i2⟩:=Jy hd s Z
    have hne:=hd s Z
    obtain ⟨a,ha⟩:∃a,a=EE (ts.getD (s/3) (0,0,0)) (s%3):=⟨_,rfl⟩
    obtain ⟨b,hb⟩:∃b,b=EE (ts.getD (s/3) (0,0,0)) ((s%3+1)%3):=⟨_,rfl⟩
    have hdir:Ct ts s=(a,b):=by rw [ha,hb];rfl
    rw [hdir] at hne
    have hE:Cn ts (s+1)=Sr (Cn ts s) (s/3) a b:=by rw [ha,hb];rfl
    rw [hE]
    unfold Sr
    have hky:(CT a b).1<(CT a b).2:=by unfold CT;simp only at hne ⊢;omega
    -- what the old edge,or the new one,knows
    have h0:∀e0,e0=(BZ (Cn ts s) (CT a b)).getD (Ih (CT a b))->e0.a=(CT a b).1/\e0.b=(CT a b).2/\Hw ts s (CT a b).1 (CT a b).2 e0.l/\Hw ts s (CT a b).2 (CT a b).1 e0.r:=by
      intro e0 he0
      cases hg:BZ (Cn ts s) (CT a b) with
      | none =>
        rw [hg] at he0
        have h2:=i2 _ hg hky
        subst he0
        exact ⟨rfl,rfl,Hw.none λu hu=>(h2 u hu).1,Hw.none λu hu=>(h2 u hu).2⟩
      | some e =>
        rw [hg] at he0
        have h2:=i1 _ _ hg
        subst he0
        exact ⟨h2.ea,h2.eb,h2.l,h2.r⟩
    constructor
    · intro k e hk
      rw [IK] at hk
      split at hk
      · rename_i e1
        injection hk with hk
        obtain ⟨c1,c2,c3,c4⟩:=h0 _ rfl
        obtain ⟨e0,he0⟩:∃e0,e0=(BZ (Cn ts s) (CT a b)).getD (Ih (CT a b)):=⟨_,rfl⟩
        rw [<-he0] at hk c1 c2 c3 c4
        subst hk
        have hends:=MS e0 (s/3) a b
        rw [e1]
        rcases Nat.lt_or_ge a b with hab|hab
        · have k1:(CT a b).1=a:=by unfold CT;simp only;omega
          have k2:(CT a b).2=b:=by unfold CT;simp only;omega
          rw [k1,k2] at c3 c4
          refine ⟨hends.1.trans c1,hends.2.trans c2,hky,?_,?_,s,Z,.inl (by rw [k1,k2];exact hdir)⟩<;>rw [k1,k2]
          · unfold Fh
            by_cases hl:e0.l = -1
            · rw [if_pos ⟨hab,hl⟩]
              rw [hl] at c3
              exact c3.take hdir
            · rw [if_neg (λh=>hl h.2),if_neg (λh=>by omega)]
              exact c3.keep hl
          · have hn2:Ct ts s≠(b,a):=by rw [hdir];intro h;injection h with h _;omega
            unfold Fh
            split
            · exact c4.skip hn2
            · rw [if_neg (λh=>by omega)]
              exact c4.skip hn2
        · have hba:b<a:=by simp only at hne;omega
          have k1:(CT a b).1=b:=by unfold CT;simp only;omega
          have k2:(CT a b).2=a:=by unfold CT;simp only;omega
          rw [k1,k2] at c3 c4
          have hn2:Ct ts s≠(b,a):=by rw [hdir];intro h;injection h with h _;omega
          refine ⟨hends.1.trans c1,hends.2.trans c2,hky,?_,?_,s,Z,.inr (by rw [k1,k2];exact hdir)⟩<;>rw [k1,k2]
          · unfold Fh
            rw [if_neg (λh=>by omega)]
            split
            · exact c3.skip hn2
            · exact c3.skip hn2
          · unfold Fh
            rw [if_neg (λh=>by omega)]
            by_cases hl:e0.r = -1
            · rw [if_pos ⟨hba,hl⟩]
              rw [hl] at c4
              exact c4.take hdir
            · rw [if_neg (λh=>hl h.2)]
              exact c4.keep hl
      · rename_i e1
        obtain ⟨a1,a2,a3,a4,a5,u,a6,a7⟩:=i1 k e hk
        have n1:Ct ts s≠(k.1,k.2):=by
          rw [hdir];intro h;injection h with h1 h2
          exact e1 (Prod.ext (by unfold CT;simp only;omega) (by unfold CT;simp only;omega))
        have n2:Ct ts s≠(k.2,k.1):=by
          rw [hdir];intro h;injection h with h1 h2
          exact e1 (Prod.ext (by unfold CT;simp only;omega) (by unfold CT;simp only;omega))
        exact ⟨a1,a2,a3,a4.skip n1,a5.skip n2,u,Z,a7⟩
    · intro k hk hlt u hu
      rw [IK] at hk
      split at hk
      · cases hk
      · rename_i e1
        rcases Nat.lt_or_ge u s with h|h
        · exact i2 k hk hlt u h
        · rw [show u=s by omega,hdir]
          constructor
          · intro h;injection h with h1 h2
            exact e1 (Prod.ext (by unfold CT;simp only;omega) (by unfold CT;simp only;omega))
          · intro h;injection h with h1 h2
            exact e1 (Prod.ext (by unfold CT;simp only;omega) (by unfold CT;simp only;omega))
theorem XV {N:Nat} (hn:By N ts=true) (hN:N<=4611686018427387904) (hd:∀u,u<3*ts.length->(Ct ts u).1≠(Ct ts u).2) {e:E4} (he:e∈BV ts):ZZ ts (3*ts.length) (e.a,e.b) e:=by
  unfold BV at he
  obtain ⟨p,hp,h1⟩:=List.mem_map.1 ((Dr _).mem_iff.1 he)
  obtain ⟨j,hj,h2⟩:=List.getElem_of_mem hp
  have h3:=NG (x:=p.1) (v:=p.2) (FZ hn hN _ (Nat.le_refl _)).once (show (Cn ts (3*ts.length))[j]?=some (p.1,p.2) by rw [List.getElem?_eq_getElem hj,h2])
  have h4:=(Jy hd _ (Nat.le_refl _)).1 _ _ h3
  rw [h1] at h4
  rw [show (e.a,e.b)=p.1 from Prod.ext h4.ea h4.eb]
  exact h4
end
end
section
theorem ZF {a b:Nat} (ha:a<4611686018427387904) (hb:b<4611686018427387904):XX (a,b):=⟨ha,hb⟩
def DG {α β:Type} [DecidableEq α]:List (α×β)->α->Nat
  | [],_=>0
  | (k,v)::r,x=>if x=k then 0 else DG r x+1
section
variable {α β:Type} {enc:α->Value} {eV:β->Value} {ok:α->Prop} {P:Program} {kt:TypeId} {n:Nat} {F:List (Nat×Value)} {w0:BJ} {L:List As} {d:Nat} {mp kp vp sp:Operand} {t:TypeId} {pp:String} {af:Array Edge} {g:Option (Nat×Bool)} {tx et:TypeId} {b:Nat} {ops:Array Oper} {rest:List Oper} {Q:Exit->Act->World->Prop}
def Ps {α β:Type} [DecidableEq α] (b:Nat) (enc:α->Value) (eV:β->Value) (kvs:List (α×β)) (x:α) (v:β):As:=⟨some b,λo=>o=.map (entsM enc eV kvs 0).toArray kvs.length\/o=.map (entsM enc eV (Bn kvs x v) 0).toArray (Bn kvs x v).length,false⟩
variable [DecidableEq α]
theorem MJ:∀{kvs:List (α×β)} {x:α} {v:β},BZ kvs x=some v->Bn kvs x v=kvs
  | (k,u)::r,x,v,h=>by
    unfold BZ at h
    unfold Bn
    split at h
    · rename_i e;injection h with h;rw [if_pos e,h]
    · rename_i e;rw [if_neg e,MJ h]
theorem H7:∀{kvs:List (α×β)} {x:α} {v:β},(Bn kvs x v)[DG kvs x]?=some (x,v)
  | [],_,_=>rfl
  | (k,u)::r,x,v=>by
    unfold Bn DG
    split
    · rename_i e;rw [List.getElem?_cons_zero,e]
    · rw [List.getElem?_cons_succ,H7]
theorem PF {x:α} {u v:β}:∀{kvs:List (α×β)},(Bn kvs x u).set (DG kvs x) (x,v)=Bn kvs x v
  | []=>rfl
  | (k,w)::r=>by
    by_cases e:x=k
    · simp [Bn,DG,e]
    · simp [Bn,DG,e,PF]
theorem OA:∀{kvs:List (α×β)} {j:Nat} {x:α} {v:β},kvs.Pairwise (λp q=>p.1≠q.1)->kvs[j]?=some (x,v)->DG kvs x=j
  | (k,u)::r,0,x,v,_,h=>by
    simp only [List.getElem?_cons_zero,Option.some.injEq,Prod.mk.injEq] at h
    rw [DG,if_pos h.1.symm]
  | (k,u)::r,j+1,x,v,hp,h=>by
    obtain ⟨h1,h2⟩:=List.pairwise_cons.1 hp
    rw [List.getElem?_cons_succ] at h
    rw [DG,if_neg (λe=>h1 (x,v) (List.mem_of_getElem? h) e.symm),OA h2 h]
theorem Le:∀{kvs:List (α×β)} {x:α},(∀p∈kvs,p.1≠x)->DG kvs x=kvs.length
  | [],_,_=>rfl
  | (k,v)::r,x,h=>by
    rw [DG,if_neg (λe=>h (k,v) List.mem_cons_self e.symm),Le λp hp=>h p (List.mem_cons_of_mem _ hp)];rfl
theorem Yq {i:Nat} {kvs:List (α×β)} (x:α) (v:β) (hi:L[i]?=some (Dh b enc eV kvs)):Wk (L.set i (Ps b enc eV kvs x v)) L:=λw0 w hw=>by
  exact hw.freeze (i:=i) (y:=Ps b enc eV kvs x v) hi O (λo h=>.inl h) (λe=>by cases e)
theorem VA {i:Nat} {kvs:List (α×β)} (x:α) (v:β) (hi:L[i]?=some (Dh b enc eV (Bn kvs x v))):Wk (L.set i (Ps b enc eV kvs x v)) L:=λw0 w hw=>by
  exact hw.freeze (i:=i) (y:=Ps b enc eV kvs x v) hi O (λo h=>.inr h) (λe=>by cases e)
theorem cc (i:Nat) {kvs:List (α×β)} {x:α} {v:β} {LA:List As} (hi:L[i]?=some (Dh b enc eV kvs)) (hs:QW L i (Ps b enc eV kvs x v)=some LA):Wk LA L:=IQ hs▸Yq x v hi
theorem aN (i:Nat) {kvs:List (α×β)} {x:α} {v:β} {LA:List As} (hi:L[i]?=some (Dh b enc eV (Bn kvs x v))) (hs:QW L i (Ps b enc eV kvs x v)=some LA):Wk LA L:=IQ hs▸VA x v hi
theorem Hh (K:QS P kt enc ok) (i:Nat) {kvs:List (α×β)} {x:α} {z0 v:β} {dd:Option Tmp} (hx:evF F mp=some (.map (some b))) (hk:evF F kp=some (enc x)) (ht:P.underlying tx=some (.map kt et)) (hz:∀w,(zeroValue et).run P w=.ok (eV z0) w) (hi:L[i]?=some (Ps b enc eV kvs x v)) (hm:N5 ok kvs) (hok:ok x) (hv:v=(BZ kvs x).getD z0) :
    Ex P n F w0 L ⟨dd,.lookup tx mp kp false,t,pp,af,g⟩ (eV v):=λA w ha hw=>by
  obtain ⟨_,o,ho,hp⟩:=hw.2.1 _ (List.mem_of_getElem? hi) b rfl
  obtain ⟨lx,hlx⟩:=K.key x hok
  have hc:=λem=>K.law.check w em hlx
  have key:∀kvs':List (α×β),N5 ok kvs'->(BZ kvs' x).getD z0=v->w.heap[b]?=some (.map (entsM enc eV kvs' 0).toArray kvs'.length)->(execOp A.eval ⟨dd,.lookup tx mp kp false,t,pp,af,g⟩).run P w=.ok (.value (eV v)) w:=λkvs' hm' hg ho=>by
    rcases HM (eV:=eV) K hm' hok w with ⟨h1,_,h2⟩|⟨j,u,_,h1,h2⟩
    · rw [h1] at hg
      simp only [execOp,ha.ev hx,ha.ev hk,Instr.lookup,Sem.run_bind,run_underlying ht,CZ ho,Result.andThen_ok,Sem.run_pure,hc,List.toList_toArray,h2,hz]
      rw [<-hg];rfl
    · rw [h1] at hg
      simp only [execOp,ha.ev hx,ha.ev hk,Instr.lookup,Sem.run_bind,run_underlying ht,CZ ho,Result.andThen_ok,Sem.run_pure,hc,List.toList_toArray,h2]
      rw [<-hg];rfl
  rcases hp with hp|hp
  · exact key kvs hm hv.symm (by rw [ho,hp])
  · exact key (Bn kvs x v) (hm.put hok) (by rw [IK,if_pos O];rfl) (by rw [ho,hp])
theorem AE.mapEntry (K:QS P kt enc ok) (i:Nat) {kvs:List (α×β)} {x:α} {z0 v:β} (hx:evF F mp=some (.map (some b))) (hk:evF F kp=some (enc x)) (ht:P.underlying tx=some (.map kt et)) (hz:∀w,(zeroValue et).run P w=.ok (eV z0) w) (hi:L[i]?=some (Dh b enc eV kvs)) (hm:N5 ok kvs) (hok:ok x) (hv:v=(BZ kvs x).getD z0) (hd:Nat.ble (d+1) n=true)
    (next:AE P ops rest Q n ((d,.tuple #[eV v,vN (DG kvs x)])::F) w0 (L.set i (Dh b enc eV (Bn kvs x v)))):AE P ops (⟨some d,.mapEntry tx mp kp,t,pp,af,none⟩::rest) Q n F w0 L:=λa w ha hW=>by
  obtain ⟨_,o,ho,hp⟩:=hW.2.1 _ (List.mem_of_getElem? hi) b rfl
  have ho:w.heap[b]?=some (.map (entsM enc eV kvs 0).toArray kvs.length):=by rw [ho,hp]
  obtain ⟨lx,hlx⟩:=K.key x hok
  have hc:=λem=>K.law.check w em hlx
  have hst:=K.law.stays w hlx
  have hrun:(execOp a.eval ⟨some d,.mapEntry tx mp kp,t,pp,af,none⟩).run P w=.ok (.value (.tuple #[eV v,vN (DG kvs x)])) (Go.ChangeMaps.setBlock w b (.map (entsM enc eV (Bn kvs x v) 0).toArray (Bn kvs x v).length)):=by
    rcases HM (eV:=eV) K hm hok w with ⟨h0,h1,h2⟩|⟨j,u,hj,h1,h2⟩
    · rw [h0] at hv
      simp only [Option.getD_none] at hv
      subst hv
      rw [I6 h1,Le h1,GD,List.length_append]
      simp only [execOp,ha.ev hx,ha.ev hk,Instr.mapEntry,Sem.run_bind,run_underlying ht,CZ ho,Result.andThen_ok,hc,List.toList_toArray,h2,hz,EN ho,Sem.run_pure,List.push_toArray,Nat.zero_add,List.length_singleton]
      rfl
    · rw [h1] at hv
      simp only [Option.getD_some] at hv
      subst hv
      rw [MJ h1,OA hm.once hj]
      have e1:(entsM enc eV kvs 0)[j]?=some ⟨enc x,eV v,0+j⟩:=by rw [DC,hj];rfl
      have e2:=G0 (enc:=enc) (eV:=eV) (y:=v) hj
      have e3:kvs.set j (x,v)=kvs:=by
        apply List.ext_getElem?
        intro q
        rw [List.getElem?_set]
        split
        · rename_i e;subst e;split
          · exact hj.symm
          · rename_i h9;rw [List.getElem?_eq_none Z]
        · rfl
      rw [e3] at e2
      have e4:(entsM enc eV kvs 0).toArray.modify j (λe=>{ e with key:=enc x })=(entsM enc eV kvs 0).toArray:=by
        apply Array.ext_getElem?
        intro q
        rw [Array.getElem?_modify]
        simp only [List.getElem?_toArray]
        split
        · rename_i e;subst e;rw [e1];rfl
        · rfl
      simp only [execOp,ha.ev hx,ha.ev hk,Instr.mapEntry,Sem.run_bind,run_underlying ht,CZ ho,Result.andThen_ok,hc,List.toList_toArray,List.getElem?_toArray,h2,e1,hst,e4,EN ho,Sem.run_pure,Option.map_some,Option.getD_some]
      simp [goInt,e1,hst,e4,EN ho,Result.andThen]
  unfold wpList
  rw [if_pos (AS rfl a ha)]
  left
  unfold Oper.wp
  rw [hrun,Oper.upon_value]
  exact next _ _ (ha.put (B0 hd)) (hW.turn hi O O (Ep _ _ _) ⟨_,FK ho,rfl⟩)
theorem AE.entryStore (i:Nat) {kvs:List (α×β)} {x:α} {u y:β} (hx:evF F mp=some (.map (some b))) (hs:evF F sp=some (vN (DG kvs x))) (hv:evF F vp=some (eV y)) (hi:L[i]?=some (Dh b enc eV (Bn kvs x u)))
    (next:AE P ops rest Q n F w0 (L.set i (Dh b enc eV (Bn kvs x y)))):AE P ops (⟨none,.entryStore tx mp sp vp,t,pp,af,none⟩::rest) Q n F w0 L:=λa w ha hW=>by
  obtain ⟨_,o,ho,hp⟩:=hW.2.1 _ (List.mem_of_getElem? hi) b rfl
  have ho:w.heap[b]?=some (.map (entsM enc eV (Bn kvs x u) 0).toArray (Bn kvs x u).length):=by rw [ho,hp]
  have hf:=H7 (kvs:=kvs) (x:=x) (v:=u)
  have hlt:DG kvs x<(Bn kvs x u).length:=(List.getElem?_eq_some_iff.1 hf).1
  have e0:(entsM enc eV (Bn kvs x u) 0)[DG kvs x]?=some ⟨enc x,eV u,DG kvs x⟩:=by rw [DC,hf];simp
  have hnd:((entsM enc eV (Bn kvs x u) 0).map (·.born)).Nodup:=by
    have e1:∀(l:List (α×β)) (s:Nat),(entsM enc eV l s).map (·.born)=List.range' s l.length:=by
      intro l
      induction l with
      | nil=>intro s;rfl
      | cons p r ih=>intro s;rw [entsM,List.map_cons,ih,List.length_cons,List.range'_succ]
    rw [e1];exact List.nodup_range'
  have hidx:(entsM enc eV (Bn kvs x u) 0).toArray.findIdx? (λe=>((e.born:Nat):Int) == ((DG kvs x:Nat):Int))=some (DG kvs x):=by
    rw [WideElems.findIdx_arr]
    exact WideElems.findIdx_born hnd e0
  have hset:(Bn kvs x u).set (DG kvs x) (x,y)=Bn kvs x y:=PF
  have hmod:=G0 (enc:=enc) (eV:=eV) (y:=y) hf
  have hmod2:(entsM enc eV (Bn kvs x u) 0).toArray.modify (DG kvs x) (λe=>{ e with val:=eV y })=(entsM enc eV (Bn kvs x y) 0).toArray:=by
    rw [<-hset,<-hmod]
    apply Array.ext_getElem?
    intro q
    rw [Array.getElem?_modify,Array.getElem?_modify]
    simp only [List.getElem?_toArray]
    split
    · rename_i e;subst e;rw [e0];rfl
    · rfl
  have hl2:(Bn kvs x y).length=(Bn kvs x u).length:=by rw [<-hset,List.length_set]
  have hrun:(execOp a.eval ⟨none,.entryStore tx mp sp vp,t,pp,af,none⟩).run P w=.ok .skip (Go.ChangeMaps.setBlock w b (.map (entsM enc eV (Bn kvs x y) 0).toArray (Bn kvs x y).length)):=by
    rw [<-hmod2,hl2]
    simp only [execOp,ha.ev hx,ha.ev hs,ha.ev hv,Instr.entryStore,Sem.run_bind,CZ ho,Result.andThen_ok,asInt,asIntOf,Sem.run_pure,hidx,EN ho]
  unfold wpList
  rw [if_pos (AS rfl a ha)]
  left
  unfold Oper.wp
  rw [hrun,Oper.upon_skip]
  exact next _ _ ha.put_none (hW.turn hi O O (Ep _ _ _) ⟨_,FK ho,rfl⟩)
end
end
section
theorem F6 {α:Type} {R:α->α->Prop} (ha:∀x y,R x y->¬R y x) {l l':List α} (h:l.Pairwise R) (h':l'.Pairwise R) (hm:∀x,x∈l↔x∈l'):l=l':=by
  have nd:∀{l:List α},l.Pairwise R->l.Nodup:=λ{l} h=>h.imp λ{x y} hxy e=>by subst e;exact ha _ _ hxy hxy
  exact List.Perm.eq_of_pairwise (le:=R) (λx y _ _ h1 h2=>absurd h2 (ha x y h1)) h h' ((List.perm_ext_iff_of_nodup (nd h) (nd h')).2 hm)
abbrev T3:=Nat×Nat×Nat
section
variable {ts ts':List T3} {N:Nat}
theorem Mw {t:T3} (h:Oc N t=true):t.1≠t.2.1/\t.2.1≠t.2.2/\t.2.2≠t.1:=by
  simp only [Oc,Bool.and_eq_true,Bool.not_eq_true',decide_eq_false_iff_not,decide_eq_true_eq] at h
  exact ⟨h.1.1.2,h.1.2,h.2⟩
theorem KZ (hn:By N ts=true) {u:Nat} (hu:u<3*ts.length):(Ct ts u).1≠(Ct ts u).2:=by
  obtain ⟨hab,hbc,hca⟩:=Mw (Cc hn (show u/3<ts.length by omega))
  have h3:u%3=0\/u%3=1\/u%3=2:=by omega
  unfold Ct
  rcases h3 with h3|h3|h3<;>rw [h3]
  · exact hab
  · exact hbc
  · exact hca
theorem Rm (hn:By N ts=true) {u:Nat} (hu:u<3*ts.length):(Ct ts u).1<N/\(Ct ts u).2<N:=by
  have h:=Cc hn (show u/3<ts.length by omega)
  exact ⟨KG h _,KG h _⟩
theorem Hw.uniq {s a b:Nat} {y z:Int} (h:Hw ts s a b y) (k:Hw ts s a b z):y=z:=by
  rcases h with ⟨h1,h2⟩|⟨u,h1,h2,h3,h4⟩<;>rcases k with ⟨k1,k2⟩|⟨v,k1,k2,k3,k4⟩
  · omega
  · exact absurd k3 (h2 v k1)
  · exact absurd h3 (k2 u h1)
  · rcases Nat.lt_trichotomy u v with h|h|h
    · exact absurd h3 (k4 u h)
    · rw [h2,k2,h]
    · exact absurd k3 (h4 v h)
theorem Ju (hn:By N ts=true) (hN:N<=4611686018427387904) {e:E4}:e∈BV ts↔ZZ ts (3*ts.length) (e.a,e.b) e:=by
  have hd:∀u,u<3*ts.length->(Ct ts u).1≠(Ct ts u).2:=λu hu=>KZ hn hu
  refine ⟨λh=>XV hn hN hd h,λh=>?_⟩
  obtain ⟨i1,i2⟩:=Jy hd _ (Nat.le_refl _)
  cases hg:BZ (Cn ts (3*ts.length)) (e.a,e.b) with
  | none =>
    obtain ⟨u,hu,hs⟩:=h.some
    have h3:=i2 _ hg h.lt u hu
    rcases hs with hs|hs
    · exact absurd hs h3.1
    · exact absurd hs h3.2
  | some e' =>
    have h3:=i1 _ _ hg
    have e1:e'=e:=by
      have a1:=h3.ea;have a2:=h3.eb;have a3:=h3.l.uniq h.l;have a4:=h3.r.uniq h.r
      cases e;cases e';simp only at a1 a2 a3 a4;subst a1 a2 a3 a4;rfl
    rw [e1] at hg
    unfold BV
    exact (Dr _).mem_iff.2 (List.mem_map.2 ⟨_,Ke hg,rfl⟩)
def X5 (x y:E4):Prop:=x.a<y.a\/(x.a=y.a/\x.b<y.b)
theorem X5.asymm (x y:E4) (h:X5 x y):¬X5 y x:=by unfold X5 at *;omega
theorem LU (hn:By N ts=true) (hN:N<=4611686018427387904):(BV ts).Pairwise X5:=by
  have h1:MC ((Cn ts (3*ts.length)).map (·.2)):=MI (FZ hn hN _ (Nat.le_refl _)) (Kf ts _)
  have h2:MC (BV ts):=(List.Perm.pairwise_iff (R:=λx y:E4=>¬(x.a=y.a/\x.b=y.b)) (λh k=>h ⟨k.1.symm,k.2.symm⟩) (Dr _)).2 h1
  exact (List.Pairwise.and (G4 _) h2).imp λ{x y} h=>by
    have h3:=KD.1 h.1
    have h4:=h.2
    unfold X5
    omega
def Vj (ts:List T3) (j a b:Nat):Prop:=∃r,r<3/\Ct ts (3*j+r)=(a,b)
def c_ (ts:List T3) (n a b:Nat) (z:Int):Prop:=(z = -1/\∀j,j<n->¬Vj ts j a b)\/∃j,j<n/\z=(j:Int)/\Vj ts j a b/\∀i,i<j->¬Vj ts i a b
theorem Uy {n a b:Nat} {z:Int} (h:c_ ts n a b z):Hw ts (3*n) a b z:=by
  rcases h with ⟨h1,h2⟩|⟨j,h1,h2,⟨r,hr,h3⟩,h4⟩
  · exact .inl ⟨h1,λu hu k=>h2 (u/3) Z ⟨u%3,Z,by rw [show 3*(u/3)+u%3=u by omega];exact k⟩⟩
  · have key:∀m,m<=3->(∀q,q<m->Ct ts (3*j+q)≠(a,b))\/∃q,q<m/\Ct ts (3*j+q)=(a,b)/\∀p,p<q->Ct ts (3*j+p)≠(a,b):=by
      intro m
      induction m with
      | zero=>intro _;exact .inl λq hq=>absurd hq (Nat.not_lt_zero _)
      | succ m ih =>
        intro hm
        rcases ih Z with h|⟨q,h5,h6,h7⟩
        · by_cases k:Ct ts (3*j+m)=(a,b)
          · exact .inr ⟨m,Z,k,h⟩
          · refine .inl λq hq=>?_
            rcases Nat.lt_or_ge q m with h8|h8
            · exact h q h8
            · rw [show q=m by omega];exact k
        · exact .inr ⟨q,Z,h6,h7⟩
    rcases key 3 (Nat.le_refl _) with k|⟨q,h5,h6,h7⟩
    · exact absurd h3 (k r hr)
    · refine .inr ⟨3*j+q,Z,by rw [h2];congr 1;omega,h6,λv hv k=>?_⟩
      rcases Nat.lt_or_ge v (3*j) with h8|h8
      · exact h4 (v/3) Z ⟨v%3,Z,by rw [show 3*(v/3)+v%3=v by omega];exact k⟩
      · exact h7 (v-3*j) Z (by rw [show 3*j+(v-3*j)=v by omega];exact k)
def L3 (t:T3) (i:Nat):T3:=(EE t (i%3),EE t ((i+1)%3),EE t ((i+2)%3))
theorem FE {j r:Nat} (hr:r<3):Ct ts (3*j+r)=(EE (ts.getD j (0,0,0)) r,EE (ts.getD j (0,0,0)) ((r+1)%3)):=by
  unfold Ct
  rw [show (3*j+r)/3=j by omega,show (3*j+r)%3=r by omega]
def Li (ts:List T3) (u:Nat):P2:=CT (Ct ts u).1 (Ct ts u).2
def Cz (ts:List T3):Nat->List (P2×Nat)
  | 0=>[]
  | s+1=>Bn (Cz ts s) (Li ts s) ((BZ (Cz ts s) (Li ts s)).getD 0+1)
def GF (ts:List T3):List P2:=ts.flatMap λt=>[CT t.1 t.2.1,CT t.2.1 t.2.2,CT t.2.2 t.1]
theorem GO (k:P2):∀s,(BZ (Cz ts s) k).getD 0=((List.range s).map (Li ts)).count k
  | 0=>rfl
  | s+1=>by
    rw [Cz,IK,List.range_succ,List.map_append,List.count_append,List.map_singleton,List.count_singleton]
    by_cases h:k=Li ts s
    · subst h
      rw [if_pos rfl,Option.getD_some,GO _ s];simp
    · rw [if_neg h,GO k s,if_neg (by simpa using λe=>h e.symm)];rfl
theorem I2 {t i:Nat} (hi:i<3):Cz ts (3*t+i+1)=Bn (Cz ts (3*t+i)) (CT (EE (ts.getD t (0,0,0)) i) (EE (ts.getD t (0,0,0)) ((i+1)%3))) ((BZ (Cz ts (3*t+i)) (CT (EE (ts.getD t (0,0,0)) i) (EE (ts.getD t (0,0,0)) ((i+1)%3)))).getD 0+1):=by
  rw [Cz]
  unfold Li
  rw [FE hi]
theorem M9 (s:Nat) (k:P2):(BZ (Cz ts s) k).getD 0<=s:=by
  rw [GO]
  exact Nat.le_trans List.count_le_length (by simp)
theorem FT (hn:By N ts=true) (hN:N<=4611686018427387904):∀s,s<=3*ts.length->N5 XX (Cz ts s)
  | 0,_=>N5.nil
  | s+1,hs=>by
    obtain ⟨h1,h2⟩:=Rm hn (show s<3*ts.length by omega)
    exact (FT hn hN s Z).put (D1 (Nat.lt_of_lt_of_le h1 hN) (Nat.lt_of_lt_of_le h2 hN))
theorem Kj:(List.range (3*ts.length)).map (Li ts)=GF ts:=by
  have key:∀n,n<=ts.length->(List.range (3*n)).map (Li ts)=GF (ts.take n):=by
    intro n
    induction n with
    | zero=>intro _;rfl
    | succ n ih =>
      intro hn
      have e1:List.range (3*(n+1))=List.range (3*n)++[3*n,3*n+1,3*n+2]:=by
        rw [show 3*(n+1)=3*n+1+1+1 by omega,List.range_succ,List.range_succ,List.range_succ];simp
      have e2:ts.take (n+1)=ts.take n++[ts.getD n (0,0,0)]:=by
        rw [List.take_add_one,List.getElem?_eq_getElem (show n<ts.length by omega),List.getD,List.getElem?_eq_getElem (show n<ts.length by omega)];rfl
      have k0:=FE (ts:=ts) (j:=n) (show 0<3 by decide)
      have k1:=FE (ts:=ts) (j:=n) (show 1<3 by decide)
      have k2:=FE (ts:=ts) (j:=n) (show 2<3 by decide)
      rw [e1,e2,List.map_append,ih Z]
      unfold GF
      rw [List.flatMap_append]
      congr 1
      simp only [List.map_cons,List.map_nil,List.flatMap_cons,List.flatMap_nil,List.append_nil,Li]
      rw [show 3*n=3*n+0 by omega,k0,show 3*n+0+1=3*n+1 by omega,k1,show 3*n+0+2=3*n+2 by omega,k2]
      rfl
  have h:=key ts.length (Nat.le_refl _)
  rwa [List.take_length] at h
def Vi (ts:List T3) (k:P2):Nat:=(BZ (Cz ts (3*ts.length)) k).getD 0
theorem Rh (k:P2):Vi ts k=(GF ts).count k:=by unfold Vi;rw [GO,Kj]
def If (ts:List T3) (i:Nat):List T3:=(((BV ts).take i).filter λe=>decide (Vi ts (e.a,e.b)=1)).map λe=>(e.a,e.b,0)
def Bi (ts:List T3):List T3:=If ts (BV ts).length
theorem UO {i:Nat} (hi:i<(BV ts).length) (h:Vi ts (((BV ts).getD i ⟨0,0,0,0⟩).a,((BV ts).getD i ⟨0,0,0,0⟩).b)=1):If ts (i+1)=If ts i++[(((BV ts).getD i ⟨0,0,0,0⟩).a,((BV ts).getD i ⟨0,0,0,0⟩).b,0)]:=by
  rw [List.getD,List.getElem?_eq_getElem hi] at h ⊢
  unfold If
  rw [List.take_add_one,List.getElem?_eq_getElem hi,List.filter_append,List.map_append]
  simp only [Option.toList_some,Option.getD_some] at h ⊢
  rw [List.filter_cons,if_pos (decide_eq_true h)];rfl
theorem Ys {i:Nat} (hi:i<(BV ts).length) (h:¬Vi ts (((BV ts).getD i ⟨0,0,0,0⟩).a,((BV ts).getD i ⟨0,0,0,0⟩).b)=1):If ts (i+1)=If ts i:=by
  rw [List.getD,List.getElem?_eq_getElem hi] at h
  unfold If
  rw [List.take_add_one,List.getElem?_eq_getElem hi,List.filter_append,List.map_append]
  simp only [Option.toList_some,Option.getD_some] at h ⊢
  rw [List.filter_cons,if_neg (by simpa using h)];simp
theorem O7 (i:Nat):(If ts i).length<=i:=by
  unfold If
  rw [List.length_map]
  exact Nat.le_trans (List.length_filter_le _ _) (List.length_take_le _ _)
theorem LN (hn:By N ts=true) (hN:N<=4611686018427387904) {a b:Nat}:(a,b)∈GF ts↔∃e∈BV ts,e.a=a/\e.b=b:=by
  rw [<-Kj,List.mem_map]
  constructor
  · rintro ⟨u,hu,hk⟩
    have hu:=List.mem_range.1 hu
    have hne:=KZ hn hu
    unfold Li CT at hk
    injection hk with h1 h2
    have hlt:a<b:=by omega
    have hd:Ct ts u=(a,b)\/Ct ts u=(b,a):=by
      rcases Nat.lt_or_ge (Ct ts u).1 (Ct ts u).2 with h|h
      · exact .inl (Prod.ext Z Z)
      · exact .inr (Prod.ext Z Z)
    obtain ⟨i1,i2⟩:=Jy (λu hu=>KZ hn hu) _ (Nat.le_refl _)
    cases hg:BZ (Cn ts (3*ts.length)) (a,b) with
    | none =>
      have h3:=i2 _ hg hlt u hu
      rcases hd with hd|hd
      · exact absurd hd h3.1
      · exact absurd hd h3.2
    | some e =>
      have h3:=i1 _ _ hg
      refine ⟨e,?_,h3.ea,h3.eb⟩
      unfold BV
      exact (Dr _).mem_iff.2 (List.mem_map.2 ⟨_,Ke hg,rfl⟩)
  · rintro ⟨e,he,rfl,rfl⟩
    have h:=(Ju hn hN).1 he
    obtain ⟨u,hu,hs⟩:=h.some
    have hlt:=h.lt
    simp only at hlt hs
    refine ⟨u,List.mem_range.2 hu,?_⟩
    unfold Li CT
    rcases hs with hs|hs<;>rw [hs]<;>exact Prod.ext (by simp only;omega) (by simp only;omega)
def ST (x y:T3):Prop:=x.1<y.1\/(x.1=y.1/\x.2.1<y.2.1)
theorem ST.asymm (x y:T3) (h:ST x y):¬ST y x:=by unfold ST at *;omega
theorem FQ (hn:By N ts=true) (hN:N<=4611686018427387904):(Bi ts).Pairwise ST:=by
  unfold Bi If
  rw [List.pairwise_map,List.take_length]
  exact (LU hn hN).filter _
theorem Fx (hn:By N ts=true) (hN:N<=4611686018427387904) {s:T3}:s∈Bi ts↔(GF ts).count (s.1,s.2.1)=1/\s.2.2=0:=by
  unfold Bi If
  rw [List.take_length,List.mem_map]
  constructor
  · rintro ⟨e,he,rfl⟩
    obtain ⟨h1,h2⟩:=List.mem_filter.1 he
    exact ⟨by rw [<-Rh];exact of_decide_eq_true h2,rfl⟩
  · rintro ⟨h1,h2⟩
    have hm:(s.1,s.2.1)∈GF ts:=List.count_pos_iff.1 Z
    obtain ⟨e,he,ea,eb⟩:=(LN hn hN).1 hm
    refine ⟨e,List.mem_filter.2 ⟨he,decide_eq_true (by rw [Rh,ea,eb];exact h1)⟩,?_⟩
    exact Prod.ext ea (Prod.ext eb h2.symm)
theorem VP (hn:By N ts=true) (hn':By N ts'=true) (hN:N<=4611686018427387904) (h:(GF ts).Perm (GF ts')):Bi ts=Bi ts' :=
  F6 ST.asymm (FQ hn hN) (FQ hn' hN) λs=>by rw [Fx hn hN,Fx hn' hN,h.count_eq]
theorem flatMap_perm2 {α β:Type} {g:α->List β} (d:α):∀{l l':List α},l.length=l'.length->(∀j,j<l.length->(g (l.getD j d)).Perm (g (l'.getD j d)))->(l.flatMap g).Perm (l'.flatMap g)
  | [],[],_,_=>List.Perm.refl _
  | x::r,y::r',hl,h=>by
    rw [List.flatMap_cons,List.flatMap_cons]
    refine (h 0 (by simp)).append (flatMap_perm2 d (by simpa using hl) λj hj=>?_)
    have:=h (j+1) (by simpa using hj)
    simpa using this
end
end
end Go.Proofs.YtpgncndhhhllfaaGreatDoor
