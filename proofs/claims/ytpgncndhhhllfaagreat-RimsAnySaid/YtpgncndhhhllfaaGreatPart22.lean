import Derived.Lib.SliceRun
import Derived.WideKeyEntry
import Derived.Test.YtpgncndhhhllfaaGreatPart04
import Derived.Test.YtpgncndhhhllfaaGreatPart12
import Derived.Test.YtpgncndhhhllfaaGreatPart17
import Derived.Test.YtpgncndhhhllfaaGreatPart20
import Derived.Test.YtpgncndhhhllfaaGreatPart21
namespace Go.Proofs.YtpgncndhhhllfaaGreat
open Go Go.RowKit Go.Proofs.Tryz
set_option linter.unusedVariables false
set_option linter.unusedSimpArgs false
def inL (l:List Nat):List Value:=l.map λ(d:Nat)=>vN d
theorem BG (l:List Nat):(inL l).length=l.length:=by simp [inL]
theorem CM {l:List Nat} {j:Nat} (h:j<l.length):(inL l)[j*1]?=some (vN (l.getD j 0)):=by simp [inL,h]
theorem CS (a b:List Nat):inL (a++b)=inL a++inL b:=by simp [inL]
section
set_option maxRecDepth 100000
theorem Jv:ElemT prog 86 3 1 8:=⟨underlying86,Co (by kernel_rfl)⟩
theorem clipI_ok (p:Option Addr) (n cp:Nat) (h:n<=cp) (w:World)  :Calls prog 58 #[(Value.slice p n cp)] w (Ak w (Value.slice p n n)):=by
 refine An (args:=[(Value.slice p n cp)]) func58 O O (AV O) (AE.subF (sL [0] O) (q4 (AI O (AC.nil (q2 (AM O (AM O (AK (v:=(vN n)) (AF O underlying86) O (AM O (AK (v:=(vN n)) (AF O underlying86) O (AK (v:=(Value.slice p n n)) (DB (m:=n) O O O underlying86 sizeOf3 Z) O ?_)))))))))))
 exact AI O (AC.nil (OkQ.subF (sL [2] O) (OkQ.then_ (AE.ret (AS O (AZ (v:=(Value.slice p n n)) O) (λw hw=>⟨rfl,hw.out⟩))))))
theorem M0 {N:Nat} {ts ss:List (Tq3)} (x:RM N ts ss) (hl:ts.length<=1000000000) (hN:N<=4611686018427387904) (hnb:A_ N ts=true) (w:World) {S:Nat->Prop} (hx:Ro S w x):Calls prog 46 #[(aG (BN x))] w (Al (CX (rowsL B1 (Bv ts)) (Bv ts).length) S w):=by
 have lx:=CV (W:=w) hx
 refine Ag (args:=[(aG (BN x))]) (L:=[AJ x.a.p (x.cs),AJ x.b.p (rowsL Am ts),AJ x.c.p (x.ds)]) func46 O O (AV O) (C4 hx Ao) (AE.subF (sL [0] O) (q4 (B0 (cs:=BN x) O λb1=>AI O (q6 (sL [1,2] O) (q4 (BC 0 CF O (Cc (args:=[(aG (BN x))]) (v:=(Value.bool true)) call35 (λw hw=>(by have h9:=E_ x Z w (Bc hw 1 O lx);rw [hnb] at h9;exact h9)) O (AK (BF (c:=false) O O) O (AC.nil (OkQ.subF (sL [1,2,5] O) ?_))))))))))
 exact OkQ.then_ (AE.cond_false O (AE.skip (q2 (AK (v:=(pP b1 1)) (AB O underlying31 O sizeOf28 O) O (BL 0 (Value.slice x.b.p ts.length x.b.c) Bp O (AC.callR (S:=S) (α:=CX (rowsL B1 (Bv ts)) (Bv ts).length) (args:=[(Value.slice x.b.p ts.length x.b.c)]) call63 (λw hw=>LO ts x.b N hnb hN hl w (Ya (Bc hw 1 O lx))) O O O λo lo=>AI O (AC.nil (OkQ.subF (sL [1,2] O) (OkQ.then_ (AE.ret (AS O (AZ (v:=(Value.slice o.p ((Bv ts).length) ((Bv ts).length))) O) (λw hw=>Gd hw (Bc hw 0 O lo) O))))))))))))
theorem Oq {N:Nat} {ts ss:List (Tq3)} (x:RM N ts ss) (hl:ts.length<=1000000000) (hN:N<=4611686018427387904) (hnb:A_ N ts=true) (w:World) {S:Nat->Prop} (hx:Ro S w x):Calls prog 46 #[(aG (BN x))] w (Al (RX (rowsL B1 (Bv ts)) (Bv ts).length) S w):=(M0 x hl hN hnb w hx).mono λe w1 h=>h.ofCX
end
section
def Xz (S:Nat->Prop) (W w:World) (G:List As):Prop :=
  (∀x∈G,∀b,x.foot=some b->(W.heap.size<=b\/(x.ro=true/\S b))/\∃o,w.heap[b]?=some o/\x.P o)/\G.Pairwise λx y=>(x.ro=true/\y.ro=true)\/∀b,x.foot=some b->y.foot≠some b
def Mc {α:Type} (V:α->Value) (LW:α->List As) (S:Nat->Prop) (W:World) (e:Ending) (w:World):Prop:=∃a:α,e=.returned (V a)/\F0 W.heap.size W w/\Xz S W w (LW a)
def Ms (w0:BE) (S:Nat->Prop) (G:List As):Prop:=∀y∈G,y.ro=true->∀b,y.foot=some b->Nw w0 S b
section
variable {w0:BE} {S:Nat->Prop} {w w' W:World} {L G:List As}
theorem BM.give (h:BM w0 w L) (hb:F0 w.heap.size w w') (hg:Xz (SL w0 S L) w w' G):BM w0 w' (G++L):=by
  have h1:=h.below hb
  refine ⟨h1.1,λy hy b e=>?_,List.pairwise_append.2 ⟨hg.2,h1.2.2,λx hx y hy=>?_⟩⟩
  · rcases List.mem_append.1 hy with hy|hy
    · obtain ⟨h2,h3⟩:=hg.1 y hy b e
      refine ⟨?_,h3⟩
      rcases h2 with h2|⟨h2,_⟩
      · exact .inr (.inl (Nat.le_trans h.size h2))
      · exact .inl h2
    · exact h1.2.1 y hy b e
  · by_cases hr:x.ro=true/\y.ro=true
    · exact .inl hr
    · refine .inr λb e e2=>?_
      rcases (hg.1 x hx b e).1 with h2|⟨h2,⟨z,hz,hzr,hzf⟩,_⟩
      · exact absurd (h.lt hy e2) Z
      · have hyr:¬y.ro=true:=λk=>hr ⟨h2,k⟩
        obtain ⟨i,hi,rfl⟩:=List.getElem_of_mem hz
        obtain ⟨j,hj,rfl⟩:=List.getElem_of_mem hy
        have hp:=List.pairwise_iff_getElem.1 h.2.2
        rcases Nat.lt_trichotomy i j with hij|hij|hij
        · exact (hp i j hi hj hij).elim (λk=>hyr k.2) (λk=>k b hzf e2)
        · subst hij;exact hyr hzr
        · exact (hp j i hj hi hij).elim (λk=>hyr k.1) (λk=>k b e2 hzf)
theorem BM.gives (h:BM ⟨W,none⟩ w L) (hs:G.Sublist L) (hS:Ms ⟨W,none⟩ S G):Xz S W w G:=by
  refine ⟨λx hx b e=>?_,h.2.2.sublist hs⟩
  obtain ⟨h1,h2⟩:=h.2.1 x (hs.subset hx) b e
  refine ⟨?_,h2⟩
  by_cases hr:x.ro=true
  · rcases hS x hx hr b e with h3|h3
    · exact .inl h3
    · exact .inr ⟨hr,h3⟩
  · rcases h1 with h1|h1|h1
    · exact absurd h1 hr
    · exact .inl h1
    · cases h1
theorem YK {α:Type} {V:α->Value} {LW:α->List As} (hw:BM ⟨W,none⟩ w L) (a:α) (hs:(LW a).Sublist L) (hS:Ms ⟨W,none⟩ S (LW a)) {v:Value} (hv:v=V a):Mc V LW S W (.returned v) w:=⟨a,by rw [hv],hw.out,hw.gives hs hS⟩
theorem Ms.nil:Ms w0 S []:=λy hy=>by cases hy
theorem Ms.own {x:As} (hx:x.ro=false) (h:Ms w0 S G):Ms w0 S (x::G):=λy hy hr b e=>by
  rcases List.mem_cons.1 hy with rfl|hy
  · rw [hx] at hr;cases hr
  · exact h y hy hr b e
theorem Ms.row {α:Type} [CO α] {a:α} {x:As} (ha:At w0 S a) (hx:CO.rows a=[x]) (h:Ms w0 S G):Ms w0 S (x::G):=λy hy hr b e=>by
  rcases List.mem_cons.1 hy with rfl|hy
  · exact ha y (by rw [hx];exact List.mem_cons_self) b e
  · exact h y hy hr b e
end
section
variable {P:Program} {ops:Array Oper} {rest:List Oper} {Q:Exit->Act->World->Prop} {n d:Nat} {F:List (Nat×Value)} {w0:BE} {S:Nat->Prop} {L:List As} {t:TypeId} {p:String} {af:Array Edge} {y:Operand} {f:FuncId} {xs:List Operand} {args:List Value} {ts:Array TypeId} {α:Type} {V:α->Value} {LW:α->List As}
theorem AC.callL (hc:∀args w,(callFunc f args).run P w=.ok (.enter f args) w) (h:∀w,BM w0 w L->Calls P f args.toArray w (Mc V LW (SL w0 S L) w))
    (h2:(evF F y,xs.map (evF F),Nat.ble (d+1) n)=(some (.func (.func f) #[] #[]),args.map some,true)) (next:∀a:α,Ms w0 S (LW a)->AC P ops rest Q n ((d,V a)::F) w0 (LW a++L)) :
    AC P ops (⟨some d,.call { callee:=.value y,args:=xs.toArray,argTypes:=ts },t,p,af,none⟩::rest) Q n F w0 L:=λa w ha hW=>by
  unfold wpList
  rw [if_pos (AT rfl a ha)]
  left
  unfold Oper.wp
  rw [Aw (Cm h2) (Cm (BZ h2)) hc a w ha hW,Oper.upon_enter]
  refine (h w hW).mono ?_
  rintro e w' ⟨x,rfl,hb,hg⟩
  refine next x (λz hz hr b e=>?_) _ _ (ha.put (Bq (BZ (BZ h2)))) (hW.give hb hg)
  rcases (hg.1 z hz b e).1 with h3|⟨_,h3⟩
  · exact .inl (Nat.le_trans hW.size h3)
  · exact h3.2
end
structure OX (T z:Nat) (cs:List Value) (n:Nat) where
  p:Option Addr
  c:Nat
  ok:OwnOk p n c
@[reducible] def bu {T z:Nat} {cs:List Value} {n:Nat} (a:OX T z cs n):Value:=.slice a.p n a.c
@[reducible] def aF {T z:Nat} {cs:List Value} {n:Nat} (a:OX T z cs n):List As:=[rowW a.p T z n a.c cs]
@[reducible] def cE {T z:Nat} {cs:List Value} {n:Nat} (a:OX T z cs n):Value:=.slice a.p n n
theorem OwnOk.clip {p:Option Addr} {n c:Nat} (h:OwnOk p n c):Ar p n n:=⟨λe=>⟨(h.nil e).1,(h.nil e).1⟩,λa e=>by rw [h.at0 a e],Nat.le_refl _⟩
theorem GO {α:Type} {enc:α->List Value} (h:∀x,((enc x).all λu=>u.oneCell')=true):∀xs:List α,((rowsL enc xs).all λu=>u.oneCell')=true
  | []=>rfl
  | x::r=>by
    have e:rowsL enc (x::r)=enc x++rowsL enc r:=rfl
    rw [e,List.all_append,h x,GO h r];rfl
section
variable {P:Program} {ops:Array Oper} {rest:List Oper} {Q:Exit->Act->World->Prop} {n d:Nat} {F:List (Nat×Value)} {w0:BE} {S:Nat->Prop} {L L':List As} {t ty T:TypeId} {p:String} {af:Array Edge} {x y:Operand} {dd:Option Tmp} {g:Option (Nat×Bool)} {q:Option Addr} {z m c:Nat} {cs vs:List Value} {v:Value}
theorem Oj {tx ye e:TypeId} (hx:evF F x=some (.slice q m c)) (hy:evF F y=some (.slice none 0 0)) (hu:P.underlying tx=some (.slice e)):Ex P n F w0 L ⟨dd,.binOp .eql tx x y ye,t,p,af,g⟩ (.bool q.isNone):=λA w ha _=>by
  have h1:(eqGuard .eql tx x y (.slice q m c) (.slice none 0 0)).run P w=.ok () w:=rfl
  simp only [execOp,ha.ev hx,ha.ev hy,Sem.run_bind,h1,Result.andThen_ok,Lib.run_eql_slice_nil w tx e q m c 0 0 hu,Sem.run_pure]
theorem AC.appendE0 {s:Operand} {bytes c2:Nat} {q2:Option Addr} {news:List Value} (ht:ElemT P t T z bytes) (hs:evF F s=some (.slice q 0 c)) (ho:OwnOk q 0 c)
    (hx:evF F x=some (.slice q2 m c2)) (hsrc:YN w0 (rowW q T z 0 c []::L) q2 m news) (hnl:news.length=m*z) (h1:(news.all λu=>u.oneCell')=true) (h63:m<=maxLen) (hbytes:m*bytes<=140737488355328) (hd:Nat.ble (d+1) n=true)
    (next:∀p' c',OwnOk p' m c'->AC P ops rest Q n ((d,.slice p' m c')::F) w0 (rowW p' T z m c' news::L)) :
    AC P ops (⟨some d,.call { callee:=.builtin .append,args:=#[s,x],argTypes:=#[t,t] },ty,p,af,none⟩::rest) Q n F w0 (rowW q T z 0 c []::L):=by
  refine AC.appendS0 (cs2:=news) ht hs ho (by simp) hx hsrc hnl h1 (by rw [Nat.zero_add];exact h63) (by rw [Nat.zero_add];exact hbytes) O hd λp' c' h=>?_
  rw [Nat.zero_add] at h ⊢
  exact next p' c' h
theorem AC.frzRow (i:Nat) (hi:L[i]?=some (rowW q T z m c cs)) (ho:OwnOk q m c) (hl:cs.length=m*z) (hex:w0.ex=none) (hs:Nb L i (AJ q cs)=some L') (next:(∀b,q.map (·.block)=some b->w0.w.heap.size<=b)->AC P ops rest Q n F w0 L'):AC P ops rest Q n F w0 L:=λa w ha hw=>by
  refine next (λb e=>?_) a w ha (GX hs▸hw.freeze hi O (λo hp=>B_ ho hl hp) (λe=>by cases e))
  rcases (hw.2.1 _ (List.mem_of_getElem? hi) b e).1 with h1|h1|h1
  · cases h1
  · exact h1
  · rw [hex] at h1;cases h1
theorem At.new {n:Nat} {cs:List Value} {a:RX cs n} (h:∀b,a.p.map (·.block)=some b->w0.w.heap.size<=b):At w0 S a:=λy hy b e=>by
  rcases List.mem_singleton.1 hy with rfl
  exact .inl (h b e)
end
structure cW (ps:List Pt) (ts ss:List (Tq3)) where
  a:OX 66 10 (rowsL CG ps) ps.length
  b:OX 68 3 (rowsL Am ts) ts.length
  c:OX 70 3 (rowsL Am ss) ss.length
@[reducible] def c_ {ps:List Pt} {ts ss:List (Tq3)} (x:cW ps ts ss):List As:=[rowW x.c.p 70 3 ss.length x.c.c (rowsL Am ss),rowW x.b.p 68 3 ts.length x.b.c (rowsL Am ts),rowW x.a.p 66 10 ps.length x.a.c (rowsL CG ps)]
structure aS (ps:List Pt) (ts ss:List (Tq3)) (l:List Nat) (e:Nat) where
  m:MX ps ts ss
  q:RX (inL l) l.length
theorem Y8 {ps:List Pt} {ts ss:List (Tq3)} {l:List Nat} {e:Nat} {x:aS ps ts ss l e} {y:As} (hy:y∈[x.m.a.row,x.m.b.row,x.m.c.row,x.q.row]):y.ro=true:=by
  simp only [List.mem_cons,List.not_mem_nil,or_false] at hy
  rcases hy with rfl|rfl|rfl|rfl<;>rfl
instance {ps:List Pt} {ts ss:List (Tq3)} {l:List Nat} {e:Nat}:CO (aS ps ts ss l e):=⟨λx=>.tuple #[aG (IM x.m),x.q.val,vN e],λx=>[x.m.a.row,x.m.b.row,x.m.c.row,x.q.row],λx y hy=>Y8 hy⟩
section
variable {P:Program} {ops:Array Oper} {rest:List Oper} {Q:Exit->Act->World->Prop} {n d:Nat} {F:List (Nat×Value)} {w0:BE} {S:Nat->Prop} {L:List As} {t:TypeId} {p:String} {af:Array Edge} {y:Operand} {f:FuncId} {xs:List Operand} {args:List Value} {tys:Array TypeId} {ps:List Pt} {ts ss:List (Tq3)} {l:List Nat} {e:Nat}
end
end
section
section
variable {α β:Type} [DecidableEq α]
theorem CP {kvs:List (α×β)} {x z:α} {y:β}:Ac (A9 kvs x y) z=if z=x then some y else Ac kvs z:=by
  induction kvs with
  | nil=>rfl
  | cons p r ih =>
    obtain ⟨k,v⟩:=p
    unfold A9
    split
    · rename_i e
      subst e
      unfold Ac
      split<;>rfl
    · rename_i e
      rw [Ac,ih]
      by_cases h:z=k
      · rw [if_pos h,if_neg (λe2=>e (e2.symm.trans h)),Ac,if_pos h]
      · rw [if_neg h]
        split
        · rfl
        · rw [Ac,if_neg h]
end
section
variable {ts:List (Tq3)}
def BQ (ts:List (Tq3)) (u:Nat):P2:=(Bl (ts.getD (u/3) (0,0,0)) (u%3),Bl (ts.getD (u/3) (0,0,0)) ((u%3+1)%3))
def Gf (ts:List (Tq3)) (s a b:Nat) (z:Int):Prop:=(z = -1/\∀u,u<s->BQ ts u≠(a,b))\/∃u,u<s/\z=((u/3:Nat):Int)/\BQ ts u=(a,b)/\∀v,v<u->BQ ts v≠(a,b)
theorem Gf.none {s a b:Nat} (h:∀u,u<s->BQ ts u≠(a,b)):Gf ts s a b (-1):=.inl ⟨rfl,h⟩
theorem Gf.skip {s a b:Nat} {z:Int} (h:Gf ts s a b z) (hn:BQ ts s≠(a,b)):Gf ts (s+1) a b z:=by
  rcases h with ⟨h1,h2⟩|⟨u,h1,h2,h3,h4⟩
  · refine .inl ⟨h1,λu hu=>?_⟩
    rcases Nat.lt_or_ge u s with h|h
    · exact h2 u h
    · rw [show u=s by omega];exact hn
  · exact .inr ⟨u,Z,h2,h3,h4⟩
theorem Gf.take {s a b:Nat} (h:Gf ts s a b (-1)) (hn:BQ ts s=(a,b)):Gf ts (s+1) a b ((s/3:Nat):Int):=by
  rcases h with ⟨h1,h2⟩|⟨u,h1,h2,h3,h4⟩
  · exact .inr ⟨s,Z,rfl,hn,h2⟩
  · omega
theorem Gf.keep {s a b:Nat} {z:Int} (h:Gf ts s a b z) (hz:z ≠ -1):Gf ts (s+1) a b z:=by
  rcases h with ⟨h1,h2⟩|⟨u,h1,h2,h3,h4⟩
  · exact absurd h1 hz
  · exact .inr ⟨u,Z,h2,h3,h4⟩
structure Xw (ts:List (Tq3)) (s:Nat) (k:P2) (e:E4):Prop where
  ea:e.a=k.1
  eb:e.b=k.2
  lt:k.1<k.2
  l:Gf ts s k.1 k.2 e.l
  r:Gf ts s k.2 k.1 e.r
  some:∃u,u<s/\(BQ ts u=(k.1,k.2)\/BQ ts u=(k.2,k.1))
theorem JG (hd:∀u,u<3*ts.length->(BQ ts u).1≠(BQ ts u).2):∀s,s<=3*ts.length->(∀k e,Ac (CT ts s) k=some e->Xw ts s k e)/\(∀k,Ac (CT ts s) k=none->k.1<k.2->∀u,u<s->BQ ts u≠(k.1,k.2)/\BQ ts u≠(k.2,k.1))
  | 0,_=>⟨λk e h=>(by cases h),λk _ _ u hu=>absurd hu (Nat.not_lt_zero _)⟩
  | s+1,hs=>by
    obtain ⟨i1,i2⟩:=JG hd s Z
    have hne:=hd s Z
    obtain ⟨a,ha⟩:∃a,a=Bl (ts.getD (s/3) (0,0,0)) (s%3):=⟨_,rfl⟩
    obtain ⟨b,hb⟩:∃b,b=Bl (ts.getD (s/3) (0,0,0)) ((s%3+1)%3):=⟨_,rfl⟩
    have hdir:BQ ts s=(a,b):=by rw [ha,hb];rfl
    rw [hdir] at hne
    have hE:CT ts (s+1)=R_ (CT ts s) (s/3) a b:=by rw [ha,hb];rfl
    rw [hE]
    unfold R_
    have hky:(Cx a b).1<(Cx a b).2:=by unfold Cx;simp only at hne ⊢;omega
    -- what the old edge,or the new one,knows
    have h0:∀e0,e0=(Ac (CT ts s) (Cx a b)).getD (IK (Cx a b))->e0.a=(Cx a b).1/\e0.b=(Cx a b).2/\Gf ts s (Cx a b).1 (Cx a b).2 e0.l/\Gf ts s (Cx a b).2 (Cx a b).1 e0.r:=by
      intro e0 he0
      cases hg:Ac (CT ts s) (Cx a b) with
      | none =>
        rw [hg] at he0
        have h2:=i2 _ hg hky
        subst he0
        exact ⟨rfl,rfl,Gf.none λu hu=>(h2 u hu).1,Gf.none λu hu=>(h2 u hu).2⟩
      | some e =>
        rw [hg] at he0
        have h2:=i1 _ _ hg
        subst he0
        exact ⟨h2.ea,h2.eb,h2.l,h2.r⟩
    constructor
    · intro k e hk
      rw [CP] at hk
      split at hk
      · rename_i e1
        injection hk with hk
        obtain ⟨c1,c2,c3,c4⟩:=h0 _ rfl
        obtain ⟨e0,he0⟩:∃e0,e0=(Ac (CT ts s) (Cx a b)).getD (IK (Cx a b)):=⟨_,rfl⟩
        rw [<-he0] at hk c1 c2 c3 c4
        subst hk
        have hends:=Lj e0 (s/3) a b
        rw [e1]
        rcases Nat.lt_or_ge a b with hab|hab
        · have k1:(Cx a b).1=a:=by unfold Cx;simp only;omega
          have k2:(Cx a b).2=b:=by unfold Cx;simp only;omega
          rw [k1,k2] at c3 c4
          refine ⟨hends.1.trans c1,hends.2.trans c2,hky,?_,?_,s,Z,.inl (by rw [k1,k2];exact hdir)⟩<;>rw [k1,k2]
          · unfold Ep
            by_cases hl:e0.l = -1
            · rw [if_pos ⟨hab,hl⟩]
              rw [hl] at c3
              exact c3.take hdir
            · rw [if_neg (λh=>hl h.2),if_neg (λh=>by omega)]
              exact c3.keep hl
          · have hn2:BQ ts s≠(b,a):=by rw [hdir];intro h;injection h with h _;omega
            unfold Ep
            split
            · exact c4.skip hn2
            · rw [if_neg (λh=>by omega)]
              exact c4.skip hn2
        · have hba:b<a:=by simp only at hne;omega
          have k1:(Cx a b).1=b:=by unfold Cx;simp only;omega
          have k2:(Cx a b).2=a:=by unfold Cx;simp only;omega
          rw [k1,k2] at c3 c4
          have hn2:BQ ts s≠(b,a):=by rw [hdir];intro h;injection h with h _;omega
          refine ⟨hends.1.trans c1,hends.2.trans c2,hky,?_,?_,s,Z,.inr (by rw [k1,k2];exact hdir)⟩<;>rw [k1,k2]
          · unfold Ep
            rw [if_neg (λh=>by omega)]
            split
            · exact c3.skip hn2
            · exact c3.skip hn2
          · unfold Ep
            rw [if_neg (λh=>by omega)]
            by_cases hl:e0.r = -1
            · rw [if_pos ⟨hba,hl⟩]
              rw [hl] at c4
              exact c4.take hdir
            · rw [if_neg (λh=>hl h.2)]
              exact c4.keep hl
      · rename_i e1
        obtain ⟨a1,a2,a3,a4,a5,u,a6,a7⟩:=i1 k e hk
        have n1:BQ ts s≠(k.1,k.2):=by
          rw [hdir];intro h;injection h with h1 h2
          exact e1 (Prod.ext (by unfold Cx;simp only;omega) (by unfold Cx;simp only;omega))
        have n2:BQ ts s≠(k.2,k.1):=by
          rw [hdir];intro h;injection h with h1 h2
          exact e1 (Prod.ext (by unfold Cx;simp only;omega) (by unfold Cx;simp only;omega))
        exact ⟨a1,a2,a3,a4.skip n1,a5.skip n2,u,Z,a7⟩
    · intro k hk hlt u hu
      rw [CP] at hk
      split at hk
      · cases hk
      · rename_i e1
        rcases Nat.lt_or_ge u s with h|h
        · exact i2 k hk hlt u h
        · rw [show u=s by omega,hdir]
          constructor
          · intro h;injection h with h1 h2
            exact e1 (Prod.ext (by unfold Cx;simp only;omega) (by unfold Cx;simp only;omega))
          · intro h;injection h with h1 h2
            exact e1 (Prod.ext (by unfold Cx;simp only;omega) (by unfold Cx;simp only;omega))
theorem WO {N:Nat} (hn:A_ N ts=true) (hN:N<=4611686018427387904) (hd:∀u,u<3*ts.length->(BQ ts u).1≠(BQ ts u).2) {e:E4} (he:e∈Bv ts):Xw ts (3*ts.length) (e.a,e.b) e:=by
  unfold Bv at he
  obtain ⟨p,hp,h1⟩:=List.mem_map.1 ((DK _).mem_iff.1 he)
  obtain ⟨j,hj,h2⟩:=List.getElem_of_mem hp
  have h3:=I_ (x:=p.1) (v:=p.2) (Et hn hN _ (Nat.le_refl _)).once (show (CT ts (3*ts.length))[j]?=some (p.1,p.2) by rw [List.getElem?_eq_getElem hj,h2])
  have h4:=(JG hd _ (Nat.le_refl _)).1 _ _ h3
  rw [h1] at h4
  rw [show (e.a,e.b)=p.1 from Prod.ext h4.ea h4.eb]
  exact h4
end
end
section
theorem ON {P:Program} {k e:TypeId} (hu:P.underlying k=some (.array 2 e)) (he:P.underlying e=some (.int .i64)) (ce:P.cellsOf e=1) (ck:P.cellsOf k=2) (hk:P.keyType k=true) (hr:k<P.types.size)
    {a b:Int} (wa:(Lit.int .i64 a).wf=true) (wb:(Lit.int .i64 b).wf=true):∃l,keyOf P k (.agg #[.int .i64 a,.int .i64 b])=some l:=by
  have h0:0<P.types.size:=Nat.lt_of_le_of_lt (Nat.zero_le _) hr
  obtain ⟨d,hd⟩:∃d,P.types.size=d+1:=⟨P.types.size-1,Z⟩
  have hf:(Value.agg #[.int .i64 a,.int .i64 b]).formed P k=true:=by
    unfold Value.formed
    simp only [hu,ck]
    rfl
  have hl:P.keyLits (P.types.size+1) k (Value.agg #[.int .i64 a,.int .i64 b]).cells.toList=some [.int .i64 a,.int .i64 b]:=by
    rw [hd]
    unfold Program.keyLits
    simp only [hu]
    show (if ([Value.int .i64 a,Value.int .i64 b]:List Value).length=P.cellsOf k then _ else _)=_
    rw [if_pos (by rw [ck];rfl)]
    have e0:P.keyLits (d+1) e ((([Value.int .i64 a,Value.int .i64 b]:List Value).drop (0*P.cellsOf e)).take (P.cellsOf e))=some [.int .i64 a]:=by
      rw [ce];exact Ec he d wa
    have e1:P.keyLits (d+1) e ((([Value.int .i64 a,Value.int .i64 b]:List Value).drop (1*P.cellsOf e)).take (P.cellsOf e))=some [.int .i64 b]:=by
      rw [ce];exact Ec he d wb
    show (List.mapM (λi=>P.keyLits (d+1) e ((([Value.int .i64 a,Value.int .i64 b]:List Value).drop (i*P.cellsOf e)).take (P.cellsOf e))) [0,1]).map List.flatten=_
    simp only [List.mapM_cons,List.mapM_nil,e0,e1]
    rfl
  refine ⟨.string (keyBytes [.int .i64 a,.int .i64 b]),?_⟩
  unfold keyOf
  simp only [hu,hk,hf,Bool.and_self,if_true,hl]
  rfl
theorem XF {P:Program} (hl:laidOutB P=true) {k e:TypeId} (hr:k<P.types.size) (ht:P.keyTypeAt 2 k=true) (hw:(match P.underlying k with|some (.array _ _)|some (.struct _)=>true|_=>false)=true) (hu:P.underlying k=some (.array 2 e)) (he:P.underlying e=some (.int .i64)) (ce:P.cellsOf e=1) (ck:P.cellsOf k=2) (hk:P.keyType k=true):Ir P k D5 N9 where
  law:=.of_law (deep_law_laid hl (m:=2) (by decide) hr ht hw)
  key:=λa h=>ON hu he ce ck hk hr (G9 h.1) (G9 h.2)
  inj:=λa b h=>Jc h
theorem Fy {a b:Nat} (ha:a<4611686018427387904) (hb:b<4611686018427387904):N9 (a,b):=⟨ha,hb⟩
def TV (k:Nat):Prop:=k<4611686018427387904
theorem YJ {P:Program} {k:TypeId} (h:P.underlying k=some (.int .i64)):Ir P k vN TV where
  law:=Maps.int_keyed h
  key:=λa ha=>⟨_,Maps.keyOf_int_mk h (G9 ha)⟩
  inj:=λa b e=>by injection e with _ e;omega
def Ct {α β:Type} [DecidableEq α]:List (α×β)->α->Nat
  | [],_=>0
  | (k,v)::r,x=>if x=k then 0 else Ct r x+1
section
variable {α β:Type} {enc:α->Value} {eV:β->Value} {ok:α->Prop} {P:Program} {kt:TypeId} {n:Nat} {F:List (Nat×Value)} {w0:BE} {L:List As} {d:Nat} {mp kp vp sp:Operand} {t:TypeId} {pp:String} {af:Array Edge} {g:Option (Nat×Bool)} {tx et:TypeId} {b:Nat} {ops:Array Oper} {rest:List Oper} {Q:Exit->Act->World->Prop}
def Pf {α β:Type} [DecidableEq α] (b:Nat) (enc:α->Value) (eV:β->Value) (kvs:List (α×β)) (x:α) (v:β):As:=⟨some b,λo=>o=.map (entsM enc eV kvs 0).toArray kvs.length\/o=.map (entsM enc eV (A9 kvs x v) 0).toArray (A9 kvs x v).length,false⟩
variable [DecidableEq α]
theorem LD:∀{kvs:List (α×β)} {x:α} {v:β},Ac kvs x=some v->A9 kvs x v=kvs
  | (k,u)::r,x,v,h=>by
    unfold Ac at h
    unfold A9
    split at h
    · rename_i e;injection h with h;rw [if_pos e,h]
    · rename_i e;rw [if_neg e,LD h]
theorem HJ:∀{kvs:List (α×β)} {x:α} {v:β},(A9 kvs x v)[Ct kvs x]?=some (x,v)
  | [],_,_=>rfl
  | (k,u)::r,x,v=>by
    unfold A9 Ct
    split
    · rename_i e;rw [List.getElem?_cons_zero,e]
    · rw [List.getElem?_cons_succ,HJ]
theorem NN {x:α} {u v:β}:∀{kvs:List (α×β)},(A9 kvs x u).set (Ct kvs x) (x,v)=A9 kvs x v
  | []=>rfl
  | (k,w)::r=>by
    by_cases e:x=k
    · simp [A9,Ct,e]
    · simp [A9,Ct,e,NN]
theorem NZ:∀{kvs:List (α×β)} {j:Nat} {x:α} {v:β},kvs.Pairwise (λp q=>p.1≠q.1)->kvs[j]?=some (x,v)->Ct kvs x=j
  | (k,u)::r,0,x,v,_,h=>by
    simp only [List.getElem?_cons_zero,Option.some.injEq,Prod.mk.injEq] at h
    rw [Ct,if_pos h.1.symm]
  | (k,u)::r,j+1,x,v,hp,h=>by
    obtain ⟨h1,h2⟩:=List.pairwise_cons.1 hp
    rw [List.getElem?_cons_succ] at h
    rw [Ct,if_neg (λe=>h1 (x,v) (List.mem_of_getElem? h) e.symm),NZ h2 h]
theorem Jm:∀{kvs:List (α×β)} {x:α},(∀p∈kvs,p.1≠x)->Ct kvs x=kvs.length
  | [],_,_=>rfl
  | (k,v)::r,x,h=>by
    rw [Ct,if_neg (λe=>h (k,v) List.mem_cons_self e.symm),Jm λp hp=>h p (List.mem_cons_of_mem _ hp)];rfl
theorem WS {i:Nat} {kvs:List (α×β)} (x:α) (v:β) (hi:L[i]?=some (Bm b enc eV kvs)):Wk (L.set i (Pf b enc eV kvs x v)) L:=λw0 w hw=>by
  exact hw.freeze (i:=i) (y:=Pf b enc eV kvs x v) hi O (λo h=>.inl h) (λe=>by cases e)
theorem S7 {i:Nat} {kvs:List (α×β)} (x:α) (v:β) (hi:L[i]?=some (Bm b enc eV (A9 kvs x v))):Wk (L.set i (Pf b enc eV kvs x v)) L:=λw0 w hw=>by
  exact hw.freeze (i:=i) (y:=Pf b enc eV kvs x v) hi O (λo h=>.inr h) (λe=>by cases e)
theorem bD (i:Nat) {kvs:List (α×β)} {x:α} {v:β} {LA:List As} (hi:L[i]?=some (Bm b enc eV kvs)) (hs:Nb L i (Pf b enc eV kvs x v)=some LA):Wk LA L:=GX hs▸WS x v hi
theorem YY (i:Nat) {kvs:List (α×β)} {x:α} {v:β} {LA:List As} (hi:L[i]?=some (Bm b enc eV (A9 kvs x v))) (hs:Nb L i (Pf b enc eV kvs x v)=some LA):Wk LA L:=GX hs▸S7 x v hi
theorem G5 (K:Ir P kt enc ok) (i:Nat) {kvs:List (α×β)} {x:α} {z0 v:β} {dd:Option Tmp} (hx:evF F mp=some (.map (some b))) (hk:evF F kp=some (enc x)) (ht:P.underlying tx=some (.map kt et)) (hz:∀w,(zeroValue et).run P w=.ok (eV z0) w) (hi:L[i]?=some (Pf b enc eV kvs x v)) (hm:GM ok kvs) (hok:ok x) (hv:v=(Ac kvs x).getD z0) :
    Ex P n F w0 L ⟨dd,.lookup tx mp kp false,t,pp,af,g⟩ (eV v):=λA w ha hw=>by
  obtain ⟨_,o,ho,hp⟩:=hw.2.1 _ (List.mem_of_getElem? hi) b rfl
  obtain ⟨lx,hlx⟩:=K.key x hok
  have hc:=λem=>K.law.check w em hlx
  have key:∀kvs':List (α×β),GM ok kvs'->(Ac kvs' x).getD z0=v->w.heap[b]?=some (.map (entsM enc eV kvs' 0).toArray kvs'.length)->(execOp A.eval ⟨dd,.lookup tx mp kp false,t,pp,af,g⟩).run P w=.ok (.value (eV v)) w:=λkvs' hm' hg ho=>by
    rcases FE (eV:=eV) K hm' hok w with ⟨h1,_,h2⟩|⟨j,u,_,h1,h2⟩
    · rw [h1] at hg
      simp only [execOp,ha.ev hx,ha.ev hk,Instr.lookup,Sem.run_bind,run_underlying ht,Bz ho,Result.andThen_ok,Sem.run_pure,hc,List.toList_toArray,h2,hz]
      rw [<-hg];rfl
    · rw [h1] at hg
      simp only [execOp,ha.ev hx,ha.ev hk,Instr.lookup,Sem.run_bind,run_underlying ht,Bz ho,Result.andThen_ok,Sem.run_pure,hc,List.toList_toArray,h2]
      rw [<-hg];rfl
  rcases hp with hp|hp
  · exact key kvs hm hv.symm (by rw [ho,hp])
  · exact key (A9 kvs x v) (hm.put hok) (by rw [CP,if_pos O];rfl) (by rw [ho,hp])
theorem AC.mapEntry (K:Ir P kt enc ok) (i:Nat) {kvs:List (α×β)} {x:α} {z0 v:β} (hx:evF F mp=some (.map (some b))) (hk:evF F kp=some (enc x)) (ht:P.underlying tx=some (.map kt et)) (hz:∀w,(zeroValue et).run P w=.ok (eV z0) w) (hi:L[i]?=some (Bm b enc eV kvs)) (hm:GM ok kvs) (hok:ok x) (hv:v=(Ac kvs x).getD z0) (hd:Nat.ble (d+1) n=true)
    (next:AC P ops rest Q n ((d,.tuple #[eV v,vN (Ct kvs x)])::F) w0 (L.set i (Bm b enc eV (A9 kvs x v)))):AC P ops (⟨some d,.mapEntry tx mp kp,t,pp,af,none⟩::rest) Q n F w0 L:=λa w ha hW=>by
  obtain ⟨_,o,ho,hp⟩:=hW.2.1 _ (List.mem_of_getElem? hi) b rfl
  have ho:w.heap[b]?=some (.map (entsM enc eV kvs 0).toArray kvs.length):=by rw [ho,hp]
  obtain ⟨lx,hlx⟩:=K.key x hok
  have hc:=λem=>K.law.check w em hlx
  have hst:=K.law.stays w hlx
  have hrun:(execOp a.eval ⟨some d,.mapEntry tx mp kp,t,pp,af,none⟩).run P w=.ok (.value (.tuple #[eV v,vN (Ct kvs x)])) (Go.ChangeMaps.setBlock w b (.map (entsM enc eV (A9 kvs x v) 0).toArray (A9 kvs x v).length)):=by
    rcases FE (eV:=eV) K hm hok w with ⟨h0,h1,h2⟩|⟨j,u,hj,h1,h2⟩
    · rw [h0] at hv
      simp only [Option.getD_none] at hv
      subst hv
      rw [IB h1,Jm h1,FT,List.length_append]
      simp only [execOp,ha.ev hx,ha.ev hk,Instr.mapEntry,Sem.run_bind,run_underlying ht,Bz ho,Result.andThen_ok,hc,List.toList_toArray,h2,hz,Dh ho,Sem.run_pure,List.push_toArray,Nat.zero_add,List.length_singleton]
      rfl
    · rw [h1] at hv
      simp only [Option.getD_some] at hv
      subst hv
      rw [LD h1,NZ hm.once hj]
      have e1:(entsM enc eV kvs 0)[j]?=some ⟨enc x,eV v,0+j⟩:=by rw [Cs,hj];rfl
      have e2:=GK (enc:=enc) (eV:=eV) (y:=v) hj
      have e3:kvs.set j (x,v)=kvs:=by
        apply List.ext_getElem?
        intro q
        rw [List.getElem?_set]
        split
        · rename_i e;subst e;split
          · exact hj.symm
          · rename_i h9;rw [List.getElem?_eq_none Z]
        · rfl
      rw [e3] at e2
      have e4:(entsM enc eV kvs 0).toArray.modify j (λe=>{ e with key:=enc x })=(entsM enc eV kvs 0).toArray:=by
        apply Array.ext_getElem?
        intro q
        rw [Array.getElem?_modify]
        simp only [List.getElem?_toArray]
        split
        · rename_i e;subst e;rw [e1];rfl
        · rfl
      simp only [execOp,ha.ev hx,ha.ev hk,Instr.mapEntry,Sem.run_bind,run_underlying ht,Bz ho,Result.andThen_ok,hc,List.toList_toArray,List.getElem?_toArray,h2,e1,hst,e4,Dh ho,Sem.run_pure,Option.map_some,Option.getD_some]
      simp [goInt,e1,hst,e4,Dh ho,Result.andThen]
  unfold wpList
  rw [if_pos (AT rfl a ha)]
  left
  unfold Oper.wp
  rw [hrun,Oper.upon_value]
  exact next _ _ (ha.put (Bq hd)) (hW.turn hi O O (D8 _ _ _) ⟨_,Ei ho,rfl⟩)
theorem AC.entryStore (i:Nat) {kvs:List (α×β)} {x:α} {u y:β} (hx:evF F mp=some (.map (some b))) (hs:evF F sp=some (vN (Ct kvs x))) (hv:evF F vp=some (eV y)) (hi:L[i]?=some (Bm b enc eV (A9 kvs x u)))
    (next:AC P ops rest Q n F w0 (L.set i (Bm b enc eV (A9 kvs x y)))):AC P ops (⟨none,.entryStore tx mp sp vp,t,pp,af,none⟩::rest) Q n F w0 L:=λa w ha hW=>by
  obtain ⟨_,o,ho,hp⟩:=hW.2.1 _ (List.mem_of_getElem? hi) b rfl
  have ho:w.heap[b]?=some (.map (entsM enc eV (A9 kvs x u) 0).toArray (A9 kvs x u).length):=by rw [ho,hp]
  have hf:=HJ (kvs:=kvs) (x:=x) (v:=u)
  have hlt:Ct kvs x<(A9 kvs x u).length:=(List.getElem?_eq_some_iff.1 hf).1
  have e0:(entsM enc eV (A9 kvs x u) 0)[Ct kvs x]?=some ⟨enc x,eV u,Ct kvs x⟩:=by rw [Cs,hf];simp
  have hnd:((entsM enc eV (A9 kvs x u) 0).map (·.born)).Nodup:=by
    have e1:∀(l:List (α×β)) (s:Nat),(entsM enc eV l s).map (·.born)=List.range' s l.length:=by
      intro l
      induction l with
      | nil=>intro s;rfl
      | cons p r ih=>intro s;rw [entsM,List.map_cons,ih,List.length_cons,List.range'_succ]
    rw [e1];exact List.nodup_range'
  have hidx:(entsM enc eV (A9 kvs x u) 0).toArray.findIdx? (λe=>((e.born:Nat):Int) == ((Ct kvs x:Nat):Int))=some (Ct kvs x):=by
    rw [WideElems.findIdx_arr]
    exact WideElems.findIdx_born hnd e0
  have hset:(A9 kvs x u).set (Ct kvs x) (x,y)=A9 kvs x y:=NN
  have hmod:=GK (enc:=enc) (eV:=eV) (y:=y) hf
  have hmod2:(entsM enc eV (A9 kvs x u) 0).toArray.modify (Ct kvs x) (λe=>{ e with val:=eV y })=(entsM enc eV (A9 kvs x y) 0).toArray:=by
    rw [<-hset,<-hmod]
    apply Array.ext_getElem?
    intro q
    rw [Array.getElem?_modify,Array.getElem?_modify]
    simp only [List.getElem?_toArray]
    split
    · rename_i e;subst e;rw [e0];rfl
    · rfl
  have hl2:(A9 kvs x y).length=(A9 kvs x u).length:=by rw [<-hset,List.length_set]
  have hrun:(execOp a.eval ⟨none,.entryStore tx mp sp vp,t,pp,af,none⟩).run P w=.ok .skip (Go.ChangeMaps.setBlock w b (.map (entsM enc eV (A9 kvs x y) 0).toArray (A9 kvs x y).length)):=by
    rw [<-hmod2,hl2]
    simp only [execOp,ha.ev hx,ha.ev hs,ha.ev hv,Instr.entryStore,Sem.run_bind,Bz ho,Result.andThen_ok,asInt,asIntOf,Sem.run_pure,hidx,Dh ho]
  unfold wpList
  rw [if_pos (AT rfl a ha)]
  left
  unfold Oper.wp
  rw [hrun,Oper.upon_skip]
  exact next _ _ ha.put_none (hW.turn hi O O (D8 _ _ _) ⟨_,Ei ho,rfl⟩)
end
end
end Go.Proofs.YtpgncndhhhllfaaGreat
