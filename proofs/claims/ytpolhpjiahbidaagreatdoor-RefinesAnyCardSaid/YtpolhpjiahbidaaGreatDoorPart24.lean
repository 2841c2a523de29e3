import Derived.Lib.SliceRun
import Derived.WideKeyEntry
import Derived.Test.YtpolhpjiahbidaaGreatDoorPart03
import Derived.Test.YtpolhpjiahbidaaGreatDoorPart13
import Derived.Test.YtpolhpjiahbidaaGreatDoorPart18
import Derived.Test.YtpolhpjiahbidaaGreatDoorPart22
import Derived.Test.YtpolhpjiahbidaaGreatDoorPart23
namespace Go.Proofs.YtpolhpjiahbidaaGreatDoor
open Go Go.RowKit Go.Proofs.Tryz
set_option linter.unusedVariables false
set_option linter.unusedSimpArgs false
def inL (l:List Nat):List Value:=l.map λ(d:Nat)=>vN d
theorem Dz (l:List Nat):(inL l).length=l.length:=by simp [inL]
theorem Pm {l:List Nat} {j:Nat} (h:j<l.length):(inL l)[j*1]?=some (vN (l.getD j 0)):=by simp [inL,h]
theorem HJ (a b:List Nat):inL (a++b)=inL a++inL b:=by simp [inL]
section
set_option maxRecDepth 100000
theorem UH:ElemT prog 32 3 1 8:=⟨underlying32,DM (by kernel_rfl)⟩
theorem Mu {N:Nat} {ts ss:List (Tq3)} (x:RM N ts ss) (hl:ts.length<=1000000000) (hN:N<=4611686018427387904) (hnb:Bn N ts=true) (w:World) {S:Nat->Prop} (hx:Ro S w x):Calls prog 34 #[(aG (FE x))] w (Af (CX (rowsL BY (An ts)) (An ts).length) S w):=by
 have lx:=CI (W:=w) hx
 refine AY (args:=[(aG (FE x))]) (L:=[AE x.a.p (x.cs),AE x.b.p (rowsL Ad ts),AE x.c.p (x.ds)]) func34 O O (AI O) (D9 hx Aj) (OkC.subF (sL [0] O) (q4 (Be (cs:=FE x) O λb1=>asg' O (q6 (sL [1,2] O) (q4 (BH 0 Dn O (Ce (args:=[(aG (FE x))]) (v:=(Value.bool true)) call43 (λw hw=>(by have h9:=LQ x Z w (inS hw 1 O lx);rw [hnb] at h9;exact h9)) O (AH (BU (c:=false) O O) O (OkL.nil (OkQ.subF (sL [1,2,5] O) ?_))))))))))
 exact OkQ.then_ (OkC.cond_false O (OkC.skip (q2 (AH (v:=(pP b1 1)) (AA O underlying30 O sizeOf23 O) O (Au 0 (Value.slice x.b.p ts.length x.b.c) CU O (OkL.callR (S:=S) (α:=CX (rowsL BY (An ts)) (An ts).length) (args:=[(Value.slice x.b.p ts.length x.b.c)]) call101 (λw hw=>Lf ts x.b N hnb hN hl w (Yt (inS hw 1 O lx))) O O O λo lo=>asg' O (OkL.nil (OkQ.subF (sL [1,2] O) (OkQ.then_ (OkC.ret (ret_one O (rd_tmp (v:=(Value.slice o.p ((An ts).length) ((An ts).length))) O) (λw hw=>D0 hw (inS hw 0 O lo) O))))))))))))
theorem KH {N:Nat} {ts ss:List (Tq3)} (x:RM N ts ss) (hl:ts.length<=1000000000) (hN:N<=4611686018427387904) (hnb:Bn N ts=true) (w:World) {S:Nat->Prop} (hx:Ro S w x):Calls prog 34 #[(aG (FE x))] w (Af (RX (rowsL BY (An ts)) (An ts).length) S w):=(Mu x hl hN hnb w hx).mono λe w1 h=>h.ofCX
theorem Ue {ps:List Pt} {ts ss:List (Tq3)} (x:MX ps ts ss) (hl:ts.length<=1000000000) (hN:ps.length<=4611686018427387904) (hnb:Bn ps.length ts=true) (w:World) {S:Nat->Prop} (hx:Ro S w x):Calls prog 34 #[(aG (FT x))] w (Af (RX (rowsL BY (An ts)) (An ts).length) S w):=KH x.rm hl hN hnb w (Ya hx)
end
section
def Xi (S:Nat->Prop) (W w:World) (G:List As):Prop :=
  (∀x∈G,∀b,x.foot=some b->(W.heap.size<=b\/(x.ro=true/\S b))/\∃o,w.heap[b]?=some o/\x.P o)/\G.Pairwise λx y=>(x.ro=true/\y.ro=true)\/∀b,x.foot=some b->y.foot≠some b
def DT {α:Type} (V:α->Value) (LW:α->List As) (S:Nat->Prop) (W:World) (e:Ending) (w:World):Prop:=∃a:α,e=.returned (V a)/\GG W.heap.size W w/\Xi S W w (LW a)
def HN (w0:A_) (S:Nat->Prop) (G:List As):Prop:=∀y∈G,y.ro=true->∀b,y.foot=some b->Nw w0 S b
section
variable {w0:A_} {S:Nat->Prop} {w w' W:World} {L G:List As}
theorem BD.give (h:BD w0 w L) (hb:GG w.heap.size w w') (hg:Xi (SL w0 S L) w w' G):BD w0 w' (G++L):=by
  have h1:=h.below hb
  refine ⟨h1.1,λy hy b e=>?_,List.pairwise_append.2 ⟨hg.2,h1.2.2,λx hx y hy=>?_⟩⟩
  · rcases List.mem_append.1 hy with hy|hy
    · obtain ⟨h2,h3⟩:=hg.1 y hy b e
      refine ⟨?_,h3⟩
      rcases h2 with h2|⟨h2,_⟩
      · exact .inr (.inl (Nat.le_trans h.size h2))
      · exact .inl h2
    · exact h1.2.1 y hy b e
  · by_cases hr:x.ro=true/\y.ro=true
    · exact .inl hr
    · refine .inr λb e e2=>?_
      rcases (hg.1 x hx b e).1 with h2|⟨h2,⟨z,hz,hzr,hzf⟩,_⟩
      · exact absurd (h.lt hy e2) Z
      · have hyr:¬y.ro=true:=λk=>hr ⟨h2,k⟩
        obtain ⟨i,hi,rfl⟩:=List.getElem_of_mem hz
        obtain ⟨j,hj,rfl⟩:=List.getElem_of_mem hy
        have hp:=List.pairwise_iff_getElem.1 h.2.2
        rcases Nat.lt_trichotomy i j with hij|hij|hij
        · exact (hp i j hi hj hij).elim (λk=>hyr k.2) (λk=>k b hzf e2)
        · subst hij;exact hyr hzr
        · exact (hp j i hj hi hij).elim (λk=>hyr k.1) (λk=>k b e2 hzf)
theorem BD.gives (h:BD ⟨W,none⟩ w L) (hs:G.Sublist L) (hS:HN ⟨W,none⟩ S G):Xi S W w G:=by
  refine ⟨λx hx b e=>?_,h.2.2.sublist hs⟩
  obtain ⟨h1,h2⟩:=h.2.1 x (hs.subset hx) b e
  refine ⟨?_,h2⟩
  by_cases hr:x.ro=true
  · rcases hS x hx hr b e with h3|h3
    · exact .inl h3
    · exact .inr ⟨hr,h3⟩
  · rcases h1 with h1|h1|h1
    · exact absurd h1 hr
    · exact .inl h1
    · cases h1
theorem Km {α:Type} {V:α->Value} {LW:α->List As} (hw:BD ⟨W,none⟩ w L) (a:α) (hs:(LW a).Sublist L) (hS:HN ⟨W,none⟩ S (LW a)) {v:Value} (hv:v=V a):DT V LW S W (.returned v) w:=⟨a,by rw [hv],hw.out,hw.gives hs hS⟩
theorem HN.nil:HN w0 S []:=λy hy=>by cases hy
theorem HN.own {x:As} (hx:x.ro=false) (h:HN w0 S G):HN w0 S (x::G):=λy hy hr b e=>by
  rcases List.mem_cons.1 hy with rfl|hy
  · rw [hx] at hr;cases hr
  · exact h y hy hr b e
theorem HN.row {α:Type} [Cc α] {a:α} {x:As} (ha:At w0 S a) (hx:Cc.rows a=[x]) (h:HN w0 S G):HN w0 S (x::G):=λy hy hr b e=>by
  rcases List.mem_cons.1 hy with rfl|hy
  · exact ha y (by rw [hx];exact List.mem_cons_self) b e
  · exact h y hy hr b e
end
section
variable {P:Program} {ops:Array Oper} {rest:List Oper} {Q:Exit->Act->World->Prop} {n d:Nat} {F:List (Nat×Value)} {w0:A_} {S:Nat->Prop} {L:List As} {t:TypeId} {p:String} {af:Array Edge} {y:Operand} {f:FuncId} {xs:List Operand} {args:List Value} {ts:Array TypeId} {α:Type} {V:α->Value} {LW:α->List As}
theorem OkL.callL (hc:∀args w,(callFunc f args).run P w=.ok (.enter f args) w) (h:∀w,BD w0 w L->Calls P f args.toArray w (DT V LW (SL w0 S L) w))
    (h2:(evF F y,xs.map (evF F),Nat.ble (d+1) n)=(some (.func (.func f) #[] #[]),args.map some,true)) (next:∀a:α,HN w0 S (LW a)->OkL P ops rest Q n ((d,V a)::F) w0 (LW a++L)) :
    OkL P ops (⟨some d,.call { callee:=.value y,args:=xs.toArray,argTypes:=ts },t,p,af,none⟩::rest) Q n F w0 L:=λa w ha hW=>by
  unfold wpList
  rw [if_pos (AP rfl a ha)]
  left
  unfold Oper.wp
  rw [Ap (CS h2) (CS (BO h2)) hc a w ha hW,Oper.upon_enter]
  refine (h w hW).mono ?_
  rintro e w' ⟨x,rfl,hb,hg⟩
  refine next x (λz hz hr b e=>?_) _ _ (ha.put (Bj (BO (BO h2)))) (hW.give hb hg)
  rcases (hg.1 z hz b e).1 with h3|⟨_,h3⟩
  · exact .inl (Nat.le_trans hW.size h3)
  · exact h3.2
end
structure OX (T z:Nat) (cs:List Value) (n:Nat) where
  p:Option Addr
  c:Nat
  ok:OwnOk p n c
@[reducible] def UE {T z:Nat} {cs:List Value} {n:Nat} (a:OX T z cs n):Value:=.slice a.p n a.c
@[reducible] def Nq {T z:Nat} {cs:List Value} {n:Nat} (a:OX T z cs n):List As:=[rowW a.p T z n a.c cs]
@[reducible] def YV {T z:Nat} {cs:List Value} {n:Nat} (a:OX T z cs n):Value:=.slice a.p n n
theorem OwnOk.clip {p:Option Addr} {n c:Nat} (h:OwnOk p n c):Av p n n:=⟨λe=>⟨(h.nil e).1,(h.nil e).1⟩,λa e=>by rw [h.at0 a e],Nat.le_refl _⟩
theorem Wc (p:Pt):((BC p).all λu=>u.oneCell')=true:=rfl
theorem VA (t:Tq3):((Ad t).all λu=>u.oneCell')=true:=rfl
theorem DB {α:Type} {enc:α->List Value} (h:∀x,((enc x).all λu=>u.oneCell')=true):∀xs:List α,((rowsL enc xs).all λu=>u.oneCell')=true
  | []=>rfl
  | x::r=>by
    have e:rowsL enc (x::r)=enc x++rowsL enc r:=rfl
    rw [e,List.all_append,h x,DB h r];rfl
theorem Tc {A B vs:List Value} {r:Nat} (h:r+vs.length<=A.length):F6 (A++B) r vs=F6 A r vs++B:=by
  unfold F6
  rw [List.take_append_of_le_length Z,List.drop_append_of_le_length h,<-List.append_assoc]
theorem Rg {A B vs:List Value} {o:Nat}:F6 (A++B) (A.length+o) vs=A++F6 B o vs:=by
  unfold F6
  rw [List.take_append,List.take_of_length_le Z,Nat.add_sub_cancel_left,List.drop_append,List.drop_of_length_le Z,show A.length+o+vs.length-A.length=o+vs.length by omega]
  simp
theorem LD {α:Type} {enc:α->List Value} {z:Nat} (hl:∀x,(enc x).length=z) (d:α) {r:Nat} {vs:List Value} {x':α}:∀{xs:List α} {j:Nat},j<xs.length->r+vs.length<=z->F6 (enc (xs.getD j d)) r vs=enc x'->F6 (rowsL enc xs) (j*z+r) vs=rowsL enc (xs.set j x')
  | x::q,0,_,h2,h3=>by
    have e:∀y,rowsL enc (y::q)=enc y++rowsL enc q:=λ_=>rfl
    rw [Nat.zero_mul,Nat.zero_add,List.set_cons_zero,e,e,Tc (by rw [hl];exact h2)]
    exact congrArg (·++rowsL enc q) h3
  | x::q,j+1,h1,h2,h3=>by
    have e:∀y l,rowsL enc (y::l)=enc y++rowsL enc l:=λ_ _=>rfl
    rw [List.set_cons_succ,e,e,show (j+1)*z+r=(enc x).length+(j*z+r) by rw [hl,Nat.add_mul];omega,Rg,LD hl d (by simpa using h1) h2 (by simpa using h3)]
section
variable {P:Program} {ops:Array Oper} {rest:List Oper} {Q:Exit->Act->World->Prop} {n d:Nat} {F:List (Nat×Value)} {w0:A_} {S:Nat->Prop} {L L':List As} {t ty T:TypeId} {p:String} {af:Array Edge} {x y:Operand} {dd:Option Tmp} {g:Option (Nat×Bool)} {q:Option Addr} {z m c:Nat} {cs vs:List Value} {v:Value}
theorem HD {tx ye e:TypeId} (hx:evF F x=some (.slice q m c)) (hy:evF F y=some (.slice none 0 0)) (hu:P.underlying tx=some (.slice e)):Ex P n F w0 L ⟨dd,.binOp .eql tx x y ye,t,p,af,g⟩ (.bool q.isNone):=λA w ha _=>by
  have h1:(eqGuard .eql tx x y (.slice q m c) (.slice none 0 0)).run P w=.ok () w:=rfl
  simp only [execOp,ha.ev hx,ha.ev hy,Sem.run_bind,h1,Result.andThen_ok,Lib.run_eql_slice_nil w tx e q m c 0 0 hu,Sem.run_pure]
theorem OkL.appendE0 {s:Operand} {bytes c2:Nat} {q2:Option Addr} {news:List Value} (ht:ElemT P t T z bytes) (hs:evF F s=some (.slice q 0 c)) (ho:OwnOk q 0 c)
    (hx:evF F x=some (.slice q2 m c2)) (hsrc:YY w0 (rowW q T z 0 c []::L) q2 m news) (hnl:news.length=m*z) (h1:(news.all λu=>u.oneCell')=true) (h63:m<=maxLen) (hbytes:m*bytes<=140737488355328) (hd:Nat.ble (d+1) n=true)
    (next:∀p' c',OwnOk p' m c'->OkL P ops rest Q n ((d,.slice p' m c')::F) w0 (rowW p' T z m c' news::L)) :
    OkL P ops (⟨some d,.call { callee:=.builtin .append,args:=#[s,x],argTypes:=#[t,t] },ty,p,af,none⟩::rest) Q n F w0 (rowW q T z 0 c []::L):=by
  refine OkL.appendS0 (cs2:=news) ht hs ho (by simp) hx hsrc hnl h1 (by rw [Nat.zero_add];exact h63) (by rw [Nat.zero_add];exact hbytes) O hd λp' c' h=>?_
  rw [Nat.zero_add] at h ⊢
  exact next p' c' h
theorem OkL.storeObj (i:Nat) {α:Type} {enc:α->List Value} {j r:Nat} {x':α} {xs:List α} (df:α) (hlen:∀a,(enc a).length=z) (ho:OwnOk q m c) (hxs:xs.length=m) (hx:evF F x=some (pP (pB q) (pO q+(j*z+r)))) (hy:evF F y=some v) (hi:L[i]?=some (rowW q T z m c (rowsL enc xs))) (hq:q≠none) (hj:j<m)
    (hv:v.cells=vs.toArray) (hs:∀w,(sizeOf ty).run P w=.ok vs.length w) (h1:(vs.all λu=>u.oneCell',Nat.ble (r+vs.length) z,M9 L i (rowW q T z m c (rowsL enc (xs.set j x'))))=(true,true,some L')) (he:F6 (enc (xs.getD j df)) r vs=enc x')
    (next:OkL P ops rest Q n F w0 L'):OkL P ops (⟨none,.store ty x y,t,p,af,none⟩::rest) Q n F w0 L:=by
  have hz:=Nat.le_of_ble_eq_true (CS (BO h1))
  have hjz:(j+1)*z<=m*z:=Nat.mul_le_mul_right z hj
  rw [Nat.add_mul] at hjz
  refine OkL.storeRow i hx hy hi ho (by rw [Aa hlen,hxs]) hq hv hs (CS h1) Z ?_
  rw [LD hlen df Z hz he,Gg (BO (BO h1))]
  exact next
theorem OkL.frzRow (i:Nat) (hi:L[i]?=some (rowW q T z m c cs)) (ho:OwnOk q m c) (hl:cs.length=m*z) (hex:w0.ex=none) (hs:M9 L i (AE q cs)=some L') (next:(∀b,q.map (·.block)=some b->w0.w.heap.size<=b)->OkL P ops rest Q n F w0 L'):OkL P ops rest Q n F w0 L:=λa w ha hw=>by
  refine next (λb e=>?_) a w ha (Gg hs▸hw.freeze hi O (λo hp=>B3 ho hl hp) (λe=>by cases e))
  rcases (hw.2.1 _ (List.mem_of_getElem? hi) b e).1 with h1|h1|h1
  · cases h1
  · exact h1
  · rw [hex] at h1;cases h1
theorem At.new {n:Nat} {cs:List Value} {a:RX cs n} (h:∀b,a.p.map (·.block)=some b->w0.w.heap.size<=b):At w0 S a:=λy hy b e=>by
  rcases List.mem_singleton.1 hy with rfl
  exact .inl (h b e)
end
structure bH (ps:List Pt) (ts ss:List (Tq3)) where
  a:OX 99 10 (rowsL BC ps) ps.length
  b:OX 105 3 (rowsL Ad ts) ts.length
  c:OX 110 3 (rowsL Ad ss) ss.length
@[reducible] def bL {ps:List Pt} {ts ss:List (Tq3)} (x:bH ps ts ss):List As:=[rowW x.c.p 110 3 ss.length x.c.c (rowsL Ad ss),rowW x.b.p 105 3 ts.length x.b.c (rowsL Ad ts),rowW x.a.p 99 10 ps.length x.a.c (rowsL BC ps)]
structure W2 (ps:List Pt) (ts ss:List (Tq3)) (l:List Nat) (e:Nat) where
  m:MX ps ts ss
  q:RX (inL l) l.length
theorem Yj {ps:List Pt} {ts ss:List (Tq3)} {l:List Nat} {e:Nat} {x:W2 ps ts ss l e} {y:As} (hy:y∈[x.m.a.row,x.m.b.row,x.m.c.row,x.q.row]):y.ro=true:=by
  simp only [List.mem_cons,List.not_mem_nil,or_false] at hy
  rcases hy with rfl|rfl|rfl|rfl<;>rfl
instance {ps:List Pt} {ts ss:List (Tq3)} {l:List Nat} {e:Nat}:Cc (W2 ps ts ss l e):=⟨λx=>.tuple #[aG (FT x.m),x.q.val,vN e],λx=>[x.m.a.row,x.m.b.row,x.m.c.row,x.q.row],λx y hy=>Yj hy⟩
theorem Ys {S:Nat->Prop} {W w:World} {L:List As} {ps:List Pt} {ts ss:List (Tq3)} (hw:BD ⟨W,none⟩ w L) (i j k:Nat) {p1 p2 p3:Option Addr} {T1 T3 n1 n2 n3 c1 c2 c3:Nat}
    (h1:L[i]?=some (rowW p1 T1 10 n1 c1 (rowsL BC ps))) (h2:L[j]?=some (AE p2 (rowsL Ad ts))) (h3:L[k]?=some (rowW p3 T3 3 n3 c3 (rowsL Ad ss))) (o1:OwnOk p1 n1 c1) (o2:Av p2 n2 c2) (b2:∀b,p2.map (·.block)=some b->W.heap.size<=b) (o3:OwnOk p3 n3 c3) (e1:n1=ps.length) (e2:n2=ts.length) (e3:n3=ss.length)
    {v:Value} (hv:v=aG [.slice p1 n1 n1,.slice p2 n2 c2,.slice p3 n3 n3]):Af (MX ps ts ss) S W (.returned v) w:=by
  subst e1;subst e2;subst e3
  refine ⟨⟨⟨p1,ps.length,o1.clip⟩,⟨p2,c2,o2⟩,⟨p3,ss.length,o3.clip⟩⟩,by rw [hv];rfl,hw.out,λy hy=>?_⟩
  have hy:y∈[AE p1 (rowsL BC ps),AE p2 (rowsL Ad ts),AE p3 (rowsL Ad ss)]:=hy
  simp only [List.mem_cons,List.not_mem_nil,or_false] at hy
  rcases hy with rfl|rfl|rfl
  · exact Cs hw i h1 o1 (Aa Bk _)
  · exact ⟨hw.holds h2,λb e=>.inl (b2 b e)⟩
  · exact Cs hw k h3 o3 (Aa Az _)
section
variable {P:Program} {ops:Array Oper} {rest:List Oper} {Q:Exit->Act->World->Prop} {n d:Nat} {F:List (Nat×Value)} {w0:A_} {S:Nat->Prop} {L:List As} {t:TypeId} {p:String} {af:Array Edge} {y:Operand} {f:FuncId} {xs:List Operand} {args:List Value} {tys:Array TypeId} {ps:List Pt} {ts ss:List (Tq3)} {l:List Nat} {e:Nat}
theorem cM (hc:∀args w,(callFunc f args).run P w=.ok (.enter f args) w) (h:∀w,BD w0 w L->Calls P f args.toArray w (Af (MX ps ts ss) (SL w0 S L) w))
    (h2:(evF F y,xs.map (evF F),Nat.ble (d+1) n)=(some (.func (.func f) #[] #[]),args.map some,true)) (next:∀a:MX ps ts ss,At w0 S a->OkL P ops rest Q n ((d,aG (FT a))::F) w0 (AE a.a.p (rowsL BC ps)::AE a.b.p (rowsL Ad ts)::AE a.c.p (rowsL Ad ss)::L)) :
    OkL P ops (⟨some d,.call { callee:=.value y,args:=xs.toArray,argTypes:=tys },t,p,af,none⟩::rest) Q n F w0 L:=OkL.callR hc h (CS h2) (CS (BO h2)) (BO (BO h2)) next
theorem bA (hc:∀args w,(callFunc f args).run P w=.ok (.enter f args) w) (h:∀w,BD w0 w L->Calls P f args.toArray w (Af (W2 ps ts ss l e) (SL w0 S L) w))
    (h2:(evF F y,xs.map (evF F),Nat.ble (d+1) n)=(some (.func (.func f) #[] #[]),args.map some,true)) (next:∀a:W2 ps ts ss l e,At w0 S a.m->At w0 S a.q->OkL P ops rest Q n ((d,.tuple #[aG (FT a.m),.slice a.q.p l.length a.q.c,vN e])::F) w0 (AE a.m.a.p (rowsL BC ps)::AE a.m.b.p (rowsL Ad ts)::AE a.m.c.p (rowsL Ad ss)::AE a.q.p (inL l)::L)) :
    OkL P ops (⟨some d,.call { callee:=.value y,args:=xs.toArray,argTypes:=tys },t,p,af,none⟩::rest) Q n F w0 L:=OkL.callR hc h (CS h2) (CS (BO h2)) (BO (BO h2)) λa ha =>
  next a (λz hz=>ha z (List.mem_append_left [a.q.row] (show z∈[a.m.a.row,a.m.b.row,a.m.c.row] from hz))) (λz hz=>ha z (by rcases List.mem_singleton.1 hz with rfl;exact List.mem_append_right [a.m.a.row,a.m.b.row,a.m.c.row] List.mem_cons_self))
end
theorem Y_ {S:Nat->Prop} {W w:World} {L:List As} {ps:List Pt} {ts ss:List (Tq3)} {l:List Nat} {e:Nat} (hw:BD ⟨W,none⟩ w L) {x:MX ps ts ss} (h:Ro (SL ⟨W,none⟩ S L) w x) (i:Nat) {q:Option Addr} {T n c:Nat} (hi:L[i]?=some (rowW q T 1 n c (inL l))) (ho:OwnOk q n c) (hl:n=l.length) {v:Value} (hv:v=.tuple #[aG (FT x),.slice q n c,vN e]):Af (W2 ps ts ss l e) S W (.returned v) w:=by
  subst hl
  refine ⟨⟨x,⟨q,c,ho.row⟩⟩,by rw [hv];rfl,hw.out,λy hy=>?_⟩
  have hy:y∈[x.a.row,x.b.row,x.c.row]++[AE q (inL l)]:=hy
  rcases List.mem_append.1 hy with hy|hy
  · have h1:=h y hy
    exact ⟨h1.1,λb e=>(h1.2 b e).2⟩
  · rcases List.mem_singleton.1 hy with rfl
    exact Cs hw i hi ho (by rw [Dz,Nat.mul_one])
end
section
section
variable {α β:Type} [DecidableEq α]
theorem C1 {kvs:List (α×β)} {x z:α} {y:β}:A7 (BN kvs x y) z=if z=x then some y else A7 kvs z:=by
  induction kvs with
  | nil=>rfl
  | cons p r ih =>
    obtain ⟨k,v⟩:=p
    unfold BN
    split
    · rename_i e
      subst e
      unfold A7
      split<;>rfl
    · rename_i e
      rw [A7,ih]
      by_cases h:z=k
      · rw [if_pos h,if_neg (λe2=>e (e2.symm.trans h)),A7,if_pos h]
      · rw [if_neg h]
        split
        · rfl
        · rw [A7,if_neg h]
end
section
variable {ts:List (Tq3)}
def B4 (ts:List (Tq3)) (u:Nat):P2:=(Gy (ts.getD (u/3) (0,0,0)) (u%3),Gy (ts.getD (u/3) (0,0,0)) ((u%3+1)%3))
def Gu (ts:List (Tq3)) (s a b:Nat) (z:Int):Prop:=(z = -1/\∀u,u<s->B4 ts u≠(a,b))\/∃u,u<s/\z=((u/3:Nat):Int)/\B4 ts u=(a,b)/\∀v,v<u->B4 ts v≠(a,b)
theorem Gu.none {s a b:Nat} (h:∀u,u<s->B4 ts u≠(a,b)):Gu ts s a b (-1):=.inl ⟨rfl,h⟩
theorem Gu.skip {s a b:Nat} {z:Int} (h:Gu ts s a b z) (hn:B4 ts s≠(a,b)):Gu ts (s+1) a b z:=by
  rcases h with ⟨h1,h2⟩|⟨u,h1,h2,h3,h4⟩
  · refine .inl ⟨h1,λu hu=>?_⟩
    rcases Nat.lt_or_ge u s with h|h
    · exact h2 u h
    · rw [show u=s by omega];exact hn
  · exact .inr ⟨u,Z,h2,h3,h4⟩
theorem Gu.take {s a b:Nat} (h:Gu ts s a b (-1)) (hn:B4 ts s=(a,b)):Gu ts (s+1) a b ((s/3:Nat):Int):=by
  rcases h with ⟨h1,h2⟩|⟨u,h1,h2,h3,h4⟩
  · exact .inr ⟨s,Z,rfl,hn,h2⟩
  · omega
theorem Gu.keep {s a b:Nat} {z:Int} (h:Gu ts s a b z) (hz:z ≠ -1):Gu ts (s+1) a b z:=by
  rcases h with ⟨h1,h2⟩|⟨u,h1,h2,h3,h4⟩
  · exact absurd h1 hz
  · exact .inr ⟨u,Z,h2,h3,h4⟩
structure Xl (ts:List (Tq3)) (s:Nat) (k:P2) (e:E4):Prop where
  ea:e.a=k.1
  eb:e.b=k.2
  lt:k.1<k.2
  l:Gu ts s k.1 k.2 e.l
  r:Gu ts s k.2 k.1 e.r
  some:∃u,u<s/\(B4 ts u=(k.1,k.2)\/B4 ts u=(k.2,k.1))
theorem JC (hd:∀u,u<3*ts.length->(B4 ts u).1≠(B4 ts u).2):∀s,s<=3*ts.length->(∀k e,A7 (CO ts s) k=some e->Xl ts s k e)/\(∀k,A7 (CO ts s) k=none->k.1<k.2->∀u,u<s->B4 ts u≠(k.1,k.2)/\B4 ts u≠(k.2,k.1))
  | 0,_=>⟨λk e h=>(by cases h),λk _ _ u hu=>absurd hu (Nat.not_lt_zero _)⟩
  | s+1,hs=>by
    obtain ⟨i1,i2⟩:=JC hd s Z
    have hne:=hd s Z
    obtain ⟨a,ha⟩:∃a,a=Gy (ts.getD (s/3) (0,0,0)) (s%3):=⟨_,rfl⟩
    obtain ⟨b,hb⟩:∃b,b=Gy (ts.getD (s/3) (0,0,0)) ((s%3+1)%3):=⟨_,rfl⟩
    have hdir:B4 ts s=(a,b):=by rw [ha,hb];rfl
    rw [hdir] at hne
    have hE:CO ts (s+1)=RK (CO ts s) (s/3) a b:=by rw [ha,hb];rfl
    rw [hE]
    unfold RK
    have hky:(Bw a b).1<(Bw a b).2:=by unfold Bw;simp only at hne ⊢;omega
    -- what the old edge,or the new one,knows
    have h0:∀e0,e0=(A7 (CO ts s) (Bw a b)).getD (IC (Bw a b))->e0.a=(Bw a b).1/\e0.b=(Bw a b).2/\Gu ts s (Bw a b).1 (Bw a b).2 e0.l/\Gu ts s (Bw a b).2 (Bw a b).1 e0.r:=by
      intro e0 he0
      cases hg:A7 (CO ts s) (Bw a b) with
      | none =>
        rw [hg] at he0
        have h2:=i2 _ hg hky
        subst he0
        exact ⟨rfl,rfl,Gu.none λu hu=>(h2 u hu).1,Gu.none λu hu=>(h2 u hu).2⟩
      | some e =>
        rw [hg] at he0
        have h2:=i1 _ _ hg
        subst he0
        exact ⟨h2.ea,h2.eb,h2.l,h2.r⟩
    constructor
    · intro k e hk
      rw [C1] at hk
      split at hk
      · rename_i e1
        injection hk with hk
        obtain ⟨c1,c2,c3,c4⟩:=h0 _ rfl
        obtain ⟨e0,he0⟩:∃e0,e0=(A7 (CO ts s) (Bw a b)).getD (IC (Bw a b)):=⟨_,rfl⟩
        rw [<-he0] at hk c1 c2 c3 c4
        subst hk
        have hends:=LZ e0 (s/3) a b
        rw [e1]
        rcases Nat.lt_or_ge a b with hab|hab
        · have k1:(Bw a b).1=a:=by unfold Bw;simp only;omega
          have k2:(Bw a b).2=b:=by unfold Bw;simp only;omega
          rw [k1,k2] at c3 c4
          refine ⟨hends.1.trans c1,hends.2.trans c2,hky,?_,?_,s,Z,.inl (by rw [k1,k2];exact hdir)⟩<;>rw [k1,k2]
          · unfold FL
            by_cases hl:e0.l = -1
            · rw [if_pos ⟨hab,hl⟩]
              rw [hl] at c3
              exact c3.take hdir
            · rw [if_neg (λh=>hl h.2),if_neg (λh=>by omega)]
              exact c3.keep hl
          · have hn2:B4 ts s≠(b,a):=by rw [hdir];intro h;injection h with h _;omega
            unfold FL
            split
            · exact c4.skip hn2
            · rw [if_neg (λh=>by omega)]
              exact c4.skip hn2
        · have hba:b<a:=by simp only at hne;omega
          have k1:(Bw a b).1=b:=by unfold Bw;simp only;omega
          have k2:(Bw a b).2=a:=by unfold Bw;simp only;omega
          rw [k1,k2] at c3 c4
          have hn2:B4 ts s≠(b,a):=by rw [hdir];intro h;injection h with h _;omega
          refine ⟨hends.1.trans c1,hends.2.trans c2,hky,?_,?_,s,Z,.inr (by rw [k1,k2];exact hdir)⟩<;>rw [k1,k2]
          · unfold FL
            rw [if_neg (λh=>by omega)]
            split
            · exact c3.skip hn2
            · exact c3.skip hn2
          · unfold FL
            rw [if_neg (λh=>by omega)]
            by_cases hl:e0.r = -1
            · rw [if_pos ⟨hba,hl⟩]
              rw [hl] at c4
              exact c4.take hdir
            · rw [if_neg (λh=>hl h.2)]
              exact c4.keep hl
      · rename_i e1
        obtain ⟨a1,a2,a3,a4,a5,u,a6,a7⟩:=i1 k e hk
        have n1:B4 ts s≠(k.1,k.2):=by
          rw [hdir];intro h;injection h with h1 h2
          exact e1 (Prod.ext (by unfold Bw;simp only;omega) (by unfold Bw;simp only;omega))
        have n2:B4 ts s≠(k.2,k.1):=by
          rw [hdir];intro h;injection h with h1 h2
          exact e1 (Prod.ext (by unfold Bw;simp only;omega) (by unfold Bw;simp only;omega))
        exact ⟨a1,a2,a3,a4.skip n1,a5.skip n2,u,Z,a7⟩
    · intro k hk hlt u hu
      rw [C1] at hk
      split at hk
      · cases hk
      · rename_i e1
        rcases Nat.lt_or_ge u s with h|h
        · exact i2 k hk hlt u h
        · rw [show u=s by omega,hdir]
          constructor
          · intro h;injection h with h1 h2
            exact e1 (Prod.ext (by unfold Bw;simp only;omega) (by unfold Bw;simp only;omega))
          · intro h;injection h with h1 h2
            exact e1 (Prod.ext (by unfold Bw;simp only;omega) (by unfold Bw;simp only;omega))
theorem VQ {N:Nat} (hn:Bn N ts=true) (hN:N<=4611686018427387904) (hd:∀u,u<3*ts.length->(B4 ts u).1≠(B4 ts u).2) {e:E4} (he:e∈An ts):Xl ts (3*ts.length) (e.a,e.b) e:=by
  unfold An at he
  obtain ⟨p,hp,h1⟩:=List.mem_map.1 ((DV _).mem_iff.1 he)
  obtain ⟨j,hj,h2⟩:=List.getElem_of_mem hp
  have h3:=I4 (x:=p.1) (v:=p.2) (FH hn hN _ (Nat.le_refl _)).once (show (CO ts (3*ts.length))[j]?=some (p.1,p.2) by rw [List.getElem?_eq_getElem hj,h2])
  have h4:=(JC hd _ (Nat.le_refl _)).1 _ _ h3
  rw [h1] at h4
  rw [show (e.a,e.b)=p.1 from Prod.ext h4.ea h4.eb]
  exact h4
end
end
section
theorem OY {P:Program} {k e:TypeId} (hu:P.underlying k=some (.array 2 e)) (he:P.underlying e=some (.int .i64)) (ce:P.cellsOf e=1) (ck:P.cellsOf k=2) (hk:P.keyType k=true) (hr:k<P.types.size)
    {a b:Int} (wa:(Lit.int .i64 a).wf=true) (wb:(Lit.int .i64 b).wf=true):∃l,keyOf P k (.agg #[.int .i64 a,.int .i64 b])=some l:=by
  have h0:0<P.types.size:=Nat.lt_of_le_of_lt (Nat.zero_le _) hr
  obtain ⟨d,hd⟩:∃d,P.types.size=d+1:=⟨P.types.size-1,Z⟩
  have hf:(Value.agg #[.int .i64 a,.int .i64 b]).formed P k=true:=by
    unfold Value.formed
    simp only [hu,ck]
    rfl
  have hl:P.keyLits (P.types.size+1) k (Value.agg #[.int .i64 a,.int .i64 b]).cells.toList=some [.int .i64 a,.int .i64 b]:=by
    rw [hd]
    unfold Program.keyLits
    simp only [hu]
    show (if ([Value.int .i64 a,Value.int .i64 b]:List Value).length=P.cellsOf k then _ else _)=_
    rw [if_pos (by rw [ck];rfl)]
    have e0:P.keyLits (d+1) e ((([Value.int .i64 a,Value.int .i64 b]:List Value).drop (0*P.cellsOf e)).take (P.cellsOf e))=some [.int .i64 a]:=by
      rw [ce];exact E5 he d wa
    have e1:P.keyLits (d+1) e ((([Value.int .i64 a,Value.int .i64 b]:List Value).drop (1*P.cellsOf e)).take (P.cellsOf e))=some [.int .i64 b]:=by
      rw [ce];exact E5 he d wb
    show (List.mapM (λi=>P.keyLits (d+1) e ((([Value.int .i64 a,Value.int .i64 b]:List Value).drop (i*P.cellsOf e)).take (P.cellsOf e))) [0,1]).map List.flatten=_
    simp only [List.mapM_cons,List.mapM_nil,e0,e1]
    rfl
  refine ⟨.string (keyBytes [.int .i64 a,.int .i64 b]),?_⟩
  unfold keyOf
  simp only [hu,hk,hf,Bool.and_self,if_true,hl]
  rfl
theorem WY {P:Program} (hl:laidOutB P=true) {k e:TypeId} (hr:k<P.types.size) (ht:P.keyTypeAt 2 k=true) (hw:(match P.underlying k with|some (.array _ _)|some (.struct _)=>true|_=>false)=true) (hu:P.underlying k=some (.array 2 e)) (he:P.underlying e=some (.int .i64)) (ce:P.cellsOf e=1) (ck:P.cellsOf k=2) (hk:P.keyType k=true):MI P k E3 Ml where
  law:=.of_law (deep_law_laid hl (m:=2) (by decide) hr ht hw)
  key:=λa h=>OY hu he ce ck hk hr (H_ h.1) (H_ h.2)
  inj:=λa b h=>Jd h
theorem X4 {a b:Nat} (ha:a<4611686018427387904) (hb:b<4611686018427387904):Ml (a,b):=⟨ha,hb⟩
def Cf {α β:Type} [DecidableEq α]:List (α×β)->α->Nat
  | [],_=>0
  | (k,v)::r,x=>if x=k then 0 else Cf r x+1
section
variable {α β:Type} {enc:α->Value} {eV:β->Value} {ok:α->Prop} {P:Program} {kt:TypeId} {n:Nat} {F:List (Nat×Value)} {w0:A_} {L:List As} {d:Nat} {mp kp vp sp:Operand} {t:TypeId} {pp:String} {af:Array Edge} {g:Option (Nat×Bool)} {tx et:TypeId} {b:Nat} {ops:Array Oper} {rest:List Oper} {Q:Exit->Act->World->Prop}
def OV {α β:Type} [DecidableEq α] (b:Nat) (enc:α->Value) (eV:β->Value) (kvs:List (α×β)) (x:α) (v:β):As:=⟨some b,λo=>o=.map (entsM enc eV kvs 0).toArray kvs.length\/o=.map (entsM enc eV (BN kvs x v) 0).toArray (BN kvs x v).length,false⟩
variable [DecidableEq α]
theorem Lk:∀{kvs:List (α×β)} {x:α} {v:β},A7 kvs x=some v->BN kvs x v=kvs
  | (k,u)::r,x,v,h=>by
    unfold A7 at h
    unfold BN
    split at h
    · rename_i e;injection h with h;rw [if_pos e,h]
    · rename_i e;rw [if_neg e,Lk h]
theorem HU:∀{kvs:List (α×β)} {x:α} {v:β},(BN kvs x v)[Cf kvs x]?=some (x,v)
  | [],_,_=>rfl
  | (k,u)::r,x,v=>by
    unfold BN Cf
    split
    · rename_i e;rw [List.getElem?_cons_zero,e]
    · rw [List.getElem?_cons_succ,HU]
theorem Na {x:α} {u v:β}:∀{kvs:List (α×β)},(BN kvs x u).set (Cf kvs x) (x,v)=BN kvs x v
  | []=>rfl
  | (k,w)::r=>by
    by_cases e:x=k
    · simp [BN,Cf,e]
    · simp [BN,Cf,e,Na]
theorem NS:∀{kvs:List (α×β)} {j:Nat} {x:α} {v:β},kvs.Pairwise (λp q=>p.1≠q.1)->kvs[j]?=some (x,v)->Cf kvs x=j
  | (k,u)::r,0,x,v,_,h=>by
    simp only [List.getElem?_cons_zero,Option.some.injEq,Prod.mk.injEq] at h
    rw [Cf,if_pos h.1.symm]
  | (k,u)::r,j+1,x,v,hp,h=>by
    obtain ⟨h1,h2⟩:=List.pairwise_cons.1 hp
    rw [List.getElem?_cons_succ] at h
    rw [Cf,if_neg (λe=>h1 (x,v) (List.mem_of_getElem? h) e.symm),NS h2 h]
theorem Jn:∀{kvs:List (α×β)} {x:α},(∀p∈kvs,p.1≠x)->Cf kvs x=kvs.length
  | [],_,_=>rfl
  | (k,v)::r,x,h=>by
    rw [Cf,if_neg (λe=>h (k,v) List.mem_cons_self e.symm),Jn λp hp=>h p (List.mem_cons_of_mem _ hp)];rfl
theorem WP {i:Nat} {kvs:List (α×β)} (x:α) (v:β) (hi:L[i]?=some (CE b enc eV kvs)):Wk (L.set i (OV b enc eV kvs x v)) L:=λw0 w hw=>by
  exact hw.freeze (i:=i) (y:=OV b enc eV kvs x v) hi O (λo h=>.inl h) (λe=>by cases e)
theorem Sw {i:Nat} {kvs:List (α×β)} (x:α) (v:β) (hi:L[i]?=some (CE b enc eV (BN kvs x v))):Wk (L.set i (OV b enc eV kvs x v)) L:=λw0 w hw=>by
  exact hw.freeze (i:=i) (y:=OV b enc eV kvs x v) hi O (λo h=>.inr h) (λe=>by cases e)
theorem aT (i:Nat) {kvs:List (α×β)} {x:α} {v:β} {LA:List As} (hi:L[i]?=some (CE b enc eV kvs)) (hs:M9 L i (OV b enc eV kvs x v)=some LA):Wk LA L:=Gg hs▸WP x v hi
theorem XK (i:Nat) {kvs:List (α×β)} {x:α} {v:β} {LA:List As} (hi:L[i]?=some (CE b enc eV (BN kvs x v))) (hs:M9 L i (OV b enc eV kvs x v)=some LA):Wk LA L:=Gg hs▸Sw x v hi
theorem HK (K:MI P kt enc ok) (i:Nat) {kvs:List (α×β)} {x:α} {z0 v:β} {dd:Option Tmp} (hx:evF F mp=some (.map (some b))) (hk:evF F kp=some (enc x)) (ht:P.underlying tx=some (.map kt et)) (hz:∀w,(zeroValue et).run P w=.ok (eV z0) w) (hi:L[i]?=some (OV b enc eV kvs x v)) (hm:Hi ok kvs) (hok:ok x) (hv:v=(A7 kvs x).getD z0) :
    Ex P n F w0 L ⟨dd,.lookup tx mp kp false,t,pp,af,g⟩ (eV v):=λA w ha hw=>by
  obtain ⟨_,o,ho,hp⟩:=hw.2.1 _ (List.mem_of_getElem? hi) b rfl
  obtain ⟨lx,hlx⟩:=K.key x hok
  have hc:=λem=>K.law.check w em hlx
  have key:∀kvs':List (α×β),Hi ok kvs'->(A7 kvs' x).getD z0=v->w.heap[b]?=some (.map (entsM enc eV kvs' 0).toArray kvs'.length)->(execOp A.eval ⟨dd,.lookup tx mp kp false,t,pp,af,g⟩).run P w=.ok (.value (eV v)) w:=λkvs' hm' hg ho=>by
    rcases Gr (eV:=eV) K hm' hok w with ⟨h1,_,h2⟩|⟨j,u,_,h1,h2⟩
    · rw [h1] at hg
      simp only [execOp,ha.ev hx,ha.ev hk,Instr.lookup,Sem.run_bind,run_underlying ht,B9 ho,Result.andThen_ok,Sem.run_pure,hc,List.toList_toArray,h2,hz]
      rw [<-hg];rfl
    · rw [h1] at hg
      simp only [execOp,ha.ev hx,ha.ev hk,Instr.lookup,Sem.run_bind,run_underlying ht,B9 ho,Result.andThen_ok,Sem.run_pure,hc,List.toList_toArray,h2]
      rw [<-hg];rfl
  rcases hp with hp|hp
  · exact key kvs hm hv.symm (by rw [ho,hp])
  · exact key (BN kvs x v) (hm.put hok) (by rw [C1,if_pos O];rfl) (by rw [ho,hp])
theorem OkL.mapEntry (K:MI P kt enc ok) (i:Nat) {kvs:List (α×β)} {x:α} {z0 v:β} (hx:evF F mp=some (.map (some b))) (hk:evF F kp=some (enc x)) (ht:P.underlying tx=some (.map kt et)) (hz:∀w,(zeroValue et).run P w=.ok (eV z0) w) (hi:L[i]?=some (CE b enc eV kvs)) (hm:Hi ok kvs) (hok:ok x) (hv:v=(A7 kvs x).getD z0) (hd:Nat.ble (d+1) n=true)
    (next:OkL P ops rest Q n ((d,.tuple #[eV v,vN (Cf kvs x)])::F) w0 (L.set i (CE b enc eV (BN kvs x v)))):OkL P ops (⟨some d,.mapEntry tx mp kp,t,pp,af,none⟩::rest) Q n F w0 L:=λa w ha hW=>by
  obtain ⟨_,o,ho,hp⟩:=hW.2.1 _ (List.mem_of_getElem? hi) b rfl
  have ho:w.heap[b]?=some (.map (entsM enc eV kvs 0).toArray kvs.length):=by rw [ho,hp]
  obtain ⟨lx,hlx⟩:=K.key x hok
  have hc:=λem=>K.law.check w em hlx
  have hst:=K.law.stays w hlx
  have hrun:(execOp a.eval ⟨some d,.mapEntry tx mp kp,t,pp,af,none⟩).run P w=.ok (.value (.tuple #[eV v,vN (Cf kvs x)])) (Go.ChangeMaps.setBlock w b (.map (entsM enc eV (BN kvs x v) 0).toArray (BN kvs x v).length)):=by
    rcases Gr (eV:=eV) K hm hok w with ⟨h0,h1,h2⟩|⟨j,u,hj,h1,h2⟩
    · rw [h0] at hv
      simp only [Option.getD_none] at hv
      subst hv
      rw [IM h1,Jn h1,Fv,List.length_append]
      simp only [execOp,ha.ev hx,ha.ev hk,Instr.mapEntry,Sem.run_bind,run_underlying ht,B9 ho,Result.andThen_ok,hc,List.toList_toArray,h2,hz,Dv ho,Sem.run_pure,List.push_toArray,Nat.zero_add,List.length_singleton]
      rfl
    · rw [h1] at hv
      simp only [Option.getD_some] at hv
      subst hv
      rw [Lk h1,NS hm.once hj]
      have e1:(entsM enc eV kvs 0)[j]?=some ⟨enc x,eV v,0+j⟩:=by rw [Co,hj];rfl
      have e2:=GM (enc:=enc) (eV:=eV) (y:=v) hj
      have e3:kvs.set j (x,v)=kvs:=by
        apply List.ext_getElem?
        intro q
        rw [List.getElem?_set]
        split
        · rename_i e;subst e;split
          · exact hj.symm
          · rename_i h9;rw [List.getElem?_eq_none Z]
        · rfl
      rw [e3] at e2
      have e4:(entsM enc eV kvs 0).toArray.modify j (λe=>{ e with key:=enc x })=(entsM enc eV kvs 0).toArray:=by
        apply Array.ext_getElem?
        intro q
        rw [Array.getElem?_modify]
        simp only [List.getElem?_toArray]
        split
        · rename_i e;subst e;rw [e1];rfl
        · rfl
      simp only [execOp,ha.ev hx,ha.ev hk,Instr.mapEntry,Sem.run_bind,run_underlying ht,B9 ho,Result.andThen_ok,hc,List.toList_toArray,List.getElem?_toArray,h2,e1,hst,e4,Dv ho,Sem.run_pure,Option.map_some,Option.getD_some]
      simp [goInt,e1,hst,e4,Dv ho,Result.andThen]
  unfold wpList
  rw [if_pos (AP rfl a ha)]
  left
  unfold Oper.wp
  rw [hrun,Oper.upon_value]
  exact next _ _ (ha.put (Bj hd)) (hW.turn hi O O (Ea _ _ _) ⟨_,FB ho,rfl⟩)
theorem OkL.entryStore (i:Nat) {kvs:List (α×β)} {x:α} {u y:β} (hx:evF F mp=some (.map (some b))) (hs:evF F sp=some (vN (Cf kvs x))) (hv:evF F vp=some (eV y)) (hi:L[i]?=some (CE b enc eV (BN kvs x u)))
    (next:OkL P ops rest Q n F w0 (L.set i (CE b enc eV (BN kvs x y)))):OkL P ops (⟨none,.entryStore tx mp sp vp,t,pp,af,none⟩::rest) Q n F w0 L:=λa w ha hW=>by
  obtain ⟨_,o,ho,hp⟩:=hW.2.1 _ (List.mem_of_getElem? hi) b rfl
  have ho:w.heap[b]?=some (.map (entsM enc eV (BN kvs x u) 0).toArray (BN kvs x u).length):=by rw [ho,hp]
  have hf:=HU (kvs:=kvs) (x:=x) (v:=u)
  have hlt:Cf kvs x<(BN kvs x u).length:=(List.getElem?_eq_some_iff.1 hf).1
  have e0:(entsM enc eV (BN kvs x u) 0)[Cf kvs x]?=some ⟨enc x,eV u,Cf kvs x⟩:=by rw [Co,hf];simp
  have hnd:((entsM enc eV (BN kvs x u) 0).map (·.born)).Nodup:=by
    have e1:∀(l:List (α×β)) (s:Nat),(entsM enc eV l s).map (·.born)=List.range' s l.length:=by
      intro l
      induction l with
      | nil=>intro s;rfl
      | cons p r ih=>intro s;rw [entsM,List.map_cons,ih,List.length_cons,List.range'_succ]
    rw [e1];exact List.nodup_range'
  have hidx:(entsM enc eV (BN kvs x u) 0).toArray.findIdx? (λe=>((e.born:Nat):Int) == ((Cf kvs x:Nat):Int))=some (Cf kvs x):=by
    rw [WideElems.findIdx_arr]
    exact WideElems.findIdx_born hnd e0
  have hset:(BN kvs x u).set (Cf kvs x) (x,y)=BN kvs x y:=Na
  have hmod:=GM (enc:=enc) (eV:=eV) (y:=y) hf
  have hmod2:(entsM enc eV (BN kvs x u) 0).toArray.modify (Cf kvs x) (λe=>{ e with val:=eV y })=(entsM enc eV (BN kvs x y) 0).toArray:=by
    rw [<-hset,<-hmod]
    apply Array.ext_getElem?
    intro q
    rw [Array.getElem?_modify,Array.getElem?_modify]
    simp only [List.getElem?_toArray]
    split
    · rename_i e;subst e;rw [e0];rfl
    · rfl
  have hl2:(BN kvs x y).length=(BN kvs x u).length:=by rw [<-hset,List.length_set]
  have hrun:(execOp a.eval ⟨none,.entryStore tx mp sp vp,t,pp,af,none⟩).run P w=.ok .skip (Go.ChangeMaps.setBlock w b (.map (entsM enc eV (BN kvs x y) 0).toArray (BN kvs x y).length)):=by
    rw [<-hmod2,hl2]
    simp only [execOp,ha.ev hx,ha.ev hs,ha.ev hv,Instr.entryStore,Sem.run_bind,B9 ho,Result.andThen_ok,asInt,asIntOf,Sem.run_pure,hidx,Dv ho]
  unfold wpList
  rw [if_pos (AP rfl a ha)]
  left
  unfold Oper.wp
  rw [hrun,Oper.upon_skip]
  exact next _ _ ha.put_none (hW.turn hi O O (Ea _ _ _) ⟨_,FB ho,rfl⟩)
end
end
end Go.Proofs.YtpolhpjiahbidaaGreatDoor
