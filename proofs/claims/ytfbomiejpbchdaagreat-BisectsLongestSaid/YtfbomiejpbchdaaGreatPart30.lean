import Derived.Lib.SliceRun
import Derived.WideKeyEntry
import Derived.Test.YtfbomiejpbchdaaGreatPart04
import Derived.Test.YtfbomiejpbchdaaGreatPart14
import Derived.Test.YtfbomiejpbchdaaGreatPart25
import Derived.Test.YtfbomiejpbchdaaGreatPart28
import Derived.Test.YtfbomiejpbchdaaGreatPart29
namespace Go.Proofs.YtfbomiejpbchdaaGreat
open Go Go.RowKit Go.Proofs.Tryz
set_option linter.unusedVariables false
set_option linter.unusedSimpArgs false
def inL (l:List Nat):List Value:=l.map λ(d:Nat)=>vN d
theorem Dk (l:List Nat):(inL l).length=l.length:=by simp [inL]
theorem NL {l:List Nat} {j:Nat} (h:j<l.length):(inL l)[j*1]?=some (vN (l.getD j 0)):=by simp [inL,h]
theorem EE (a b:List Nat):inL (a++b)=inL a++inL b:=by simp [inL]
section
set_option maxRecDepth 100000
theorem R2:ElemT prog 33 3 1 8:=⟨underlying33,EU (by kernel_rfl)⟩
theorem TB (p:Option Addr) (n cp:Nat) (h:n<=cp) (w:World)  :Calls prog 81 #[(Value.slice p n cp)] w (Aq w (Value.slice p n n)):=by
 refine Ae (args:=[(Value.slice p n cp)]) func81 O O (Ac O) (AF.subF (sL [0] O) (q4 (AL O (AE.nil (q2 ?_)))))
 refine AS O (AS O (AH (v:=(vN n)) (AG O underlying33) O (AS O (AH (v:=(vN n)) (AG O underlying33) O (AH (v:=(Value.slice p n n)) (Dc (m:=n) O O O underlying33 sizeOf3 Z) O ?_)))))
 exact AL O (AE.nil (AD.subF (sL [2] O) (AD.then_ (AF.ret (AR O (Ai (v:=(Value.slice p n n)) O) (λw hw=>⟨rfl,hw.out⟩))))))
theorem Us {ps:List Pt} {ts ss:List (Nat×Nat×Nat)} (x:MX ps ts ss) (hl:ts.length<=1000000000) (hN:ps.length<=4611686018427387904) (hnb:CD ps.length ts=true) (w:World) {S:Nat->Prop} (hx:Ro S w x):Calls prog 13 #[(aG (Bk x))] w (BV (RX (rowsL B6 (Br ts)) (Br ts).length) S w):=by
 have lx:=DU (W:=w) hx
 refine A6 (args:=[(aG (Bk x))]) (L:=[AY x.a.p (rowsL Am ps),AY x.b.p (rowsL Af ts),AY x.c.p (rowsL Af ss)]) func13 O O (Ac O) (DV hx BN) (AF.subF (sL [0] O) (q4 (Bg (cs:=Bk x) O λb1=>AL O (q6 (sL [1,2] O) ?_))))
 refine q4 (BA 0 C_ O (Ee (args:=[(aG (Bk x))]) (v:=(Value.bool true)) call46 (λw hw=>(by have h9:=My x Z w (Cq hw 1 O lx);rw [hnb] at h9;exact h9)) O (AH (BZ (c:=false) O O) O (AE.nil (AD.subF (sL [1,2,5] O) ?_)))))
 refine AD.then_ (AF.cond_false O (AF.skip (q2 (AH (v:=(pP b1 1)) (AA O underlying31 O sizeOf28 O) O (BJ 0 (Value.slice x.b.p ts.length x.b.c) B4 O ?_)))))
 exact cX (S:=S) (cs:=rowsL B6 (Br ts)) (k:=(Br ts).length) (args:=[(Value.slice x.b.p ts.length x.b.c)]) call49 (λw hw=>OA ts x.b ps.length hnb hN hl w (Ot (Cq hw 1 O lx))) O O O λo lo=>AL O (AE.nil (AD.subF (sL [1,2] O) (AD.then_ (AF.ret (AR O (Ai (v:=(Value.slice o.p ((Br ts).length) o.c)) O) (λw hw=>ZA hw (Cq hw 0 O lo) O))))))
end
section
def YU (S:Nat->Prop) (W w:World) (G:List As):Prop :=
  (∀x∈G,∀b,x.foot=some b->(W.heap.size<=b\/(x.ro=true/\S b))/\∃o,w.heap[b]?=some o/\x.P o)/\G.Pairwise λx y=>(x.ro=true/\y.ro=true)\/∀b,x.foot=some b->y.foot≠some b
def Ho {α:Type} (V:α->Value) (LW:α->List As) (S:Nat->Prop) (W:World) (e:Ending) (w:World):Prop:=∃a:α,e=.returned (V a)/\FE W.heap.size W w/\YU S W w (LW a)
def He (w0:BM) (S:Nat->Prop) (G:List As):Prop:=∀y∈G,y.ro=true->∀b,y.foot=some b->Nw w0 S b
theorem He.mem {w0:BM} {S:Nat->Prop} {G:List As} (h:He w0 S G) {α:Type} [EI α] {a:α} (hs:∀y∈EI.rows a,y∈G):At w0 S a:=λy hy b e=>h y (hs y hy) (EI.ro a y hy) b e
section
variable {w0:BM} {S:Nat->Prop} {w w' W:World} {L G:List As}
theorem Own.give (h:Own w0 w L) (hb:FE w.heap.size w w') (hg:YU (SL w0 S L) w w' G):Own w0 w' (G++L):=by
  have h1:=h.below hb
  refine ⟨h1.1,λy hy b e=>?_,List.pairwise_append.2 ⟨hg.2,h1.2.2,λx hx y hy=>?_⟩⟩
  · rcases List.mem_append.1 hy with hy|hy
    · obtain ⟨h2,h3⟩:=hg.1 y hy b e
      refine ⟨?_,h3⟩
      rcases h2 with h2|⟨h2,_⟩
      · exact .inr (.inl (Nat.le_trans h.size h2))
      · exact .inl h2
    · exact h1.2.1 y hy b e
  · by_cases hr:x.ro=true/\y.ro=true
    · exact .inl hr
    · refine .inr λb e e2=>?_
      rcases (hg.1 x hx b e).1 with h2|⟨h2,⟨z,hz,hzr,hzf⟩,_⟩
      · exact absurd (h.lt hy e2) Z
      · have hyr:¬y.ro=true:=λk=>hr ⟨h2,k⟩
        obtain ⟨i,hi,rfl⟩:=List.getElem_of_mem hz
        obtain ⟨j,hj,rfl⟩:=List.getElem_of_mem hy
        have hp:=List.pairwise_iff_getElem.1 h.2.2
        rcases Nat.lt_trichotomy i j with hij|hij|hij
        · exact (hp i j hi hj hij).elim (λk=>hyr k.2) (λk=>k b hzf e2)
        · subst hij;exact hyr hzr
        · exact (hp j i hj hi hij).elim (λk=>hyr k.1) (λk=>k b e2 hzf)
theorem Own.gives (h:Own ⟨W,none⟩ w L) (hs:G.Sublist L) (hS:He ⟨W,none⟩ S G):YU S W w G:=by
  refine ⟨λx hx b e=>?_,h.2.2.sublist hs⟩
  obtain ⟨h1,h2⟩:=h.2.1 x (hs.subset hx) b e
  refine ⟨?_,h2⟩
  by_cases hr:x.ro=true
  · rcases hS x hx hr b e with h3|h3
    · exact .inl h3
    · exact .inr ⟨hr,h3⟩
  · rcases h1 with h1|h1|h1
    · exact absurd h1 hr
    · exact .inl h1
    · cases h1
theorem N3 {α:Type} {V:α->Value} {LW:α->List As} (hw:Own ⟨W,none⟩ w L) (a:α) (hs:(LW a).Sublist L) (hS:He ⟨W,none⟩ S (LW a)) {v:Value} (hv:v=V a):Ho V LW S W (.returned v) w:=⟨a,by rw [hv],hw.out,hw.gives hs hS⟩
theorem He.nil:He w0 S []:=λy hy=>by cases hy
theorem He.own {x:As} (hx:x.ro=false) (h:He w0 S G):He w0 S (x::G):=λy hy hr b e=>by
  rcases List.mem_cons.1 hy with rfl|hy
  · rw [hx] at hr;cases hr
  · exact h y hy hr b e
theorem He.row {α:Type} [EI α] {a:α} {x:As} (ha:At w0 S a) (hx:EI.rows a=[x]) (h:He w0 S G):He w0 S (x::G):=λy hy hr b e=>by
  rcases List.mem_cons.1 hy with rfl|hy
  · exact ha y (by rw [hx];exact List.mem_cons_self) b e
  · exact h y hy hr b e
end
section
variable {P:Program} {ops:Array Oper} {rest:List Oper} {Q:Exit->Act->World->Prop} {n d:Nat} {F:List (Nat×Value)} {w0:BM} {S:Nat->Prop} {L:List As} {t:TypeId} {p:String} {af:Array Edge} {y:Operand} {f:FuncId} {xs:List Operand} {args:List Value} {ts:Array TypeId} {α:Type} {V:α->Value} {LW:α->List As}
theorem AE.callL (hc:∀args w,(callFunc f args).run P w=.ok (.enter f args) w) (h:∀w,Own w0 w L->Calls P f args.toArray w (Ho V LW (SL w0 S L) w))
    (h2:(evF F y,xs.map (evF F),Nat.ble (d+1) n)=(some (.func (.func f) #[] #[]),args.map some,true)) (next:∀a:α,He w0 S (LW a)->AE P ops rest Q n ((d,V a)::F) w0 (LW a++L)) :
    AE P ops (⟨some d,.call { callee:=.value y,args:=xs.toArray,argTypes:=ts },t,p,af,none⟩::rest) Q n F w0 L:=λa w ha hW=>by
  unfold wpList
  rw [if_pos (AK rfl a ha)]
  left
  unfold Oper.wp
  rw [A_ (Cz h2) (Cz (Bb h2)) hc a w ha hW,Oper.upon_enter]
  refine (h w hW).mono ?_
  rintro e w' ⟨x,rfl,hb,hg⟩
  refine next x (λz hz hr b e=>?_) _ _ (ha.put (CI (Bb (Bb h2)))) (hW.give hb hg)
  rcases (hg.1 z hz b e).1 with h3|⟨_,h3⟩
  · exact .inl (Nat.le_trans hW.size h3)
  · exact h3.2
end
structure OX (T z:Nat) (cs:List Value) (n:Nat) where
  p:Option Addr
  c:Nat
  ok:OwnOk p n c
@[reducible] def V0 {T z:Nat} {cs:List Value} {n:Nat} (a:OX T z cs n):Value:=.slice a.p n a.c
@[reducible] def SB {T z:Nat} {cs:List Value} {n:Nat} (a:OX T z cs n):List As:=[rowW a.p T z n a.c cs]
@[reducible] def Yj {T z:Nat} {cs:List Value} {n:Nat} (a:OX T z cs n):Value:=.slice a.p n n
theorem OwnOk.clip {p:Option Addr} {n c:Nat} (h:OwnOk p n c):BI p n n:=⟨λe=>⟨(h.nil e).1,(h.nil e).1⟩,λa e=>by rw [h.at0 a e],Nat.le_refl _⟩
theorem Wa (p:Pt):((Am p).all λu=>u.oneCell')=true:=rfl
theorem Py (t:Nat×Nat×Nat):((Af t).all λu=>u.oneCell')=true:=rfl
theorem Gt {α:Type} {enc:α->List Value} (h:∀x,((enc x).all λu=>u.oneCell')=true):∀xs:List α,((rowsL enc xs).all λu=>u.oneCell')=true
  | []=>rfl
  | x::r=>by
    have e:rowsL enc (x::r)=enc x++rowsL enc r:=rfl
    rw [e,List.all_append,h x,Gt h r];rfl
theorem Sb {A B vs:List Value} {r:Nat} (h:r+vs.length<=A.length):GF (A++B) r vs=GF A r vs++B:=by
  unfold GF
  rw [List.take_append_of_le_length Z,List.drop_append_of_le_length h,<-List.append_assoc]
theorem RM {A B vs:List Value} {o:Nat}:GF (A++B) (A.length+o) vs=A++GF B o vs:=by
  unfold GF
  rw [List.take_append,List.take_of_length_le Z,Nat.add_sub_cancel_left,List.drop_append,List.drop_of_length_le Z,show A.length+o+vs.length-A.length=o+vs.length by omega]
  simp
theorem MN {α:Type} {enc:α->List Value} {z:Nat} (hl:∀x,(enc x).length=z) (d:α) {r:Nat} {vs:List Value} {x':α}:∀{xs:List α} {j:Nat},j<xs.length->r+vs.length<=z->GF (enc (xs.getD j d)) r vs=enc x'->GF (rowsL enc xs) (j*z+r) vs=rowsL enc (xs.set j x')
  | x::q,0,_,h2,h3=>by
    have e:∀y,rowsL enc (y::q)=enc y++rowsL enc q:=λ_=>rfl
    rw [Nat.zero_mul,Nat.zero_add,List.set_cons_zero,e,e,Sb (by rw [hl];exact h2)]
    exact congrArg (·++rowsL enc q) h3
  | x::q,j+1,h1,h2,h3=>by
    have e:∀y l,rowsL enc (y::l)=enc y++rowsL enc l:=λ_ _=>rfl
    rw [List.set_cons_succ,e,e,show (j+1)*z+r=(enc x).length+(j*z+r) by rw [hl,Nat.add_mul];omega,RM,MN hl d (by simpa using h1) h2 (by simpa using h3)]
section
variable {P:Program} {ops:Array Oper} {rest:List Oper} {Q:Exit->Act->World->Prop} {n d:Nat} {F:List (Nat×Value)} {w0:BM} {S:Nat->Prop} {L L':List As} {t ty T:TypeId} {p:String} {af:Array Edge} {x y:Operand} {dd:Option Tmp} {g:Option (Nat×Bool)} {q:Option Addr} {z m c:Nat} {cs vs:List Value} {v:Value}
theorem HS {tx ye e:TypeId} (hx:evF F x=some (.slice q m c)) (hy:evF F y=some (.slice none 0 0)) (hu:P.underlying tx=some (.slice e)):Ex P n F w0 L ⟨dd,.binOp .eql tx x y ye,t,p,af,g⟩ (.bool q.isNone):=λA w ha _=>by
  have h1:(eqGuard .eql tx x y (.slice q m c) (.slice none 0 0)).run P w=.ok () w:=rfl
  simp only [execOp,ha.ev hx,ha.ev hy,Sem.run_bind,h1,Result.andThen_ok,Lib.run_eql_slice_nil w tx e q m c 0 0 hu,Sem.run_pure]
theorem AE.appendE0 {s:Operand} {bytes c2:Nat} {q2:Option Addr} {news:List Value} (ht:ElemT P t T z bytes) (hs:evF F s=some (.slice q 0 c)) (ho:OwnOk q 0 c)
    (hx:evF F x=some (.slice q2 m c2)) (hsrc:Zh w0 (rowW q T z 0 c []::L) q2 m news) (hnl:news.length=m*z) (h1:(news.all λu=>u.oneCell')=true) (h63:m<=maxLen) (hbytes:m*bytes<=140737488355328) (hd:Nat.ble (d+1) n=true)
    (next:∀p' c',OwnOk p' m c'->AE P ops rest Q n ((d,.slice p' m c')::F) w0 (rowW p' T z m c' news::L)) :
    AE P ops (⟨some d,.call { callee:=.builtin .append,args:=#[s,x],argTypes:=#[t,t] },ty,p,af,none⟩::rest) Q n F w0 (rowW q T z 0 c []::L):=by
  refine AE.appendS0 (cs2:=news) ht hs ho (by simp) hx hsrc hnl h1 (by rw [Nat.zero_add];exact h63) (by rw [Nat.zero_add];exact hbytes) O hd λp' c' h=>?_
  rw [Nat.zero_add] at h ⊢
  exact next p' c' h
theorem AE.storeObj (i:Nat) {α:Type} {enc:α->List Value} {j r:Nat} {x':α} {xs:List α} (df:α) (hlen:∀a,(enc a).length=z) (ho:OwnOk q m c) (hxs:xs.length=m) (hx:evF F x=some (pP (pB q) (pO q+(j*z+r)))) (hy:evF F y=some v) (hi:L[i]?=some (rowW q T z m c (rowsL enc xs))) (hq:q≠none) (hj:j<m)
    (hv:v.cells=vs.toArray) (hs:∀w,(sizeOf ty).run P w=.ok vs.length w) (h1:(vs.all λu=>u.oneCell',Nat.ble (r+vs.length) z,OS L i (rowW q T z m c (rowsL enc (xs.set j x'))))=(true,true,some L')) (he:GF (enc (xs.getD j df)) r vs=enc x')
    (next:AE P ops rest Q n F w0 L'):AE P ops (⟨none,.store ty x y,t,p,af,none⟩::rest) Q n F w0 L:=by
  have hz:=Nat.le_of_ble_eq_true (Cz (Bb h1))
  have hjz:(j+1)*z<=m*z:=Nat.mul_le_mul_right z hj
  rw [Nat.add_mul] at hjz
  refine AE.storeRow i hx hy hi ho (by rw [Aa hlen,hxs]) hq hv hs (Cz h1) Z ?_
  rw [MN hlen df Z hz he,G2 (Bb (Bb h1))]
  exact next
theorem AE.frzRow (i:Nat) (hi:L[i]?=some (rowW q T z m c cs)) (ho:OwnOk q m c) (hl:cs.length=m*z) (hex:w0.ex=none) (hs:OS L i (AY q cs)=some L') (next:(∀b,q.map (·.block)=some b->w0.w.heap.size<=b)->AE P ops rest Q n F w0 L'):AE P ops rest Q n F w0 L:=λa w ha hw=>by
  refine next (λb e=>?_) a w ha (G2 hs▸hw.freeze hi O (λo hp=>DT ho hl hp) (λe=>by cases e))
  rcases (hw.2.1 _ (List.mem_of_getElem? hi) b e).1 with h1|h1|h1
  · cases h1
  · exact h1
  · rw [hex] at h1;cases h1
theorem At.new {n:Nat} {cs:List Value} {a:RX cs n} (h:∀b,a.p.map (·.block)=some b->w0.w.heap.size<=b):At w0 S a:=λy hy b e=>by
  rcases List.mem_singleton.1 hy with rfl
  exact .inl (h b e)
end
theorem WE {S:Nat->Prop} {w:World} {ps:List Pt} {ts ss:List (Nat×Nat×Nat)} {x:MX ps ts ss} (h:Ro S w x):Ro S w x.c:=λy hy=>by rcases List.mem_singleton.1 hy with rfl;exact h _ (List.mem_cons_of_mem _ (List.mem_cons_of_mem _ List.mem_cons_self))
structure ZK (ps:List Pt) (ts ss:List (Nat×Nat×Nat)) where
  a:OX 55 10 (rowsL Am ps) ps.length
  b:OX 76 3 (rowsL Af ts) ts.length
  c:OX 44 3 (rowsL Af ss) ss.length
def aK {ps:List Pt} {ts ss:List (Nat×Nat×Nat)} (x:ZK ps ts ss):List Value:=[Yj x.a,Yj x.b,Yj x.c]
@[reducible] def aF {ps:List Pt} {ts ss:List (Nat×Nat×Nat)} (x:ZK ps ts ss):List As:=[rowW x.c.p 44 3 ss.length x.c.c (rowsL Af ss),rowW x.b.p 76 3 ts.length x.b.c (rowsL Af ts),rowW x.a.p 55 10 ps.length x.a.c (rowsL Am ps)]
structure VD (ps:List Pt) (ts ss:List (Nat×Nat×Nat)) (l:List Nat) (e:Nat) where
  m:MX ps ts ss
  q:RX (inL l) l.length
theorem ZO {ps:List Pt} {ts ss:List (Nat×Nat×Nat)} {l:List Nat} {e:Nat} {x:VD ps ts ss l e} {y:As} (hy:y∈[x.m.a.row,x.m.b.row,x.m.c.row,x.q.row]):y.ro=true:=by
  simp only [List.mem_cons,List.not_mem_nil,or_false] at hy
  rcases hy with rfl|rfl|rfl|rfl<;>rfl
instance {ps:List Pt} {ts ss:List (Nat×Nat×Nat)} {l:List Nat} {e:Nat}:EI (VD ps ts ss l e):=⟨λx=>.tuple #[aG (Bk x.m),x.q.val,vN e],λx=>[x.m.a.row,x.m.b.row,x.m.c.row,x.q.row],λx y hy=>ZO hy⟩
theorem Y_ {S:Nat->Prop} {W w:World} {L:List As} {ps:List Pt} {ts ss:List (Nat×Nat×Nat)} (hw:Own ⟨W,none⟩ w L) (i j k:Nat) {p1 p2 p3:Option Addr} {T1 T3 n1 n2 n3 c1 c2 c3:Nat}
    (h1:L[i]?=some (rowW p1 T1 10 n1 c1 (rowsL Am ps))) (h2:L[j]?=some (AY p2 (rowsL Af ts))) (h3:L[k]?=some (rowW p3 T3 3 n3 c3 (rowsL Af ss))) (o1:OwnOk p1 n1 c1) (o2:BI p2 n2 c2) (b2:∀b,p2.map (·.block)=some b->W.heap.size<=b) (o3:OwnOk p3 n3 c3) (e1:n1=ps.length) (e2:n2=ts.length) (e3:n3=ss.length)
    {v:Value} (hv:v=aG [.slice p1 n1 n1,.slice p2 n2 c2,.slice p3 n3 n3]):BV (MX ps ts ss) S W (.returned v) w:=by
  subst e1;subst e2;subst e3
  refine ⟨⟨⟨p1,ps.length,o1.clip⟩,⟨p2,c2,o2⟩,⟨p3,ss.length,o3.clip⟩⟩,by rw [hv];rfl,hw.out,λy hy=>?_⟩
  have hy:y∈[AY p1 (rowsL Am ps),AY p2 (rowsL Af ts),AY p3 (rowsL Af ss)]:=hy
  simp only [List.mem_cons,List.not_mem_nil,or_false] at hy
  rcases hy with rfl|rfl|rfl
  · exact Ef hw i h1 o1 (Aa BG _)
  · exact ⟨hw.holds h2,λb e=>.inl (b2 b e)⟩
  · exact Ef hw k h3 o3 (Aa Ah _)
section
variable {P:Program} {ops:Array Oper} {rest:List Oper} {Q:Exit->Act->World->Prop} {n d:Nat} {F:List (Nat×Value)} {w0:BM} {S:Nat->Prop} {L:List As} {t:TypeId} {p:String} {af:Array Edge} {y:Operand} {f:FuncId} {xs:List Operand} {args:List Value} {tys:Array TypeId} {ps:List Pt} {ts ss:List (Nat×Nat×Nat)} {l:List Nat} {e:Nat}
theorem cM (hc:∀args w,(callFunc f args).run P w=.ok (.enter f args) w) (h:∀w,Own w0 w L->Calls P f args.toArray w (BV (MX ps ts ss) (SL w0 S L) w))
    (h2:(evF F y,xs.map (evF F),Nat.ble (d+1) n)=(some (.func (.func f) #[] #[]),args.map some,true)) (next:∀a:MX ps ts ss,At w0 S a->AE P ops rest Q n ((d,aG (Bk a))::F) w0 (AY a.a.p (rowsL Am ps)::AY a.b.p (rowsL Af ts)::AY a.c.p (rowsL Af ss)::L)) :
    AE P ops (⟨some d,.call { callee:=.value y,args:=xs.toArray,argTypes:=tys },t,p,af,none⟩::rest) Q n F w0 L:=AE.callR hc h (Cz h2) (Cz (Bb h2)) (Bb (Bb h2)) next
theorem aD (hc:∀args w,(callFunc f args).run P w=.ok (.enter f args) w) (h:∀w,Own w0 w L->Calls P f args.toArray w (BV (VD ps ts ss l e) (SL w0 S L) w))
    (h2:(evF F y,xs.map (evF F),Nat.ble (d+1) n)=(some (.func (.func f) #[] #[]),args.map some,true)) (next:∀a:VD ps ts ss l e,At w0 S a.m->At w0 S a.q->AE P ops rest Q n ((d,.tuple #[aG (Bk a.m),.slice a.q.p l.length a.q.c,vN e])::F) w0 (AY a.m.a.p (rowsL Am ps)::AY a.m.b.p (rowsL Af ts)::AY a.m.c.p (rowsL Af ss)::AY a.q.p (inL l)::L)) :
    AE P ops (⟨some d,.call { callee:=.value y,args:=xs.toArray,argTypes:=tys },t,p,af,none⟩::rest) Q n F w0 L:=AE.callR hc h (Cz h2) (Cz (Bb h2)) (Bb (Bb h2)) λa ha =>
  next a (λz hz=>ha z (List.mem_append_left [a.q.row] (show z∈[a.m.a.row,a.m.b.row,a.m.c.row] from hz))) (λz hz=>ha z (by rcases List.mem_singleton.1 hz with rfl;exact List.mem_append_right [a.m.a.row,a.m.b.row,a.m.c.row] List.mem_cons_self))
end
end
section
section
variable {α β:Type} [DecidableEq α]
theorem CV {kvs:List (α×β)} {x z:α} {y:β}:Ao (BT kvs x y) z=if z=x then some y else Ao kvs z:=by
  induction kvs with
  | nil=>rfl
  | cons p r ih =>
    obtain ⟨k,v⟩:=p
    unfold BT
    split
    · rename_i e
      subst e
      unfold Ao
      split<;>rfl
    · rename_i e
      rw [Ao,ih]
      by_cases h:z=k
      · rw [if_pos h,if_neg (λe2=>e (e2.symm.trans h)),Ao,if_pos h]
      · rw [if_neg h]
        split
        · rfl
        · rw [Ao,if_neg h]
end
section
variable {ts:List (Nat×Nat×Nat)}
def Bz (ts:List (Nat×Nat×Nat)) (u:Nat):P2:=(Bi (ts.getD (u/3) (0,0,0)) (u%3),Bi (ts.getD (u/3) (0,0,0)) ((u%3+1)%3))
def Jl (ts:List (Nat×Nat×Nat)) (s a b:Nat) (z:Int):Prop:=(z = -1/\∀u,u<s->Bz ts u≠(a,b))\/∃u,u<s/\z=((u/3:Nat):Int)/\Bz ts u=(a,b)/\∀v,v<u->Bz ts v≠(a,b)
theorem Jl.none {s a b:Nat} (h:∀u,u<s->Bz ts u≠(a,b)):Jl ts s a b (-1):=.inl ⟨rfl,h⟩
theorem Jl.skip {s a b:Nat} {z:Int} (h:Jl ts s a b z) (hn:Bz ts s≠(a,b)):Jl ts (s+1) a b z:=by
  rcases h with ⟨h1,h2⟩|⟨u,h1,h2,h3,h4⟩
  · refine .inl ⟨h1,λu hu=>?_⟩
    rcases Nat.lt_or_ge u s with h|h
    · exact h2 u h
    · rw [show u=s by omega];exact hn
  · exact .inr ⟨u,Z,h2,h3,h4⟩
theorem Jl.take {s a b:Nat} (h:Jl ts s a b (-1)) (hn:Bz ts s=(a,b)):Jl ts (s+1) a b ((s/3:Nat):Int):=by
  rcases h with ⟨h1,h2⟩|⟨u,h1,h2,h3,h4⟩
  · exact .inr ⟨s,Z,rfl,hn,h2⟩
  · omega
theorem Jl.keep {s a b:Nat} {z:Int} (h:Jl ts s a b z) (hz:z ≠ -1):Jl ts (s+1) a b z:=by
  rcases h with ⟨h1,h2⟩|⟨u,h1,h2,h3,h4⟩
  · exact absurd h1 hz
  · exact .inr ⟨u,Z,h2,h3,h4⟩
structure U8 (ts:List (Nat×Nat×Nat)) (s:Nat) (k:P2) (e:E4):Prop where
  ea:e.a=k.1
  eb:e.b=k.2
  lt:k.1<k.2
  l:Jl ts s k.1 k.2 e.l
  r:Jl ts s k.2 k.1 e.r
  some:∃u,u<s/\(Bz ts u=(k.1,k.2)\/Bz ts u=(k.2,k.1))
theorem Jk (hd:∀u,u<3*ts.length->(Bz ts u).1≠(Bz ts u).2):∀s,s<=3*ts.length->(∀k e,Ao (Ci ts s) k=some e->U8 ts s k e)/\(∀k,Ao (Ci ts s) k=none->k.1<k.2->∀u,u<s->Bz ts u≠(k.1,k.2)/\Bz ts u≠(k.2,k.1))
  | 0,_=>⟨λk e h=>(by cases h),λk _ _ u hu=>absurd hu (Nat.not_lt_zero _)⟩
  | s+1,hs=>by
    obtain ⟨i1,i2⟩:=Jk hd s Z
    have hne:=hd s Z
    obtain ⟨a,ha⟩:∃a,a=Bi (ts.getD (s/3) (0,0,0)) (s%3):=⟨_,rfl⟩
    obtain ⟨b,hb⟩:∃b,b=Bi (ts.getD (s/3) (0,0,0)) ((s%3+1)%3):=⟨_,rfl⟩
    have hdir:Bz ts s=(a,b):=by rw [ha,hb];rfl
    rw [hdir] at hne
    have hE:Ci ts (s+1)=RF (Ci ts s) (s/3) a b:=by rw [ha,hb];rfl
    rw [hE]
    unfold RF
    have hky:(B_ a b).1<(B_ a b).2:=by unfold B_;simp only at hne ⊢;omega
    -- what the old edge,or the new one,knows
    have h0:∀e0,e0=(Ao (Ci ts s) (B_ a b)).getD (IP (B_ a b))->e0.a=(B_ a b).1/\e0.b=(B_ a b).2/\Jl ts s (B_ a b).1 (B_ a b).2 e0.l/\Jl ts s (B_ a b).2 (B_ a b).1 e0.r:=by
      intro e0 he0
      cases hg:Ao (Ci ts s) (B_ a b) with
      | none =>
        rw [hg] at he0
        have h2:=i2 _ hg hky
        subst he0
        exact ⟨rfl,rfl,Jl.none λu hu=>(h2 u hu).1,Jl.none λu hu=>(h2 u hu).2⟩
      | some e =>
        rw [hg] at he0
        have h2:=i1 _ _ hg
        subst he0
        exact ⟨h2.ea,h2.eb,h2.l,h2.r⟩
    constructor
    · intro k e hk
      rw [CV] at hk
      split at hk
      · rename_i e1
        injection hk with hk
        obtain ⟨c1,c2,c3,c4⟩:=h0 _ rfl
        obtain ⟨e0,he0⟩:∃e0,e0=(Ao (Ci ts s) (B_ a b)).getD (IP (B_ a b)):=⟨_,rfl⟩
        rw [<-he0] at hk c1 c2 c3 c4
        subst hk
        have hends:=MA e0 (s/3) a b
        rw [e1]
        rcases Nat.lt_or_ge a b with hab|hab
        · have k1:(B_ a b).1=a:=by unfold B_;simp only;omega
          have k2:(B_ a b).2=b:=by unfold B_;simp only;omega
          rw [k1,k2] at c3 c4
          refine ⟨hends.1.trans c1,hends.2.trans c2,hky,?_,?_,s,Z,.inl (by rw [k1,k2];exact hdir)⟩<;>rw [k1,k2]
          · unfold FZ
            by_cases hl:e0.l = -1
            · rw [if_pos ⟨hab,hl⟩]
              rw [hl] at c3
              exact c3.take hdir
            · rw [if_neg (λh=>hl h.2),if_neg (λh=>by omega)]
              exact c3.keep hl
          · have hn2:Bz ts s≠(b,a):=by rw [hdir];intro h;injection h with h _;omega
            unfold FZ
            split
            · exact c4.skip hn2
            · rw [if_neg (λh=>by omega)]
              exact c4.skip hn2
        · have hba:b<a:=by simp only at hne;omega
          have k1:(B_ a b).1=b:=by unfold B_;simp only;omega
          have k2:(B_ a b).2=a:=by unfold B_;simp only;omega
          rw [k1,k2] at c3 c4
          have hn2:Bz ts s≠(b,a):=by rw [hdir];intro h;injection h with h _;omega
          refine ⟨hends.1.trans c1,hends.2.trans c2,hky,?_,?_,s,Z,.inr (by rw [k1,k2];exact hdir)⟩<;>rw [k1,k2]
          · unfold FZ
            rw [if_neg (λh=>by omega)]
            split
            · exact c3.skip hn2
            · exact c3.skip hn2
          · unfold FZ
            rw [if_neg (λh=>by omega)]
            by_cases hl:e0.r = -1
            · rw [if_pos ⟨hba,hl⟩]
              rw [hl] at c4
              exact c4.take hdir
            · rw [if_neg (λh=>hl h.2)]
              exact c4.keep hl
      · rename_i e1
        obtain ⟨a1,a2,a3,a4,a5,u,a6,a7⟩:=i1 k e hk
        have n1:Bz ts s≠(k.1,k.2):=by
          rw [hdir];intro h;injection h with h1 h2
          exact e1 (Prod.ext (by unfold B_;simp only;omega) (by unfold B_;simp only;omega))
        have n2:Bz ts s≠(k.2,k.1):=by
          rw [hdir];intro h;injection h with h1 h2
          exact e1 (Prod.ext (by unfold B_;simp only;omega) (by unfold B_;simp only;omega))
        exact ⟨a1,a2,a3,a4.skip n1,a5.skip n2,u,Z,a7⟩
    · intro k hk hlt u hu
      rw [CV] at hk
      split at hk
      · cases hk
      · rename_i e1
        rcases Nat.lt_or_ge u s with h|h
        · exact i2 k hk hlt u h
        · rw [show u=s by omega,hdir]
          constructor
          · intro h;injection h with h1 h2
            exact e1 (Prod.ext (by unfold B_;simp only;omega) (by unfold B_;simp only;omega))
          · intro h;injection h with h1 h2
            exact e1 (Prod.ext (by unfold B_;simp only;omega) (by unfold B_;simp only;omega))
theorem Wh {N:Nat} (hn:CD N ts=true) (hN:N<=4611686018427387904) (hd:∀u,u<3*ts.length->(Bz ts u).1≠(Bz ts u).2) {e:E4} (he:e∈Br ts):U8 ts (3*ts.length) (e.a,e.b) e:=by
  unfold Br at he
  obtain ⟨p,hp,h1⟩:=List.mem_map.1 ((Do _).mem_iff.1 he)
  obtain ⟨j,hj,h2⟩:=List.getElem_of_mem hp
  have h3:=Je (x:=p.1) (v:=p.2) (FW hn hN _ (Nat.le_refl _)).once (show (Ci ts (3*ts.length))[j]?=some (p.1,p.2) by rw [List.getElem?_eq_getElem hj,h2])
  have h4:=(Jk hd _ (Nat.le_refl _)).1 _ _ h3
  rw [h1] at h4
  rw [show (e.a,e.b)=p.1 from Prod.ext h4.ea h4.eb]
  exact h4
end
end
section
theorem PG {P:Program} {k e:TypeId} (hu:P.underlying k=some (.array 2 e)) (he:P.underlying e=some (.int .i64)) (ce:P.cellsOf e=1) (ck:P.cellsOf k=2) (hk:P.keyType k=true) (hr:k<P.types.size)
    {a b:Int} (wa:(Lit.int .i64 a).wf=true) (wb:(Lit.int .i64 b).wf=true):∃l,keyOf P k (.agg #[.int .i64 a,.int .i64 b])=some l:=by
  have h0:0<P.types.size:=Nat.lt_of_le_of_lt (Nat.zero_le _) hr
  obtain ⟨d,hd⟩:∃d,P.types.size=d+1:=⟨P.types.size-1,Z⟩
  have hf:(Value.agg #[.int .i64 a,.int .i64 b]).formed P k=true:=by
    unfold Value.formed
    simp only [hu,ck]
    rfl
  have hl:P.keyLits (P.types.size+1) k (Value.agg #[.int .i64 a,.int .i64 b]).cells.toList=some [.int .i64 a,.int .i64 b]:=by
    rw [hd]
    unfold Program.keyLits
    simp only [hu]
    show (if ([Value.int .i64 a,Value.int .i64 b]:List Value).length=P.cellsOf k then _ else _)=_
    rw [if_pos (by rw [ck];rfl)]
    have e0:P.keyLits (d+1) e ((([Value.int .i64 a,Value.int .i64 b]:List Value).drop (0*P.cellsOf e)).take (P.cellsOf e))=some [.int .i64 a]:=by
      rw [ce];exact FR he d wa
    have e1:P.keyLits (d+1) e ((([Value.int .i64 a,Value.int .i64 b]:List Value).drop (1*P.cellsOf e)).take (P.cellsOf e))=some [.int .i64 b]:=by
      rw [ce];exact FR he d wb
    show (List.mapM (λi=>P.keyLits (d+1) e ((([Value.int .i64 a,Value.int .i64 b]:List Value).drop (i*P.cellsOf e)).take (P.cellsOf e))) [0,1]).map List.flatten=_
    simp only [List.mapM_cons,List.mapM_nil,e0,e1]
    rfl
  refine ⟨.string (keyBytes [.int .i64 a,.int .i64 b]),?_⟩
  unfold keyOf
  simp only [hu,hk,hf,Bool.and_self,if_true,hl]
  rfl
theorem QC {P:Program} (hl:laidOutB P=true) {k e:TypeId} (hr:k<P.types.size) (ht:P.keyTypeAt 2 k=true) (hw:(match P.underlying k with|some (.array _ _)|some (.struct _)=>true|_=>false)=true) (hu:P.underlying k=some (.array 2 e)) (he:P.underlying e=some (.int .i64)) (ce:P.cellsOf e=1) (ck:P.cellsOf k=2) (hk:P.keyType k=true):Kg P k Dr JJ where
  law:=.of_law (deep_law_laid hl (m:=2) (by decide) hr ht hw)
  key:=λa h=>PG hu he ce ck hk hr (Id h.1) (Id h.2)
  inj:=λa b h=>J2 h
theorem XT {a b:Nat} (ha:a<4611686018427387904) (hb:b<4611686018427387904):JJ (a,b):=⟨ha,hb⟩
def C3 {α β:Type} [DecidableEq α]:List (α×β)->α->Nat
  | [],_=>0
  | (k,v)::r,x=>if x=k then 0 else C3 r x+1
section
variable {α β:Type} {enc:α->Value} {eV:β->Value} {ok:α->Prop} {P:Program} {kt:TypeId} {n:Nat} {F:List (Nat×Value)} {w0:BM} {L:List As} {d:Nat} {mp kp vp sp:Operand} {t:TypeId} {pp:String} {af:Array Edge} {g:Option (Nat×Bool)} {tx et:TypeId} {b:Nat} {ops:Array Oper} {rest:List Oper} {Q:Exit->Act->World->Prop}
def PC {α β:Type} [DecidableEq α] (b:Nat) (enc:α->Value) (eV:β->Value) (kvs:List (α×β)) (x:α) (v:β):As:=⟨some b,λo=>o=.map (entsM enc eV kvs 0).toArray kvs.length\/o=.map (entsM enc eV (BT kvs x v) 0).toArray (BT kvs x v).length,false⟩
variable [DecidableEq α]
theorem Lp:∀{kvs:List (α×β)} {x:α} {v:β},Ao kvs x=some v->BT kvs x v=kvs
  | (k,u)::r,x,v,h=>by
    unfold Ao at h
    unfold BT
    split at h
    · rename_i e;injection h with h;rw [if_pos e,h]
    · rename_i e;rw [if_neg e,Lp h]
theorem IC:∀{kvs:List (α×β)} {x:α} {v:β},(BT kvs x v)[C3 kvs x]?=some (x,v)
  | [],_,_=>rfl
  | (k,u)::r,x,v=>by
    unfold BT C3
    split
    · rename_i e;rw [List.getElem?_cons_zero,e]
    · rw [List.getElem?_cons_succ,IC]
theorem OK {x:α} {u v:β}:∀{kvs:List (α×β)},(BT kvs x u).set (C3 kvs x) (x,v)=BT kvs x v
  | []=>rfl
  | (k,w)::r=>by
    by_cases e:x=k
    · simp [BT,C3,e]
    · simp [BT,C3,e,OK]
theorem N1:∀{kvs:List (α×β)} {j:Nat} {x:α} {v:β},kvs.Pairwise (λp q=>p.1≠q.1)->kvs[j]?=some (x,v)->C3 kvs x=j
  | (k,u)::r,0,x,v,_,h=>by
    simp only [List.getElem?_cons_zero,Option.some.injEq,Prod.mk.injEq] at h
    rw [C3,if_pos h.1.symm]
  | (k,u)::r,j+1,x,v,hp,h=>by
    obtain ⟨h1,h2⟩:=List.pairwise_cons.1 hp
    rw [List.getElem?_cons_succ] at h
    rw [C3,if_neg (λe=>h1 (x,v) (List.mem_of_getElem? h) e.symm),N1 h2 h]
theorem KH:∀{kvs:List (α×β)} {x:α},(∀p∈kvs,p.1≠x)->C3 kvs x=kvs.length
  | [],_,_=>rfl
  | (k,v)::r,x,h=>by
    rw [C3,if_neg (λe=>h (k,v) List.mem_cons_self e.symm),KH λp hp=>h p (List.mem_cons_of_mem _ hp)];rfl
theorem V5 {i:Nat} {kvs:List (α×β)} (x:α) (v:β) (hi:L[i]?=some (CE b enc eV kvs)):Wk (L.set i (PC b enc eV kvs x v)) L:=λw0 w hw=>by
  exact hw.freeze (i:=i) (y:=PC b enc eV kvs x v) hi O (λo h=>.inl h) (λe=>by cases e)
theorem Tm {i:Nat} {kvs:List (α×β)} (x:α) (v:β) (hi:L[i]?=some (CE b enc eV (BT kvs x v))):Wk (L.set i (PC b enc eV kvs x v)) L:=λw0 w hw=>by
  exact hw.freeze (i:=i) (y:=PC b enc eV kvs x v) hi O (λo h=>.inr h) (λe=>by cases e)
theorem Zw (i:Nat) {kvs:List (α×β)} {x:α} {v:β} {LA:List As} (hi:L[i]?=some (CE b enc eV kvs)) (hs:OS L i (PC b enc eV kvs x v)=some LA):Wk LA L:=G2 hs▸V5 x v hi
theorem X6 (i:Nat) {kvs:List (α×β)} {x:α} {v:β} {LA:List As} (hi:L[i]?=some (CE b enc eV (BT kvs x v))) (hs:OS L i (PC b enc eV kvs x v)=some LA):Wk LA L:=G2 hs▸Tm x v hi
theorem Hj (K:Kg P kt enc ok) (i:Nat) {kvs:List (α×β)} {x:α} {z0 v:β} {dd:Option Tmp} (hx:evF F mp=some (.map (some b))) (hk:evF F kp=some (enc x)) (ht:P.underlying tx=some (.map kt et)) (hz:∀w,(zeroValue et).run P w=.ok (eV z0) w) (hi:L[i]?=some (PC b enc eV kvs x v)) (hm:HT ok kvs) (hok:ok x) (hv:v=(Ao kvs x).getD z0) :
    Ex P n F w0 L ⟨dd,.lookup tx mp kp false,t,pp,af,g⟩ (eV v):=λA w ha hw=>by
  obtain ⟨_,o,ho,hp⟩:=hw.2.1 _ (List.mem_of_getElem? hi) b rfl
  obtain ⟨lx,hlx⟩:=K.key x hok
  have hc:=λem=>K.law.check w em hlx
  have key:∀kvs':List (α×β),HT ok kvs'->(Ao kvs' x).getD z0=v->w.heap[b]?=some (.map (entsM enc eV kvs' 0).toArray kvs'.length)->(execOp A.eval ⟨dd,.lookup tx mp kp false,t,pp,af,g⟩).run P w=.ok (.value (eV v)) w:=λkvs' hm' hg ho=>by
    rcases Fb (eV:=eV) K hm' hok w with ⟨h1,_,h2⟩|⟨j,u,_,h1,h2⟩
    · rw [h1] at hg
      simp only [execOp,ha.ev hx,ha.ev hk,Instr.lookup,Sem.run_bind,run_underlying ht,CF ho,Result.andThen_ok,Sem.run_pure,hc,List.toList_toArray,h2,hz]
      rw [<-hg];rfl
    · rw [h1] at hg
      simp only [execOp,ha.ev hx,ha.ev hk,Instr.lookup,Sem.run_bind,run_underlying ht,CF ho,Result.andThen_ok,Sem.run_pure,hc,List.toList_toArray,h2]
      rw [<-hg];rfl
  rcases hp with hp|hp
  · exact key kvs hm hv.symm (by rw [ho,hp])
  · exact key (BT kvs x v) (hm.put hok) (by rw [CV,if_pos O];rfl) (by rw [ho,hp])
theorem AE.mapEntry (K:Kg P kt enc ok) (i:Nat) {kvs:List (α×β)} {x:α} {z0 v:β} (hx:evF F mp=some (.map (some b))) (hk:evF F kp=some (enc x)) (ht:P.underlying tx=some (.map kt et)) (hz:∀w,(zeroValue et).run P w=.ok (eV z0) w) (hi:L[i]?=some (CE b enc eV kvs)) (hm:HT ok kvs) (hok:ok x) (hv:v=(Ao kvs x).getD z0) (hd:Nat.ble (d+1) n=true)
    (next:AE P ops rest Q n ((d,.tuple #[eV v,vN (C3 kvs x)])::F) w0 (L.set i (CE b enc eV (BT kvs x v)))):AE P ops (⟨some d,.mapEntry tx mp kp,t,pp,af,none⟩::rest) Q n F w0 L:=λa w ha hW=>by
  obtain ⟨_,o,ho,hp⟩:=hW.2.1 _ (List.mem_of_getElem? hi) b rfl
  have ho:w.heap[b]?=some (.map (entsM enc eV kvs 0).toArray kvs.length):=by rw [ho,hp]
  obtain ⟨lx,hlx⟩:=K.key x hok
  have hc:=λem=>K.law.check w em hlx
  have hst:=K.law.stays w hlx
  have hrun:(execOp a.eval ⟨some d,.mapEntry tx mp kp,t,pp,af,none⟩).run P w=.ok (.value (.tuple #[eV v,vN (C3 kvs x)])) (Go.ChangeMaps.setBlock w b (.map (entsM enc eV (BT kvs x v) 0).toArray (BT kvs x v).length)):=by
    rcases Fb (eV:=eV) K hm hok w with ⟨h0,h1,h2⟩|⟨j,u,hj,h1,h2⟩
    · rw [h0] at hv
      simp only [Option.getD_none] at hv
      subst hv
      rw [Ik h1,KH h1,GB,List.length_append]
      simp only [execOp,ha.ev hx,ha.ev hk,Instr.mapEntry,Sem.run_bind,run_underlying ht,CF ho,Result.andThen_ok,hc,List.toList_toArray,h2,hz,EG ho,Sem.run_pure,List.push_toArray,Nat.zero_add,List.length_singleton]
      rfl
    · rw [h1] at hv
      simp only [Option.getD_some] at hv
      subst hv
      rw [Lp h1,N1 hm.once hj]
      have e1:(entsM enc eV kvs 0)[j]?=some ⟨enc x,eV v,0+j⟩:=by rw [C8,hj];rfl
      have e2:=GY (enc:=enc) (eV:=eV) (y:=v) hj
      have e3:kvs.set j (x,v)=kvs:=by
        apply List.ext_getElem?
        intro q
        rw [List.getElem?_set]
        split
        · rename_i e;subst e;split
          · exact hj.symm
          · rename_i h9;rw [List.getElem?_eq_none Z]
        · rfl
      rw [e3] at e2
      have e4:(entsM enc eV kvs 0).toArray.modify j (λe=>{ e with key:=enc x })=(entsM enc eV kvs 0).toArray:=by
        apply Array.ext_getElem?
        intro q
        rw [Array.getElem?_modify]
        simp only [List.getElem?_toArray]
        split
        · rename_i e;subst e;rw [e1];rfl
        · rfl
      simp only [execOp,ha.ev hx,ha.ev hk,Instr.mapEntry,Sem.run_bind,run_underlying ht,CF ho,Result.andThen_ok,hc,List.toList_toArray,List.getElem?_toArray,h2,e1,hst,e4,EG ho,Sem.run_pure,Option.map_some,Option.getD_some]
      simp [goInt,e1,hst,e4,EG ho,Result.andThen]
  unfold wpList
  rw [if_pos (AK rfl a ha)]
  left
  unfold Oper.wp
  rw [hrun,Oper.upon_value]
  exact next _ _ (ha.put (CI hd)) (hW.turn hi O O (Eh _ _ _) ⟨_,FH ho,rfl⟩)
theorem AE.entryStore (i:Nat) {kvs:List (α×β)} {x:α} {u y:β} (hx:evF F mp=some (.map (some b))) (hs:evF F sp=some (vN (C3 kvs x))) (hv:evF F vp=some (eV y)) (hi:L[i]?=some (CE b enc eV (BT kvs x u)))
    (next:AE P ops rest Q n F w0 (L.set i (CE b enc eV (BT kvs x y)))):AE P ops (⟨none,.entryStore tx mp sp vp,t,pp,af,none⟩::rest) Q n F w0 L:=λa w ha hW=>by
  obtain ⟨_,o,ho,hp⟩:=hW.2.1 _ (List.mem_of_getElem? hi) b rfl
  have ho:w.heap[b]?=some (.map (entsM enc eV (BT kvs x u) 0).toArray (BT kvs x u).length):=by rw [ho,hp]
  have hf:=IC (kvs:=kvs) (x:=x) (v:=u)
  have hlt:C3 kvs x<(BT kvs x u).length:=(List.getElem?_eq_some_iff.1 hf).1
  have e0:(entsM enc eV (BT kvs x u) 0)[C3 kvs x]?=some ⟨enc x,eV u,C3 kvs x⟩:=by rw [C8,hf];simp
  have hnd:((entsM enc eV (BT kvs x u) 0).map (·.born)).Nodup:=by
    have e1:∀(l:List (α×β)) (s:Nat),(entsM enc eV l s).map (·.born)=List.range' s l.length:=by
      intro l
      induction l with
      | nil=>intro s;rfl
      | cons p r ih=>intro s;rw [entsM,List.map_cons,ih,List.length_cons,List.range'_succ]
    rw [e1];exact List.nodup_range'
  have hidx:(entsM enc eV (BT kvs x u) 0).toArray.findIdx? (λe=>((e.born:Nat):Int) == ((C3 kvs x:Nat):Int))=some (C3 kvs x):=by
    rw [WideElems.findIdx_arr]
    exact WideElems.findIdx_born hnd e0
  have hset:(BT kvs x u).set (C3 kvs x) (x,y)=BT kvs x y:=OK
  have hmod:=GY (enc:=enc) (eV:=eV) (y:=y) hf
  have hmod2:(entsM enc eV (BT kvs x u) 0).toArray.modify (C3 kvs x) (λe=>{ e with val:=eV y })=(entsM enc eV (BT kvs x y) 0).toArray:=by
    rw [<-hset,<-hmod]
    apply Array.ext_getElem?
    intro q
    rw [Array.getElem?_modify,Array.getElem?_modify]
    simp only [List.getElem?_toArray]
    split
    · rename_i e;subst e;rw [e0];rfl
    · rfl
  have hl2:(BT kvs x y).length=(BT kvs x u).length:=by rw [<-hset,List.length_set]
  have hrun:(execOp a.eval ⟨none,.entryStore tx mp sp vp,t,pp,af,none⟩).run P w=.ok .skip (Go.ChangeMaps.setBlock w b (.map (entsM enc eV (BT kvs x y) 0).toArray (BT kvs x y).length)):=by
    rw [<-hmod2,hl2]
    simp only [execOp,ha.ev hx,ha.ev hs,ha.ev hv,Instr.entryStore,Sem.run_bind,CF ho,Result.andThen_ok,asInt,asIntOf,Sem.run_pure,hidx,EG ho]
  unfold wpList
  rw [if_pos (AK rfl a ha)]
  left
  unfold Oper.wp
  rw [hrun,Oper.upon_skip]
  exact next _ _ ha.put_none (hW.turn hi O O (Eh _ _ _) ⟨_,FH ho,rfl⟩)
end
end
end Go.Proofs.YtfbomiejpbchdaaGreat
