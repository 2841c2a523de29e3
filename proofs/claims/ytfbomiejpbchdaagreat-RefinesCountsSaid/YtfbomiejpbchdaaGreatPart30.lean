import Derived.Lib.SliceRun
import Derived.WideKeyEntry
import Derived.Test.YtfbomiejpbchdaaGreatPart04
import Derived.Test.YtfbomiejpbchdaaGreatPart14
import Derived.Test.YtfbomiejpbchdaaGreatPart24
import Derived.Test.YtfbomiejpbchdaaGreatPart28
import Derived.Test.YtfbomiejpbchdaaGreatPart29
namespace Go.Proofs.YtfbomiejpbchdaaGreat
open Go Go.RowKit
set_option linter.unusedVariables false
set_option linter.unusedSimpArgs false
def inL (l:List Nat):List Value:=l.map λ(d:Nat)=>vN d
theorem CY (l:List Nat):(inL l).length=l.length:=by simp [inL]
theorem JC {l:List Nat} {j:Nat} (h:j<l.length):(inL l)[j*1]?=some (vN (l.getD j 0)):=by simp [inL,h]
theorem DR (a b:List Nat):inL (a++b)=inL a++inL b:=by simp [inL]
section
set_option maxRecDepth 100000
theorem NO:ElemT Tryz.prog 33 3 1 8:=⟨Tryz.underlying33,D9 (by kernel_rfl)⟩
theorem HR {ps:List Pt} {ts ss:List (Nat×Nat×Nat)} (x:MX ps ts ss) (hl:ts.length<=1000000000) (hN:ps.length<=4611686018427387904) (hnb:Ba ps.length ts=true) (w:World) {S:Nat->Prop} (hx:Ro S w x):Calls Tryz.prog 13 #[(aG (B5 x))] w (Bc (RX (rowsL B4 (A_ ts)) (A_ ts).length) S w):=by
 have lx:=H0 (W:=w) hx
 refine BQ (args:=[(aG (B5 x))]) (L:=[AX x.a.p (rowsL An ps),AX x.b.p (rowsL Ai ts),AX x.c.p (rowsL Ai ss)]) Tryz.func13 rfl rfl (Af rfl) (Hy hx Bo) (AE.subF (sL [0] rfl) (q4 (CB (cs:=B5 x) rfl λb1=>AL rfl (q6 (sL [1,2] rfl) ?_))))
 refine q4 (BF 0 DW rfl (IC (args:=[(aG (B5 x))]) (v:=(Value.bool true)) Tryz.call46 (λw hw=>(by have h9:=JL x (by omega) w (Eu hw 1 rfl lx);rw [hnb] at h9;exact h9)) rfl (AH (CR (c:=false) rfl rfl) rfl (AD.nil (AC.subF (sL [1,2,5] rfl) ?_)))))
 refine AC.then_ (AE.cond_false rfl (AE.skip (q2 (AH (v:=(pP b1 1)) (AA rfl Tryz.underlying31 rfl Tryz.sizeOf28 rfl) rfl (BI 0 (Value.slice x.b.p ts.length x.b.c) Di rfl ?_)))))
 exact cX (S:=S) (cs:=rowsL B4 (A_ ts)) (k:=(A_ ts).length) (args:=[(Value.slice x.b.p ts.length x.b.c)]) Tryz.call49 (λw hw=>NV ts x.b ps.length hnb hN hl w (XT (Eu hw 1 rfl lx))) rfl rfl rfl λo lo=>AL rfl (AD.nil (AC.subF (sL [1,2] rfl) (AC.then_ (AE.ret (AU rfl (Am (v:=(Value.slice o.p ((A_ ts).length) o.c)) rfl) (λw hw=>YR hw (Eu hw 0 rfl lo) rfl))))))
end
section
def WK (S:Nat->Prop) (W w:World) (G:List As):Prop :=
  (∀x∈G,∀b,x.foot=some b->(W.heap.size<=b\/(x.ro=true/\S b))/\∃o,w.heap[b]?=some o/\x.P o)/\G.Pairwise λx y=>(x.ro=true/\y.ro=true)\/∀b,x.foot=some b->y.foot≠some b
def Ki {α:Type} (V:α->Value) (LW:α->List As) (S:Nat->Prop) (W:World) (e:Ending) (w:World):Prop:=∃a:α,e=.returned (V a)/\Em W.heap.size W w/\WK S W w (LW a)
def J9 (w0:BJ) (S:Nat->Prop) (G:List As):Prop:=∀y∈G,y.ro=true->∀b,y.foot=some b->Nw w0 S b
theorem J9.mem {w0:BJ} {S:Nat->Prop} {G:List As} (h:J9 w0 S G) {α:Type} [Dx α] {a:α} (hs:∀y∈Dx.rows a,y∈G):At w0 S a:=λy hy b e=>h y (hs y hy) (Dx.ro a y hy) b e
section
variable {w0:BJ} {S:Nat->Prop} {w w' W:World} {L G:List As}
theorem BK.give (h:BK w0 w L) (hb:Em w.heap.size w w') (hg:WK (SL w0 S L) w w' G):BK w0 w' (G++L):=by
  have h1:=h.below hb
  refine ⟨h1.1,λy hy b e=>?_,List.pairwise_append.2 ⟨hg.2,h1.2.2,λx hx y hy=>?_⟩⟩
  · rcases List.mem_append.1 hy with hy|hy
    · obtain ⟨h2,h3⟩:=hg.1 y hy b e
      refine ⟨?_,h3⟩
      rcases h2 with h2|⟨h2,_⟩
      · exact .inr (.inl (Nat.le_trans h.size h2))
      · exact .inl h2
    · exact h1.2.1 y hy b e
  · by_cases hr:x.ro=true/\y.ro=true
    · exact .inl hr
    · refine .inr λb e e2=>?_
      rcases (hg.1 x hx b e).1 with h2|⟨h2,⟨z,hz,hzr,hzf⟩,_⟩
      · exact absurd (h.lt hy e2) (by omega)
      · have hyr:¬y.ro=true:=λk=>hr ⟨h2,k⟩
        obtain ⟨i,hi,rfl⟩:=List.getElem_of_mem hz
        obtain ⟨j,hj,rfl⟩:=List.getElem_of_mem hy
        have hp:=List.pairwise_iff_getElem.1 h.2.2
        rcases Nat.lt_trichotomy i j with hij|hij|hij
        · exact (hp i j hi hj hij).elim (λk=>hyr k.2) (λk=>k b hzf e2)
        · subst hij;exact hyr hzr
        · exact (hp j i hj hi hij).elim (λk=>hyr k.1) (λk=>k b e2 hzf)
theorem BK.gives (h:BK ⟨W,none⟩ w L) (hs:G.Sublist L) (hS:J9 ⟨W,none⟩ S G):WK S W w G:=by
  refine ⟨λx hx b e=>?_,h.2.2.sublist hs⟩
  obtain ⟨h1,h2⟩:=h.2.1 x (hs.subset hx) b e
  refine ⟨?_,h2⟩
  by_cases hr:x.ro=true
  · rcases hS x hx hr b e with h3|h3
    · exact .inl h3
    · exact .inr ⟨hr,h3⟩
  · rcases h1 with h1|h1|h1
    · exact absurd h1 hr
    · exact .inl h1
    · cases h1
theorem TW {α:Type} {V:α->Value} {LW:α->List As} (hw:BK ⟨W,none⟩ w L) (a:α) (hs:(LW a).Sublist L) (hS:J9 ⟨W,none⟩ S (LW a)) {v:Value} (hv:v=V a):Ki V LW S W (.returned v) w:=⟨a,by rw [hv],hw.out,hw.gives hs hS⟩
theorem J9.nil:J9 w0 S []:=λy hy=>by cases hy
theorem J9.own {x:As} (hx:x.ro=false) (h:J9 w0 S G):J9 w0 S (x::G):=λy hy hr b e=>by
  rcases List.mem_cons.1 hy with rfl|hy
  · rw [hx] at hr;cases hr
  · exact h y hy hr b e
theorem J9.row {α:Type} [Dx α] {a:α} {x:As} (ha:At w0 S a) (hx:Dx.rows a=[x]) (h:J9 w0 S G):J9 w0 S (x::G):=λy hy hr b e=>by
  rcases List.mem_cons.1 hy with rfl|hy
  · exact ha y (by rw [hx];exact List.mem_cons_self) b e
  · exact h y hy hr b e
end
section
variable {P:Program} {ops:Array Oper} {rest:List Oper} {Q:Exit->Act->World->Prop} {n d:Nat} {F:List (Nat×Value)} {w0:BJ} {S:Nat->Prop} {L:List As} {t:TypeId} {p:String} {af:Array Edge} {y:Operand} {f:FuncId} {xs:List Operand} {args:List Value} {ts:Array TypeId} {α:Type} {V:α->Value} {LW:α->List As}
theorem AD.callL (hc:∀args w,(callFunc f args).run P w=.ok (.enter f args) w) (h:∀w,BK w0 w L->Calls P f args.toArray w (Ki V LW (SL w0 S L) w))
    (h2:(evF F y,xs.map (evF F),Nat.ble (d+1) n)=(some (.func (.func f) #[] #[]),args.map some,true)) (next:∀a:α,J9 w0 S (LW a)->AD P ops rest Q n ((d,V a)::F) w0 (LW a++L)) :
    AD P ops (⟨some d,.call { callee:=.value y,args:=xs.toArray,argTypes:=ts },t,p,af,none⟩::rest) Q n F w0 L:=λa w ha hW=>by
  unfold wpList
  rw [if_pos (AN rfl a ha)]
  left
  unfold Oper.wp
  rw [A8 (Ci h2) (Ci (BW h2)) hc a w ha hW,Oper.upon_enter]
  refine (h w hW).mono ?_
  rintro e w' ⟨x,rfl,hb,hg⟩
  refine next x (λz hz hr b e=>?_) _ _ (ha.put (By (BW (BW h2)))) (hW.give hb hg)
  rcases (hg.1 z hz b e).1 with h3|⟨_,h3⟩
  · exact .inl (Nat.le_trans hW.size h3)
  · exact h3.2
end
structure OX (T z:Nat) (cs:List Value) (n:Nat) where
  p:Option Addr
  c:Nat
  ok:OwnOk p n c
@[reducible] def Xz {T z:Nat} {cs:List Value} {n:Nat} (a:OX T z cs n):Value:=.slice a.p n a.c
@[reducible] def XF {T z:Nat} {cs:List Value} {n:Nat} (a:OX T z cs n):List As:=[rowW a.p T z n a.c cs]
@[reducible] def YY {T z:Nat} {cs:List Value} {n:Nat} (a:OX T z cs n):Value:=.slice a.p n n
theorem OwnOk.clip {p:Option Addr} {n c:Nat} (h:OwnOk p n c):BL p n n:=⟨λe=>⟨(h.nil e).1,(h.nil e).1⟩,λa e=>by rw [h.at0 a e],Nat.le_refl _⟩
theorem VK (p:Pt):((An p).all λu=>u.oneCell')=true:=rfl
theorem Vi (t:Nat×Nat×Nat):((Ai t).all λu=>u.oneCell')=true:=rfl
theorem H7 {α:Type} {enc:α->List Value} (h:∀x,((enc x).all λu=>u.oneCell')=true):∀xs:List α,((rowsL enc xs).all λu=>u.oneCell')=true
  | []=>rfl
  | x::r=>by
    have e:rowsL enc (x::r)=enc x++rowsL enc r:=rfl
    rw [e,List.all_append,h x,H7 h r];rfl
theorem SD {A B vs:List Value} {r:Nat} (h:r+vs.length<=A.length):Fx (A++B) r vs=Fx A r vs++B:=by
  unfold Fx
  rw [List.take_append_of_le_length (by omega),List.drop_append_of_le_length h,<-List.append_assoc]
theorem RB {A B vs:List Value} {o:Nat}:Fx (A++B) (A.length+o) vs=A++Fx B o vs:=by
  unfold Fx
  rw [List.take_append,List.take_of_length_le (by omega),Nat.add_sub_cancel_left,List.drop_append,List.drop_of_length_le (by omega),show A.length+o+vs.length-A.length=o+vs.length by omega]
  simp
theorem Ll {α:Type} {enc:α->List Value} {z:Nat} (hl:∀x,(enc x).length=z) (d:α) {r:Nat} {vs:List Value} {x':α}:∀{xs:List α} {j:Nat},j<xs.length->r+vs.length<=z->Fx (enc (xs.getD j d)) r vs=enc x'->Fx (rowsL enc xs) (j*z+r) vs=rowsL enc (xs.set j x')
  | x::q,0,_,h2,h3=>by
    have e:∀y,rowsL enc (y::q)=enc y++rowsL enc q:=λ_=>rfl
    rw [Nat.zero_mul,Nat.zero_add,List.set_cons_zero,e,e,SD (by rw [hl];exact h2)]
    exact congrArg (·++rowsL enc q) h3
  | x::q,j+1,h1,h2,h3=>by
    have e:∀y l,rowsL enc (y::l)=enc y++rowsL enc l:=λ_ _=>rfl
    rw [List.set_cons_succ,e,e,show (j+1)*z+r=(enc x).length+(j*z+r) by rw [hl,Nat.add_mul];omega,RB,Ll hl d (by simpa using h1) h2 (by simpa using h3)]
section
variable {P:Program} {ops:Array Oper} {rest:List Oper} {Q:Exit->Act->World->Prop} {n d:Nat} {F:List (Nat×Value)} {w0:BJ} {S:Nat->Prop} {L L':List As} {t ty T:TypeId} {p:String} {af:Array Edge} {x y:Operand} {dd:Option Tmp} {g:Option (Nat×Bool)} {q:Option Addr} {z m c:Nat} {cs vs:List Value} {v:Value}
theorem KK {tx ye e:TypeId} (hx:evF F x=some (.slice q m c)) (hy:evF F y=some (.slice none 0 0)) (hu:P.underlying tx=some (.slice e)):Ex P n F w0 L ⟨dd,.binOp .eql tx x y ye,t,p,af,g⟩ (.bool q.isNone):=λA w ha _=>by
  have h1:(eqGuard .eql tx x y (.slice q m c) (.slice none 0 0)).run P w=.ok () w:=rfl
  simp only [execOp,ha.ev hx,ha.ev hy,Sem.run_bind,h1,Result.andThen_ok,Lib.run_eql_slice_nil w tx e q m c 0 0 hu,Sem.run_pure]
theorem AD.appendE0 {s:Operand} {bytes c2:Nat} {q2:Option Addr} {news:List Value} (ht:ElemT P t T z bytes) (hs:evF F s=some (.slice q 0 c)) (ho:OwnOk q 0 c)
    (hx:evF F x=some (.slice q2 m c2)) (hsrc:Xw w0 (rowW q T z 0 c []::L) q2 m news) (hnl:news.length=m*z) (h1:(news.all λu=>u.oneCell')=true) (h63:m<=maxLen) (hbytes:m*bytes<=140737488355328) (hd:Nat.ble (d+1) n=true)
    (next:∀p' c',OwnOk p' m c'->AD P ops rest Q n ((d,.slice p' m c')::F) w0 (rowW p' T z m c' news::L)) :
    AD P ops (⟨some d,.call { callee:=.builtin .append,args:=#[s,x],argTypes:=#[t,t] },ty,p,af,none⟩::rest) Q n F w0 (rowW q T z 0 c []::L):=by
  refine AD.appendS0 (cs2:=news) ht hs ho (by simp) hx hsrc hnl h1 (by rw [Nat.zero_add];exact h63) (by rw [Nat.zero_add];exact hbytes) rfl hd λp' c' h=>?_
  rw [Nat.zero_add] at h ⊢
  exact next p' c' h
theorem AD.storeObj (i:Nat) {α:Type} {enc:α->List Value} {j r:Nat} {x':α} {xs:List α} (df:α) (hlen:∀a,(enc a).length=z) (ho:OwnOk q m c) (hxs:xs.length=m) (hx:evF F x=some (pP (pB q) (pO q+(j*z+r)))) (hy:evF F y=some v) (hi:L[i]?=some (rowW q T z m c (rowsL enc xs))) (hq:q≠none) (hj:j<m)
    (hv:v.cells=vs.toArray) (hs:∀w,(sizeOf ty).run P w=.ok vs.length w) (h1:(vs.all λu=>u.oneCell',Nat.ble (r+vs.length) z,L_ L i (rowW q T z m c (rowsL enc (xs.set j x'))))=(true,true,some L')) (he:Fx (enc (xs.getD j df)) r vs=enc x')
    (next:AD P ops rest Q n F w0 L'):AD P ops (⟨none,.store ty x y,t,p,af,none⟩::rest) Q n F w0 L:=by
  have hz:=Nat.le_of_ble_eq_true (Ci (BW h1))
  have hjz:(j+1)*z<=m*z:=Nat.mul_le_mul_right z hj
  rw [Nat.add_mul] at hjz
  refine AD.storeRow i hx hy hi ho (by rw [Aj hlen,hxs]) hq hv hs (Ci h1) (by omega) ?_
  rw [Ll hlen df (by omega) hz he,Fp (BW (BW h1))]
  exact next
theorem AD.frzRow (i:Nat) (hi:L[i]?=some (rowW q T z m c cs)) (ho:OwnOk q m c) (hl:cs.length=m*z) (hex:w0.ex=none) (hs:L_ L i (AX q cs)=some L') (next:(∀b,q.map (·.block)=some b->w0.w.heap.size<=b)->AD P ops rest Q n F w0 L'):AD P ops rest Q n F w0 L:=λa w ha hw=>by
  refine next (λb e=>?_) a w ha (Fp hs▸hw.freeze hi rfl (λo hp=>Cl ho hl hp) (λe=>by cases e))
  rcases (hw.2.1 _ (List.mem_of_getElem? hi) b e).1 with h1|h1|h1
  · cases h1
  · exact h1
  · rw [hex] at h1;cases h1
theorem At.new {n:Nat} {cs:List Value} {a:RX cs n} (h:∀b,a.p.map (·.block)=some b->w0.w.heap.size<=b):At w0 S a:=λy hy b e=>by
  rcases List.mem_singleton.1 hy with rfl
  exact .inl (h b e)
end
structure Yn (ps:List Pt) (ts ss:List (Nat×Nat×Nat)) where
  a:OX 55 10 (rowsL An ps) ps.length
  b:OX 76 3 (rowsL Ai ts) ts.length
  c:OX 44 3 (rowsL Ai ss) ss.length
@[reducible] def Yx {ps:List Pt} {ts ss:List (Nat×Nat×Nat)} (x:Yn ps ts ss):List As:=[rowW x.c.p 44 3 ss.length x.c.c (rowsL Ai ss),rowW x.b.p 76 3 ts.length x.b.c (rowsL Ai ts),rowW x.a.p 55 10 ps.length x.a.c (rowsL An ps)]
structure U7 (ps:List Pt) (ts ss:List (Nat×Nat×Nat)) (l:List Nat) (e:Nat) where
  m:MX ps ts ss
  q:RX (inL l) l.length
theorem XR {ps:List Pt} {ts ss:List (Nat×Nat×Nat)} {l:List Nat} {e:Nat} {x:U7 ps ts ss l e} {y:As} (hy:y∈[x.m.a.row,x.m.b.row,x.m.c.row,x.q.row]):y.ro=true:=by
  simp only [List.mem_cons,List.not_mem_nil,or_false] at hy
  rcases hy with rfl|rfl|rfl|rfl<;>rfl
instance {ps:List Pt} {ts ss:List (Nat×Nat×Nat)} {l:List Nat} {e:Nat}:Dx (U7 ps ts ss l e):=⟨λx=>.tuple #[aG (B5 x.m),x.q.val,vN e],λx=>[x.m.a.row,x.m.b.row,x.m.c.row,x.q.row],λx y hy=>XR hy⟩
theorem Xo {S:Nat->Prop} {W w:World} {L:List As} {ps:List Pt} {ts ss:List (Nat×Nat×Nat)} (hw:BK ⟨W,none⟩ w L) (i j k:Nat) {p1 p2 p3:Option Addr} {T1 T3 n1 n2 n3 c1 c2 c3:Nat}
    (h1:L[i]?=some (rowW p1 T1 10 n1 c1 (rowsL An ps))) (h2:L[j]?=some (AX p2 (rowsL Ai ts))) (h3:L[k]?=some (rowW p3 T3 3 n3 c3 (rowsL Ai ss))) (o1:OwnOk p1 n1 c1) (o2:BL p2 n2 c2) (b2:∀b,p2.map (·.block)=some b->W.heap.size<=b) (o3:OwnOk p3 n3 c3) (e1:n1=ps.length) (e2:n2=ts.length) (e3:n3=ss.length)
    {v:Value} (hv:v=aG [.slice p1 n1 n1,.slice p2 n2 c2,.slice p3 n3 n3]):Bc (MX ps ts ss) S W (.returned v) w:=by
  subst e1;subst e2;subst e3
  refine ⟨⟨⟨p1,ps.length,o1.clip⟩,⟨p2,c2,o2⟩,⟨p3,ss.length,o3.clip⟩⟩,by rw [hv];rfl,hw.out,λy hy=>?_⟩
  have hy:y∈[AX p1 (rowsL An ps),AX p2 (rowsL Ai ts),AX p3 (rowsL Ai ss)]:=hy
  simp only [List.mem_cons,List.not_mem_nil,or_false] at hy
  rcases hy with rfl|rfl|rfl
  · exact EN hw i h1 o1 (Aj BP _)
  · exact ⟨hw.holds h2,λb e=>.inl (b2 b e)⟩
  · exact EN hw k h3 o3 (Aj Aq _)
section
variable {P:Program} {ops:Array Oper} {rest:List Oper} {Q:Exit->Act->World->Prop} {n d:Nat} {F:List (Nat×Value)} {w0:BJ} {S:Nat->Prop} {L:List As} {t:TypeId} {p:String} {af:Array Edge} {y:Operand} {f:FuncId} {xs:List Operand} {args:List Value} {tys:Array TypeId} {ps:List Pt} {ts ss:List (Nat×Nat×Nat)} {l:List Nat} {e:Nat}
theorem cM (hc:∀args w,(callFunc f args).run P w=.ok (.enter f args) w) (h:∀w,BK w0 w L->Calls P f args.toArray w (Bc (MX ps ts ss) (SL w0 S L) w))
    (h2:(evF F y,xs.map (evF F),Nat.ble (d+1) n)=(some (.func (.func f) #[] #[]),args.map some,true)) (next:∀a:MX ps ts ss,At w0 S a->AD P ops rest Q n ((d,aG (B5 a))::F) w0 (AX a.a.p (rowsL An ps)::AX a.b.p (rowsL Ai ts)::AX a.c.p (rowsL Ai ss)::L)) :
    AD P ops (⟨some d,.call { callee:=.value y,args:=xs.toArray,argTypes:=tys },t,p,af,none⟩::rest) Q n F w0 L:=AD.callR hc h (Ci h2) (Ci (BW h2)) (BW (BW h2)) next
theorem YW (hc:∀args w,(callFunc f args).run P w=.ok (.enter f args) w) (h:∀w,BK w0 w L->Calls P f args.toArray w (Bc (U7 ps ts ss l e) (SL w0 S L) w))
    (h2:(evF F y,xs.map (evF F),Nat.ble (d+1) n)=(some (.func (.func f) #[] #[]),args.map some,true)) (next:∀a:U7 ps ts ss l e,At w0 S a.m->At w0 S a.q->AD P ops rest Q n ((d,.tuple #[aG (B5 a.m),.slice a.q.p l.length a.q.c,vN e])::F) w0 (AX a.m.a.p (rowsL An ps)::AX a.m.b.p (rowsL Ai ts)::AX a.m.c.p (rowsL Ai ss)::AX a.q.p (inL l)::L)) :
    AD P ops (⟨some d,.call { callee:=.value y,args:=xs.toArray,argTypes:=tys },t,p,af,none⟩::rest) Q n F w0 L:=AD.callR hc h (Ci h2) (Ci (BW h2)) (BW (BW h2)) λa ha =>
  next a (λz hz=>ha z (List.mem_append_left [a.q.row] (show z∈[a.m.a.row,a.m.b.row,a.m.c.row] from hz))) (λz hz=>ha z (by rcases List.mem_singleton.1 hz with rfl;exact List.mem_append_right [a.m.a.row,a.m.b.row,a.m.c.row] List.mem_cons_self))
end
theorem XX {S:Nat->Prop} {W w:World} {L:List As} {ps:List Pt} {ts ss:List (Nat×Nat×Nat)} {l:List Nat} {e:Nat} (hw:BK ⟨W,none⟩ w L) {x:MX ps ts ss} (h:Ro (SL ⟨W,none⟩ S L) w x) (i:Nat) {q:Option Addr} {T n c:Nat} (hi:L[i]?=some (rowW q T 1 n c (inL l))) (ho:OwnOk q n c) (hl:n=l.length) {v:Value} (hv:v=.tuple #[aG (B5 x),.slice q n c,vN e]):Bc (U7 ps ts ss l e) S W (.returned v) w:=by
  subst hl
  refine ⟨⟨x,⟨q,c,ho.row⟩⟩,by rw [hv];rfl,hw.out,λy hy=>?_⟩
  have hy:y∈[x.a.row,x.b.row,x.c.row]++[AX q (inL l)]:=hy
  rcases List.mem_append.1 hy with hy|hy
  · have h1:=h y hy
    exact ⟨h1.1,λb e=>(h1.2 b e).2⟩
  · rcases List.mem_singleton.1 hy with rfl
    exact EN hw i hi ho (by rw [CY,Nat.mul_one])
end
section
section
variable {α β:Type} [DecidableEq α]
theorem Bj {kvs:List (α×β)} {x z:α} {y:β}:Ab (BC kvs x y) z=if z=x then some y else Ab kvs z:=by
  induction kvs with
  | nil=>rfl
  | cons p r ih =>
    obtain ⟨k,v⟩:=p
    unfold BC
    split
    · rename_i e
      subst e
      unfold Ab
      split<;>rfl
    · rename_i e
      rw [Ab,ih]
      by_cases h:z=k
      · rw [if_pos h,if_neg (λe2=>e (e2.symm.trans h)),Ab,if_pos h]
      · rw [if_neg h]
        split
        · rfl
        · rw [Ab,if_neg h]
end
section
variable {ts:List (Nat×Nat×Nat)}
def Bb (ts:List (Nat×Nat×Nat)) (u:Nat):P2:=(CP (ts.getD (u/3) (0,0,0)) (u%3),CP (ts.getD (u/3) (0,0,0)) ((u%3+1)%3))
def JK (ts:List (Nat×Nat×Nat)) (s a b:Nat) (z:Int):Prop:=(z = -1/\∀u,u<s->Bb ts u≠(a,b))\/∃u,u<s/\z=((u/3:Nat):Int)/\Bb ts u=(a,b)/\∀v,v<u->Bb ts v≠(a,b)
theorem JK.none {s a b:Nat} (h:∀u,u<s->Bb ts u≠(a,b)):JK ts s a b (-1):=.inl ⟨rfl,h⟩
theorem JK.skip {s a b:Nat} {z:Int} (h:JK ts s a b z) (hn:Bb ts s≠(a,b)):JK ts (s+1) a b z:=by
  rcases h with ⟨h1,h2⟩|⟨u,h1,h2,h3,h4⟩
  · refine .inl ⟨h1,λu hu=>?_⟩
    rcases Nat.lt_or_ge u s with h|h
    · exact h2 u h
    · rw [show u=s by omega];exact hn
  · exact .inr ⟨u,by omega,h2,h3,h4⟩
theorem JK.take {s a b:Nat} (h:JK ts s a b (-1)) (hn:Bb ts s=(a,b)):JK ts (s+1) a b ((s/3:Nat):Int):=by
  rcases h with ⟨h1,h2⟩|⟨u,h1,h2,h3,h4⟩
  · exact .inr ⟨s,by omega,rfl,hn,h2⟩
  · omega
theorem JK.keep {s a b:Nat} {z:Int} (h:JK ts s a b z) (hz:z ≠ -1):JK ts (s+1) a b z:=by
  rcases h with ⟨h1,h2⟩|⟨u,h1,h2,h3,h4⟩
  · exact absurd h1 hz
  · exact .inr ⟨u,by omega,h2,h3,h4⟩
structure Th (ts:List (Nat×Nat×Nat)) (s:Nat) (k:P2) (e:E4):Prop where
  ea:e.a=k.1
  eb:e.b=k.2
  lt:k.1<k.2
  l:JK ts s k.1 k.2 e.l
  r:JK ts s k.2 k.1 e.r
  some:∃u,u<s/\(Bb ts u=(k.1,k.2)\/Bb ts u=(k.2,k.1))
theorem JE (hd:∀u,u<3*ts.length->(Bb ts u).1≠(Bb ts u).2):∀s,s<=3*ts.length->(∀k e,Ab (Ca ts s) k=some e->Th ts s k e)/\(∀k,Ab (Ca ts s) k=none->k.1<k.2->∀u,u<s->Bb ts u≠(k.1,k.2)/\Bb ts u≠(k.2,k.1))
  | 0,_=>⟨λk e h=>(by cases h),λk _ _ u hu=>absurd hu (Nat.not_lt_zero _)⟩
  | s+1,hs=>by
    obtain ⟨i1,i2⟩:=JE hd s (by omega)
    have hne:=hd s (by omega)
    obtain ⟨a,ha⟩:∃a,a=CP (ts.getD (s/3) (0,0,0)) (s%3):=⟨_,rfl⟩
    obtain ⟨b,hb⟩:∃b,b=CP (ts.getD (s/3) (0,0,0)) ((s%3+1)%3):=⟨_,rfl⟩
    have hdir:Bb ts s=(a,b):=by rw [ha,hb];rfl
    rw [hdir] at hne
    have hE:Ca ts (s+1)=Q5 (Ca ts s) (s/3) a b:=by rw [ha,hb];rfl
    rw [hE]
    unfold Q5
    have hky:(BR a b).1<(BR a b).2:=by unfold BR;simp only at hne ⊢;omega
    -- what the old edge,or the new one,knows
    have h0:∀e0,e0=(Ab (Ca ts s) (BR a b)).getD (H_ (BR a b))->e0.a=(BR a b).1/\e0.b=(BR a b).2/\JK ts s (BR a b).1 (BR a b).2 e0.l/\JK ts s (BR a b).2 (BR a b).1 e0.r:=by
      intro e0 he0
      cases hg:Ab (Ca ts s) (BR a b) with
      | none =>
        rw [hg] at he0
        have h2:=i2 _ hg hky
        subst he0
        exact ⟨rfl,rfl,JK.none λu hu=>(h2 u hu).1,JK.none λu hu=>(h2 u hu).2⟩
      | some e =>
        rw [hg] at he0
        have h2:=i1 _ _ hg
        subst he0
        exact ⟨h2.ea,h2.eb,h2.l,h2.r⟩
    constructor
    · intro k e hk
      rw [Bj] at hk
      split at hk
      · rename_i e1
        injection hk with hk
        obtain ⟨c1,c2,c3,c4⟩:=h0 _ rfl
        obtain ⟨e0,he0⟩:∃e0,e0=(Ab (Ca ts s) (BR a b)).getD (H_ (BR a b)):=⟨_,rfl⟩
        rw [<-he0] at hk c1 c2 c3 c4
        subst hk
        have hends:=LQ e0 (s/3) a b
        rw [e1]
        rcases Nat.lt_or_ge a b with hab|hab
        · have k1:(BR a b).1=a:=by unfold BR;simp only;omega
          have k2:(BR a b).2=b:=by unfold BR;simp only;omega
          rw [k1,k2] at c3 c4
          refine ⟨hends.1.trans c1,hends.2.trans c2,hky,?_,?_,s,by omega,.inl (by rw [k1,k2];exact hdir)⟩<;>rw [k1,k2]
          · unfold E_
            by_cases hl:e0.l = -1
            · rw [if_pos ⟨hab,hl⟩]
              rw [hl] at c3
              exact c3.take hdir
            · rw [if_neg (λh=>hl h.2),if_neg (λh=>by omega)]
              exact c3.keep hl
          · have hn2:Bb ts s≠(b,a):=by rw [hdir];intro h;injection h with h _;omega
            unfold E_
            split
            · exact c4.skip hn2
            · rw [if_neg (λh=>by omega)]
              exact c4.skip hn2
        · have hba:b<a:=by simp only at hne;omega
          have k1:(BR a b).1=b:=by unfold BR;simp only;omega
          have k2:(BR a b).2=a:=by unfold BR;simp only;omega
          rw [k1,k2] at c3 c4
          have hn2:Bb ts s≠(b,a):=by rw [hdir];intro h;injection h with h _;omega
          refine ⟨hends.1.trans c1,hends.2.trans c2,hky,?_,?_,s,by omega,.inr (by rw [k1,k2];exact hdir)⟩<;>rw [k1,k2]
          · unfold E_
            rw [if_neg (λh=>by omega)]
            split
            · exact c3.skip hn2
            · exact c3.skip hn2
          · unfold E_
            rw [if_neg (λh=>by omega)]
            by_cases hl:e0.r = -1
            · rw [if_pos ⟨hba,hl⟩]
              rw [hl] at c4
              exact c4.take hdir
            · rw [if_neg (λh=>hl h.2)]
              exact c4.keep hl
      · rename_i e1
        obtain ⟨a1,a2,a3,a4,a5,u,a6,a7⟩:=i1 k e hk
        have n1:Bb ts s≠(k.1,k.2):=by
          rw [hdir];intro h;injection h with h1 h2
          exact e1 (Prod.ext (by unfold BR;simp only;omega) (by unfold BR;simp only;omega))
        have n2:Bb ts s≠(k.2,k.1):=by
          rw [hdir];intro h;injection h with h1 h2
          exact e1 (Prod.ext (by unfold BR;simp only;omega) (by unfold BR;simp only;omega))
        exact ⟨a1,a2,a3,a4.skip n1,a5.skip n2,u,by omega,a7⟩
    · intro k hk hlt u hu
      rw [Bj] at hk
      split at hk
      · cases hk
      · rename_i e1
        rcases Nat.lt_or_ge u s with h|h
        · exact i2 k hk hlt u h
        · rw [show u=s by omega,hdir]
          constructor
          · intro h;injection h with h1 h2
            exact e1 (Prod.ext (by unfold BR;simp only;omega) (by unfold BR;simp only;omega))
          · intro h;injection h with h1 h2
            exact e1 (Prod.ext (by unfold BR;simp only;omega) (by unfold BR;simp only;omega))
theorem VI {N:Nat} (hn:Ba N ts=true) (hN:N<=4611686018427387904) (hd:∀u,u<3*ts.length->(Bb ts u).1≠(Bb ts u).2) {e:E4} (he:e∈A_ ts):Th ts (3*ts.length) (e.a,e.b) e:=by
  unfold A_ at he
  obtain ⟨p,hp,h1⟩:=List.mem_map.1 ((DS _).mem_iff.1 he)
  obtain ⟨j,hj,h2⟩:=List.getElem_of_mem hp
  have h3:=JP (x:=p.1) (v:=p.2) (FD hn hN _ (Nat.le_refl _)).once (show (Ca ts (3*ts.length))[j]?=some (p.1,p.2) by rw [List.getElem?_eq_getElem hj,h2])
  have h4:=(JE hd _ (Nat.le_refl _)).1 _ _ h3
  rw [h1] at h4
  rw [show (e.a,e.b)=p.1 from Prod.ext h4.ea h4.eb]
  exact h4
end
end
section
theorem On {P:Program} {k e:TypeId} (hu:P.underlying k=some (.array 2 e)) (he:P.underlying e=some (.int .i64)) (ce:P.cellsOf e=1) (ck:P.cellsOf k=2) (hk:P.keyType k=true) (hr:k<P.types.size)
    {a b:Int} (wa:(Lit.int .i64 a).wf=true) (wb:(Lit.int .i64 b).wf=true):∃l,keyOf P k (.agg #[.int .i64 a,.int .i64 b])=some l:=by
  have h0:0<P.types.size:=Nat.lt_of_le_of_lt (Nat.zero_le _) hr
  obtain ⟨d,hd⟩:∃d,P.types.size=d+1:=⟨P.types.size-1,by omega⟩
  have hf:(Value.agg #[.int .i64 a,.int .i64 b]).formed P k=true:=by
    unfold Value.formed
    simp only [hu,ck]
    rfl
  have hl:P.keyLits (P.types.size+1) k (Value.agg #[.int .i64 a,.int .i64 b]).cells.toList=some [.int .i64 a,.int .i64 b]:=by
    rw [hd]
    unfold Program.keyLits
    simp only [hu]
    show (if ([Value.int .i64 a,Value.int .i64 b]:List Value).length=P.cellsOf k then _ else _)=_
    rw [if_pos (by rw [ck];rfl)]
    have e0:P.keyLits (d+1) e ((([Value.int .i64 a,Value.int .i64 b]:List Value).drop (0*P.cellsOf e)).take (P.cellsOf e))=some [.int .i64 a]:=by
      rw [ce];exact E1 he d wa
    have e1:P.keyLits (d+1) e ((([Value.int .i64 a,Value.int .i64 b]:List Value).drop (1*P.cellsOf e)).take (P.cellsOf e))=some [.int .i64 b]:=by
      rw [ce];exact E1 he d wb
    show (List.mapM (λi=>P.keyLits (d+1) e ((([Value.int .i64 a,Value.int .i64 b]:List Value).drop (i*P.cellsOf e)).take (P.cellsOf e))) [0,1]).map List.flatten=_
    simp only [List.mapM_cons,List.mapM_nil,e0,e1]
    rfl
  refine ⟨.string (keyBytes [.int .i64 a,.int .i64 b]),?_⟩
  unfold keyOf
  simp only [hu,hk,hf,Bool.and_self,if_true,hl]
  rfl
theorem Uo {P:Program} (hl:laidOutB P=true) {k e:TypeId} (hr:k<P.types.size) (ht:P.keyTypeAt 2 k=true) (hw:(match P.underlying k with|some (.array _ _)|some (.struct _)=>true|_=>false)=true) (hu:P.underlying k=some (.array 2 e)) (he:P.underlying e=some (.int .i64)) (ce:P.cellsOf e=1) (ck:P.cellsOf k=2) (hk:P.keyType k=true):Ji P k GN Mb where
  law:=.of_law (deep_law_laid hl (m:=2) (by decide) hr ht hw)
  key:=λa h=>On hu he ce ck hk hr (G5 h.1) (G5 h.2)
  inj:=λa b h=>Jp h
theorem XA {a b:Nat} (ha:a<4611686018427387904) (hb:b<4611686018427387904):Mb (a,b):=⟨ha,hb⟩
def Sv (k:Nat):Prop:=k<4611686018427387904
theorem WP {P:Program} {k:TypeId} (h:P.underlying k=some (.int .i64)):Ji P k vN Sv where
  law:=Maps.int_keyed h
  key:=λa ha=>⟨_,Maps.keyOf_int_mk h (G5 ha)⟩
  inj:=λa b e=>by injection e with _ e;omega
def Co {α β:Type} [DecidableEq α]:List (α×β)->α->Nat
  | [],_=>0
  | (k,v)::r,x=>if x=k then 0 else Co r x+1
section
variable {α β:Type} {enc:α->Value} {eV:β->Value} {ok:α->Prop} {P:Program} {kt:TypeId} {n:Nat} {F:List (Nat×Value)} {w0:BJ} {L:List As} {d:Nat} {mp kp vp sp:Operand} {t:TypeId} {pp:String} {af:Array Edge} {g:Option (Nat×Bool)} {tx et:TypeId} {b:Nat} {ops:Array Oper} {rest:List Oper} {Q:Exit->Act->World->Prop}
def Oq {α β:Type} [DecidableEq α] (b:Nat) (enc:α->Value) (eV:β->Value) (kvs:List (α×β)) (x:α) (v:β):As:=⟨some b,λo=>o=.map (entsM enc eV kvs 0).toArray kvs.length\/o=.map (entsM enc eV (BC kvs x v) 0).toArray (BC kvs x v).length,false⟩
variable [DecidableEq α]
theorem K7:∀{kvs:List (α×β)} {x:α} {v:β},Ab kvs x=some v->BC kvs x v=kvs
  | (k,u)::r,x,v,h=>by
    unfold Ab at h
    unfold BC
    split at h
    · rename_i e;injection h with h;rw [if_pos e,h]
    · rename_i e;rw [if_neg e,K7 h]
theorem Hj:∀{kvs:List (α×β)} {x:α} {v:β},(BC kvs x v)[Co kvs x]?=some (x,v)
  | [],_,_=>rfl
  | (k,u)::r,x,v=>by
    unfold BC Co
    split
    · rename_i e;rw [List.getElem?_cons_zero,e]
    · rw [List.getElem?_cons_succ,Hj]
theorem M_ {x:α} {u v:β}:∀{kvs:List (α×β)},(BC kvs x u).set (Co kvs x) (x,v)=BC kvs x v
  | []=>rfl
  | (k,w)::r=>by
    by_cases e:x=k
    · simp [BC,Co,e]
    · simp [BC,Co,e,M_]
theorem Nj:∀{kvs:List (α×β)} {j:Nat} {x:α} {v:β},kvs.Pairwise (λp q=>p.1≠q.1)->kvs[j]?=some (x,v)->Co kvs x=j
  | (k,u)::r,0,x,v,_,h=>by
    simp only [List.getElem?_cons_zero,Option.some.injEq,Prod.mk.injEq] at h
    rw [Co,if_pos h.1.symm]
  | (k,u)::r,j+1,x,v,hp,h=>by
    obtain ⟨h1,h2⟩:=List.pairwise_cons.1 hp
    rw [List.getElem?_cons_succ] at h
    rw [Co,if_neg (λe=>h1 (x,v) (List.mem_of_getElem? h) e.symm),Nj h2 h]
theorem Jb:∀{kvs:List (α×β)} {x:α},(∀p∈kvs,p.1≠x)->Co kvs x=kvs.length
  | [],_,_=>rfl
  | (k,v)::r,x,h=>by
    rw [Co,if_neg (λe=>h (k,v) List.mem_cons_self e.symm),Jb λp hp=>h p (List.mem_cons_of_mem _ hp)];rfl
theorem UO {i:Nat} {kvs:List (α×β)} (x:α) (v:β) (hi:L[i]?=some (Br b enc eV kvs)):Wk (L.set i (Oq b enc eV kvs x v)) L:=λw0 w hw=>by
  exact hw.freeze (i:=i) (y:=Oq b enc eV kvs x v) hi rfl (λo h=>.inl h) (λe=>by cases e)
theorem Tp {i:Nat} {kvs:List (α×β)} (x:α) (v:β) (hi:L[i]?=some (Br b enc eV (BC kvs x v))):Wk (L.set i (Oq b enc eV kvs x v)) L:=λw0 w hw=>by
  exact hw.freeze (i:=i) (y:=Oq b enc eV kvs x v) hi rfl (λo h=>.inr h) (λe=>by cases e)
theorem YH (i:Nat) {kvs:List (α×β)} {x:α} {v:β} {LA:List As} (hi:L[i]?=some (Br b enc eV kvs)) (hs:L_ L i (Oq b enc eV kvs x v)=some LA):Wk LA L:=Fp hs▸UO x v hi
theorem W0 (i:Nat) {kvs:List (α×β)} {x:α} {v:β} {LA:List As} (hi:L[i]?=some (Br b enc eV (BC kvs x v))) (hs:L_ L i (Oq b enc eV kvs x v)=some LA):Wk LA L:=Fp hs▸Tp x v hi
theorem HF (K:Ji P kt enc ok) (i:Nat) {kvs:List (α×β)} {x:α} {z0 v:β} {dd:Option Tmp} (hx:evF F mp=some (.map (some b))) (hk:evF F kp=some (enc x)) (ht:P.underlying tx=some (.map kt et)) (hz:∀w,(zeroValue et).run P w=.ok (eV z0) w) (hi:L[i]?=some (Oq b enc eV kvs x v)) (hm:F3 ok kvs) (hok:ok x) (hv:v=(Ab kvs x).getD z0) :
    Ex P n F w0 L ⟨dd,.lookup tx mp kp false,t,pp,af,g⟩ (eV v):=λA w ha hw=>by
  obtain ⟨_,o,ho,hp⟩:=hw.2.1 _ (List.mem_of_getElem? hi) b rfl
  obtain ⟨lx,hlx⟩:=K.key x hok
  have hc:=λem=>K.law.check w em hlx
  have key:∀kvs':List (α×β),F3 ok kvs'->(Ab kvs' x).getD z0=v->w.heap[b]?=some (.map (entsM enc eV kvs' 0).toArray kvs'.length)->(execOp A.eval ⟨dd,.lookup tx mp kp false,t,pp,af,g⟩).run P w=.ok (.value (eV v)) w:=λkvs' hm' hg ho=>by
    rcases Ga (eV:=eV) K hm' hok w with ⟨h1,_,h2⟩|⟨j,u,_,h1,h2⟩
    · rw [h1] at hg
      simp only [execOp,ha.ev hx,ha.ev hk,Instr.lookup,Sem.run_bind,run_underlying ht,CM ho,Result.andThen_ok,Sem.run_pure,hc,List.toList_toArray,h2,hz]
      rw [<-hg];rfl
    · rw [h1] at hg
      simp only [execOp,ha.ev hx,ha.ev hk,Instr.lookup,Sem.run_bind,run_underlying ht,CM ho,Result.andThen_ok,Sem.run_pure,hc,List.toList_toArray,h2]
      rw [<-hg];rfl
  rcases hp with hp|hp
  · exact key kvs hm hv.symm (by rw [ho,hp])
  · exact key (BC kvs x v) (hm.put hok) (by rw [Bj,if_pos rfl];rfl) (by rw [ho,hp])
theorem AD.mapEntry (K:Ji P kt enc ok) (i:Nat) {kvs:List (α×β)} {x:α} {z0 v:β} (hx:evF F mp=some (.map (some b))) (hk:evF F kp=some (enc x)) (ht:P.underlying tx=some (.map kt et)) (hz:∀w,(zeroValue et).run P w=.ok (eV z0) w) (hi:L[i]?=some (Br b enc eV kvs)) (hm:F3 ok kvs) (hok:ok x) (hv:v=(Ab kvs x).getD z0) (hd:Nat.ble (d+1) n=true)
    (next:AD P ops rest Q n ((d,.tuple #[eV v,vN (Co kvs x)])::F) w0 (L.set i (Br b enc eV (BC kvs x v)))):AD P ops (⟨some d,.mapEntry tx mp kp,t,pp,af,none⟩::rest) Q n F w0 L:=λa w ha hW=>by
  obtain ⟨_,o,ho,hp⟩:=hW.2.1 _ (List.mem_of_getElem? hi) b rfl
  have ho:w.heap[b]?=some (.map (entsM enc eV kvs 0).toArray kvs.length):=by rw [ho,hp]
  obtain ⟨lx,hlx⟩:=K.key x hok
  have hc:=λem=>K.law.check w em hlx
  have hst:=K.law.stays w hlx
  have hrun:(execOp a.eval ⟨some d,.mapEntry tx mp kp,t,pp,af,none⟩).run P w=.ok (.value (.tuple #[eV v,vN (Co kvs x)])) (Go.ChangeMaps.setBlock w b (.map (entsM enc eV (BC kvs x v) 0).toArray (BC kvs x v).length)):=by
    rcases Ga (eV:=eV) K hm hok w with ⟨h0,h1,h2⟩|⟨j,u,hj,h1,h2⟩
    · rw [h0] at hv
      simp only [Option.getD_none] at hv
      subst hv
      rw [H4 h1,Jb h1,Fl,List.length_append]
      simp only [execOp,ha.ev hx,ha.ev hk,Instr.mapEntry,Sem.run_bind,run_underlying ht,CM ho,Result.andThen_ok,hc,List.toList_toArray,h2,hz,Dp ho,Sem.run_pure,List.push_toArray,Nat.zero_add,List.length_singleton]
      rfl
    · rw [h1] at hv
      simp only [Option.getD_some] at hv
      subst hv
      rw [K7 h1,Nj hm.once hj]
      have e1:(entsM enc eV kvs 0)[j]?=some ⟨enc x,eV v,0+j⟩:=by rw [Ct,hj];rfl
      have e2:=GK (enc:=enc) (eV:=eV) (y:=v) hj
      have e3:kvs.set j (x,v)=kvs:=by
        apply List.ext_getElem?
        intro q
        rw [List.getElem?_set]
        split
        · rename_i e;subst e;split
          · exact hj.symm
          · rename_i h9;rw [List.getElem?_eq_none (by omega)]
        · rfl
      rw [e3] at e2
      have e4:(entsM enc eV kvs 0).toArray.modify j (λe=>{ e with key:=enc x })=(entsM enc eV kvs 0).toArray:=by
        apply Array.ext_getElem?
        intro q
        rw [Array.getElem?_modify]
        simp only [List.getElem?_toArray]
        split
        · rename_i e;subst e;rw [e1];rfl
        · rfl
      simp only [execOp,ha.ev hx,ha.ev hk,Instr.mapEntry,Sem.run_bind,run_underlying ht,CM ho,Result.andThen_ok,hc,List.toList_toArray,List.getElem?_toArray,h2,e1,hst,e4,Dp ho,Sem.run_pure,Option.map_some,Option.getD_some]
      simp [goInt,e1,hst,e4,Dp ho,Result.andThen]
  unfold wpList
  rw [if_pos (AN rfl a ha)]
  left
  unfold Oper.wp
  rw [hrun,Oper.upon_value]
  exact next _ _ (ha.put (By hd)) (hW.turn hi rfl rfl (EM _ _ _) ⟨_,Ev ho,rfl⟩)
theorem AD.entryStore (i:Nat) {kvs:List (α×β)} {x:α} {u y:β} (hx:evF F mp=some (.map (some b))) (hs:evF F sp=some (vN (Co kvs x))) (hv:evF F vp=some (eV y)) (hi:L[i]?=some (Br b enc eV (BC kvs x u)))
    (next:AD P ops rest Q n F w0 (L.set i (Br b enc eV (BC kvs x y)))):AD P ops (⟨none,.entryStore tx mp sp vp,t,pp,af,none⟩::rest) Q n F w0 L:=λa w ha hW=>by
  obtain ⟨_,o,ho,hp⟩:=hW.2.1 _ (List.mem_of_getElem? hi) b rfl
  have ho:w.heap[b]?=some (.map (entsM enc eV (BC kvs x u) 0).toArray (BC kvs x u).length):=by rw [ho,hp]
  have hf:=Hj (kvs:=kvs) (x:=x) (v:=u)
  have hlt:Co kvs x<(BC kvs x u).length:=(List.getElem?_eq_some_iff.1 hf).1
  have e0:(entsM enc eV (BC kvs x u) 0)[Co kvs x]?=some ⟨enc x,eV u,Co kvs x⟩:=by rw [Ct,hf];simp
  have hnd:((entsM enc eV (BC kvs x u) 0).map (·.born)).Nodup:=by
    have e1:∀(l:List (α×β)) (s:Nat),(entsM enc eV l s).map (·.born)=List.range' s l.length:=by
      intro l
      induction l with
      | nil=>intro s;rfl
      | cons p r ih=>intro s;rw [entsM,List.map_cons,ih,List.length_cons,List.range'_succ]
    rw [e1];exact List.nodup_range'
  have hidx:(entsM enc eV (BC kvs x u) 0).toArray.findIdx? (λe=>((e.born:Nat):Int) == ((Co kvs x:Nat):Int))=some (Co kvs x):=by
    rw [WideElems.findIdx_arr]
    exact WideElems.findIdx_born hnd e0
  have hset:(BC kvs x u).set (Co kvs x) (x,y)=BC kvs x y:=M_
  have hmod:=GK (enc:=enc) (eV:=eV) (y:=y) hf
  have hmod2:(entsM enc eV (BC kvs x u) 0).toArray.modify (Co kvs x) (λe=>{ e with val:=eV y })=(entsM enc eV (BC kvs x y) 0).toArray:=by
    rw [<-hset,<-hmod]
    apply Array.ext_getElem?
    intro q
    rw [Array.getElem?_modify,Array.getElem?_modify]
    simp only [List.getElem?_toArray]
    split
    · rename_i e;subst e;rw [e0];rfl
    · rfl
  have hl2:(BC kvs x y).length=(BC kvs x u).length:=by rw [<-hset,List.length_set]
  have hrun:(execOp a.eval ⟨none,.entryStore tx mp sp vp,t,pp,af,none⟩).run P w=.ok .skip (Go.ChangeMaps.setBlock w b (.map (entsM enc eV (BC kvs x y) 0).toArray (BC kvs x y).length)):=by
    rw [<-hmod2,hl2]
    simp only [execOp,ha.ev hx,ha.ev hs,ha.ev hv,Instr.entryStore,Sem.run_bind,CM ho,Result.andThen_ok,asInt,asIntOf,Sem.run_pure,hidx,Dp ho]
  unfold wpList
  rw [if_pos (AN rfl a ha)]
  left
  unfold Oper.wp
  rw [hrun,Oper.upon_skip]
  exact next _ _ ha.put_none (hW.turn hi rfl rfl (EM _ _ _) ⟨_,Ev ho,rfl⟩)
end
end
end Go.Proofs.YtfbomiejpbchdaaGreat
