import Derived.Lib.SliceRun
import Derived.WideKeyEntry
import Derived.Test.YtpolhpjiahbidaaGreatDoorPart03
import Derived.Test.YtpolhpjiahbidaaGreatDoorPart15
import Derived.Test.YtpolhpjiahbidaaGreatDoorPart23
import Derived.Test.YtpolhpjiahbidaaGreatDoorPart27
import Derived.Test.YtpolhpjiahbidaaGreatDoorPart28
namespace Go.Proofs.YtpolhpjiahbidaaGreatDoor
open Go Go.RowKit Go.Proofs.Tryz
set_option linter.unusedVariables false
set_option linter.unusedSimpArgs false
def inL (l:List Nat):List Value:=l.map λ(d:Nat)=>vN d
theorem Jh (l:List Nat):(inL l).length=l.length:=by simp [inL]
theorem Of (a b:List Nat):inL (a++b)=inL a++inL b:=by simp [inL]
section
set_option maxRecDepth 100000
theorem XQ:ElemT Tryz.prog 32 3 1 8:=⟨Tryz.underlying32,Da (by kernel_rfl)⟩
theorem L8 {N:Nat} {ts ss:List (Nat×Nat×Nat)} (x:RM N ts ss) (hl:ts.length<=1000000000) (hN:N<=4611686018427387904) (hnb:B8 N ts=true) (w:World) {S:Nat->Prop} (hx:Ro S w x):Calls Tryz.prog 34 #[(aG (Gc x))] w (Ah (CX (rowsL Bx (BS ts)) (BS ts).length) S w):=by
 have lx:=CU (W:=w) hx
 refine Aa (args:=[(aG (Gc x))]) (L:=[AF x.a.p (x.cs),AF x.b.p (rowsL Aq ts),AF x.c.p (x.ds)]) Tryz.func34 rfl rfl (AK rfl) (Ee hx Al) (OkC.subF (sL [0] rfl) (q4 (Bg (cs:=Gc x) rfl λb1=>asg' rfl (q6 (sL [1,2] rfl) (q4 (BU 0 E8 rfl (Cq (args:=[(aG (Gc x))]) (v:=(Value.bool true)) Tryz.call43 (λw hw=>(by have h9:=KY x (by omega) w (inS hw 1 rfl lx);rw [hnb] at h9;exact h9)) rfl (AG (Be (c:=false) rfl rfl) rfl (OkL.nil (OkQ.subF (sL [1,2,5] rfl) ?_))))))))))
 exact OkQ.then_ (OkC.cond_false rfl (OkC.skip (q2 (AG (v:=(pP b1 1)) (AA rfl Tryz.underlying30 rfl Tryz.sizeOf23 rfl) rfl (Aw 0 (Value.slice x.b.p ts.length x.b.c) Ds rfl (OkL.callR (S:=S) (α:=CX (rowsL Bx (BS ts)) (BS ts).length) (args:=[(Value.slice x.b.p ts.length x.b.c)]) Tryz.call101 (λw hw=>K3 ts x.b N hnb hN hl w (Xc (inS hw 1 rfl lx))) rfl rfl rfl λo lo=>asg' rfl (OkL.nil (OkQ.subF (sL [1,2] rfl) (OkQ.then_ (OkC.ret (ret_one rfl (rd_tmp (v:=(Value.slice o.p ((BS ts).length) ((BS ts).length))) rfl) (λw hw=>Df hw (inS hw 0 rfl lo) rfl))))))))))))
theorem OI {N:Nat} {ts ss:List (Nat×Nat×Nat)} (x:RM N ts ss) (hl:ts.length<=1000000000) (hN:N<=4611686018427387904) (hnb:B8 N ts=true) (w:World) {S:Nat->Prop} (hx:Ro S w x):Calls Tryz.prog 34 #[(aG (Gc x))] w (Ah (RX (rowsL Bx (BS ts)) (BS ts).length) S w):=(L8 x hl hN hnb w hx).mono λe w1 h=>h.ofCX
theorem Rx {ps:List Pt} {ts ss:List (Nat×Nat×Nat)} (x:MX ps ts ss) (hl:ts.length<=1000000000) (hN:ps.length<=4611686018427387904) (hnb:B8 ps.length ts=true) (w:World) {S:Nat->Prop} (hx:Ro S w x):Calls Tryz.prog 34 #[(aG (E6 x))] w (Ah (RX (rowsL Bx (BS ts)) (BS ts).length) S w):=OI x.rm hl hN hnb w (YI hx)
end
section
def Wc (S:Nat->Prop) (W w:World) (G:List As):Prop :=
  (∀x∈G,∀b,x.foot=some b->(W.heap.size<=b\/(x.ro=true/\S b))/\∃o,w.heap[b]?=some o/\x.P o)/\G.Pairwise λx y=>(x.ro=true/\y.ro=true)\/∀b,x.foot=some b->y.foot≠some b
def DJ {α:Type} (V:α->Value) (LW:α->List As) (S:Nat->Prop) (W:World) (e:Ending) (w:World):Prop:=∃a:α,e=.returned (V a)/\GC W.heap.size W w/\Wc S W w (LW a)
def G0 (w0:A_) (S:Nat->Prop) (G:List As):Prop:=∀y∈G,y.ro=true->∀b,y.foot=some b->Nw w0 S b
section
variable {w0:A_} {S:Nat->Prop} {w w' W:World} {L G:List As}
theorem BB.give (h:BB w0 w L) (hb:GC w.heap.size w w') (hg:Wc (SL w0 S L) w w' G):BB w0 w' (G++L):=by
  have h1:=h.below hb
  refine ⟨h1.1,λy hy b e=>?_,List.pairwise_append.2 ⟨hg.2,h1.2.2,λx hx y hy=>?_⟩⟩
  · rcases List.mem_append.1 hy with hy|hy
    · obtain ⟨h2,h3⟩:=hg.1 y hy b e
      refine ⟨?_,h3⟩
      rcases h2 with h2|⟨h2,_⟩
      · exact .inr (.inl (Nat.le_trans h.size h2))
      · exact .inl h2
    · exact h1.2.1 y hy b e
  · by_cases hr:x.ro=true/\y.ro=true
    · exact .inl hr
    · refine .inr λb e e2=>?_
      rcases (hg.1 x hx b e).1 with h2|⟨h2,⟨z,hz,hzr,hzf⟩,_⟩
      · exact absurd (h.lt hy e2) (by omega)
      · have hyr:¬y.ro=true:=λk=>hr ⟨h2,k⟩
        obtain ⟨i,hi,rfl⟩:=List.getElem_of_mem hz
        obtain ⟨j,hj,rfl⟩:=List.getElem_of_mem hy
        have hp:=List.pairwise_iff_getElem.1 h.2.2
        rcases Nat.lt_trichotomy i j with hij|hij|hij
        · exact (hp i j hi hj hij).elim (λk=>hyr k.2) (λk=>k b hzf e2)
        · subst hij;exact hyr hzr
        · exact (hp j i hj hi hij).elim (λk=>hyr k.1) (λk=>k b e2 hzf)
theorem BB.gives (h:BB ⟨W,none⟩ w L) (hs:G.Sublist L) (hS:G0 ⟨W,none⟩ S G):Wc S W w G:=by
  refine ⟨λx hx b e=>?_,h.2.2.sublist hs⟩
  obtain ⟨h1,h2⟩:=h.2.1 x (hs.subset hx) b e
  refine ⟨?_,h2⟩
  by_cases hr:x.ro=true
  · rcases hS x hx hr b e with h3|h3
    · exact .inl h3
    · exact .inr ⟨hr,h3⟩
  · rcases h1 with h1|h1|h1
    · exact absurd h1 hr
    · exact .inl h1
    · cases h1
theorem J7 {α:Type} {V:α->Value} {LW:α->List As} (hw:BB ⟨W,none⟩ w L) (a:α) (hs:(LW a).Sublist L) (hS:G0 ⟨W,none⟩ S (LW a)) {v:Value} (hv:v=V a):DJ V LW S W (.returned v) w:=⟨a,by rw [hv],hw.out,hw.gives hs hS⟩
theorem G0.nil:G0 w0 S []:=λy hy=>by cases hy
theorem G0.own {x:As} (hx:x.ro=false) (h:G0 w0 S G):G0 w0 S (x::G):=λy hy hr b e=>by
  rcases List.mem_cons.1 hy with rfl|hy
  · rw [hx] at hr;cases hr
  · exact h y hy hr b e
theorem G0.row {α:Type} [Ci α] {a:α} {x:As} (ha:At w0 S a) (hx:Ci.rows a=[x]) (h:G0 w0 S G):G0 w0 S (x::G):=λy hy hr b e=>by
  rcases List.mem_cons.1 hy with rfl|hy
  · exact ha y (by rw [hx];exact List.mem_cons_self) b e
  · exact h y hy hr b e
end
section
variable {P:Program} {ops:Array Oper} {rest:List Oper} {Q:Exit->Act->World->Prop} {n d:Nat} {F:List (Nat×Value)} {w0:A_} {S:Nat->Prop} {L:List As} {t:TypeId} {p:String} {af:Array Edge} {y:Operand} {f:FuncId} {xs:List Operand} {args:List Value} {ts:Array TypeId} {α:Type} {V:α->Value} {LW:α->List As}
theorem OkL.callL (hc:∀args w,(callFunc f args).run P w=.ok (.enter f args) w) (h:∀w,BB w0 w L->Calls P f args.toArray w (DJ V LW (SL w0 S L) w))
    (h2:(evF F y,xs.map (evF F),Nat.ble (d+1) n)=(some (.func (.func f) #[] #[]),args.map some,true)) (next:∀a:α,G0 w0 S (LW a)->OkL P ops rest Q n ((d,V a)::F) w0 (LW a++L)) :
    OkL P ops (⟨some d,.call { callee:=.value y,args:=xs.toArray,argTypes:=ts },t,p,af,none⟩::rest) Q n F w0 L:=λa w ha hW=>by
  unfold wpList
  rw [if_pos (AP rfl a ha)]
  left
  unfold Oper.wp
  rw [Ap (CL h2) (CL (BK h2)) hc a w ha hW,Oper.upon_enter]
  refine (h w hW).mono ?_
  rintro e w' ⟨x,rfl,hb,hg⟩
  refine next x (λz hz hr b e=>?_) _ _ (ha.put (Bj (BK (BK h2)))) (hW.give hb hg)
  rcases (hg.1 z hz b e).1 with h3|⟨_,h3⟩
  · exact .inl (Nat.le_trans hW.size h3)
  · exact h3.2
end
structure OX (T z:Nat) (cs:List Value) (n:Nat) where
  p:Option Addr
  c:Nat
  ok:OwnOk p n c
@[reducible] def Tx {T z:Nat} {cs:List Value} {n:Nat} (a:OX T z cs n):Value:=.slice a.p n a.c
@[reducible] def NC {T z:Nat} {cs:List Value} {n:Nat} (a:OX T z cs n):List As:=[rowW a.p T z n a.c cs]
@[reducible] def XE {T z:Nat} {cs:List Value} {n:Nat} (a:OX T z cs n):Value:=.slice a.p n n
theorem OwnOk.clip {p:Option Addr} {n c:Nat} (h:OwnOk p n c):Ak p n n:=⟨λe=>⟨(h.nil e).1,(h.nil e).1⟩,λa e=>by rw [h.at0 a e],Nat.le_refl _⟩
theorem UY (p:Pt):((BC p).all λu=>u.oneCell')=true:=rfl
theorem VR (t:Nat×Nat×Nat):((Aq t).all λu=>u.oneCell')=true:=rfl
theorem C1 {α:Type} {enc:α->List Value} (h:∀x,((enc x).all λu=>u.oneCell')=true):∀xs:List α,((rowsL enc xs).all λu=>u.oneCell')=true
  | []=>rfl
  | x::r=>by
    have e:rowsL enc (x::r)=enc x++rowsL enc r:=rfl
    rw [e,List.all_append,h x,C1 h r];rfl
theorem Rz {A B vs:List Value} {r:Nat} (h:r+vs.length<=A.length):Fq (A++B) r vs=Fq A r vs++B:=by
  unfold Fq
  rw [List.take_append_of_le_length (by omega),List.drop_append_of_le_length h,<-List.append_assoc]
theorem QB {A B vs:List Value} {o:Nat}:Fq (A++B) (A.length+o) vs=A++Fq B o vs:=by
  unfold Fq
  rw [List.take_append,List.take_of_length_le (by omega),Nat.add_sub_cancel_left,List.drop_append,List.drop_of_length_le (by omega),show A.length+o+vs.length-A.length=o+vs.length by omega]
  simp
theorem KV {α:Type} {enc:α->List Value} {z:Nat} (hl:∀x,(enc x).length=z) (d:α) {r:Nat} {vs:List Value} {x':α}:∀{xs:List α} {j:Nat},j<xs.length->r+vs.length<=z->Fq (enc (xs.getD j d)) r vs=enc x'->Fq (rowsL enc xs) (j*z+r) vs=rowsL enc (xs.set j x')
  | x::q,0,_,h2,h3=>by
    have e:∀y,rowsL enc (y::q)=enc y++rowsL enc q:=λ_=>rfl
    rw [Nat.zero_mul,Nat.zero_add,List.set_cons_zero,e,e,Rz (by rw [hl];exact h2)]
    exact congrArg (·++rowsL enc q) h3
  | x::q,j+1,h1,h2,h3=>by
    have e:∀y l,rowsL enc (y::l)=enc y++rowsL enc l:=λ_ _=>rfl
    rw [List.set_cons_succ,e,e,show (j+1)*z+r=(enc x).length+(j*z+r) by rw [hl,Nat.add_mul];omega,QB,KV hl d (by simpa using h1) h2 (by simpa using h3)]
section
variable {P:Program} {ops:Array Oper} {rest:List Oper} {Q:Exit->Act->World->Prop} {n d:Nat} {F:List (Nat×Value)} {w0:A_} {S:Nat->Prop} {L L':List As} {t ty T:TypeId} {p:String} {af:Array Edge} {x y:Operand} {dd:Option Tmp} {g:Option (Nat×Bool)} {q:Option Addr} {z m c:Nat} {cs vs:List Value} {v:Value}
theorem Gx {tx ye e:TypeId} (hx:evF F x=some (.slice q m c)) (hy:evF F y=some (.slice none 0 0)) (hu:P.underlying tx=some (.slice e)):Ex P n F w0 L ⟨dd,.binOp .eql tx x y ye,t,p,af,g⟩ (.bool q.isNone):=λA w ha _=>by
  have h1:(eqGuard .eql tx x y (.slice q m c) (.slice none 0 0)).run P w=.ok () w:=rfl
  simp only [execOp,ha.ev hx,ha.ev hy,Sem.run_bind,h1,Result.andThen_ok,Lib.run_eql_slice_nil w tx e q m c 0 0 hu,Sem.run_pure]
theorem OkL.appendE0 {s:Operand} {bytes c2:Nat} {q2:Option Addr} {news:List Value} (ht:ElemT P t T z bytes) (hs:evF F s=some (.slice q 0 c)) (ho:OwnOk q 0 c)
    (hx:evF F x=some (.slice q2 m c2)) (hsrc:XI w0 (rowW q T z 0 c []::L) q2 m news) (hnl:news.length=m*z) (h1:(news.all λu=>u.oneCell')=true) (h63:m<=maxLen) (hbytes:m*bytes<=140737488355328) (hd:Nat.ble (d+1) n=true)
    (next:∀p' c',OwnOk p' m c'->OkL P ops rest Q n ((d,.slice p' m c')::F) w0 (rowW p' T z m c' news::L)) :
    OkL P ops (⟨some d,.call { callee:=.builtin .append,args:=#[s,x],argTypes:=#[t,t] },ty,p,af,none⟩::rest) Q n F w0 (rowW q T z 0 c []::L):=by
  refine OkL.appendS0 (cs2:=news) ht hs ho (by simp) hx hsrc hnl h1 (by rw [Nat.zero_add];exact h63) (by rw [Nat.zero_add];exact hbytes) rfl hd λp' c' h=>?_
  rw [Nat.zero_add] at h ⊢
  exact next p' c' h
theorem OkL.storeObj (i:Nat) {α:Type} {enc:α->List Value} {j r:Nat} {x':α} {xs:List α} (df:α) (hlen:∀a,(enc a).length=z) (ho:OwnOk q m c) (hxs:xs.length=m) (hx:evF F x=some (pP (pB q) (pO q+(j*z+r)))) (hy:evF F y=some v) (hi:L[i]?=some (rowW q T z m c (rowsL enc xs))) (hq:q≠none) (hj:j<m)
    (hv:v.cells=vs.toArray) (hs:∀w,(sizeOf ty).run P w=.ok vs.length w) (h1:(vs.all λu=>u.oneCell',Nat.ble (r+vs.length) z,Mn L i (rowW q T z m c (rowsL enc (xs.set j x'))))=(true,true,some L')) (he:Fq (enc (xs.getD j df)) r vs=enc x')
    (next:OkL P ops rest Q n F w0 L'):OkL P ops (⟨none,.store ty x y,t,p,af,none⟩::rest) Q n F w0 L:=by
  have hz:=Nat.le_of_ble_eq_true (CL (BK h1))
  have hjz:(j+1)*z<=m*z:=Nat.mul_le_mul_right z hj
  rw [Nat.add_mul] at hjz
  refine OkL.storeRow i hx hy hi ho (by rw [Ab hlen,hxs]) hq hv hs (CL h1) (by omega) ?_
  rw [KV hlen df (by omega) hz he,GQ (BK (BK h1))]
  exact next
theorem OkL.frzRow (i:Nat) (hi:L[i]?=some (rowW q T z m c cs)) (ho:OwnOk q m c) (hl:cs.length=m*z) (hex:w0.ex=none) (hs:Mn L i (AF q cs)=some L') (next:(∀b,q.map (·.block)=some b->w0.w.heap.size<=b)->OkL P ops rest Q n F w0 L'):OkL P ops rest Q n F w0 L:=λa w ha hw=>by
  refine next (λb e=>?_) a w ha (GQ hs▸hw.freeze hi rfl (λo hp=>CD ho hl hp) (λe=>by cases e))
  rcases (hw.2.1 _ (List.mem_of_getElem? hi) b e).1 with h1|h1|h1
  · cases h1
  · exact h1
  · rw [hex] at h1;cases h1
theorem At.new {n:Nat} {cs:List Value} {a:RX cs n} (h:∀b,a.p.map (·.block)=some b->w0.w.heap.size<=b):At w0 S a:=λy hy b e=>by
  rcases List.mem_singleton.1 hy with rfl
  exact .inl (h b e)
end
structure Zi (ps:List Pt) (ts ss:List (Nat×Nat×Nat)) where
  a:OX 99 10 (rowsL BC ps) ps.length
  b:OX 105 3 (rowsL Aq ts) ts.length
  c:OX 110 3 (rowsL Aq ss) ss.length
@[reducible] def Zw {ps:List Pt} {ts ss:List (Nat×Nat×Nat)} (x:Zi ps ts ss):List As:=[rowW x.c.p 110 3 ss.length x.c.c (rowsL Aq ss),rowW x.b.p 105 3 ts.length x.b.c (rowsL Aq ts),rowW x.a.p 99 10 ps.length x.a.c (rowsL BC ps)]
structure V4 (ps:List Pt) (ts ss:List (Nat×Nat×Nat)) (l:List Nat) (e:Nat) where
  m:MX ps ts ss
  q:RX (inL l) l.length
theorem Xw {ps:List Pt} {ts ss:List (Nat×Nat×Nat)} {l:List Nat} {e:Nat} {x:V4 ps ts ss l e} {y:As} (hy:y∈[x.m.a.row,x.m.b.row,x.m.c.row,x.q.row]):y.ro=true:=by
  simp only [List.mem_cons,List.not_mem_nil,or_false] at hy
  rcases hy with rfl|rfl|rfl|rfl<;>rfl
instance {ps:List Pt} {ts ss:List (Nat×Nat×Nat)} {l:List Nat} {e:Nat}:Ci (V4 ps ts ss l e):=⟨λx=>.tuple #[aG (E6 x.m),x.q.val,vN e],λx=>[x.m.a.row,x.m.b.row,x.m.c.row,x.q.row],λx y hy=>Xw hy⟩
theorem X9 {S:Nat->Prop} {W w:World} {L:List As} {ps:List Pt} {ts ss:List (Nat×Nat×Nat)} (hw:BB ⟨W,none⟩ w L) (i j k:Nat) {p1 p2 p3:Option Addr} {T1 T3 n1 n2 n3 c1 c2 c3:Nat}
    (h1:L[i]?=some (rowW p1 T1 10 n1 c1 (rowsL BC ps))) (h2:L[j]?=some (AF p2 (rowsL Aq ts))) (h3:L[k]?=some (rowW p3 T3 3 n3 c3 (rowsL Aq ss))) (o1:OwnOk p1 n1 c1) (o2:Ak p2 n2 c2) (b2:∀b,p2.map (·.block)=some b->W.heap.size<=b) (o3:OwnOk p3 n3 c3) (e1:n1=ps.length) (e2:n2=ts.length) (e3:n3=ss.length)
    {v:Value} (hv:v=aG [.slice p1 n1 n1,.slice p2 n2 c2,.slice p3 n3 n3]):Ah (MX ps ts ss) S W (.returned v) w:=by
  subst e1;subst e2;subst e3
  refine ⟨⟨⟨p1,ps.length,o1.clip⟩,⟨p2,c2,o2⟩,⟨p3,ss.length,o3.clip⟩⟩,by rw [hv];rfl,hw.out,λy hy=>?_⟩
  have hy:y∈[AF p1 (rowsL BC ps),AF p2 (rowsL Aq ts),AF p3 (rowsL Aq ss)]:=hy
  simp only [List.mem_cons,List.not_mem_nil,or_false] at hy
  rcases hy with rfl|rfl|rfl
  · exact DC hw i h1 o1 (Ab Bk _)
  · exact ⟨hw.holds h2,λb e=>.inl (b2 b e)⟩
  · exact DC hw k h3 o3 (Ab BF _)
section
variable {P:Program} {ops:Array Oper} {rest:List Oper} {Q:Exit->Act->World->Prop} {n d:Nat} {F:List (Nat×Value)} {w0:A_} {S:Nat->Prop} {L:List As} {t:TypeId} {p:String} {af:Array Edge} {y:Operand} {f:FuncId} {xs:List Operand} {args:List Value} {tys:Array TypeId} {ps:List Pt} {ts ss:List (Nat×Nat×Nat)} {l:List Nat} {e:Nat}
theorem cM (hc:∀args w,(callFunc f args).run P w=.ok (.enter f args) w) (h:∀w,BB w0 w L->Calls P f args.toArray w (Ah (MX ps ts ss) (SL w0 S L) w))
    (h2:(evF F y,xs.map (evF F),Nat.ble (d+1) n)=(some (.func (.func f) #[] #[]),args.map some,true)) (next:∀a:MX ps ts ss,At w0 S a->OkL P ops rest Q n ((d,aG (E6 a))::F) w0 (AF a.a.p (rowsL BC ps)::AF a.b.p (rowsL Aq ts)::AF a.c.p (rowsL Aq ss)::L)) :
    OkL P ops (⟨some d,.call { callee:=.value y,args:=xs.toArray,argTypes:=tys },t,p,af,none⟩::rest) Q n F w0 L:=OkL.callR hc h (CL h2) (CL (BK h2)) (BK (BK h2)) next
theorem Zo (hc:∀args w,(callFunc f args).run P w=.ok (.enter f args) w) (h:∀w,BB w0 w L->Calls P f args.toArray w (Ah (V4 ps ts ss l e) (SL w0 S L) w))
    (h2:(evF F y,xs.map (evF F),Nat.ble (d+1) n)=(some (.func (.func f) #[] #[]),args.map some,true)) (next:∀a:V4 ps ts ss l e,At w0 S a.m->At w0 S a.q->OkL P ops rest Q n ((d,.tuple #[aG (E6 a.m),.slice a.q.p l.length a.q.c,vN e])::F) w0 (AF a.m.a.p (rowsL BC ps)::AF a.m.b.p (rowsL Aq ts)::AF a.m.c.p (rowsL Aq ss)::AF a.q.p (inL l)::L)) :
    OkL P ops (⟨some d,.call { callee:=.value y,args:=xs.toArray,argTypes:=tys },t,p,af,none⟩::rest) Q n F w0 L:=OkL.callR hc h (CL h2) (CL (BK h2)) (BK (BK h2)) λa ha =>
  next a (λz hz=>ha z (List.mem_append_left [a.q.row] (show z∈[a.m.a.row,a.m.b.row,a.m.c.row] from hz))) (λz hz=>ha z (by rcases List.mem_singleton.1 hz with rfl;exact List.mem_append_right [a.m.a.row,a.m.b.row,a.m.c.row] List.mem_cons_self))
end
theorem XP {S:Nat->Prop} {W w:World} {L:List As} {ps:List Pt} {ts ss:List (Nat×Nat×Nat)} {l:List Nat} {e:Nat} (hw:BB ⟨W,none⟩ w L) {x:MX ps ts ss} (h:Ro (SL ⟨W,none⟩ S L) w x) (i:Nat) {q:Option Addr} {T n c:Nat} (hi:L[i]?=some (rowW q T 1 n c (inL l))) (ho:OwnOk q n c) (hl:n=l.length) {v:Value} (hv:v=.tuple #[aG (E6 x),.slice q n c,vN e]):Ah (V4 ps ts ss l e) S W (.returned v) w:=by
  subst hl
  refine ⟨⟨x,⟨q,c,ho.row⟩⟩,by rw [hv];rfl,hw.out,λy hy=>?_⟩
  have hy:y∈[x.a.row,x.b.row,x.c.row]++[AF q (inL l)]:=hy
  rcases List.mem_append.1 hy with hy|hy
  · have h1:=h y hy
    exact ⟨h1.1,λb e=>(h1.2 b e).2⟩
  · rcases List.mem_singleton.1 hy with rfl
    exact DC hw i hi ho (by rw [Jh,Nat.mul_one])
end
section
section
variable {α β:Type} [DecidableEq α]
theorem Cx {kvs:List (α×β)} {x z:α} {y:β}:Az (BL kvs x y) z=if z=x then some y else Az kvs z:=by
  induction kvs with
  | nil=>rfl
  | cons p r ih =>
    obtain ⟨k,v⟩:=p
    unfold BL
    split
    · rename_i e
      subst e
      unfold Az
      split<;>rfl
    · rename_i e
      rw [Az,ih]
      by_cases h:z=k
      · rw [if_pos h,if_neg (λe2=>e (e2.symm.trans h)),Az,if_pos h]
      · rw [if_neg h]
        split
        · rfl
        · rw [Az,if_neg h]
end
section
variable {ts:List (Nat×Nat×Nat)}
def B5 (ts:List (Nat×Nat×Nat)) (u:Nat):P2:=(Ga (ts.getD (u/3) (0,0,0)) (u%3),Ga (ts.getD (u/3) (0,0,0)) ((u%3+1)%3))
def Iq (ts:List (Nat×Nat×Nat)) (s a b:Nat) (z:Int):Prop:=(z = -1/\∀u,u<s->B5 ts u≠(a,b))\/∃u,u<s/\z=((u/3:Nat):Int)/\B5 ts u=(a,b)/\∀v,v<u->B5 ts v≠(a,b)
theorem Iq.none {s a b:Nat} (h:∀u,u<s->B5 ts u≠(a,b)):Iq ts s a b (-1):=.inl ⟨rfl,h⟩
theorem Iq.skip {s a b:Nat} {z:Int} (h:Iq ts s a b z) (hn:B5 ts s≠(a,b)):Iq ts (s+1) a b z:=by
  rcases h with ⟨h1,h2⟩|⟨u,h1,h2,h3,h4⟩
  · refine .inl ⟨h1,λu hu=>?_⟩
    rcases Nat.lt_or_ge u s with h|h
    · exact h2 u h
    · rw [show u=s by omega];exact hn
  · exact .inr ⟨u,by omega,h2,h3,h4⟩
theorem Iq.take {s a b:Nat} (h:Iq ts s a b (-1)) (hn:B5 ts s=(a,b)):Iq ts (s+1) a b ((s/3:Nat):Int):=by
  rcases h with ⟨h1,h2⟩|⟨u,h1,h2,h3,h4⟩
  · exact .inr ⟨s,by omega,rfl,hn,h2⟩
  · omega
theorem Iq.keep {s a b:Nat} {z:Int} (h:Iq ts s a b z) (hz:z ≠ -1):Iq ts (s+1) a b z:=by
  rcases h with ⟨h1,h2⟩|⟨u,h1,h2,h3,h4⟩
  · exact absurd h1 hz
  · exact .inr ⟨u,by omega,h2,h3,h4⟩
structure Wu (ts:List (Nat×Nat×Nat)) (s:Nat) (k:P2) (e:E4):Prop where
  ea:e.a=k.1
  eb:e.b=k.2
  lt:k.1<k.2
  l:Iq ts s k.1 k.2 e.l
  r:Iq ts s k.2 k.1 e.r
  some:∃u,u<s/\(B5 ts u=(k.1,k.2)\/B5 ts u=(k.2,k.1))
theorem Iz (hd:∀u,u<3*ts.length->(B5 ts u).1≠(B5 ts u).2):∀s,s<=3*ts.length->(∀k e,Az (CJ ts s) k=some e->Wu ts s k e)/\(∀k,Az (CJ ts s) k=none->k.1<k.2->∀u,u<s->B5 ts u≠(k.1,k.2)/\B5 ts u≠(k.2,k.1))
  | 0,_=>⟨λk e h=>(by cases h),λk _ _ u hu=>absurd hu (Nat.not_lt_zero _)⟩
  | s+1,hs=>by
    obtain ⟨i1,i2⟩:=Iz hd s (by omega)
    have hne:=hd s (by omega)
    obtain ⟨a,ha⟩:∃a,a=Ga (ts.getD (s/3) (0,0,0)) (s%3):=⟨_,rfl⟩
    obtain ⟨b,hb⟩:∃b,b=Ga (ts.getD (s/3) (0,0,0)) ((s%3+1)%3):=⟨_,rfl⟩
    have hdir:B5 ts s=(a,b):=by rw [ha,hb];rfl
    rw [hdir] at hne
    have hE:CJ ts (s+1)=P8 (CJ ts s) (s/3) a b:=by rw [ha,hb];rfl
    rw [hE]
    unfold P8
    have hky:(Bz a b).1<(Bz a b).2:=by unfold Bz;simp only at hne ⊢;omega
    -- what the old edge,or the new one,knows
    have h0:∀e0,e0=(Az (CJ ts s) (Bz a b)).getD (H4 (Bz a b))->e0.a=(Bz a b).1/\e0.b=(Bz a b).2/\Iq ts s (Bz a b).1 (Bz a b).2 e0.l/\Iq ts s (Bz a b).2 (Bz a b).1 e0.r:=by
      intro e0 he0
      cases hg:Az (CJ ts s) (Bz a b) with
      | none =>
        rw [hg] at he0
        have h2:=i2 _ hg hky
        subst he0
        exact ⟨rfl,rfl,Iq.none λu hu=>(h2 u hu).1,Iq.none λu hu=>(h2 u hu).2⟩
      | some e =>
        rw [hg] at he0
        have h2:=i1 _ _ hg
        subst he0
        exact ⟨h2.ea,h2.eb,h2.l,h2.r⟩
    constructor
    · intro k e hk
      rw [Cx] at hk
      split at hk
      · rename_i e1
        injection hk with hk
        obtain ⟨c1,c2,c3,c4⟩:=h0 _ rfl
        obtain ⟨e0,he0⟩:∃e0,e0=(Az (CJ ts s) (Bz a b)).getD (H4 (Bz a b)):=⟨_,rfl⟩
        rw [<-he0] at hk c1 c2 c3 c4
        subst hk
        have hends:=Kf e0 (s/3) a b
        rw [e1]
        rcases Nat.lt_or_ge a b with hab|hab
        · have k1:(Bz a b).1=a:=by unfold Bz;simp only;omega
          have k2:(Bz a b).2=b:=by unfold Bz;simp only;omega
          rw [k1,k2] at c3 c4
          refine ⟨hends.1.trans c1,hends.2.trans c2,hky,?_,?_,s,by omega,.inl (by rw [k1,k2];exact hdir)⟩<;>rw [k1,k2]
          · unfold Ev
            by_cases hl:e0.l = -1
            · rw [if_pos ⟨hab,hl⟩]
              rw [hl] at c3
              exact c3.take hdir
            · rw [if_neg (λh=>hl h.2),if_neg (λh=>by omega)]
              exact c3.keep hl
          · have hn2:B5 ts s≠(b,a):=by rw [hdir];intro h;injection h with h _;omega
            unfold Ev
            split
            · exact c4.skip hn2
            · rw [if_neg (λh=>by omega)]
              exact c4.skip hn2
        · have hba:b<a:=by simp only at hne;omega
          have k1:(Bz a b).1=b:=by unfold Bz;simp only;omega
          have k2:(Bz a b).2=a:=by unfold Bz;simp only;omega
          rw [k1,k2] at c3 c4
          have hn2:B5 ts s≠(b,a):=by rw [hdir];intro h;injection h with h _;omega
          refine ⟨hends.1.trans c1,hends.2.trans c2,hky,?_,?_,s,by omega,.inr (by rw [k1,k2];exact hdir)⟩<;>rw [k1,k2]
          · unfold Ev
            rw [if_neg (λh=>by omega)]
            split
            · exact c3.skip hn2
            · exact c3.skip hn2
          · unfold Ev
            rw [if_neg (λh=>by omega)]
            by_cases hl:e0.r = -1
            · rw [if_pos ⟨hba,hl⟩]
              rw [hl] at c4
              exact c4.take hdir
            · rw [if_neg (λh=>hl h.2)]
              exact c4.keep hl
      · rename_i e1
        obtain ⟨a1,a2,a3,a4,a5,u,a6,a7⟩:=i1 k e hk
        have n1:B5 ts s≠(k.1,k.2):=by
          rw [hdir];intro h;injection h with h1 h2
          exact e1 (Prod.ext (by unfold Bz;simp only;omega) (by unfold Bz;simp only;omega))
        have n2:B5 ts s≠(k.2,k.1):=by
          rw [hdir];intro h;injection h with h1 h2
          exact e1 (Prod.ext (by unfold Bz;simp only;omega) (by unfold Bz;simp only;omega))
        exact ⟨a1,a2,a3,a4.skip n1,a5.skip n2,u,by omega,a7⟩
    · intro k hk hlt u hu
      rw [Cx] at hk
      split at hk
      · cases hk
      · rename_i e1
        rcases Nat.lt_or_ge u s with h|h
        · exact i2 k hk hlt u h
        · rw [show u=s by omega,hdir]
          constructor
          · intro h;injection h with h1 h2
            exact e1 (Prod.ext (by unfold Bz;simp only;omega) (by unfold Bz;simp only;omega))
          · intro h;injection h with h1 h2
            exact e1 (Prod.ext (by unfold Bz;simp only;omega) (by unfold Bz;simp only;omega))
theorem Vn {N:Nat} (hn:B8 N ts=true) (hN:N<=4611686018427387904) (hd:∀u,u<3*ts.length->(B5 ts u).1≠(B5 ts u).2) {e:E4} (he:e∈BS ts):Wu ts (3*ts.length) (e.a,e.b) e:=by
  unfold BS at he
  obtain ⟨p,hp,h1⟩:=List.mem_map.1 ((DL _).mem_iff.1 he)
  obtain ⟨j,hj,h2⟩:=List.getElem_of_mem hp
  have h3:=It (x:=p.1) (v:=p.2) (Eu hn hN _ (Nat.le_refl _)).once (show (CJ ts (3*ts.length))[j]?=some (p.1,p.2) by rw [List.getElem?_eq_getElem hj,h2])
  have h4:=(Iz hd _ (Nat.le_refl _)).1 _ _ h3
  rw [h1] at h4
  rw [show (e.a,e.b)=p.1 from Prod.ext h4.ea h4.eb]
  exact h4
end
end
section
theorem OT {P:Program} {k e:TypeId} (hu:P.underlying k=some (.array 2 e)) (he:P.underlying e=some (.int .i64)) (ce:P.cellsOf e=1) (ck:P.cellsOf k=2) (hk:P.keyType k=true) (hr:k<P.types.size)
    {a b:Int} (wa:(Lit.int .i64 a).wf=true) (wb:(Lit.int .i64 b).wf=true):∃l,keyOf P k (.agg #[.int .i64 a,.int .i64 b])=some l:=by
  have h0:0<P.types.size:=Nat.lt_of_le_of_lt (Nat.zero_le _) hr
  obtain ⟨d,hd⟩:∃d,P.types.size=d+1:=⟨P.types.size-1,by omega⟩
  have hf:(Value.agg #[.int .i64 a,.int .i64 b]).formed P k=true:=by
    unfold Value.formed
    simp only [hu,ck]
    rfl
  have hl:P.keyLits (P.types.size+1) k (Value.agg #[.int .i64 a,.int .i64 b]).cells.toList=some [.int .i64 a,.int .i64 b]:=by
    rw [hd]
    unfold Program.keyLits
    simp only [hu]
    show (if ([Value.int .i64 a,Value.int .i64 b]:List Value).length=P.cellsOf k then _ else _)=_
    rw [if_pos (by rw [ck];rfl)]
    have e0:P.keyLits (d+1) e ((([Value.int .i64 a,Value.int .i64 b]:List Value).drop (0*P.cellsOf e)).take (P.cellsOf e))=some [.int .i64 a]:=by
      rw [ce];exact Eo he d wa
    have e1:P.keyLits (d+1) e ((([Value.int .i64 a,Value.int .i64 b]:List Value).drop (1*P.cellsOf e)).take (P.cellsOf e))=some [.int .i64 b]:=by
      rw [ce];exact Eo he d wb
    show (List.mapM (λi=>P.keyLits (d+1) e ((([Value.int .i64 a,Value.int .i64 b]:List Value).drop (i*P.cellsOf e)).take (P.cellsOf e))) [0,1]).map List.flatten=_
    simp only [List.mapM_cons,List.mapM_nil,e0,e1]
    rfl
  refine ⟨.string (keyBytes [.int .i64 a,.int .i64 b]),?_⟩
  unfold keyOf
  simp only [hu,hk,hf,Bool.and_self,if_true,hl]
  rfl
theorem Uj {P:Program} (hl:laidOutB P=true) {k e:TypeId} (hr:k<P.types.size) (ht:P.keyTypeAt 2 k=true) (hw:(match P.underlying k with|some (.array _ _)|some (.struct _)=>true|_=>false)=true) (hu:P.underlying k=some (.array 2 e)) (he:P.underlying e=some (.int .i64)) (ce:P.cellsOf e=1) (ck:P.cellsOf k=2) (hk:P.keyType k=true):LF P k FG Li where
  law:=.of_law (deep_law_laid hl (m:=2) (by decide) hr ht hw)
  key:=λa h=>OT hu he ce ck hk hr (Hk h.1) (Hk h.2)
  inj:=λa b h=>J3 h
theorem WX {a b:Nat} (ha:a<4611686018427387904) (hb:b<4611686018427387904):Li (a,b):=⟨ha,hb⟩
def CW {α β:Type} [DecidableEq α]:List (α×β)->α->Nat
  | [],_=>0
  | (k,v)::r,x=>if x=k then 0 else CW r x+1
section
variable {α β:Type} {enc:α->Value} {eV:β->Value} {ok:α->Prop} {P:Program} {kt:TypeId} {n:Nat} {F:List (Nat×Value)} {w0:A_} {L:List As} {d:Nat} {mp kp vp sp:Operand} {t:TypeId} {pp:String} {af:Array Edge} {g:Option (Nat×Bool)} {tx et:TypeId} {b:Nat} {ops:Array Oper} {rest:List Oper} {Q:Exit->Act->World->Prop}
def Og {α β:Type} [DecidableEq α] (b:Nat) (enc:α->Value) (eV:β->Value) (kvs:List (α×β)) (x:α) (v:β):As:=⟨some b,λo=>o=.map (entsM enc eV kvs 0).toArray kvs.length\/o=.map (entsM enc eV (BL kvs x v) 0).toArray (BL kvs x v).length,false⟩
variable [DecidableEq α]
theorem Kv:∀{kvs:List (α×β)} {x:α} {v:β},Az kvs x=some v->BL kvs x v=kvs
  | (k,u)::r,x,v,h=>by
    unfold Az at h
    unfold BL
    split at h
    · rename_i e;injection h with h;rw [if_pos e,h]
    · rename_i e;rw [if_neg e,Kv h]
theorem HV:∀{kvs:List (α×β)} {x:α} {v:β},(BL kvs x v)[CW kvs x]?=some (x,v)
  | [],_,_=>rfl
  | (k,u)::r,x,v=>by
    unfold BL CW
    split
    · rename_i e;rw [List.getElem?_cons_zero,e]
    · rw [List.getElem?_cons_succ,HV]
theorem L9 {x:α} {u v:β}:∀{kvs:List (α×β)},(BL kvs x u).set (CW kvs x) (x,v)=BL kvs x v
  | []=>rfl
  | (k,w)::r=>by
    by_cases e:x=k
    · simp [BL,CW,e]
    · simp [BL,CW,e,L9]
theorem NL:∀{kvs:List (α×β)} {j:Nat} {x:α} {v:β},kvs.Pairwise (λp q=>p.1≠q.1)->kvs[j]?=some (x,v)->CW kvs x=j
  | (k,u)::r,0,x,v,_,h=>by
    simp only [List.getElem?_cons_zero,Option.some.injEq,Prod.mk.injEq] at h
    rw [CW,if_pos h.1.symm]
  | (k,u)::r,j+1,x,v,hp,h=>by
    obtain ⟨h1,h2⟩:=List.pairwise_cons.1 hp
    rw [List.getElem?_cons_succ] at h
    rw [CW,if_neg (λe=>h1 (x,v) (List.mem_of_getElem? h) e.symm),NL h2 h]
theorem JU:∀{kvs:List (α×β)} {x:α},(∀p∈kvs,p.1≠x)->CW kvs x=kvs.length
  | [],_,_=>rfl
  | (k,v)::r,x,h=>by
    rw [CW,if_neg (λe=>h (k,v) List.mem_cons_self e.symm),JU λp hp=>h p (List.mem_cons_of_mem _ hp)];rfl
theorem Uc {i:Nat} {kvs:List (α×β)} (x:α) (v:β) (hi:L[i]?=some (CE b enc eV kvs)):Wk (L.set i (Og b enc eV kvs x v)) L:=λw0 w hw=>by
  exact hw.freeze (i:=i) (y:=Og b enc eV kvs x v) hi rfl (λo h=>.inl h) (λe=>by cases e)
theorem S0 {i:Nat} {kvs:List (α×β)} (x:α) (v:β) (hi:L[i]?=some (CE b enc eV (BL kvs x v))):Wk (L.set i (Og b enc eV kvs x v)) L:=λw0 w hw=>by
  exact hw.freeze (i:=i) (y:=Og b enc eV kvs x v) hi rfl (λo h=>.inr h) (λe=>by cases e)
theorem Yh (i:Nat) {kvs:List (α×β)} {x:α} {v:β} {LA:List As} (hi:L[i]?=some (CE b enc eV kvs)) (hs:Mn L i (Og b enc eV kvs x v)=some LA):Wk LA L:=GQ hs▸Uc x v hi
theorem XA (i:Nat) {kvs:List (α×β)} {x:α} {v:β} {LA:List As} (hi:L[i]?=some (CE b enc eV (BL kvs x v))) (hs:Mn L i (Og b enc eV kvs x v)=some LA):Wk LA L:=GQ hs▸S0 x v hi
theorem Gn (K:LF P kt enc ok) (i:Nat) {kvs:List (α×β)} {x:α} {z0 v:β} {dd:Option Tmp} (hx:evF F mp=some (.map (some b))) (hk:evF F kp=some (enc x)) (ht:P.underlying tx=some (.map kt et)) (hz:∀w,(zeroValue et).run P w=.ok (eV z0) w) (hi:L[i]?=some (Og b enc eV kvs x v)) (hm:G3 ok kvs) (hok:ok x) (hv:v=(Az kvs x).getD z0) :
    Ex P n F w0 L ⟨dd,.lookup tx mp kp false,t,pp,af,g⟩ (eV v):=λA w ha hw=>by
  obtain ⟨_,o,ho,hp⟩:=hw.2.1 _ (List.mem_of_getElem? hi) b rfl
  obtain ⟨lx,hlx⟩:=K.key x hok
  have hc:=λem=>K.law.check w em hlx
  have key:∀kvs':List (α×β),G3 ok kvs'->(Az kvs' x).getD z0=v->w.heap[b]?=some (.map (entsM enc eV kvs' 0).toArray kvs'.length)->(execOp A.eval ⟨dd,.lookup tx mp kp false,t,pp,af,g⟩).run P w=.ok (.value (eV v)) w:=λkvs' hm' hg ho=>by
    rcases GT (eV:=eV) K hm' hok w with ⟨h1,_,h2⟩|⟨j,u,_,h1,h2⟩
    · rw [h1] at hg
      simp only [execOp,ha.ev hx,ha.ev hk,Instr.lookup,Sem.run_bind,run_underlying ht,B4 ho,Result.andThen_ok,Sem.run_pure,hc,List.toList_toArray,h2,hz]
      rw [<-hg];rfl
    · rw [h1] at hg
      simp only [execOp,ha.ev hx,ha.ev hk,Instr.lookup,Sem.run_bind,run_underlying ht,B4 ho,Result.andThen_ok,Sem.run_pure,hc,List.toList_toArray,h2]
      rw [<-hg];rfl
  rcases hp with hp|hp
  · exact key kvs hm hv.symm (by rw [ho,hp])
  · exact key (BL kvs x v) (hm.put hok) (by rw [Cx,if_pos rfl];rfl) (by rw [ho,hp])
theorem OkL.mapEntry (K:LF P kt enc ok) (i:Nat) {kvs:List (α×β)} {x:α} {z0 v:β} (hx:evF F mp=some (.map (some b))) (hk:evF F kp=some (enc x)) (ht:P.underlying tx=some (.map kt et)) (hz:∀w,(zeroValue et).run P w=.ok (eV z0) w) (hi:L[i]?=some (CE b enc eV kvs)) (hm:G3 ok kvs) (hok:ok x) (hv:v=(Az kvs x).getD z0) (hd:Nat.ble (d+1) n=true)
    (next:OkL P ops rest Q n ((d,.tuple #[eV v,vN (CW kvs x)])::F) w0 (L.set i (CE b enc eV (BL kvs x v)))):OkL P ops (⟨some d,.mapEntry tx mp kp,t,pp,af,none⟩::rest) Q n F w0 L:=λa w ha hW=>by
  obtain ⟨_,o,ho,hp⟩:=hW.2.1 _ (List.mem_of_getElem? hi) b rfl
  have ho:w.heap[b]?=some (.map (entsM enc eV kvs 0).toArray kvs.length):=by rw [ho,hp]
  obtain ⟨lx,hlx⟩:=K.key x hok
  have hc:=λem=>K.law.check w em hlx
  have hst:=K.law.stays w hlx
  have hrun:(execOp a.eval ⟨some d,.mapEntry tx mp kp,t,pp,af,none⟩).run P w=.ok (.value (.tuple #[eV v,vN (CW kvs x)])) (Go.ChangeMaps.setBlock w b (.map (entsM enc eV (BL kvs x v) 0).toArray (BL kvs x v).length)):=by
    rcases GT (eV:=eV) K hm hok w with ⟨h0,h1,h2⟩|⟨j,u,hj,h1,h2⟩
    · rw [h0] at hv
      simp only [Option.getD_none] at hv
      subst hv
      rw [Hs h1,JU h1,FN,List.length_append]
      simp only [execOp,ha.ev hx,ha.ev hk,Instr.mapEntry,Sem.run_bind,run_underlying ht,B4 ho,Result.andThen_ok,hc,List.toList_toArray,h2,hz,Dj ho,Sem.run_pure,List.push_toArray,Nat.zero_add,List.length_singleton]
      rfl
    · rw [h1] at hv
      simp only [Option.getD_some] at hv
      subst hv
      rw [Kv h1,NL hm.once hj]
      have e1:(entsM enc eV kvs 0)[j]?=some ⟨enc x,eV v,0+j⟩:=by rw [Cg,hj];rfl
      have e2:=Ft (enc:=enc) (eV:=eV) (y:=v) hj
      have e3:kvs.set j (x,v)=kvs:=by
        apply List.ext_getElem?
        intro q
        rw [List.getElem?_set]
        split
        · rename_i e;subst e;split
          · exact hj.symm
          · rename_i h9;rw [List.getElem?_eq_none (by omega)]
        · rfl
      rw [e3] at e2
      have e4:(entsM enc eV kvs 0).toArray.modify j (λe=>{ e with key:=enc x })=(entsM enc eV kvs 0).toArray:=by
        apply Array.ext_getElem?
        intro q
        rw [Array.getElem?_modify]
        simp only [List.getElem?_toArray]
        split
        · rename_i e;subst e;rw [e1];rfl
        · rfl
      simp only [execOp,ha.ev hx,ha.ev hk,Instr.mapEntry,Sem.run_bind,run_underlying ht,B4 ho,Result.andThen_ok,hc,List.toList_toArray,List.getElem?_toArray,h2,e1,hst,e4,Dj ho,Sem.run_pure,Option.map_some,Option.getD_some]
      simp [goInt,e1,hst,e4,Dj ho,Result.andThen]
  unfold wpList
  rw [if_pos (AP rfl a ha)]
  left
  unfold Oper.wp
  rw [hrun,Oper.upon_value]
  exact next _ _ (ha.put (Bj hd)) (hW.turn hi rfl rfl (EC _ _ _) ⟨_,El ho,rfl⟩)
theorem OkL.entryStore (i:Nat) {kvs:List (α×β)} {x:α} {u y:β} (hx:evF F mp=some (.map (some b))) (hs:evF F sp=some (vN (CW kvs x))) (hv:evF F vp=some (eV y)) (hi:L[i]?=some (CE b enc eV (BL kvs x u)))
    (next:OkL P ops rest Q n F w0 (L.set i (CE b enc eV (BL kvs x y)))):OkL P ops (⟨none,.entryStore tx mp sp vp,t,pp,af,none⟩::rest) Q n F w0 L:=λa w ha hW=>by
  obtain ⟨_,o,ho,hp⟩:=hW.2.1 _ (List.mem_of_getElem? hi) b rfl
  have ho:w.heap[b]?=some (.map (entsM enc eV (BL kvs x u) 0).toArray (BL kvs x u).length):=by rw [ho,hp]
  have hf:=HV (kvs:=kvs) (x:=x) (v:=u)
  have hlt:CW kvs x<(BL kvs x u).length:=(List.getElem?_eq_some_iff.1 hf).1
  have e0:(entsM enc eV (BL kvs x u) 0)[CW kvs x]?=some ⟨enc x,eV u,CW kvs x⟩:=by rw [Cg,hf];simp
  have hnd:((entsM enc eV (BL kvs x u) 0).map (·.born)).Nodup:=by
    have e1:∀(l:List (α×β)) (s:Nat),(entsM enc eV l s).map (·.born)=List.range' s l.length:=by
      intro l
      induction l with
      | nil=>intro s;rfl
      | cons p r ih=>intro s;rw [entsM,List.map_cons,ih,List.length_cons,List.range'_succ]
    rw [e1];exact List.nodup_range'
  have hidx:(entsM enc eV (BL kvs x u) 0).toArray.findIdx? (λe=>((e.born:Nat):Int) == ((CW kvs x:Nat):Int))=some (CW kvs x):=by
    rw [WideElems.findIdx_arr]
    exact WideElems.findIdx_born hnd e0
  have hset:(BL kvs x u).set (CW kvs x) (x,y)=BL kvs x y:=L9
  have hmod:=Ft (enc:=enc) (eV:=eV) (y:=y) hf
  have hmod2:(entsM enc eV (BL kvs x u) 0).toArray.modify (CW kvs x) (λe=>{ e with val:=eV y })=(entsM enc eV (BL kvs x y) 0).toArray:=by
    rw [<-hset,<-hmod]
    apply Array.ext_getElem?
    intro q
    rw [Array.getElem?_modify,Array.getElem?_modify]
    simp only [List.getElem?_toArray]
    split
    · rename_i e;subst e;rw [e0];rfl
    · rfl
  have hl2:(BL kvs x y).length=(BL kvs x u).length:=by rw [<-hset,List.length_set]
  have hrun:(execOp a.eval ⟨none,.entryStore tx mp sp vp,t,pp,af,none⟩).run P w=.ok .skip (Go.ChangeMaps.setBlock w b (.map (entsM enc eV (BL kvs x y) 0).toArray (BL kvs x y).length)):=by
    rw [<-hmod2,hl2]
    simp only [execOp,ha.ev hx,ha.ev hs,ha.ev hv,Instr.entryStore,Sem.run_bind,B4 ho,Result.andThen_ok,asInt,asIntOf,Sem.run_pure,hidx,Dj ho]
  unfold wpList
  rw [if_pos (AP rfl a ha)]
  left
  unfold Oper.wp
  rw [hrun,Oper.upon_skip]
  exact next _ _ ha.put_none (hW.turn hi rfl rfl (EC _ _ _) ⟨_,El ho,rfl⟩)
end
end
end Go.Proofs.YtpolhpjiahbidaaGreatDoor
