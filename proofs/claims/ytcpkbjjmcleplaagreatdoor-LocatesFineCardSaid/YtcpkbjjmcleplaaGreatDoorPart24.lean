import Derived.RangeFuncMany
import Derived.Test.YtcpkbjjmcleplaaGreatDoorPart23
namespace Go.Proofs.YtcpkbjjmcleplaaGreatDoor
open Go Go.RowKit Go.Proofs.Tryz
open Go.Value renaming slice→qz,bool→qa
set_option linter.unusedVariables false
set_option linter.unusedSimpArgs false
section
def rF (r:Option Nat):Fence:={ Fence.wide with round:=r }
theorem Ia {r:Option Nat} {m:Nat} {P:Program} {f:FuncId} {args:Array Value} {w:World} {R:Ending->World->Prop} (h:Calls P f args w R):CallsIn (rF r) m P f args w R:=(callsIn_wide (n:=m)).2 h
theorem Nz {r:Option Nat} {m:Nat} {P:Program} {row:String} {args:Array Value} {w:World} {R:Value->World->Prop} (h:Rows P row args w R):RowsIn (rF r) m P row args w R:=λc cs _ =>
  let ⟨v,w',k,s⟩:=h c cs
  ⟨v,w',k,(stepsIn_wide (P:=P)).2 s⟩
def Oi:List Oper->Bool
  | []=>true
  | o::r=>(match o.op with|.defer _=>false|_=>true)&&Oi r
theorem TD {r:Option Nat} {P:Program} {o:Oper} {a:Act} {w:World} {K K':Act->World->Prop} {Q Q':Exit->Act->World->Prop} (hK:∀a w,K a w->K' a w) (hp:∀ch w,Q (.panic ch) a w->Q' (.panic ch) a w) (hq:LetsOut Q->LetsOut Q') (hd:∀c,o.op≠.defer c) (h:o.wp P a w K Q):o.wpIn (rF r) 0 P a w K' Q':=by
  refine ⟨λ_ _=>trivial,?_⟩
  rw [Oper.semAt_eq _ _ _ hd]
  unfold Oper.wp at h
  revert h
  generalize (execOp a.eval o).run P w=x
  intro h
  match x,h with
  | .ok (.value v) w',h=>exact hK _ _ h
  | .ok .skip w',h=>exact hK _ _ h
  | .ok (.defer d) w',h=>exact hK _ _ h
  | .ok (.enter f args) w',h =>
    refine ⟨(λe=>by cases e),Ia (Calls.mono h λe w2 k=>?_)⟩
    match e,k with
    | .returned v,k=>exact hK _ _ k
    | .panicked ch,k=>exact hp _ _ k
    | .outgrown,k=>exact hq k
  | .ok (.row row args) w',h=>exact ⟨(λe=>by cases e),Nz (Rows.mono h λv w2 k=>hK _ _ k)⟩
  | .halt (.panic v) w',h=>exact hp _ _ h
theorem Gq {r:Option Nat} {P:Program} {ops:Array Oper} {Q:Exit->Act->World->Prop} (hno:∀a w,¬Q .outgrown a w) {suf:List Oper}:∀(pre:List Oper) (a:Act) (w:World),Oi pre=true ->
    wpList P ops (Exit.then (λa w=>wpListIn (rF r) 0 P ops Q suf a w) Q) pre a w->wpListIn (rF r) 0 P ops Q (pre++suf) a w
  | [],a,w,_,h=>h
  | o::pre,a,w,hn,h=>by
    have hn1:∀c,o.op≠.defer c:=λc e=>by simp [Oi,e] at hn
    have hn2:Oi pre=true:=by
      unfold Oi at hn
      exact (xZ _ _▸hn).2
    unfold wpList at h
    show wpListIn (rF r) 0 P ops Q (o::(pre++suf)) a w
    unfold wpListIn
    split
    · rename_i hw
      rw [if_pos hw] at h
      rcases h with h|⟨_,a',w',h⟩
      · exact TD (λa w k=>Gq hno pre a w hn2 k) (λ_ _ k=>k) (λk=>k) hn1 h
      · exact absurd h (hno a' w')
    · rename_i hw
      rw [if_neg hw] at h
      exact ⟨λ_ _=>trivial,Gq hno pre _ _ hn2 h⟩
def BS (r:Option Nat) (P:Program) (c:Code) (Q:Exit->Act->World->Prop) (n:Nat) (F:List (Nat×Value)) (w0:Ay) (L:List As):Prop :=
  ∀a w,Cg n a F->A_ w0 w L->c.wpIn (rF r) 0 P Q a w
def IK (r:Option Nat) (P:Program) (ops:Array Oper) (rest:List Oper) (Q:Exit->Act->World->Prop) (n:Nat) (F:List (Nat×Value)) (w0:Ay) (L:List As):Prop :=
  ∀a w,Cg n a F->A_ w0 w L->wpListIn (rF r) 0 P ops Q rest a w
section
variable {r:Option Nat} {P:Program} {ops:Array Oper} {pre rest:List Oper} {Q:Exit->Act->World->Prop} {n:Nat} {F F':List (Nat×Value)} {w0:Ay} {L L':List As} {x y:Code} {id:Nat}
theorem IK.pre_ (hno:∀a w,¬Q .outgrown a w) (hn:Oi pre=true) (h:AP P ops pre (Exit.then (λa w=>wpListIn (rF r) 0 P ops Q rest a w) Q) n F w0 L):IK r P ops (pre++rest) Q n F w0 L:=λa w ha hw=>Gq hno pre a w hn (h a w ha hw)
theorem BS.list {l:List Oper} (h:IK r P l.toArray l Q n F w0 L):BS r P (.region id l.toArray false) Q n F w0 L:=λa w ha hw=>wpIn_region_lit (h a w ha hw)
theorem BS.region {l:List Oper} (hno:∀a w,¬Q .outgrown a w) (hn:Oi l=true) (h:AP P l.toArray l Q n F w0 L):BS r P (.region id l.toArray false) Q n F w0 L:=by
  refine BS.list λa w ha hw=>?_
  have k:=Gq (P:=P) (r:=r) (suf:=[]) (Q:=Q) (ops:=l.toArray) hno l a w hn
  rw [List.append_nil] at k
  refine k ?_
  have k2:(Exit.then (λa w=>wpListIn (rF r) 0 P l.toArray Q [] a w) Q)=Q:=by
    funext e a w
    cases e<;>rfl
  rw [k2]
  exact h a w ha hw
theorem BS.cut (k:Nat) {l:List Oper} (hno:∀a w,¬Q .outgrown a w) (hn:Oi (l.take k)=true) (h:AP P l.toArray (l.take k) (Exit.then (λa w=>wpListIn (rF r) 0 P l.toArray Q (l.drop k) a w) Q) n F w0 L):BS r P (.region id l.toArray false) Q n F w0 L:=by
  refine BS.list ?_
  have h1:=IK.pre_ (rest:=l.drop k) hno hn h
  rw [List.take_append_drop] at h1
  exact h1
theorem IK.ofL {l:List Oper} (hno:∀a w,¬Q .outgrown a w) (hn:Oi l=true) (h:AP P ops l Q n F w0 L):IK r P ops l Q n F w0 L:=λa w ha hw=>by
  have k:=Gq (P:=P) (r:=r) (suf:=[]) (Q:=Q) (ops:=ops) hno l a w hn
  rw [List.append_nil] at k
  refine k ?_
  have k2:(Exit.then (λa w=>wpListIn (rF r) 0 P ops Q [] a w) Q)=Q:=by
    funext e a w
    cases e<;>rfl
  rw [k2]
  exact h a w ha hw
theorem BS.seq (h:BS r P x (Exit.then (y.wpIn (rF r) 0 P Q) Q) n F w0 L):BS r P (.seq x y) Q n F w0 L:=λa w ha hw=>wpIn_seq (h a w ha hw)
theorem BS.skip (h:OkQ Q .normal n F w0 L):BS r P .skip Q n F w0 L:=λa w ha hw=>wpIn_skip (h a w ha hw)
theorem BS.ret (h:OkQ Q .ret n F w0 L):BS r P .ret Q n F w0 L:=λa w ha hw=>wpIn_ret (h a w ha hw)
theorem BS.exit (h:OkQ Q (.exit id) n F w0 L):BS r P (.exit id) Q n F w0 L:=λa w ha hw=>wpIn_exit (h a w ha hw)
theorem BS.block {c:Code} (h:BS r P c (Exit.inBlock id Q) n F w0 L):BS r P (.block id c) Q n F w0 L:=λa w ha hw=>wpIn_block (h a w ha hw)
theorem BS.cond {c:Operand} {t:Bool} (hc:evF F c=some (.bool t)) (h1:t=true->BS r P x Q n F w0 L) (h2:t=false->BS r P y Q n F w0 L):BS r P (.cond c x y) Q n F w0 L:=λa w ha hw =>
  wpIn_cond_split (ha.ev hc) (λe=>h1 e a w ha hw) (λe=>h2 e a w ha hw)
theorem BS.subF {c:Code} (hs:CK F' F) (h:BS r P c Q n F' w0 L):BS r P c Q n F w0 L:=λa w ha hw=>h a w (ha.sub hs) hw
theorem BS.subL {c:Code} (hs:L'.Sublist L) (h:BS r P c Q n F w0 L'):BS r P c Q n F w0 L:=λa w ha hw=>h a w ha (hw.weak hs)
theorem zX (h:BS r P y Q n F w0 L):OkQ (Exit.then (y.wpIn (rF r) 0 P Q) Q) .normal n F w0 L:=h
theorem y9 {c:Code} (h:BS none P c Q n F w0 L):OkC P c Q n F w0 L:=λa w ha hw=>(wpIn_wide (n:=0)).1 (h a w ha hw)
end
structure Lp (P:Program) (l N:Nat) (encs:Nat->List Value) (J:Nat->World->Prop) (X:World->Prop):Prop where
  grow:∀t W W',J t W->GB W.heap.size W W'->J t W'
  growX:∀W W',X W->GB W.heap.size W W'->X W'
  round:∀t W,t<N->J t W->YieldAt Fence.wide 0 P l (encs t).toArray W λe W'=>(e=.returned (.bool true)/\J (t+1) W')\/(e=.returned (.bool false)/\X W')
section
variable {P:Program} {ops:Array Oper} {rest:List Oper} {Q:Exit->Act->World->Prop} {n d:Nat} {F:List (Nat×Value)} {w0:Ay} {L L1 L2:List As} {t:TypeId} {p:String} {af:Array Edge} {y:Operand} {xs:List Operand} {ts:Array TypeId} {l N:Nat} {encs:Nat->List Value} {J:Nat->World->Prop} {X:World->Prop}
theorem IK.yield (i:Nat) (hl:Lp P l N encs J X) (hi:i<N) (hJ:∀w,A_ w0 w L->J i w) (hf:evF F y=some (.func (.yield l) #[] #[])) (hargs:xs.map (evF F)=(encs i).map some) (hd:Nat.ble (d+1) n=true)
    (next:∀W,J (i+1) W->IK none P ops rest Q n ((d,.bool true)::F) ⟨W,none⟩ []) (stop:∀W,X W->IK none P ops rest Q n ((d,.bool false)::F) ⟨W,none⟩ []) :
    IK none P ops (⟨some d,.call { callee:=.value y,args:=xs.toArray,argTypes:=ts },t,p,af,none⟩::rest) Q n F w0 L:=λa w ha hw=>by
  unfold wpListIn
  rw [if_pos (by simp [Region.wanted])]
  obtain ⟨fn,tmps,asg0,bo,hy,hr⟩:=hl.round i w hi (hJ w hw)
  refine ⟨λ_ _=>trivial,?_⟩
  have he:(Oper.semAt (rF none).round a.eval ⟨some d,.call { callee:=.value y,args:=xs.toArray,argTypes:=ts },t,p,af,none⟩).run P w=.ok (.round l fn tmps asg0 bo) w:=by
    have e1:xs.toArray.map a.eval=(encs i).toArray:=by rw [<-Lh ha hargs];simp
    rw [Oper.semAt_eq _ _ _ (λc h=>by cases h)]
    simp [execOp,resolve,ha.ev hf,Deferred.ofValue,e1,invoke,hy]
  rw [he,Oper.uponIn_round]
  refine ⟨(λe=>by cases e),RoundIn.mono hr λe W k=>?_⟩
  rcases k with ⟨rfl,k⟩|⟨rfl,k⟩
  · exact next W k _ _ (ha.put (CO hd)) (A_.start W)
  · exact stop W k _ _ (ha.put (CO hd)) (A_.start W)
theorem y5 {c:Code} (hl:Lp P l N encs J X) (FI:Nat->List (Nat×Value)) (LI:List As) (hro:∀t W,J t W->A_ ⟨W,none⟩ W LI)
    (round:∀t W,t<N->J t W->OkC P c (Exit.then (λa w=>Cg n a (FI (t+1))/\J (t+1) w) Q) n (FI t) ⟨W,none⟩ LI)
    (last:∀W,J N W->OkC P c (Exit.then (λa w=>False) Q) n (FI N) ⟨W,none⟩ LI) {W0:World} (h0:J 0 W0):OkC P (.loop c) Q n (FI 0) ⟨W0,none⟩ L:=λa w ha hw=>by
  refine wp_loop_rounds (N+1) ?_
  have key:∀k t a w,t+k=N->Cg n a (FI t)->J t w->Code.rounds P c Q (k+1) a w:=by
    intro k
    induction k with
    | zero =>
      intro t a w e ha hj
      rw [rounds_succ]
      have e:t=N:=by omega
      subst e
      refine Code.wp_mono (λe a' w' hq=>?_) (last w hj a w ha (hro _ _ hj))
      cases e<;>first
        | exact hq.elim
        | exact hq
    | succ k ih =>
      intro t a w e ha hj
      rw [rounds_succ]
      refine Code.wp_mono (λe a' w' hq=>?_) (round t w Z hj a w ha (hro _ _ hj))
      cases e<;>first
        | exact ih (t+1) a' w' Z hq.1 hq.2
        | exact hq
  exact key N 0 a w Z ha (hl.grow 0 _ _ h0 hw.out)
end
@[reducible] def cY (l:Nat) (o:Loop):As:=⟨some l,λx=>x=.loop o,false⟩
@[reducible] def Sl (D:Nat):As:=⟨some D,λx=>x=.deferred (some []),false⟩
@[reducible] def Vr (D:Nat):As:=⟨some D,λx=>True,false⟩
theorem A_.putObj {w0:Ay} {w:World} {L:List As} (h:A_ w0 w L) (i:Nat) {b:Nat} {x y:As} {o:Obj} (hi:L[i]?=some x) (hx:x.foot=some b) (hy:y.foot=some b) (ho:y.P o) (hr:x.ro=false):A_ w0 (w.putObj b o) (L.set i y) :=
  h.turn hi hx hy ⟨grownBy_putObj' w b o,Nat.le_refl _⟩ ⟨o,World.putObj_heap_same (h.lt (List.mem_of_getElem? hi) hx),ho⟩ hr
theorem A_.at {w0:Ay} {w:World} {L:List As} (h:A_ w0 w L) {i b:Nat} {x:As} (hi:L[i]?=some x) (hx:x.foot=some b):∃o,w.heap[b]?=some o/\x.P o:=(h.2.1 x (List.mem_of_getElem? hi) b hx).2
def Tz (D:Nat):Deferred:={ target:=.collected D,args:=#[] }
def gp {σ:Type} (w0:Ay) (la da:As) (t:Nat) (Pt St:Nat->σ->Prop) (Lt Ls:Nat->σ->List As):Exit->Act->World->Prop
  | .normal,_,w=>∃s,Pt (t+1) s/\A_ w0 w (la::da::Lt (t+1) s)
  | .ret,_,w=>∃s,St t s/\A_ w0 w (la::da::Ls t s)
  | _,_,_=>False
section
variable {P:Program} {Q:Exit->Act->World->Prop} {n:Nat} {F:List (Nat×Value)} {w0:Ay} {L:List As}
theorem BS.rangeFunc {σ:Type} {g:Operand} {p1 p2:Tmp} {assign body:Code} {gf:FuncId} {lbs:List Value} (hg:evF F g=some (.func (.func gf) #[] lbs.toArray)) (eg:∀args w,(callFunc gf args).run P w=.ok (.enter gf args) w) (hp1:Nat.ble (p1+1) n=true) (hp2:Nat.ble (p2+1) n=true)
    (N:Nat) (v1 v2:Nat->Value) (Pt St:Nat->σ->Prop) (Lt Ls:Nat->σ->List As) (s0:σ)
    (hs:(Lt 0 s0).Sublist L) (h0:Pt 0 s0)
    (iter:∀(l:Nat) (J:Nat->World->Prop) (X:World->Prop) (W:World),(∀t W,J t W->∃s,Pt t s/\A_ w0 W (Lt t s))->Lp P l N (λt=>[v1 t,v2 t]) J X->J 0 W->Calls P gf (.func (.yield l) #[] #[]::lbs).toArray W λe W'=>(∃v,e=.returned v)/\(J N W'\/X W'))
    (round:∀(l:Nat) (la1 la2 da:As) (t:Nat) (s:σ),t<N->Pt t s->∀K:Act->World->Prop,(∀i F' L',L'[i]?=some la1->BS (some l) P body (gp w0 la2 da t Pt St Lt Ls) n F' w0 (L'.set i la2)->∀a w,Cg n a F'->A_ w0 w L'->K a w) ->
      BS (some l) P assign (Exit.then K λ_ _ _=>False) n ((p2,v2 t)::(p1,v1 t)::F) w0 (la1::da::Lt t s))
    (done:∀(la:As) (D:Nat) (s:σ),Pt N s->∀a w,Cg n a F->A_ w0 w (la::Sl D::Lt N s)->Q .normal { a with defers:=[Tz D] } w)
    (stop:∀(la:As) (D:Nat) (t:Nat) (s:σ),St t s->∀a w,Cg n a F->A_ w0 w (la::Sl D::Ls t s)->Q .ret { a with defers:=[Tz D] } w) :
    BS none P (.rangeFunc g #[p1,p2] assign body) Q n F w0 L:=λa w ha hw=>by
  refine wpIn_rangeFunc λfn _=>?_
  obtain ⟨rec,hrec⟩:∃rec:LoopState->Option Code->Loop,rec=λst pe=>{ state:=st,pending:=pe,fn,tmps:=a.tmps,params:=#[p1,p2],assign,body,defers:=w.heap.size }:=⟨_,rfl⟩
  have hdef:a.defers=[]:=ha.1
  have hsz:(w.alloc (.deferred (some []))).heap.size=w.heap.size+1:=World.size_alloc _ _
  have hW1:A_ w0 ((w.alloc (.deferred (some []))).alloc (.loop (rec .ready none))) (cY (w.heap.size+1) (rec .ready none)::Sl w.heap.size::Lt 0 s0) :=
    ((hw.weak hs).alloc (.deferred (some [])) (x:=Sl w.heap.size) rfl rfl).alloc (.loop (rec .ready none)) (x:=cY (w.heap.size+1) (rec .ready none)) (by rw [hsz]) rfl
  obtain ⟨W1,hW⟩:∃W1,(w.alloc (.deferred (some []))).alloc (.loop (rec .ready none))=W1:=⟨_,rfl⟩
  rw [hW] at hW1
  refine ⟨w.heap.size+1,[Tz w.heap.size],W1,{ target:=.fn (.func gf) lbs.toArray,args:=#[.func (.yield (w.heap.size+1)) #[] #[]] },W1,gf,(.func (.yield (w.heap.size+1)) #[] #[]::lbs).toArray,W1,?_,?_,λ_ _=>trivial,?_,(λe=>by cases e),?_⟩
  · rw [<-hW,hrec];exact run_enterLoop_outer _ _ _ _ _
  · simp [resolve,ha.ev hg,rangeCall,Deferred.ofValue]
    rfl
  · simp [invoke,eg]
  have hloop:Lp P (w.heap.size+1) N (λt=>[v1 t,v2 t]) (λt W=>∃s,Pt t s/\A_ w0 W (cY (w.heap.size+1) (rec .ready none)::Sl w.heap.size::Lt t s)) (λW=>∃t s,St t s/\A_ w0 W (cY (w.heap.size+1) (rec .done (some .ret))::Sl w.heap.size::Ls t s)):=by
    refine ⟨λt W W' ⟨s,h⟩ hb=>⟨s,h.1,h.2.below hb⟩,λW W' ⟨t,s,h1,h2⟩ hb=>⟨t,s,h1,h2.below hb⟩,λt W ht ⟨s,hJ⟩=>?_⟩
    obtain ⟨o,hl,ho⟩:=hJ.2.at (i:=0) rfl rfl
    have hl:W.heap[w.heap.size+1]?=some (.loop (rec .ready none)):=by rw [hl,ho]
    have hy:(Instr.yield (w.heap.size+1) [v1 t,v2 t].toArray).run P W=.ok (.round (w.heap.size+1) fn ((a.tmps.setIfInBounds p1 (v1 t)).setIfInBounds p2 (v2 t)) assign body) W:=by
      have k:=run_yield (P:=P) (args:=[v1 t,v2 t].toArray) hl (by rw [hrec];rfl)
      rw [k,hrec]
      simp
    refine ⟨_,_,_,_,hy,roundIn_of_wpIn trivial ?_⟩
    have h1:=round (w.heap.size+1) (cY (w.heap.size+1) (rec .ready none)) (cY (w.heap.size+1) (rec .busy none)) (Sl w.heap.size) t s ht hJ.1
    have hfr:Cg n { tmps:=(a.tmps.setIfInBounds p1 (v1 t)).setIfInBounds p2 (v2 t),defers:=[] } ((p2,v2 t)::(p1,v1 t)::F):=by
      have k:=(ha.put (v:=v1 t) (CO hp1)).put (v:=v2 t) (CO hp2)
      simp only [Act.put,hdef] at k
      exact k
    refine h1 _ (λi F' L' hi h2 a1 w1 ha1 hw1=>?_) _ _ hfr hJ.2
    obtain ⟨o,hl1,ho⟩:=hw1.at hi rfl
    have hl1:w1.heap[w.heap.size+1]?=some (.loop (rec .ready none)):=by rw [hl1,ho]
    refine ⟨_,run_beginRound hl1 (by rw [hrec]),?_⟩
    have hb:A_ w0 (w1.putObj (w.heap.size+1) (.loop { rec .ready none with state:=.busy })) (L'.set i (cY (w.heap.size+1) (rec .busy none))):=hw1.putObj i hi rfl rfl (by rw [hrec]) rfl
    refine wpIn_mono (h2 a1 _ ha1 hb) λe a2 w2 hq=>?_
    match e,hq with
    | .normal,⟨s2,hq⟩ =>
      obtain ⟨o,hl2,ho⟩:=hq.2.at (i:=0) rfl rfl
      have hl2:w2.heap[w.heap.size+1]?=some (.loop (rec .busy none)):=by rw [hl2,ho]
      exact ⟨_,_,run_endRound none hl2,.inl ⟨rfl,s2,hq.1,hq.2.putObj 0 O O O (by rw [hrec];rfl) O⟩⟩
    | .ret,⟨s2,hq⟩ =>
      obtain ⟨o,hl2,ho⟩:=hq.2.at (i:=0) rfl rfl
      have hl2:w2.heap[w.heap.size+1]?=some (.loop (rec .busy none)):=by rw [hl2,ho]
      exact ⟨_,_,run_endRound (some .ret) hl2,.inr ⟨rfl,t,s2,hq.1,hq.2.putObj 0 O O O (by rw [hrec];rfl) O⟩⟩
  refine Ia (r:=none) (Calls.mono (iter _ _ _ _ (λt W ⟨s,h⟩=>⟨s,h.1,h.2.weak (.cons _ (.cons _ (xP _)))⟩) hloop ⟨s0,h0,hW1⟩) λe W2 hq=>?_)
  obtain ⟨⟨v,rfl⟩,(⟨s,hp,hq⟩|⟨t,s,hp,hq⟩)⟩:=hq
  · obtain ⟨o,hl2,ho⟩:=hq.at (i:=0) rfl rfl
    have hl2:W2.heap[w.heap.size+1]?=some (.loop (rec .ready none)):=by rw [hl2,ho]
    refine ⟨none,W2.putObj (w.heap.size+1) (.loop { rec .ready none with state:=.exhausted }),by have k:=run_endLoop (P:=P) hl2 (by rw [hrec];simp);rw [k,hrec],?_⟩
    have k:=done (Vr (w.heap.size+1)) w.heap.size s hp a _ ha (hq.putObj (o:=.loop { rec .ready none with state:=.exhausted }) (y:=Vr (w.heap.size+1)) 0 rfl rfl rfl trivial rfl)
    simp only [hdef,List.append_nil]
    exact k
  · obtain ⟨o,hl2,ho⟩:=hq.at (i:=0) rfl rfl
    have hl2:W2.heap[w.heap.size+1]?=some (.loop (rec .done (some .ret))):=by rw [hl2,ho]
    refine ⟨some .ret,W2.putObj (w.heap.size+1) (.loop { rec .done (some .ret) with state:=.exhausted }),by have k:=run_endLoop (P:=P) hl2 (by rw [hrec];simp);rw [k,hrec],?_⟩
    have k:=stop (Vr (w.heap.size+1)) w.heap.size t s hp a _ ha (hq.putObj (o:=.loop { rec .done (some .ret) with state:=.exhausted }) (y:=Vr (w.heap.size+1)) 0 rfl rfl rfl trivial rfl)
    simp only [hdef,List.append_nil]
    exact wpIn_ret k
end
def E5 (D:Nat) (P:Program) (c:Code) (Q:Exit->Act->World->Prop) (n:Nat) (F:List (Nat×Value)) (w0:Ay) (L:List As):Prop :=
  ∀a w,Cg n a F->A_ w0 w L->c.wpIn (rF none) 0 P Q { a with defers:=[Tz D] } w
def Qd (D:Nat) (Q:Exit->Act->World->Prop):Exit->Act->World->Prop:=λe a w=>a.defers=[]/\Q e { a with defers:=[Tz D] } w
theorem Rl {D:Nat} {P:Program} {ops:Array Oper} {Q:Exit->Act->World->Prop} (hno:∀a w,¬Q .outgrown a w):∀(l:List Oper) (a:Act) (w:World),a.defers≠[]->wpList P ops (Qd D Q) l a w->False
  | [],a,w,hd,h=>hd h.1
  | o::l,a,w,hd,h=>by
    have hput:∀(d:Option Tmp) (v:Value),(a.put d v).defers≠[]:=λd v=>by cases d<;>exact hd
    unfold wpList at h
    split at h
    · rcases h with h|⟨_,a',w',h⟩
      · unfold Oper.wp at h
        revert h
        generalize (execOp a.eval o).run P w=x
        intro h
        match x,h with
        | .ok (.value v) w',h=>exact Rl hno l _ _ (hput _ _) h
        | .ok .skip w',h=>exact Rl hno l _ _ (hput _ _) h
        | .ok (.defer d) w',h=>exact Rl hno l _ _ (by cases o.dst<;>simp [Act.put]) h
        | .ok (.enter f args) w',h =>
          obtain ⟨e,w2,_,k,_⟩:=h []
          match e,k with
          | .returned v,k=>exact Rl hno l _ _ (hput _ _) k
          | .panicked ch,k=>exact hd k.1
          | .outgrown,k=>obtain ⟨a',w',k⟩:=k;exact hno _ _ k.2
        | .ok (.row row args) w',h =>
          obtain ⟨v,w2,k,_⟩:=h default []
          exact Rl hno l _ _ (hput _ _) k
        | .halt (.panic v) w',h=>exact hd h.1
      · exact hno _ _ h.2
    · exact Rl hno l _ _ (hput _ _) h
theorem Gp {D:Nat} {P:Program} {ops:Array Oper} {Q:Exit->Act->World->Prop} (hno:∀a w,¬Q .outgrown a w):∀(l:List Oper) (a:Act) (w:World),Oi l=true->wpList P ops (Qd D Q) l a w->wpListIn (rF none) 0 P ops Q l { a with defers:=[Tz D] } w
  | [],a,w,_,h=>h.2
  | o::l,a,w,hn,h=>by
    have hn1:∀c,o.op≠.defer c:=λc e=>by simp [Oi,e] at hn
    have hn2:Oi l=true:=by
      unfold Oi at hn
      exact (xZ _ _▸hn).2
    have hput:∀(d:Option Tmp) (v:Value),({ a with defers:=[Tz D] }:Act).put d v={ a.put d v with defers:=[Tz D] }:=λd v=>by cases d<;>rfl
    have hp2:∀(d:Option Tmp) (v:Value) (w:World),wpListIn (rF none) 0 P ops Q l { a.put d v with defers:=[Tz D] } w->wpListIn (rF none) 0 P ops Q l (({ a with defers:=[Tz D] }:Act).put d v) w:=λd v w k=>by rw [hput];exact k
    have hev:({ a with defers:=[Tz D] }:Act).eval=a.eval:=funext λx=>by cases x<;>rfl
    unfold wpList at h
    unfold wpListIn
    split
    · rename_i hw
      rw [if_pos hw] at h
      rcases h with h|⟨_,a',w',h⟩
      · refine ⟨λ_ _=>trivial,?_⟩
        rw [Oper.semAt_eq _ _ _ hn1,hev]
        unfold Oper.wp at h
        revert h
        generalize (execOp a.eval o).run P w=x
        intro h
        match x,h with
        | .ok (.value v) w',h=>exact hp2 o.dst v _ (Gp hno l _ _ hn2 h)
        | .ok .skip w',h=>exact hp2 o.dst undef _ (Gp hno l _ _ hn2 h)
        | .ok (.defer d) w',h=>exact (Rl hno l _ _ (by cases o.dst<;>simp [Act.put]) h).elim
        | .ok (.enter f args) w',h =>
          refine ⟨(λe=>by cases e),Ia (Calls.mono h λe w2 k=>?_)⟩
          match e,k with
          | .returned v,k=>exact hp2 o.dst v _ (Gp hno l _ _ hn2 k)
          | .panicked ch,k=>exact k.2
          | .outgrown,k=>obtain ⟨a',w',k⟩:=k;exact absurd k.2 (hno _ _)
        | .ok (.row row args) w',h=>exact ⟨(λe=>by cases e),Nz (Rows.mono h λv w2 k=>hp2 o.dst v _ (Gp hno l _ _ hn2 k))⟩
        | .halt (.panic v) w',h=>exact h.2
      · exact absurd h.2 (hno _ w')
    · rename_i hw
      rw [if_neg hw] at h
      refine ⟨λ_ _=>trivial,?_⟩
      rw [hput]
      exact Gp hno l _ _ hn2 h
section
variable {D:Nat} {P:Program} {Q:Exit->Act->World->Prop} {n:Nat} {F F':List (Nat×Value)} {w0:Ay} {L L':List As} {x y:Code} {id:Nat} {fn:Func} {R:Ending->World->Prop}
theorem E5.region {l:List Oper} (hno:∀a w,¬Q .outgrown a w) (hn:Oi l=true) (h:AP P l.toArray l (Qd D Q) n F w0 L):E5 D P (.region id l.toArray false) Q n F w0 L:=λa w ha hw=>wpIn_region_lit (Gp hno l a w hn (h a w ha hw))
theorem E5.seq (h:E5 D P x (Exit.then (y.wpIn (rF none) 0 P Q) Q) n F w0 L):E5 D P (.seq x y) Q n F w0 L:=λa w ha hw=>wpIn_seq (h a w ha hw)
theorem E5.ret (h:OkQ (Qd D Q) .ret n F w0 L):E5 D P .ret Q n F w0 L:=λa w ha hw=>wpIn_ret (h a w ha hw).2
theorem E5.subF {c:Code} (hs:CK F' F) (h:E5 D P c Q n F' w0 L):E5 D P c Q n F w0 L:=λa w ha hw=>h a w (ha.sub hs) hw
theorem yQ (h:E5 D P y Q n F w0 L):OkQ (Qd D (Exit.then (y.wpIn (rF none) 0 P Q) Q)) .normal n F w0 L:=λa w ha hw=>⟨ha.1,h a w ha hw⟩
theorem R0 (i:Nat) (hi:L[i]?=some (Sl D)) (h:OkQ (bodyPost P fn R) .ret n F w0 (L.set i (Vr D))):OkQ (Qd D (bodyPostM (rF none) 0 P fn R)) .ret n F w0 L:=λa w ha hw=>by
  obtain ⟨o,hd,ho⟩:=hw.at hi rfl
  have hd:w.heap[D]?=some (.deferred (some [])):=by rw [hd,ho]
  have k:=h a _ ha (hw.putObj (o:=.deferred none) i hi rfl rfl trivial rfl)
  exact ⟨ha.1,by simp,.inl ⟨D,_,rfl,run_takeDeferred hd,k.2⟩⟩
theorem F0 {f:FuncId} {c:Code} {args:List Value} {w:World} (hf:P.funcs[f]?=some fn) (hb:fn.body=some c) (hn:fn.ntmps=n) (hl:args.length<=n) (hL:∀x∈L,x.ro=true/\Holds w x)
    (h:BS none P c (bodyPostM (rF none) 0 P fn R) n (FL 0 args) ⟨w,none⟩ L):Calls P f args.toArray w R:=by
  refine (callsIn_wide (n:=0)).1 (callsIn_of_wp_marks hf hb trivial ?_ O)
  rw [hn]
  exact h _ _ (Fu hl _ λk v hk=>by simpa using (C1 args 0 k v hk).2) (A_.startR hL)
end
section
variable {D:Nat} {P:Program} {Q:Exit->Act->World->Prop} {K:Act->World->Prop} {n t l:Nat} {F F':List (Nat×Value)} {w0:Ay} {L L':List As} {y body:Code} {id:Nat} {la la1 la2 da:As} {σ:Type} {Pt St:Nat->σ->Prop} {Lt Ls:Nat->σ->List As}
theorem yR (s:σ) (h:Pt (t+1) s) (hs:(la::da::Lt (t+1) s).Sublist L):OkQ (gp w0 la da t Pt St Lt Ls) .normal n F w0 L:=λa w ha hw=>⟨s,h,hw.weak hs⟩
theorem xA (s:σ) (h:St t s) (hs:(la::da::Ls t s).Sublist L):OkQ (gp w0 la da t Pt St Lt Ls) .ret n F w0 L:=λa w ha hw=>⟨s,h,hw.weak hs⟩
theorem E5.behind (h:E5 D P y Q n F w0 L):∀a w,Cg n a F->A_ w0 w L->(Exit.inBlock id (Exit.then (y.wpIn (rF none) 0 P Q) Q)) .normal { a with defers:=[Tz D] } w:=h
theorem E5.out (h:OkQ (Qd D Q) .ret n F w0 L):∀a w,Cg n a F->A_ w0 w L->(Exit.inBlock id (Exit.then K Q)) .ret { a with defers:=[Tz D] } w:=λa w ha hw=>(h a w ha hw).2
end
abbrev P3:=Pt×Pt×Pt
def Gr (x:P3):List Value:=Ah x.1++Ah x.2.1++Ah x.2.2
def B_ (ps:List Pt) (t:Tq3):P3:=(BU ps t.1,BU ps t.2.1,BU ps t.2.2)
structure CF (f:Nat) (cs:List Value) where
  b:Nat
instance {f:Nat} {cs:List Value}:Cl (CF f cs):=⟨λx=>.func (.func f) #[] #[pP x.b 0],λx=>[AI (some ⟨x.b,0,none⟩) cs],λx y hy=>by rcases xM.1 hy with rfl;rfl⟩
def CF.bx {f:Nat} {cs:List Value} (x:CF f cs):BX cs:=⟨x.b⟩
theorem Ro.top {S:Nat->Prop} {w:World} {α:Type} [Cl α] {a:α} (h:Ro S w a):Ro (λ_=>True) w a:=h.mono λ_ _=>trivial
def nB (n:Nat) (ts:List (Tq3)):Nat:=if Ek n ts=true then ts.length else 0
theorem S8 {n t:Nat} {ts:List (Tq3)} (h:t<nB n ts):Ek n ts=true/\t<ts.length:=by
  unfold nB at h
  split at h
  · exact ⟨by assumption,h⟩
  · omega
def findB (ps:List Pt) (ts:List (Tq3)) (q:Pt):Int×Nat:=if Ek ps.length ts=true then findAt ps q ts 0 else (-1,0)
theorem Hm {ps:List Pt} {q:Pt} {ts:List (Tq3)} {j:Nat} (hj:j<ts.length) (h:BZ ps q (ts.getD j (0,0,0))=0):findAt ps q (ts.drop j) j=findAt ps q (ts.drop (j+1)) (j+1):=by
  rw [H8 (d:=(0,0,0)) hj];exact if_pos h
theorem Ig {ps:List Pt} {q:Pt} {ts:List (Tq3)} {j:Nat} (hj:j<ts.length) (h:BZ ps q (ts.getD j (0,0,0))≠0):findAt ps q (ts.drop j) j=((j:Int),BZ ps q (ts.getD j (0,0,0))):=by
  rw [H8 (d:=(0,0,0)) hj];exact if_neg h
theorem UD {ps:List Pt} {q:Pt} {ts:List (Tq3)} (h:findAt ps q ts 0=findAt ps q (ts.drop (nB ps.length ts)) (nB ps.length ts)):findB ps ts q=(-1,0):=by
  unfold findB
  split
  · rename_i k
    rw [h,nB,if_pos k,List.drop_length]
    rfl
  · rfl
theorem UE {ps:List Pt} {q:Pt} {ts:List (Tq3)} {r:Int×Nat} (hn:Ek ps.length ts=true) (h:findAt ps q ts 0=r):findB ps ts q=r:=by
  rw [findB,if_pos hn,h]
end
section
set_option maxRecDepth 100000
theorem GV (a b c p:Pt) (hs:BO a+BO b+BO c+BO p<=268435456) (w:World):Calls prog 30 #[aG (Ah a),aG (Ah b),aG (Ah c),aG (Ah p)] w (Ac w (vN (CG a b c p))):=by
 unfold CG
 by_cases h:AF a b c=0
 ·rw [if_pos h];exact Tl a b c p hs h w
 ·rw [if_neg h];exact Vn a b c p hs h w
theorem Q5 {ps:List Pt} {ts ss:List (Tq3)} (x:MX ps ts ss) (w:World) {S:Nat->Prop} (hx:Ro S w x):Calls prog 29 #[(aG (DY x))] w (Aj (CF 67 (DY x)) S w):=by
 have lx:=Bx (W:=w) hx
 refine AZ (args:=[(aG (DY x))]) (L:=[AI x.a.p (rowsL Ah ps),AI x.b.p (rowsL BC ts),AI x.c.p (rowsL BC ss)]) func29 O O (leB O) (GT hx Ao) (zI (sL [0] O) (q4 (BH (cs:=DY x) O λb1=>yj 0 O O λhnb1=>asg' O (q3 (sL [1,2] O) (st' (v:=(Value.func (.func 67) #[] #[(pP b1 0)])) (FP (vs:=[]) (us:=[(pP b1 0)]) O O) O (asg' O (oNl' (zB (sL [2] O) (zA ?_)))))))))
 exact zF (ret_one O (rd_tmp (v:=(Value.func (.func 67) #[] #[(pP b1 0)])) O) (λw hw=>(DU hw (a:=(⟨b1⟩:CF 67 (DY x))) (f9 (x:=(⟨b1⟩:BX (DY x))) hw 0 O hnb1) O)))
theorem Ko (x0 x1 x2:Pt):Instr.fill (λi=>some (i*10,10)) (Gr ((⟨0,0⟩,⟨0,0⟩,⟨0,0⟩):P3)).toArray [(0,.agg (Ah x0).toArray),(1,.agg (Ah x1).toArray),(2,.agg (Ah x2).toArray)]=some (Gr (x0,x1,x2)).toArray:=by kernel_rfl
theorem OC {ps:List Pt} {ts ss:List (Tq3)} (x:MX ps ts ss) (hl:ts.length<4611686018427387904) (bo:BX (DY x)) (l:Nat) (J:Nat->World->Prop) (X:World->Prop) (hL:Lp prog l (nB ps.length ts) (λt=>[vN t,aG (Gr (B_ ps (ts.getD t (0,0,0))))]) J X) {S:Nat->Prop} (hro:∀t W,J t W->Ro S W bo/\Ro S W x) (w:World) (h0:J 0 w):Calls prog 67 #[(Value.func (.yield l) #[] #[]),(pP bo.b 0)] w ((λe W2=>(∃v,e=.returned v)/\(J (nB ps.length ts) W2\/X W2))):=by
 have hbo:=(hro 0 w h0).1
 have hx:=(hro 0 w h0).2
 have lbo:=Bx (W:=w) hbo
 have lx:=Bx (W:=w) hx
 refine AZ (args:=[(Value.func (.yield l) #[] #[]),(pP bo.b 0)]) (L:=[AI (some ⟨bo.b,0,none⟩) (DY x),AI x.a.p (rowsL Ah ps),AI x.b.p (rowsL BC ts),AI x.c.p (rowsL BC ss)]) func67 O O (leB O) (GT hbo (GT hx Ao)) (zI (sL [0,1] O) (zS (q4 (st' (v:=(aG (DY x))) (Ak (q:=some ⟨bo.b,0,none⟩) (vs:=DY x) (off:=0) (i:=0) O O (λe=>by cases e) GQ O O) O (CQ call68 (λw hw=>Yc x hl w (inS hw 1 O lx)) O (st' (Bs (c:=(!(Ek ps.length ts))) O O) O (oNl' (zB (sL [0,1,9] O) (zA ?_)))))))))
 refine zK O (λhc0=>?_) (λhc0=>?_)
 ·simp only [jK] at hc0
  exact zF (zL (DC (.inl O) O  (λw hw=>⟨⟨_,rfl⟩,.inl (by rw [show nB ps.length ts=0 from if_neg (by simp [hc0])];exact hL.grow _ _ _ h0 hw.out)⟩)))
 ·simp only [jK] at hc0
  refine zG (q2 (st' (v:=(pP bo.b 1)) (AA O underlying37 O sizeOf23 O) O (st' (Ad (q:=some ⟨bo.b,0,none⟩) (v:=(qz x.b.p ts.length x.b.c)) (off:=1) (i:=0) O O (λe=>by cases e) Ez O) O (st' (v:=(vN ts.length)) (AD O underlying23) O (AK O (oNl' (zB (sL [0,1,12,13] O) (zA (zM (zI (F':=[(13,(vI 0)),(12,(vN ts.length)),(0,(Value.func (.yield l) #[] #[])),(1,(pP bo.b 0))]) (sF O) ?_))))))))))
  refine y5 hL (λt=>[(13,(vN t)),(12,(vN ts.length)),(0,(Value.func (.yield l) #[] #[])),(1,(pP bo.b 0))]) [AI (some ⟨bo.b,0,none⟩) (DY x),AI x.a.p (rowsL Ah ps),AI x.b.p (rowsL BC ts),AI x.c.p (rowsL BC ss)] (λt W h=>A_.startR (GT (hro t W h).1 (GT (hro t W h).2 Ao))) (λt W ht hj=>?_) (λW hj=>?_) h0
  ·obtain ⟨hnb,hti⟩:=S8 ht
   have lbo:=Bx (W:=W) (hro t W hj).1
   have lx:=Bx (W:=W) (hro t W hj).2
   refine zI (F':=[(13,(vN t)),(12,(vN ts.length)),(0,(Value.func (.yield l) #[] #[])),(1,(pP bo.b 0))]) (sF O) (q4 (st' (Aa (c:=true) O O (by simp;omega)) O (oNl' (q1 (zY O (zG (q1 (zM (q4 (AK O (asg' O ?_)))))))))))
   refine q3 (sL [13,12,0,1,3] O) (st' (v:=(aG (DY x))) (Ak (q:=some ⟨bo.b,0,none⟩) (vs:=DY x) (off:=0) (i:=0) O O (λe=>by cases e) GQ O O) O (AK O (CQ call69 (λw hw=>Qx x t hti (Oj hnb hti) w (inS hw 1 O lx)) O (AK O (st' (AJ (v:=(aG (Ah (BU ps (ts.getD t (0,0,0)).1)))) O O) O (st' (AJ (v:=(aG (Ah (BU ps (ts.getD t (0,0,0)).2.1)))) O O) O (st' (AJ (v:=(aG (Ah (BU ps (ts.getD t (0,0,0)).2.2)))) O O) O (al Fg O λb1=>al Fg O λb2=>al Fg O λb3=>E7 O sizeOf62 O ?_))))))))
   refine DK O sizeOf62 O (An O sizeOf62 O (q6 (sL [13,12,0,1,3,4,5,6] O) ?_))
   refine y9 (BS.cut 6 (λ_ _ h=>by obtain ⟨⟨v,hv⟩,_⟩:=h;cases hv) O ?_)
   refine AK O (AK O (Af 2 BJ O (Af 1 BJ O (Af 0 BJ O (st' (v:=(aG (Gr (BU ps (ts.getD t (0,0,0)).1,BU ps (ts.getD t (0,0,0)).2.1,BU ps (ts.getD t (0,0,0)).2.2)))) (Az (zs:=Gr ((⟨0,0⟩,⟨0,0⟩,⟨0,0⟩):P3)) (vs:=Gr (BU ps (ts.getD t (0,0,0)).1,BU ps (ts.getD t (0,0,0)).2.1,BU ps (ts.getD t (0,0,0)).2.2)) (pv:=[(0,(aG (Ah (BU ps (ts.getD t (0,0,0)).1)))),(1,(aG (Ah (BU ps (ts.getD t (0,0,0)).2.1)))),(2,(aG (Ah (BU ps (ts.getD t (0,0,0)).2.2))))]) zeroValue108 underlying108 sizeOf62 O (Ko (BU ps (ts.getD t (0,0,0)).1) (BU ps (ts.getD t (0,0,0)).2.1) (BU ps (ts.getD t (0,0,0)).2.2))) O (oNl' ?_))))))
   refine yP (IK.yield t hL ht (λw hw=>hL.grow t _ _ hj hw.out) O O O (λW2 hj2=>?_) (λW2 hx=>?_))
   ·refine IK.ofL (λ_ _ h=>by obtain ⟨⟨v,hv⟩,_⟩:=h;cases hv) O (st' (Bs (c:=false) O O) O (oNl' (zB (sL [13,12,0,1,3,4,5,6,30] O) (zA (zU O (zG (zJ (zA (zH (st' (AX (c:=((t+1:Nat):Int)) O O (AU (a:=t) (b:=1) Z)) O (AK O ?_)))))))))))
    exact oNl' (zB (sL [13,12,0,1,3,4,5,6] O) (yP λa w ha hw=>⟨ha.sub (sF O),hL.grow (t+1) _ _ hj2 hw.out⟩))
   ·exact IK.ofL (λ_ _ h=>by obtain ⟨⟨v,hv⟩,_⟩:=h;cases hv) O (st' (Bs (c:=true) O O) O (oNl' (zB (sL [13,12,0,1,3,4,5,6,30] O) (zA (zY O (zF (zV (zL (zL (zV (DC (.inl O) O  (λw hw=>⟨⟨_,rfl⟩,.inr (hL.growX _ _ hx hw.out)⟩))))))))))))
  ·have hN:nB ps.length ts=ts.length:=if_pos hc0
   exact zI (F':=[(13,(vN (nB ps.length ts))),(12,(vN ts.length)),(0,(Value.func (.yield l) #[] #[])),(1,(pP bo.b 0))]) (sF O) (q4 (st' (Aa (c:=false) O O (by simp;omega)) O (oNl' (q1 (zU O (zW (zO (zO (zR (DC (.inr O) O  (λw hw=>⟨⟨_,rfl⟩,.inl (hL.grow _ _ _ hj hw.out)⟩)))))))))))
theorem Ks {ps:List Pt} {ts ss:List (Tq3)} (x:MX ps ts ss) (hl:ts.length<4611686018427387904) (q:Pt) (hz:∀i,BO (BU ps i)<=4) (hq:BO q<=1000000) (w:World) {S:Nat->Prop} (hx:Ro S w x):Calls prog 15 #[(aG (DY x)),(aG (Ah q))] w (Ac w (Value.tuple #[(vI ((findB ps ts q).1)),(vN ((findB ps ts q).2))])):=by
 have lx:=Bx (W:=w) hx
 refine F0 (args:=[(aG (DY x)),(aG (Ah q))]) (L:=[AI x.a.p (rowsL Ah ps),AI x.b.p (rowsL BC ts),AI x.c.p (rowsL BC ss)]) func15 O O (leB O) (GT hx Ao) (BS.subF (sL [0,1] O) (BS.seq (BS.region (λ_ _ h=>by cases h.1) O (BH (cs:=DY x) O λb1=>BH (cs:=Ah q) O λb2=>al gE O λb3=>al gE O λb4=>oNl' (zB (sL [2,3,4,5] O) (zX (BS.seq ?_)))))))
 refine BS.seq (BS.region (λ_ _ h=>by cases h.1) O (Af 3 GQ O (zw (S:=S) (α:=CF 67 (DY x)) (args:=[(aG (DY x))]) call29 (λw hw=>Q5 x w (inS hw 4 O lx)) O O O λfa lfa=>oNl' (zB (sL [3,4,5,10] O) (zX (BS.block (BS.subF (F':=[(10,(Value.func (.func 67) #[] #[(pP fa.b 0)])),(3,(pP b2 0)),(4,(pP b3 0)),(5,(pP b4 0))]) (sF O) ?_)))))))
 refine BS.rangeFunc (σ:=Unit) O call67 O O (nB ps.length ts) (λt=>(vN t)) (λt=>(aG (Gr (B_ ps (ts.getD t (0,0,0)))))) (λt s=>findAt ps q ts 0=findAt ps q (ts.drop t) t) (λt s=>Ek ps.length ts=true/\findAt ps q ts 0=((t:Int),BZ ps q (ts.getD t (0,0,0)))) (λt s=>[AI (some ⟨fa.b,0,none⟩) (DY x),AO b4 3 ([(vI 0)]),AO b3 3 ([(vI 0)]),AO b2 62 (Ah q),AO b1 37 (DY x),AI x.a.p (rowsL Ah ps),AI x.b.p (rowsL BC ts),AI x.c.p (rowsL BC ss)]) (λt s=>[AI (some ⟨fa.b,0,none⟩) (DY x),AO b4 3 ([(vN (BZ ps q (ts.getD t (0,0,0))))]),AO b3 3 ([(vN t)]),AO b2 62 (Ah q),AO b1 37 (DY x),AI x.a.p (rowsL Ah ps),AI x.b.p (rowsL BC ts),AI x.c.p (rowsL BC ss)]) () sr O (λl J X W hJ hL h0=>OC x hl fa.bx l J X hL (λt W h=>by obtain ⟨s,_,hw⟩:=hJ t W h;exact ⟨Ro.top (inS hw 0 O lfa:Ro _ _ fa),Ro.top (inS hw 5 O lx)⟩) W h0) (λl la1 la2 da t s ht hP K hK=>?_) (λla D s hP=>?_) (λla D t s hP=>?_)
 ·obtain ⟨hnb,hti⟩:=S8 ht
  refine BS.subF (F':=[(12,(aG (Gr (B_ ps (ts.getD t (0,0,0)))))),(11,(vN t)),(10,(Value.func (.func 67) #[] #[(pP fa.b 0)])),(3,(pP b2 0)),(4,(pP b3 0)),(5,(pP b4 0))]) (sF O) (BS.subL (L':=[la1,da,AI (some ⟨fa.b,0,none⟩) (DY x),AO b4 3 ([(vI 0)]),AO b3 3 ([(vI 0)]),AO b2 62 (Ah q),AO b1 37 (DY x),AI x.a.p (rowsL Ah ps),AI x.b.p (rowsL BC ts),AI x.c.p (rowsL BC ss)]) (xP _) (BS.seq (BS.region (λ_ _ h=>h) O (asg' O (oNl' (zX (BS.region (λ_ _ h=>h) O (al Qe O λb5=>An O sizeOf108 O (oNl' ?_)))))))))
  refine yP (hK 1 _ _ O ?_)
  refine BS.subL (L':=[AO b5 108 (Gr (B_ ps (ts.getD t (0,0,0)))),la2,da,AI (some ⟨fa.b,0,none⟩) (DY x),AO b4 3 ([(vI 0)]),AO b3 3 ([(vI 0)]),AO b2 62 (Ah q),AO b1 37 (DY x),AI x.a.p (rowsL Ah ps),AI x.b.p (rowsL BC ts),AI x.c.p (rowsL BC ss)]) (xP _) (BS.block (BS.seq (BS.region (λ_ _ h=>h) O (st' (v:=(pP b5 0)) (AB (j:=0) O O underlying108 sizeOf62 O jY O) O (By 0 (Ah ((B_ ps (ts.getD t (0,0,0))).1)) BJ O (st' (v:=(pP b5 10)) (AB (j:=1) O O underlying108 sizeOf62 O jY O) O (By 0 (Ah ((B_ ps (ts.getD t (0,0,0))).2.1)) BJ O (st' (v:=(pP b5 20)) (AB (j:=2) O O underlying108 sizeOf62 O jY O) O (By 0 (Ah ((B_ ps (ts.getD t (0,0,0))).2.2)) BJ O (Af 6 BJ O (ck' call30 (GV (BU ps (ts.getD t (0,0,0)).1) (BU ps (ts.getD t (0,0,0)).2.1) (BU ps (ts.getD t (0,0,0)).2.2) q (by have z1:=hz (ts.getD t (0,0,0)).1;have z2:=hz (ts.getD t (0,0,0)).2.1;have z3:=hz (ts.getD t (0,0,0)).2.2;omega)) O ?_)))))))))))
  refine asg' O (oNl' (zX (BS.seq (BS.region (λ_ _ h=>h) O (AK O (st' (DH (c:=(decide ((BZ ps q (ts.getD t (0,0,0)))≠0))) O O (eo (a:=BZ ps q (ts.getD t (0,0,0))) (b:=0))) O (oNl' (zX ?_))))))))
  refine BS.cond O (λhc0=>?_) (λhc0=>?_)
  ·replace hc0:=xR hc0
   exact BS.seq (BS.region (λ_ _ h=>h) O (AK O (AK O (Dt 5 (off:=0) (vs:=[(vN t)]) (cs':=[(vN t)]) (AG O) O sizeOf3 O (Dt 4 (off:=0) (vs:=[(vN (BZ ps q (ts.getD t (0,0,0))))]) (cs':=[(vN (BZ ps q (ts.getD t (0,0,0))))]) (AG O) O sizeOf3 O (oNl' (zX (BS.ret (zV (xA () ⟨hnb,hP.trans (Ig hti (by simpa using hc0))⟩ (sl sr)))))))))))
  ·replace hc0:=xQ hc0
   exact BS.skip (zJ (yR () (hP.trans (Hm hti (by simpa using hc0))) (sl sr)))
 ·refine E5.behind ?_
  have hr:=UD hP
  exact E5.subF (F':=[(10,(Value.func (.func 67) #[] #[(pP fa.b 0)])),(3,(pP b2 0)),(4,(pP b3 0)),(5,(pP b4 0))]) (sF O) (E5.seq (E5.region (λ_ _ h=>by cases h.1) O (Dt 4 (off:=0) (vs:=[(vI (-1:Int))]) (cs':=[(vI (-1:Int))]) (AG O) O sizeOf3 O (F8 O sizeOf3 O (oNl' (yQ (E5.ret (R0 1 O (Bl O (Hu (i:=4) (v:=(vI (-1:Int))) O O isAgg3 O) (Hu (i:=3) (v:=(vI 0)) O O isAgg3 O) (λw hw=>⟨by rw [hr]<;>rfl,hw.out⟩))))))))))
 ·refine E5.out ?_
  have hr:=UE hP.1 hP.2
  exact R0 1 O (Bl O (Hu (i:=4) (v:=(vN t)) O O isAgg3 O) (Hu (i:=3) (v:=(vN (BZ ps q (ts.getD t (0,0,0))))) O O isAgg3 O) (λw hw=>⟨by rw [hr]<;>rfl,hw.out⟩))
end
section
set_option maxRecDepth 100000
end
end Go.Proofs.YtcpkbjjmcleplaaGreatDoor
