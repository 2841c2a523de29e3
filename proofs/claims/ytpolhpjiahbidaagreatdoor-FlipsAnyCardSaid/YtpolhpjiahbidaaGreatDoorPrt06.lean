import Derived.Test.YtpolhpjiahbidaaGreatDoorPrt05
namespace Go.Proofs.YtpolhpjiahbidaaGreatDoor
open Go Go.RowKit Go.Proofs.Tryz
open Go.Value renaming slice→qz,bool→qa
set_option linter.unusedVariables false
set_option linter.unusedSimpArgs false
section
def IQ (P:Program) (ops:Array Oper) (Q:Exit->Act->World->Prop) (S:Array Bool->World->Prop):Nat->Array Bool->Act->World->Prop
  | 0,listed,a,w=>Region.ready .any ops listed=[]/\Q .normal a w
  | fuel+1,listed,a,w=>(Region.ready .any ops listed=[]->Q .normal a w) /\
    ∀i∈Region.ready .any ops listed,wpOp P ops Q i (λa' w'=>S (listed.setIfInBounds i true) w'/\IQ P ops Q S fuel (listed.setIfInBounds i true) a' w') a w
section
variable {P:Program} {ops:Array Oper} {Q:Exit->Act->World->Prop} {S:Array Bool->World->Prop}
theorem IR:∀(fuel:Nat) (listed:Array Bool) (a:Act) (w:World),IQ P ops Q S fuel listed a w->wpAny P .any ops Q fuel listed a w
  | 0,_,_,_,h=>h
  | fuel+1,_,_,_,h=>⟨h.1,λi hi=>wpOp_mono (λa' w' h'=>IR fuel _ a' w' h'.2) (h.2 i hi)⟩
theorem HU {T:World->Prop}:∀(fuel:Nat) (listed:Array Bool) (a:Act) (w:World),(∀l',(∀j,listed.getD j false=true->l'.getD j false=true)->∀w,T w->S l' w)->wpAnyH P .any ops Q T fuel listed a w->IQ P ops Q S fuel listed a w
  | 0,_,_,_,_,h=>h
  | fuel+1,listed,a,w,hT,h=>⟨h.1,λi hi=>wpOp_mono (λa' w' h'=>⟨hT _ (λj hj=>getD_set_true hj) w' h'.1,HU fuel _ a' w' (λl' hl w hw=>hT l' (λj hj=>hl j (getD_set_true hj)) w hw) h'.2⟩) (h.2 i hi)⟩
def HW (ops:Array Oper) (listed:Array Bool):Prop:=∀(j:Nat) (o:Oper),listed.getD j false=true->ops[j]?=some o->∀e∈o.after,Region.binds .any e=true->listed.getD e.on false=true
theorem HW.set {listed:Array Bool} (h:HW ops listed) {i:Nat} (hi:i∈Region.ready .any ops listed):HW ops (listed.setIfInBounds i true):=λj o hj ho e he hb=>by
  obtain ⟨h0,o',ho',hall⟩:=mem_ready.1 hi
  by_cases e1:i=j
  · subst e1
    rw [ho'] at ho;injection ho with ho;subst ho
    exact getD_set_true (hall e he hb)
  · rw [getD_set_ne false e1] at hj
    exact getD_set_true (h j o hj ho e he hb)
theorem FF {T:World->Prop} {i:Nat} {oi:Oper} {v:Value} (hi:ops[i]?=some oi) (hsel:∀(j:Nat) (o:Oper) cs b,ops[j]?=some o->o.op≠.select cs b) (hQ:∀c a w,Q (.panic c) (a.put oi.dst v) w->Q (.panic c) a w)
    (hT:∀listed w,HW ops listed->i∈Region.ready .any ops listed->S listed w->T w) (hS:∀listed w,S (listed.setIfInBounds i true) w↔S listed w) :
    ∀(fuel:Nat) (listed:Array Bool) (a:Act) (w:World),
      (∀j oj,ops[j]?=some oj->j≠i->listed.getD j true=false->(∀e∈oj.after,Region.binds .any e=true->e.on≠i)->oi.apart ops oj=true) ->
      i∈Region.ready .any ops listed->YieldsIf P ops T oi v a->S listed w->HW ops listed ->
      IQ P ops Q S fuel (listed.setIfInBounds i true) (a.put oi.dst v) w->IQ P ops Q S (fuel+1) listed a w:=by
  intro fuel
  induction fuel with
  | zero =>
    intro listed a w _ hr hy hw hcl H
    refine ⟨λh=>(by rw [h] at hr;cases hr),λj hj=>?_⟩
    by_cases hji:j=i
    · subst hji;exact hy.wpOp hi (hT listed w hcl hr hw) ⟨(hS _ _).2 hw,H⟩
    · have:=ready_mono hj hji
      rw [H.1] at this
      cases this
  | succ fuel ih =>
    intro listed a w hfree hr hy hw hcl H
    refine ⟨λh=>(by rw [h] at hr;cases hr),λj hj=>?_⟩
    by_cases hji:j=i
    · subst hji;exact hy.wpOp hi (hT listed w hcl hr hw) ⟨(hS _ _).2 hw,H⟩
    · have h1:=H.2 j (ready_mono hj hji)
      obtain ⟨hjun,oj,hoj,hall⟩:=mem_ready.1 hj
      have hnot:∀e∈oj.after,Region.binds .any e=true->e.on≠i:=λe he hb heq=>by
        have h1:=hall e he hb
        have h0:=(mem_ready.1 hr).1
        rw [heq] at h1
        rcases Nat.lt_or_ge i listed.size with h'|h'
        · simp [h'] at h0 h1;rw [h0] at h1;cases h1
        · simp [Array.getElem?_eq_none h'] at h1
      have h2:=wpOp_putIf hoj (hfree j oj hoj hji hjun hnot) (λcs b=>hsel i oi cs b hi) (λcs b=>hsel j oj cs b hoj) hQ hy h1
      have hfree':∀k ok,ops[k]?=some ok->k≠i->(listed.setIfInBounds j true).getD k true=false ->
          (∀e∈ok.after,Region.binds .any e=true->e.on≠i)->oi.apart ops ok=true:=λk ok hk hki hun hno=>by
        refine hfree k ok hk hki ?_ hno
        by_cases hjk:j=k
        · subst hjk;exact hjun
        · rw [getD_set_ne true hjk] at hun;exact hun
      refine wpOp_mono (λa' w' h3=>?_) h2
      obtain ⟨h4,h5,h6⟩:=h3
      rw [Array.setIfInBounds_comm _ _ (Ne.symm hji)] at h5 h6
      have h7:=(hS _ _).1 h5
      exact ⟨h7,ih (listed.setIfInBounds j true) a' w' hfree' (ready_mono hr (Ne.symm hji)) h4 h7 (hcl.set hj) h6⟩
end
def Cw (P:Program) (ops:Array Oper) (Q:Exit->Act->World->Prop) (n:Nat) (w0:BA) (Lro:List As) (K:List (Nat×Value)->List As->Prop):List (Nat×Bool)->List (Nat×Value)->List As->Prop
  | [],F,L=>K F L
  | (i,true)::r,F,L=>∃o d v,ops[i]?=some o/\o.dst=some d/\d<n/\dO P ops n w0 Lro F o v/\Cw P ops Q n w0 Lro K r ((d,v)::F) L
  | (i,false)::r,F,L=>∃o,ops[i]?=some o/\AQ P ops [o] (PE Q n w0 Lro λF' L'=>Cw P ops Q n w0 Lro K r F' L') n F w0 L
def Jg (P:Program) (ops:Array Oper) (Q:Exit->Act->World->Prop) (n:Nat) (w0:BA) (LB:List As) (k:Nat) (e2:List (Nat×Bool)) (F:List (Nat×Value)) (L:List As):Prop :=
  ∃o,ops[k]?=some o/\AQ P ops [o] (PE Q n w0 LB λF' L'=>OkE P ops Q n w0 LB e2 F' L') n F w0 L
def M6 (l:List Oper) (i:Nat):Bool:=match l[i]? with
  | some o=>(match o.op with
    | .extract _ _=>true
    | _=>false)
  | none=>false
theorem Ym {P:Program} {l:List Oper} {i:Nat} {o:Oper} {a:Act} {v:Value} {w:World} (w':World) (hi:l[i]?=some o) (hx:M6 l i=true) (h:(execOp a.eval o).run P w=.ok (.value v) w):(execOp a.eval o).run P w'=.ok (.value v) w':=by
  unfold M6 at hx
  rw [hi] at hx
  obtain ⟨d,op,t,p,af,g⟩:=o
  cases op<;>first|(simp at hx;done)|skip
  rename_i x j
  simp only [execOp] at h ⊢
  unfold Instr.extract at h ⊢
  revert h
  cases a.eval x<;>simp
  rename_i vs
  cases vs[j]?<;>simp
def Qa (l:List Oper) (e1:List (Nat×Bool)) (k:Nat) (e2:List (Nat×Bool)):Bool :=
  EB l [] none (e1++(k,false)::e2)&&Ng l [] (e1++(k,false)::e2)&&Nat.beq (e1.length+e2.length+1) l.length&&Region.noSelect l.toArray&&(match l[k]? with|some o=>e1.all λe=>!e.2||En o e.1||M6 l e.1|none=>false)
section
variable {P:Program} {ops:Array Oper} {Q:Exit->Act->World->Prop} {n:Nat} {w0:BA} {LA LB L L':List As} {F F':List (Nat×Value)} {l:List Oper} {e2:List (Nat×Bool)} {k:Nat}
theorem X1 (hsel:Region.noSelect l.toArray=true) (hQ:∀c a d v w,Q (.panic c) (a.put d v) w->Q (.panic c) a w) (hAB:LB.Sublist LA) {ok:Oper} (hok:l[k]?=some ok) :
    ∀(es:List (Nat×Bool)) (D:List Nat) (p:Option Nat) (listed:Array Bool) (a:Act) (w:World) (F:List (Nat×Value)) (L:List As),
      (es.all λe=>!e.2||En ok e.1||M6 l e.1)=true->k ∉ D->EB l D p (es++(k,false)::e2)=true->NZ l D listed->(∀i,i<l.length->i∈D\/(es++(k,false)::e2).any (λe=>e.1 == i)=true)->Wk LA L->C8 n a F->BE w0 w L->Cw P l.toArray Q n w0 LA (Jg P l.toArray Q n w0 LB k e2) es F L ->
      IQ P l.toArray Q (λlisted w=>BE w0 w (if listed.getD k false=true then LB else LA)) (es.length+e2.length+1) listed a w:=by
  have only:∀(i:Nat) (r:List (Nat×Bool)) (D:List Nat) (p:Option Nat) (listed:Array Bool),EB l D p ((i,false)::r)=true->NZ l D listed->(∀j,j<l.length->j∈D\/((i,false)::r).any (λe=>e.1 == j)=true)->∀j,j∈Region.ready .any l.toArray listed->j=i:=λi r D p listed hc hL hall j hj=>by
    obtain ⟨o,hg⟩:=DV hc
    obtain ⟨h0,oj,hoj,_⟩:=mem_ready.1 hj
    have hjl:j<l.length:=by simpa using (Array.getElem?_eq_some_iff.1 hoj).1
    rw [Cr (by rw [hL.size];exact hjl)] at h0
    rcases hall j hjl with h1|h1
    · rw [(hL.mem j).1 h1] at h0;cases h0
    · obtain ⟨e,he,rfl⟩:=IU h1
      rcases xy.1 he with rfl|he
      · rfl
      · exact absurd hj (E1 hL.cl hg.tl (hL.no hg.nin) (λe he=>hL.no λhd=>(EC hg.tl e he).1 (List.mem_cons_of_mem _ hd)) e he)
  have nxt:∀(i:Nat) (b:Bool) (r:List (Nat×Bool)) (D:List Nat),(∀j,j<l.length->j∈D\/((i,b)::r).any (λe=>e.1 == j)=true)->∀j,j<l.length->j∈i::D\/r.any (λe=>e.1 == j)=true:=λi b r D hall j hj=>by
    rcases hall j hj with h1|h1
    · exact .inl (List.mem_cons_of_mem _ h1)
    · simp only [List.any_cons,xY,beq_iff_eq] at h1
      rcases h1 with h1|h1
      · exact .inl (h1▸List.mem_cons_self)
      · exact .inr h1
  intro es
  induction es with
  | nil =>
    intro D p listed a w F L hE hkD hc hL hall hro ha hw h
    obtain ⟨o',ho',h⟩:=h
    simp only [List.nil_append,List.length_nil,Nat.zero_add] at hc hall ⊢
    obtain ⟨o,hg⟩:=DV hc
    have hat:l.toArray[k]?=some o:=by simpa using hg.at_
    rw [hat] at ho';injection ho' with ho';subst ho'
    have hkl:k<l.length:=(List.getElem?_eq_some_iff.1 hg.at_).1
    have hp:∀e∈o.after,Region.binds .any e=true->listed.getD e.on false=true:=λe he hb=>(hL.mem _).1 (hg.pre e he hb)
    have hrd:k∈Region.ready .any l.toArray listed:=mem_ready.2 ⟨by rw [Cr (by rw [hL.size];exact hkl)];exact hL.no hg.nin,o,hat,hp⟩
    refine ⟨λh0=>absurd hrd (by rw [h0];exact List.not_mem_nil),λj hj=>?_⟩
    have hjk:=only k e2 D p listed hc hL hall j hj
    subst hjk
    have hlk:(listed.setIfInBounds j true).getD j false=true:=by rw [Ic _ _ _ _ (by rw [hL.size];exact hkl)];simp
    refine I3 hat (h a w ha hw) λF' L' a' w' h1 h2 h3 h4=>⟨by show BE _ _ (ite _ _ _);rw [if_pos hlk];exact h3 _ _ h2,?_⟩
    exact HU (T:=λw=>BE w0 w LB) _ _ _ _ (λl' hl w hw=>by show BE _ _ (ite _ _ _);rw [if_pos (hl j hlk)];exact hw) (Ja hsel hQ e2 (j::D) (some j) _ a' w' F' L' hg.tl (hL.add hg.at_ hp) (nxt j false e2 D hall) h3 h1 h2 h4)
  | cons e r ih =>
    intro D p listed a w F L hE hkD hc hL hall hro ha hw h
    obtain ⟨i,b⟩:=e
    rw [List.cons_append] at hc hall
    obtain ⟨o,hg⟩:=DV hc
    have hat:l.toArray[i]?=some o:=by simpa using hg.at_
    have hil:i<l.length:=(List.getElem?_eq_some_iff.1 hg.at_).1
    have hp:∀e∈o.after,Region.binds .any e=true->listed.getD e.on false=true:=λe he hb=>(hL.mem _).1 (hg.pre e he hb)
    have hrd:i∈Region.ready .any l.toArray listed:=mem_ready.2 ⟨by rw [Cr (by rw [hL.size];exact hil)];exact hL.no hg.nin,o,hat,hp⟩
    have hki:k≠i:=λe=>(EC hg.tl (k,false) (xt _ List.mem_cons_self)).1 (e▸List.mem_cons_self)
    have hkD':k ∉ i::D:=λh=>(xy.1 h).elim hki hkD
    have hE':(r.all λe=>!e.2||En ok e.1||M6 l e.1)=true:=by rw [List.all_cons,xZ] at hE;exact hE.2
    have hnk:listed.getD k false=false:=hL.no hkD
    have hnk':(listed.setIfInBounds i true).getD k false=false:=(hL.add hg.at_ hp).no hkD'
    rw [show ((i,b)::r).length+e2.length+1=r.length+e2.length+1+1 by simp only [List.length_cons];omega]
    cases b with
    | true =>
      obtain ⟨o',d,v,ho',hd,hdn,hy,hn⟩:=h
      rw [hat] at ho';injection ho' with ho';subst ho'
      have hyield:YieldsIf P l.toArray (λw=>BE w0 w LA) o v a:=by
        rcases hy with ⟨h1,h2⟩|⟨h1,h2⟩
        · exact .inl ⟨h1 a ha,λw hW=>h2 a w ha hW⟩
        · exact .inr ⟨h1 a ha,h2⟩
      have hedge:En ok i=true\/M6 l i=true:=by
        rw [List.all_cons,xZ] at hE
        simpa using hE.1
      rcases hedge with hedge|hext
      · refine FF hat (Region.noSelect_spec hsel) (λc a w=>dA hQ c a o.dst v w) (T:=λw=>BE w0 w LA) (λl' w hcl hr hS=>?_) (λl' w=>?_) _ listed a w (GK hL hg.at_ (hg.fr O) hp) hrd hyield ?_ (λj oj hj ho e he hb=>hL.cl j oj hj (by simpa using ho) e he hb) ?_
        · have hkf:¬l'.getD k false=true:=λhk=>by
            obtain ⟨e,he,hb,rfl⟩:=Dl hedge
            have h1:=hcl k ok hk (by simpa using hok) e he hb
            obtain ⟨h0,_⟩:=mem_ready.1 hr
            rcases Nat.lt_or_ge e.on l'.size with h5|h5
            · rw [Cr h5] at h0;rw [h0] at h1;cases h1
            · simp [Array.getElem?_eq_none h5] at h1
          have hS:BE w0 w (if l'.getD k false=true then LB else LA):=hS
          rw [if_neg hkf] at hS;exact hS
        · show BE _ _ (ite _ _ _)↔BE _ _ (ite _ _ _);rw [getD_set_ne false (Ne.symm hki)]
        · show BE _ _ (ite _ _ _);rw [if_neg (by rw [hnk];exact Bool.false_ne_true)];exact hro _ _ hw
        · exact ih (i::D) p _ _ w ((d,v)::F) L hE' hkD' hg.tl (hL.add hg.at_ hp) (nxt i true _ D hall) hro (by rw [hd];exact ha.put hdn) hw hn
      · have hyield':YieldsIf P l.toArray (λ_=>True) o v a:=by
          rcases hy with ⟨h1,h2⟩|⟨h1,h2⟩
          · exact .inl ⟨h1 a ha,λw' _=>Ym w' hg.at_ hext (h2 a w ha (hro _ _ hw))⟩
          · exact .inr ⟨h1 a ha,h2⟩
        refine FF hat (Region.noSelect_spec hsel) (λc a w=>dA hQ c a o.dst v w) (T:=λ_=>True) (λ_ _ _ _ _=>trivial) (λl' w=>?_) _ listed a w (GK hL hg.at_ (hg.fr O) hp) hrd hyield' ?_ (λj oj hj ho e he hb=>hL.cl j oj hj (by simpa using ho) e he hb) ?_
        · show BE _ _ (ite _ _ _)↔BE _ _ (ite _ _ _);rw [getD_set_ne false (Ne.symm hki)]
        · show BE _ _ (ite _ _ _);rw [if_neg (by rw [hnk];exact Bool.false_ne_true)];exact hro _ _ hw
        · exact ih (i::D) p _ _ w ((d,v)::F) L hE' hkD' hg.tl (hL.add hg.at_ hp) (nxt i true _ D hall) hro (by rw [hd];exact ha.put hdn) hw hn
    | false =>
      obtain ⟨o',ho',h⟩:=h
      rw [hat] at ho';injection ho' with ho';subst ho'
      refine ⟨λh0=>absurd hrd (by rw [h0];exact List.not_mem_nil),λj hj=>?_⟩
      have hji:=only i (r++(k,false)::e2) D p listed hc hL hall j hj
      subst hji
      refine I3 hat (h a w ha hw) λF' L' a' w' h1 h2 h3 h4=>⟨by show BE _ _ (ite _ _ _);rw [if_neg (by rw [hnk'];exact Bool.false_ne_true)];exact h3 _ _ h2,?_⟩
      exact ih (j::D) (some j) _ a' w' F' L' hE' hkD' hg.tl (hL.add hg.at_ hp) (nxt j false _ D hall) h3 h1 h2 h4
theorem ew {id:Nat} (e1:List (Nat×Bool)) (k:Nat) (e2:List (Nat×Bool)) (hA:Wk LA L) (hAB:LB.Sublist LA) (hc:Qa l e1 k e2=true) (hQ:∀c a d v w,Q (.panic c) (a.put d v) w->Q (.panic c) a w)
    (h:Cw prog l.toArray Q n w0 LA (Jg prog l.toArray Q n w0 LB k e2) e1 F L):OkC prog (.region id l.toArray true) Q n F w0 L:=λa w ha hw=>by
  simp only [Qa,xZ] at hc
  obtain ⟨⟨⟨⟨h1,h2⟩,h3⟩,h4⟩,h5⟩:=hc
  have hlen:=Nat.eq_of_beq_eq_true h3
  cases hok:l[k]? with
  | none=>simp [hok] at h5
  | some ok =>
    simp only [hok] at h5
    refine wp_region_any Em (IR (S:=λlisted w=>BE w0 w (if listed.getD k false=true then LB else LA)) _ _ _ _ ?_)
    rw [show l.toArray.size=e1.length+e2.length+1 by rw [hlen];simp]
    have hst:=Hi (l:=l)
    rw [<-hlen] at hst
    refine X1 h4 hQ hAB hok e1 [] none _ a w.drew F L h5 jX h1 hst (λi hi=>?_) hA ha hw.drew h
    have:=List.all_eq_true.1 h2 i (List.mem_range.2 hi)
    simpa using this
theorem rC {id:Nat} (e1:List (Nat×Bool)) (k:Nat) (e2:List (Nat×Bool)) (hA:LA.Sublist L) (hAB:LB.Sublist LA) (hc:Qa l e1 k e2=true) (hQ:∀c a d v w,Q (.panic c) (a.put d v) w->Q (.panic c) a w)
    (h:Cw prog l.toArray Q n w0 LA (Jg prog l.toArray Q n w0 LB k e2) e1 F L):OkC prog (.region id l.toArray true) Q n F w0 L:=ew e1 k e2 (Wk.of hA) hAB hc hQ h
variable {r:List (Nat×Bool)} {i d s b off:Nat} {op:Op} {t ty T:TypeId} {p:String} {af:Array Edge} {u v:Value} {x y:Operand} {cs vs:List Value} {o:Oper} {K:List (Nat×Value)->List As->Prop}
theorem z7 (hro:LA.Sublist L') (h:Cw P ops Q n w0 LA K r F' L'):AQ P ops [] (PE Q n w0 LA λF' L'=>Cw P ops Q n w0 LA K r F' L') n F' w0 L':=AQ.nil λa w ha hw=>⟨F',L',ha,hw,Wk.of hro,h⟩
theorem y9 (hro:Wk LA L') (h:Cw P ops Q n w0 LA K r F' L'):AQ P ops [] (PE Q n w0 LA λF' L'=>Cw P ops Q n w0 LA K r F' L') n F' w0 L':=AQ.nil λa w ha hw=>⟨F',L',ha,hw,hro,h⟩
theorem yC (ho:ops[i]?=some o) (h:AQ P ops [o] (PE Q n w0 LA λF' L'=>Cw P ops Q n w0 LA K r F' L') n F w0 L):Cw P ops Q n w0 LA K ((i,false)::r) F L:=⟨o,ho,h⟩
theorem yU (ho:ops[k]?=some o) (h:AQ P ops [o] (PE Q n w0 LB λF' L'=>OkE P ops Q n w0 LB e2 F' L') n F w0 L):Cw P ops Q n w0 LA (Jg P ops Q n w0 LB k e2) [] F L:=⟨o,ho,h⟩
theorem Cw.pas (ho:ops[i]?=some o) (hw:Wt ops n F o) (he:Ex P n F w0 LA o v) (hd:o.dst=some d) (hn:Nat.ble (d+1) n=true) (next:Cw P ops Q n w0 LA K r ((d,v)::F) L):Cw P ops Q n w0 LA K ((i,true)::r) F L:=⟨o,d,v,ho,hd,Nat.le_of_ble_eq_true hn,.inl ⟨hw,he⟩,next⟩
theorem vE (ho:ops[i]?=some ⟨some d,op,t,p,af,none⟩) (he:Ex P n F w0 LA ⟨some d,op,t,p,af,none⟩ v) (hn:Nat.ble (d+1) n=true) (next:Cw P ops Q n w0 LA K r ((d,v)::F) L):Cw P ops Q n w0 LA K ((i,true)::r) F L:=Cw.pas ho (AM rfl) he rfl hn next
theorem vM (ho:ops[i]?=some ⟨some d,.move x,t,p,af,none⟩) (hx:evF F x=some v) (hn:Nat.ble (d+1) n=true) (next:Cw P ops Q n w0 LA K r ((d,v)::F) L):Cw P ops Q n w0 LA K ((i,true)::r) F L:=vE ho (Bv hx) hn next
end
end
section
set_option maxRecDepth 100000
theorem Yv (g N c:Nat) (us:List Nat) (hus:W32 us) (hlu:us.length=N) (hN:N<=4398046511104) (w:World) (hg:w.heap[g]?=some (.cells (Aq us).toArray 92 (0,0))):Calls prog 275 #[(qz (jk g) N c)] w (λe w'=>e=.returned (.tuple #[])/\Jf w w' (some g)/\w'.heap[g]?=some (.cells (Aq (CI N (val us/2))).toArray 92 (0,0))):=by
 refine GE (args:=[(qz (jk g) N c)]) (g:=g) (T:=92) (cs:=Aq us) func275 O O (leB O) hg (zM (sL [0] O) (q4 (AJ O (st' (v:=(vN N)) (AD O underlying255) O (AJ O (oNl' (zF (sL [0,4,5] O) (zC (zN ?_)))))))))
 refine yM (tg λ(i:Nat) (os:List Nat)=>i<=N/\os.length=N/\W32 os/\os.drop i=us.drop i/\2*val (os.take i)+us.getD 0 0%2=val (us.take i)+us.getD i 0%2*4294967296^i) (tg λ(i:Nat) (os:List Nat)=>[(0,(qz (jk g) N c)),(4,(vN N)),(5,(vN i))]) (tg λ(i:Nat) (os:List Nat)=>[AU g 92 (Aq os)]) (tg λ(i:Nat) (os:List Nat)=>N-i) 0 us (⟨xu _,hlu,hus,rfl,by simp [val]⟩) (sF O) sr (λi os hJ=>?_)
 obtain ⟨hi,hl,hw32,hd,hv⟩:=hJ
 refine q4 (st' (AW (c:=(decide (i<N))) O O (B_ (a:=i) (b:=N))) O (oNl' (q1 ?_)))
 refine zO O (λhc0=>?_) (λhc0=>?_)
 ·replace hc0:=xR hc0
  refine zJ (q1 (zN (q4 (AJ O (asg' O (q3 (sL [0,4,5,2] O) (AJ O (AJ O (st' (v:=(pP g i)) (AL (j:=i) O O underlying255 sizeOf92 O Z jX) O ?_)))))))))
  have hx1:os.getD i 0<4294967296:=W32.getD hw32 i
  refine st' (AE (i:=0) (v:=(vK .u32 (os.getD i 0))) O O isAgg92 (BJ (xs:=os) (j:=i) Z)) O ?_
  have hui:=hus.getD i
  have huj:=hus.getD (i+1)
  refine zK (k:=11) (u:=(vK .u32 (us.getD i 0))) O (by rw [Mr hd (Nat.le_refl _)]) (st' (DD (s:=1) (c:=(((us.getD i 0)/2:Nat):Int)) O O O jY (Gk (a:=us.getD i 0) (s:=1))) O (st' (v:=(pP g i)) (AL (j:=i) O O underlying255 sizeOf92 O Z jX) O (z8 (i:=0) (off:=i) (vs:=[(vK .u32 ((us.getD i 0)/2))]) (cs':=Aq (os.set i ((us.getD i 0)/2))) (L':=[AU g 92 (Aq (os.set i ((us.getD i 0)/2)))]) (AM O) O O O O O sizeOf92 O (C2 (BW _) Z) (CR Z) O (q3 (sL [0,4,5,2] O) (AJ O (st' (AV (c:=((i+1:Nat):Int)) O O (AY (a:=i) (b:=1) Z)) O (AJ O (st' (v:=(vN N)) (AD O underlying255) O (st' (AW (c:=(decide ((i+1)<N))) O O (B_ (a:=i+1) (b:=N))) O (oNl' (zF (sL [0,4,5,2,18] O) ?_)))))))))))
  refine zC ?_
  refine yy (tg True) (tg [(0,(qz (jk g) N c)),(4,(vN N)),(5,(vN i))]) (tg [AU g 92 (Aq (os.set i (us.getD i 0/2+us.getD (i+1) 0%2*2147483648)))]) ?_ ?_
  ·refine zO O (λhc1=>?_) (λhc1=>?_)
   ·replace hc1:=xR hc1
    refine rC [(0,true),(1,true),(2,true),(3,true),(4,true),(5,true),(6,true),(7,true),(8,true),(9,true),(10,true),(11,true)] 12 [] sr (sl sr) jV (λ_ _ d _ _ h=>by cases d<;>exact h) ?_
    have e1:(os.set i (us.getD i 0/2)).getD i 0=us.getD i 0/2:=MY Z
    have e2:(os.set i (us.getD i 0/2)).getD (i+1) 0=us.getD (i+1) 0:=by rw [Jr Z,Mr hd Z]
    have hll:(os.set i (us.getD i 0/2)).length=N:=by rw [List.length_set];exact hl
    refine vM O O O (vM O O O (vE (v:=(pP g i)) O (AL (j:=i) O O underlying255 sizeOf92 O Z jX) O ?_))
    have hx2:(os.set i ((us.getD i 0)/2)).getD i 0<4294967296:=W32.getD (W32.set hw32 Z i) i
    refine vE O (AE (i:=0) (v:=(vK .u32 ((os.set i ((us.getD i 0)/2)).getD i 0))) O O isAgg92 (BJ (xs:=os.set i ((us.getD i 0)/2)) (j:=i) Z)) O (vM O O O (vM O O O (vE O (AV (c:=((i+1:Nat):Int)) O O (AY (a:=i) (b:=1) Z)) O (vE (v:=(pP g (i+1))) O (AL (j:=i+1) O O underlying255 sizeOf92 O Z jX) O ?_))))
    have hx3:(os.set i ((us.getD i 0)/2)).getD (i+1) 0<4294967296:=W32.getD (W32.set hw32 Z i) (i+1)
    exact vE O (AE (i:=0) (v:=(vK .u32 ((os.set i ((us.getD i 0)/2)).getD (i+1) 0))) O O isAgg92 (BJ (xs:=os.set i ((us.getD i 0)/2)) (j:=(i+1)) Z)) O (vE (v:=(vK .u32 ((os.set i (us.getD i 0/2)).getD (i+1) 0*2^31%4294967296))) O (G4 (s:=31) O O O jY NI) O (vE O (Jk (c:=((us.getD i 0/2+us.getD (i+1) 0%2*2147483648:Nat):Int)) O O (KW (by rw [e1];omega) (Nat.mod_lt _ Z) (by rw [e1,e2];exact Yw Z))) O (vE (v:=(pP g i)) O (AL (j:=i) O O underlying255 sizeOf92 O Z jX) O (yU O (z8 (i:=0) (off:=i) (vs:=[(vK .u32 (us.getD i 0/2+us.getD (i+1) 0%2*2147483648))]) (cs':=Aq ((os.set i ((us.getD i 0)/2)).set i (us.getD i 0/2+us.getD (i+1) 0%2*2147483648))) (L':=[AU g 92 (Aq ((os.set i ((us.getD i 0)/2)).set i (us.getD i 0/2+us.getD (i+1) 0%2*2147483648)))]) (AM O) O O O O O sizeOf92 O (C2 (BW _) Z) (CR Z) O (zG (sl sr) (zT (zF (sL [0,4,5,2] O) (xG (L':=[AU g 92 (Aq (os.set i (us.getD i 0/2+us.getD (i+1) 0%2*2147483648)))]) (by rw [List.set_set]) (yP  (trivial) (sF O) sr))))))))))
   ·replace hc1:=xQ hc1
    refine zJ ?_
    refine xG (L':=[AU g 92 (Aq (os.set i (us.getD i 0/2+us.getD (i+1) 0%2*2147483648)))]) (by rw [show us.getD (i+1) 0=0 by simp [List.getD_eq_getElem?_getD,show N<=i+1 by omega,hlu],Nat.zero_mod,Nat.zero_mul,Nat.add_zero]) ?_
    exact yP  (trivial) (sF O) sr
  ·intro hJ
   refine zP (zC (zQ (st' (AV (c:=((i+1:Nat):Int)) O O (AY (a:=i) (b:=1) Z)) O (AJ O (oNl' (zF (sL [0,4,5] O) ?_))))))
   have hst:=Ta hlu hl hc0 hus hd hv (x:=us.getD i 0/2+us.getD (i+1) 0%2*2147483648) rfl
   exact z6 (i+1) (os.set i (us.getD i 0/2+us.getD (i+1) 0%2*2147483648)) (⟨Z,by rw [List.length_set];exact hl,W32.set hw32 Z _,hst.1,hst.2⟩) Z (sF O) sr
 ·replace hc0:=xQ hc0
  have hiN:i=N:=by omega
  have hfin:=TZ hlu hl (by rw [<-hiN];exact hv) hus
  exact zY (zR (zp (zV (Lk (.inr O) O  (λw hw=>⟨rfl,hw.1,by rw [<-II hw32 hl hfin];exact hw.get (i:=0) O⟩)))))
theorem Y8 (g q k n N c1 c3 D:Nat) (us vb:List Nat) (hus:W32 us) (hlu:us.length=N) (hvb:W32 vb) (hn:n<=vb.length) (hk:k+n+1<=N) (hN:N<=4398046511104) (hD:D<4294967296) (hu:val us<4294967296^(k+n+1)) (hne:q≠g) (w:World) (hg:w.heap[g]?=some (.cells (Aq us).toArray 92 (0,0))) (hq:w.heap[q]?=some (.cells (Aq vb).toArray 92 (0,0))):Calls prog 274 #[(qz (some ⟨g,k,none⟩) (n+1) c1),(qz (jk q) n c3),(vK .u64 D)] w (λe w'=>e=.returned (.bool (decide (val us<D*val (vb.take n)*4294967296^k)))/\Jf w w' (some g)/\w'.heap[g]?=some (.cells (Aq (CI N (val us+(if val us<D*val (vb.take n)*4294967296^k then 4294967296^(k+n+1) else 0)-D*val (vb.take n)*4294967296^k))).toArray 92 (0,0))):=by
 refine GE (args:=[(qz (some ⟨g,k,none⟩) (n+1) c1),(qz (jk q) n c3),(vK .u64 D)]) (g:=g) (T:=92) (cs:=Aq us) func274 O O (leB O) hg (zM (sL [0,1,2] O) (q4 (asg' O (oNl' (q2 (asg' O (asg' O (oNl' (q1 (q4 (AJ O ?_)))))))))))
 refine st' (v:=(vN n)) (AD O underlying255) O (AJ O (oNl' (zC (zN ?_))))
 refine yb (tg λ(i:Nat) (os:List Nat) (c:Nat) (l:Nat)=>i<=n/\os.length=N/\W32 os/\c<4294967296/\l<=1/\(∀j,k+n+1<=j->os.getD j 0=0)/\val os+D*val (vb.take i)*4294967296^k=val us+(c+l)*4294967296^(k+i)) (tg λ(i:Nat) (os:List Nat) (c:Nat) (l:Nat)=>[(0,(qz (some ⟨g,k,none⟩) (n+1) c1)),(1,(qz (jk q) n c3)),(2,(vK .u64 D)),(6,(qa false)),(12,(qz (jk q) n c3)),(13,(vN n)),(14,(vN i)),(7,(vK .u64 c)),(8,(vK .u32 l))]) (tg λ(i:Nat) (os:List Nat) (c:Nat) (l:Nat)=>[AU g 92 (Aq os)]) (tg λ(i:Nat) (os:List Nat) (c:Nat) (l:Nat)=>n-i) 0 us 0 0 (⟨xu _,hlu,hus,Z,Z,Jv hu,by simp [val]⟩) (sF O) sr (λi os c l hJ=>?_)
 obtain ⟨hi,hl,hw32,hcb,hll,hz,hv⟩:=hJ
 refine q4 (st' (AW (c:=(decide (i<n))) O O (B_ (a:=i) (b:=n))) O (oNl' (q1 ?_)))
 refine zO O (λhc0=>?_) (λhc0=>?_)
 ·replace hc0:=xR hc0
  refine zJ (q1 (zN (q4 (AJ O (st' (v:=(pP q i)) (AL (j:=i) O O underlying255 sizeOf92 O Z jX) O ?_)))))
  have hx1:vb.getD i 0<4294967296:=W32.getD hvb i
  refine st' (Be (v:=(vK .u32 (vb.getD i 0))) O (λw' hw=>CA.at0 (hw.oldCA (by simpa using hne) (FT hq)) (BJ (xs:=vb) (j:=i) Z)) isAgg92) O ?_
  have hvi:=hvb.getD i
  have hml:=LX hD hvi
  refine asg' O (asg' O (q3 (sL [0,1,2,6,12,13,14,7,8,9,10] O) (AJ O (AJ O (AJ O (st' (A6 (c:=((vb.getD i 0:Nat):Int)) O underlying92 underlying69 (BT Z)) O (st' (D7 (c:=((D*(vb.getD i 0):Nat):Int)) O O (Fe (a:=D) (b:=vb.getD i 0) Z)) O (st' (AV (c:=((c+(D*(vb.getD i 0)):Nat):Int)) O O (Dq (a:=c) (b:=D*(vb.getD i 0)) Z)) O (asg' O (q3 (sL [0,1,2,6,12,13,14,7,8,9] O) (AJ O ?_)))))))))))
  refine AJ O (AJ O (AJ O (st' (v:=(pP g (k+i))) (AL (j:=i) O O underlying255 sizeOf92 O Z jX) O ?_)))
  have hx2:os.getD (k+i) 0<4294967296:=W32.getD hw32 (k+i)
  refine st' (AE (i:=0) (v:=(vK .u32 (os.getD (k+i) 0))) O O isAgg92 (BJ (xs:=os) (j:=k+i) Z)) O (AJ O (st' (A6 (c:=(((c+(D*(vb.getD i 0)))%4294967296:Nat):Int)) O underlying69 underlying92 Ez) O (AJ O (ck' call244 (Lr (os.getD (k+i) 0) ((c+(D*(vb.getD i 0)))%4294967296) l _ Z Z Z O) O (AJ O (st' (AK (v:=(vK .u32 (((os.getD (k+i) 0)+(4294967296-((c+(D*(vb.getD i 0)))%4294967296))+(4294967296-l))%4294967296))) O O) O (st' (AK (v:=(vK .u32 (Jh (os.getD (k+i) 0) (((c+(D*(vb.getD i 0)))%4294967296)+l)))) O O) O (st' (v:=(pP g (k+i))) (AL (j:=i) O O underlying255 sizeOf92 O Z jX) O (z8 (i:=0) (off:=k+i) (vs:=[(vK .u32 (((os.getD (k+i) 0)+(4294967296-((c+(D*(vb.getD i 0)))%4294967296))+(4294967296-l))%4294967296))]) (cs':=Aq (os.set (k+i) (((os.getD (k+i) 0)+(4294967296-((c+(D*(vb.getD i 0)))%4294967296))+(4294967296-l))%4294967296))) (L':=[AU g 92 (Aq (os.set (k+i) (((os.getD (k+i) 0)+(4294967296-((c+(D*(vb.getD i 0)))%4294967296))+(4294967296-l))%4294967296)))]) (AM O) O O O O O sizeOf92 O (C2 (BW _) Z) (CR Z) O (asg' O (oNl' ?_)))))))))))
  refine zF (sL [0,1,2,6,12,13,14,7,8] O) (zC (zQ (AJ O (st' (DD (s:=32) (c:=(((c+(D*(vb.getD i 0)))/4294967296:Nat):Int)) O O O jY (Gk (a:=c+(D*(vb.getD i 0))) (s:=32))) O (asg' O (oNl' (zF (sL [0,1,2,6,12,13,14,7,8] O) (zP (zC (zQ (st' (AV (c:=((i+1:Nat):Int)) O O (AY (a:=i) (b:=1) Z)) O ?_)))))))))))
  exact AJ O (oNl' (zF (sL [0,1,2,6,12,13,14,7,8] O) (yO (i+1) (os.set (k+i) ((os.getD (k+i) 0+(4294967296-(c+D*vb.getD i 0)%4294967296)+(4294967296-l))%4294967296)) ((c+D*vb.getD i 0)/4294967296) (Jh (os.getD (k+i) 0) ((c+D*vb.getD i 0)%4294967296+l)) (⟨Z,by rw [List.length_set];exact hl,W32.set hw32 Z _,Z,QW _ _,GR hz Z,Tj (n:=n) hl Z hw32 hll hv O O⟩) Z (sF O) sr)))
 ·replace hc0:=xQ hc0
  have hin:i=n:=by omega
  have hv1:=hv
  rw [hin] at hv1
  have hll2:=Ti hl Z hw32 hll hcb hv1
  have hfin:=Th (c:=0) (os:=os.set (k+n) ((os.getD (k+n) 0+(4294967296-c)+(4294967296-l))%4294967296)) (us:=us) (vs:=vb) (n:=n) (l:=Jh (os.getD (k+n) 0) (c+l)) (D:=D) (by rw [List.length_set];exact hl) (W32.set hw32 Z _) hk hu hll2 (QW _ _) (GR hz Z)
  refine zY (zR (yK (zV (q2 (AJ O (st' (v:=(vN n)) (AD O underlying255) O (asg' O (q3 (sL [0,1,2,6,12,13,14,7,8,11] O) (AJ O (AJ O (AJ O ?_)))))))))))
  refine AJ O (st' (v:=(pP g (k+n))) (AL (j:=n) O O underlying255 sizeOf92 O Z jX) O ?_)
  have hx3:os.getD (k+n) 0<4294967296:=W32.getD hw32 (k+n)
  refine st' (AE (i:=0) (v:=(vK .u32 (os.getD (k+n) 0))) O O isAgg92 (BJ (xs:=os) (j:=k+n) Z)) O (AJ O (st' (A6 (c:=((c:Nat):Int)) O underlying69 underlying92 (C4 Z)) O (AJ O (ck' call244 (Lr (os.getD (k+n) 0) c l _ Z Z Z O) O (AJ O (st' (AK (v:=(vK .u32 (((os.getD (k+n) 0)+(4294967296-c)+(4294967296-l))%4294967296))) O O) O (st' (AK (v:=(vK .u32 (Jh (os.getD (k+n) 0) (c+l)))) O O) O (st' (v:=(pP g (k+n))) (AL (j:=n) O O underlying255 sizeOf92 O Z jX) O (z8 (i:=0) (off:=k+n) (vs:=[(vK .u32 (((os.getD (k+n) 0)+(4294967296-c)+(4294967296-l))%4294967296))]) (cs':=Aq (os.set (k+n) (((os.getD (k+n) 0)+(4294967296-c)+(4294967296-l))%4294967296))) (L':=[AU g 92 (Aq (os.set (k+n) (((os.getD (k+n) 0)+(4294967296-c)+(4294967296-l))%4294967296)))]) (AM O) O O O O O sizeOf92 O (C2 (BW _) Z) (CR Z) O (asg' O (q3 (sL [0,1,2,6,12,13,14,7,8] O) ?_)))))))))))
  exact AJ O (st' (B2 (c:=(decide (0<(Jh (os.getD (k+n) 0) (c+l))))) O O (B_ (a:=0) (b:=Jh (os.getD (k+n) 0) (c+l)))) O (asg' O (oNl' (zF (sL [0,1,2,6,12,13,14,7,8] O) (zC (zH (ret_one O (rd_tmp (v:=(qa (decide (0<(Jh (os.getD (k+n) 0) (c+l)))))) O) (λw hw=>⟨by rw [hfin.1],hw.1,by rw [<-hfin.2];exact hw.get (i:=0) O⟩))))))))
end
theorem Io {b:Nat} (h:0<nw b):4294967296^(nw b-1)<=b:=by
  rcases Nat.lt_or_ge b (4294967296^(nw b-1)) with h1|h1
  · have:=CJ.2 h1;omega
  · exact h1
theorem P1 {b:Nat} (h:0<nw b):(AP b).getD (nw b-1) 0=b/4294967296^(nw b-1)/\0<(AP b).getD (nw b-1) 0/\(AP b).getD (nw b-1) 0<4294967296:=by
  have h1:=Io h
  have h2:=Bp b
  have h3:b/4294967296^(nw b-1)<4294967296:=by
    rw [Nat.div_lt_iff_lt_mul (Nat.pow_pos Z)]
    have:4294967296^nw b=4294967296*4294967296^(nw b-1):=by rw [<-Nat.pow_succ',show (nw b-1).succ=nw b by omega]
    omega
  have h4:0<b/4294967296^(nw b-1):=Nat.div_pos h1 (Nat.pow_pos Z)
  have h5:(AP b).getD (nw b-1) 0=b/4294967296^(nw b-1):=by rw [Gm,Nat.mod_eq_of_lt h3]
  exact ⟨h5,by rw [h5];exact h4,by rw [h5];exact h3⟩
theorem bt {b s:Nat} (h:0<nw b) (hs:s=32-bl ((AP b).getD (nw b-1) 0)):s<32/\2147483648*4294967296^(nw b-1)<=b*2^s/\b*2^s<4294967296^nw b:=by
  obtain ⟨h1,h2,h3⟩:=P1 h
  obtain ⟨k1,k2,k3,k4⟩:=Tl h2 h3
  rw [<-hs] at k3 k4
  have hs32:s<32:=by omega
  have hp:0<4294967296^(nw b-1):=Nat.pow_pos Z
  have e:4294967296^nw b=4294967296*4294967296^(nw b-1):=by rw [<-Nat.pow_succ',show (nw b-1).succ=nw b by omega]
  rw [e]
  rw [h1] at k3 k4
  have m:=Nat.div_add_mod b (4294967296^(nw b-1))
  have ml:=Nat.mod_lt b hp
  generalize b/4294967296^(nw b-1)=y at *
  generalize b%4294967296^(nw b-1)=r at *
  generalize 4294967296^(nw b-1)=p at *
  have h32:(4294967296:Nat)=2^(32-s)*2^s:=by rw [<-Nat.pow_add,show 32-s+s=32 by omega]
  have k5:(y+1)*2^s<=4294967296:=by
    rw [h32] at k4 ⊢
    exact Nat.mul_le_mul_right _ (Nat.lt_of_mul_lt_mul_right k4)
  refine ⟨hs32,?_,?_⟩
  · have:2147483648*p<=y*2^s*p:=Nat.mul_le_mul_right _ k3
    have e2:b*2^s=y*2^s*p+r*2^s:=by rw [<-m];grind
    omega
  · have:(y+1)*2^s*p<=4294967296*p:=Nat.mul_le_mul_right _ k5
    have e2:b<(y+1)*p:=by rw [Nat.add_mul,Nat.one_mul,Nat.mul_comm y];omega
    have e3:b*2^s<(y+1)*p*2^s:=Nat.mul_lt_mul_of_pos_right e2 (Nat.pow_pos Z)
    have e4:(y+1)*p*2^s=(y+1)*2^s*p:=by rw [Nat.mul_right_comm]
    omega
theorem UX {xs:List Nat} {j:Nat} (h:W32 xs):xs.getD (j+1) 0*4294967296+xs.getD j 0=val xs/4294967296^j%18446744073709551616:=by
  rw [HS xs _ h,HS xs _ h,Nat.pow_succ,<-Nat.div_div_eq_div_mul]
  omega
theorem Sv {xs:List Nat} {j:Nat} (h:W32 xs) (hv:val xs<4294967296^(j+2)):xs.getD (j+1) 0*4294967296+xs.getD j 0=val xs/4294967296^j:=by
  rw [UX h,Nat.mod_eq_of_lt]
  rw [Nat.div_lt_iff_lt_mul (Nat.pow_pos Z)]
  rw [Nat.pow_succ,Nat.pow_succ] at hv
  omega
structure QL (vb:List Nat) (n V:Nat):Prop where
  w32:W32 vb
  len:vb.length=n+1
  two:2<=n
  val_:val vb=V
  low:2147483648*4294967296^(n-1)<=V
  high:V<4294967296^n
theorem QL.take {vb:List Nat} {n V:Nat} (h:QL vb n V):val (vb.take n)=V:=by rw [L6 (by rw [h.val_];exact h.high),h.val_]
theorem QL.top {vb:List Nat} {n V:Nat} (h:QL vb n V):vb.getD (n-1) 0*4294967296+vb.getD (n-2) 0=V/4294967296^(n-2)/\2147483648<=vb.getD (n-1) 0/\vb.getD (n-1) 0<4294967296:=by
  have h2:=h.two
  have e:=Sv (j:=n-2) h.w32 (by rw [show n-2+2=n by omega,h.val_];exact h.high)
  rw [show n-2+1=n-1 by omega,h.val_] at e
  refine ⟨e,?_,h.w32.getD _⟩
  rw [HS _ _ h.w32,h.val_,Nat.mod_eq_of_lt]
  · rw [Nat.le_div_iff_mul_le (Nat.pow_pos Z)];exact h.low
  · rw [Nat.div_lt_iff_lt_mul (Nat.pow_pos Z)]
    have:4294967296^n=4294967296*4294967296^(n-1):=by rw [<-Nat.pow_succ',show (n-1).succ=n by omega]
    have:=h.high
    omega
theorem QL.parts {vb:List Nat} {n V:Nat} (h:QL vb n V):V=(vb.getD (n-1) 0*4294967296+vb.getD (n-2) 0)*4294967296^(n-2)+V%4294967296^(n-2)/\V%4294967296^(n-2)<4294967296^(n-2):=by
  rw [h.top.1]
  refine ⟨?_,Nat.mod_lt _ (Nat.pow_pos Z)⟩
  have:=Nat.div_add_mod V (4294967296^(n-2))
  rw [Nat.mul_comm];omega
structure YA (us:List Nat) (V k n W top u2:Nat):Prop where
  w:W=val us/4294967296^k
  lt:W<V*4294967296
  low:(top*4294967296+u2)*4294967296^(n-2)<=W
  high:W<(top*4294967296+u2+1)*4294967296^(n-2)
  topb:top<18446744073709551616
  fits:val us<4294967296^(k+n+1)
theorem ct {us vb:List Nat} {V k n:Nat} (hn:QL vb n V) (hu:W32 us) (hR:val us<V*4294967296^(k+1)) :
    YA us V k n (val us/4294967296^k) (us.getD (k+n) 0*4294967296+us.getD (k+n-1) 0) (us.getD (k+n-2) 0):=by
  have h2:=hn.two
  have hp:0<4294967296^k:=Nat.pow_pos Z
  have hfit:val us<4294967296^(k+n+1):=by
    have h1:V*4294967296^(k+1)<4294967296^n*4294967296^(k+1):=Nat.mul_lt_mul_of_pos_right hn.high (Nat.pow_pos Z)
    rw [<-Nat.pow_add,show n+(k+1)=k+n+1 by omega] at h1
    omega
  have e1:=Sv (xs:=us) (j:=k+n-1) hu (by rw [show k+n-1+2=k+n+1 by omega];exact hfit)
  rw [show k+n-1+1=k+n by omega] at e1
  have e3:us.getD (k+n-2) 0=val us/4294967296^(k+n-2)%4294967296:=HS _ _ hu
  have e4:val us/4294967296^(k+n-1)=val us/4294967296^(k+n-2)/4294967296:=by
    rw [Nat.div_div_eq_div_mul,<-Nat.pow_succ,show (k+n-2).succ=k+n-1 by omega]
  have e5:(us.getD (k+n) 0*4294967296+us.getD (k+n-1) 0)*4294967296+us.getD (k+n-2) 0=val us/4294967296^k/4294967296^(n-2):=by
    have e6:val us/4294967296^k/4294967296^(n-2)=val us/4294967296^(k+n-2):=by rw [Nat.div_div_eq_div_mul,<-Nat.pow_add,show k+(n-2)=k+n-2 by omega]
    rw [e1,e3,e4,e6]
    exact Nat.div_add_mod' _ _
  have w1:=hu.getD (k+n)
  have w2:=hu.getD (k+n-1)
  refine ⟨rfl,?_,?_,?_,Z,hfit⟩
  · rw [Nat.div_lt_iff_lt_mul hp]
    rw [Nat.pow_succ] at hR
    have:V*(4294967296^k*4294967296)=V*4294967296*4294967296^k:=by grind
    omega
  · rw [e5];exact Nat.div_mul_le_self _ _
  · rw [e5,Nat.mul_comm];exact Nat.lt_mul_div_succ _ (Nat.pow_pos Z)
theorem YA.quo_lt {us:List Nat} {V k n W top u2:Nat} (h:YA us V k n W top u2) (hV:0<V):W/V<4294967296:=by
  rw [Nat.div_lt_iff_lt_mul hV,Nat.mul_comm];exact h.lt
theorem QL.pos {vb:List Nat} {n V:Nat} (h:QL vb n V):0<V:=by
  have:=h.low
  have:=Nat.pow_pos (n:=n-1) (show 0<4294967296 by omega)
  omega
theorem PB {us vb:List Nat} {V k n W top u2:Nat} (hn:QL vb n V) (h:YA us V k n W top u2) (hu2:u2<4294967296):IT V W (vb.getD (n-1) 0) top (top/vb.getD (n-1) 0) (top%vb.getD (n-1) 0):=by
  have hp:0<4294967296^(n-2):=Nat.pow_pos Z
  refine Qq (p:=4294967296^(n-2)) (v2:=vb.getD (n-2) 0) (u2:=u2) hp hn.parts.1 (hn.w32.getD _) hn.parts.2 ?_ (by have:=hn.top;omega)
  have h1:=h.high
  have h2:(top*4294967296+u2+1)*4294967296^(n-2)<=((top+1)*4294967296)*4294967296^(n-2):=Nat.mul_le_mul_right _ Z
  rw [<-Nat.mul_assoc]
  omega
theorem LY {us vb:List Nat} {V k n W top u2 d r:Nat} (hn:QL vb n V) (h:YA us V k n W top u2) (hg:IT V W (vb.getD (n-1) 0) top d r) (ht:¬(d<=4294967295/\d*vb.getD (n-2) 0<=r*4294967296+u2)) :
    IT V W (vb.getD (n-1) 0) top (d-1) (r+vb.getD (n-1) 0)/\0<d :=
  Qr hg (Nat.pow_pos Z) hn.parts.1 (by have:=hn.top;omega) h.high (h.quo_lt hn.pos) ht
theorem LQ {us vb:List Nat} {V k n W top u2 d r:Nat} (hn:QL vb n V) (h:YA us V k n W top u2) (hg:IT V W (vb.getD (n-1) 0) top d r) (he:4294967295<r\/(d<=4294967295/\d*vb.getD (n-2) 0<=r*4294967296+u2)) :
    d<=4294967295/\(d=W/V\/d=W/V+1) :=
  Qp hg (Nat.pow_pos Z) hn.parts.1 hn.parts.2 (by have:=hn.top;omega) (hn.w32.getD _) h.low h.lt (hn.w32.getD _) he
theorem Q0 {us vb:List Nat} {V k n W top u2 d:Nat} (hn:QL vb n V) (h:YA us V k n W top u2) (hd:d=W/V\/d=W/V+1) (hl:¬val us<d*V*4294967296^k):d=W/V/\val us+0-d*V*4294967296^k=val us-W/V*V*4294967296^k:=by
  have e:d=W/V:=by
    rcases hd with hd|hd
    · exact hd
    · exfalso
      refine hl ?_
      have h1:W<d*V:=by rw [hd];exact (Nat.div_lt_iff_lt_mul hn.pos).1 (Nat.lt_succ_self _)
      have h2:val us<(W+1)*4294967296^k:=by
        rw [h.w,Nat.mul_comm];exact Nat.lt_mul_div_succ _ (Nat.pow_pos Z)
      have h3:(W+1)*4294967296^k<=d*V*4294967296^k:=Nat.mul_le_mul_right _ h1
      omega
  exact ⟨e,by rw [e];rfl⟩
theorem RE {us vb:List Nat} {V k n W top u2:Nat} (h:YA us V k n W top u2):W/V*V*4294967296^k<=val us:=by
  have h1:W/V*V*4294967296^k<=W*4294967296^k:=Nat.mul_le_mul_right _ (Nat.div_mul_le_self _ _)
  have h2:W*4294967296^k<=val us:=by rw [h.w];exact Nat.div_mul_le_self _ _
  omega
theorem Q1 {us vb:List Nat} {V k n W top u2 d:Nat} (h:YA us V k n W top u2) (hd:d=W/V\/d=W/V+1) (hl:val us<d*V*4294967296^k):d=W/V+1/\d*V*4294967296^k=W/V*V*4294967296^k+V*4294967296^k:=by
  have hq:=RE (vb:=vb) h
  have e:d=W/V+1:=by
    rcases hd with hd|hd
    · subst hd;omega
    · exact hd
  exact ⟨e,by rw [e,Nat.add_mul,Nat.add_mul,Nat.one_mul]⟩
theorem TG {os vb:List Nat} {U i k n c:Nat} (hl:os.length=n) (hi:k+i<n) (hv:val os+c*4294967296^(k+i)=U+val (vb.take i)*4294967296^k) :
    val (os.set (k+i) ((os.getD (k+i) 0+vb.getD i 0+c)%4294967296))+(os.getD (k+i) 0+vb.getD i 0+c)/4294967296*4294967296^(k+(i+1))=U+val (vb.take (i+1))*4294967296^k:=by
  have e:=F3 (xs:=os) (i:=k+i) Z ((os.getD (k+i) 0+vb.getD i 0+c)%4294967296)
  have t:=Bg vb i
  have hm:=Nat.div_add_mod (os.getD (k+i) 0+vb.getD i 0+c) 4294967296
  rw [t,show k+(i+1)=k+i+1 by omega,Nat.pow_succ]
  rw [Nat.pow_add] at *
  generalize os.getD (k+i) 0=o at *
  generalize vb.getD i 0=y at *
  generalize (o+y+c)/4294967296=q at *
  generalize (o+y+c)%4294967296=r at *
  generalize 4294967296^i=p at *
  generalize 4294967296^k=p' at *
  generalize val (vb.take i)=v at *
  have hm2:(4294967296*q+r)*(p'*p)=(o+y+c)*(p'*p):=by rw [hm]
  grind
theorem TF {os:List Nat} {T P p N c:Nat} (hl:os.length=N) (hp:p<N) (hw:W32 os) (hc:c<=1) (hz:∀j,p+1<=j->os.getD j 0=0) (hP:P=4294967296^(p+1)) (hv:val os+c*4294967296^p=T+P) (hT:T<P) :
    val (os.set p ((os.getD p 0+c)%4294967296))=T:=by
  have e:=F3 (xs:=os) (i:=p) Z ((os.getD p 0+c)%4294967296)
  have hw2:W32 (os.set p ((os.getD p 0+c)%4294967296)):=hw.set Z _
  have ho:=hw.getD p
  have hlt:∀xs:List Nat,W32 xs->xs.length=N->(∀j,p+1<=j->xs.getD j 0=0)->val xs<P:=λxs hx hxl hxz=>by
    have h1:=FQ xs (p+1) Z
    have h2:val (xs.drop (p+1))=0:=by
      have:xs.drop (p+1)=List.replicate (N-(p+1)) 0:=by
        apply List.ext_getElem (by simp [hxl])
        intro j h1 h2
        have:=hxz (p+1+j) Z
        simp [List.getD_eq_getElem?_getD] at this h1
        simp
        have h3:p+1+j<xs.length:=by omega
        simpa [h3] using this
      rw [this,Ej]
    rw [h2] at h1
    have h3:=HT (hx.take (p+1))
    rw [List.length_take,Nat.min_eq_left Z] at h3
    omega
  have b2:=hlt _ hw2 (by rw [List.length_set];exact hl) (GR hz Z)
  rw [hP,Nat.pow_succ] at *
  generalize val (os.set p ((os.getD p 0+c)%4294967296))=v' at *
  generalize os.getD p 0=o at *
  generalize 4294967296^p=z at *
  by_cases h:o+c<4294967296
  · rw [Nat.mod_eq_of_lt h,Nat.add_mul] at e
    omega
  · have h1:o+c=4294967296:=by omega
    rw [h1,Nat.mod_self] at e
    have h2:o*z+c*z=4294967296*z:=by rw [<-Nat.add_mul,h1]
    omega
theorem Qj {us us2 vb qs:List Nat} {V k n W top u2 A m:Nat} (hn:QL vb n V) (h:YA us V k n W top u2) (hv2:val us2=val us-W/V*V*4294967296^k) (hA:A=val qs*V+val us) (hl:qs.length=m) (hk:k<m) (h0:qs.getD k 0=0) :
    val us2<V*4294967296^k/\A=val (qs.set k (W/V))*V+val us2:=by
  have hq:=RE (vb:=vb) h
  have hm:=Nat.div_add_mod W V
  have hml:=Nat.mod_lt W hn.pos
  have hp:0<4294967296^k:=Nat.pow_pos Z
  have hk1:=Nat.div_add_mod (val us) (4294967296^k)
  have hk2:=Nat.mod_lt (val us) hp
  rw [<-h.w] at hk1
  constructor
  · have h1:(W%V+1)*4294967296^k<=V*4294967296^k:=Nat.mul_le_mul_right _ hml
    have h2:W*4294967296^k=W/V*V*4294967296^k+W%V*4294967296^k:=by
      rw [<-Nat.add_mul,Nat.mul_comm (W/V)]
      rw [hm]
    rw [Nat.add_mul,Nat.one_mul] at h1
    rw [Nat.mul_comm] at hk1
    omega
  · rw [Ii hl hk h0,Nat.add_mul,hA,hv2]
    have:W/V*4294967296^k*V=W/V*V*4294967296^k:=by rw [Nat.mul_right_comm]
    omega
theorem Tk {a b s q r:Nat} (hb:0<b) (h:a*2^s=q*(b*2^s)+r) (hr:r<b*2^s):q=a/b/\r=a%b*2^s:=by
  have hp:0<2^s:=Nat.pow_pos Z
  have h1:a*2^s/(b*2^s)=q/\a*2^s%(b*2^s)=r:=by
    have e:a*2^s=r+b*2^s*q:=by rw [h,Nat.mul_comm q];omega
    rw [e]
    constructor
    · rw [Nat.add_mul_div_left _ _ Z,Nat.div_eq_of_lt hr];omega
    · rw [Nat.add_mul_mod_self_left,Nat.mod_eq_of_lt hr]
  rw [Nat.mul_div_mul_right _ _ hp,Nat.mul_mod_mul_right] at h1
  exact ⟨h1.1.symm,h1.2.symm⟩
theorem Q4 {a b s n m:Nat} (hn:n=nw b) (hb:0<nw b) (hs:s<32) (hV:2147483648*4294967296^(nw b-1)<=b*2^s) (hm:m=nw a+1-nw b) (hba:nw b<=nw a):a*2^s<b*2^s*4294967296^m:=by
  have h1:=Bp a
  have h2:(2:Nat)^s<=2^31:=Nat.pow_le_pow_right Z Z
  have h3:a*2^s<=a*2147483648:=Nat.mul_le_mul_left _ h2
  have h4:a*2147483648<4294967296^nw a*2147483648:=Nat.mul_lt_mul_of_pos_right h1 Z
  have h5:2147483648*4294967296^(nw b-1)*4294967296^m<=b*2^s*4294967296^m:=Nat.mul_le_mul_right _ hV
  have h6:2147483648*4294967296^(nw b-1)*4294967296^m=4294967296^nw a*2147483648:=by
    rw [Nat.mul_assoc,<-Nat.pow_add,show nw b-1+m=nw a by omega,Nat.mul_comm]
  omega
theorem BE.apart {w0:BA} {w:World} {L:List As} (h:BE w0 w L) {i j b b':Nat} {T T':TypeId} {cs cs':List Value} (hij:i<j) (hi:L[i]?=some (AU b T cs)) (hj:L[j]?=some (AU b' T' cs')):b≠b':=by
  have hp:=h.2.2
  obtain ⟨h1,e1⟩:=List.getElem?_eq_some_iff.1 hi
  obtain ⟨h2,e2⟩:=List.getElem?_eq_some_iff.1 hj
  have:=(List.pairwise_iff_getElem.1 hp i j h1 h2 hij).resolve_left (λk=>by have:=k.1;rw [e1] at this;cases this) b (by rw [e1])
  rw [e2] at this
  exact λe=>this (by rw [e])
end Go.Proofs.YtpolhpjiahbidaaGreatDoor
