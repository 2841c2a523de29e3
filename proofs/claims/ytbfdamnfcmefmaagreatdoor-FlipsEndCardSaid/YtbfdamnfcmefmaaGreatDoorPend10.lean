import Derived.Test.YtbfdamnfcmefmaaGreatDoorPend09
namespace Go.Proofs.YtbfdamnfcmefmaaGreatDoor
open Go Go.RowKit Go.Proofs.Tryz
open Go.Value renaming slice→qz,bool→qa
set_option linter.unusedVariables false
set_option linter.unusedSimpArgs false
section
def IH (P:Program) (ops:Array Oper) (Q:Exit->Act->World->Prop) (S:Array Bool->World->Prop):Nat->Array Bool->Act->World->Prop
  | 0,listed,a,w=>Region.ready .any ops listed=[]/\Q .normal a w
  | fuel+1,listed,a,w=>(Region.ready .any ops listed=[]->Q .normal a w) /\
    ∀i∈Region.ready .any ops listed,wpOp P ops Q i (λa' w'=>S (listed.setIfInBounds i true) w'/\IH P ops Q S fuel (listed.setIfInBounds i true) a' w') a w
section
variable {P:Program} {ops:Array Oper} {Q:Exit->Act->World->Prop} {S:Array Bool->World->Prop}
theorem II:∀(fuel:Nat) (listed:Array Bool) (a:Act) (w:World),IH P ops Q S fuel listed a w->wpAny P .any ops Q fuel listed a w
  | 0,_,_,_,h=>h
  | fuel+1,_,_,_,h=>⟨h.1,λi hi=>wpOp_mono (λa' w' h'=>II fuel _ a' w' h'.2) (h.2 i hi)⟩
theorem HE {T:World->Prop}:∀(fuel:Nat) (listed:Array Bool) (a:Act) (w:World),(∀l',(∀j,listed.getD j false=true->l'.getD j false=true)->∀w,T w->S l' w)->wpAnyH P .any ops Q T fuel listed a w->IH P ops Q S fuel listed a w
  | 0,_,_,_,_,h=>h
  | fuel+1,listed,a,w,hT,h=>⟨h.1,λi hi=>wpOp_mono (λa' w' h'=>⟨hT _ (λj hj=>getD_set_true hj) w' h'.1,HE fuel _ a' w' (λl' hl w hw=>hT l' (λj hj=>hl j (getD_set_true hj)) w hw) h'.2⟩) (h.2 i hi)⟩
def HG (ops:Array Oper) (listed:Array Bool):Prop:=∀(j:Nat) (o:Oper),listed.getD j false=true->ops[j]?=some o->∀e∈o.after,Region.binds .any e=true->listed.getD e.on false=true
theorem HG.set {listed:Array Bool} (h:HG ops listed) {i:Nat} (hi:i∈Region.ready .any ops listed):HG ops (listed.setIfInBounds i true):=λj o hj ho e he hb=>by
  obtain ⟨h0,o',ho',hall⟩:=mem_ready.1 hi
  by_cases e1:i=j
  · subst e1
    rw [ho'] at ho;injection ho with ho;subst ho
    exact getD_set_true (hall e he hb)
  · rw [getD_set_ne false e1] at hj
    exact getD_set_true (h j o hj ho e he hb)
theorem Ey {T:World->Prop} {i:Nat} {oi:Oper} {v:Value} (hi:ops[i]?=some oi) (hsel:∀(j:Nat) (o:Oper) cs b,ops[j]?=some o->o.op≠.select cs b) (hQ:∀c a w,Q (.panic c) (a.put oi.dst v) w->Q (.panic c) a w)
    (hT:∀listed w,HG ops listed->i∈Region.ready .any ops listed->S listed w->T w) (hS:∀listed w,S (listed.setIfInBounds i true) w↔S listed w) :
    ∀(fuel:Nat) (listed:Array Bool) (a:Act) (w:World),
      (∀j oj,ops[j]?=some oj->j≠i->listed.getD j true=false->(∀e∈oj.after,Region.binds .any e=true->e.on≠i)->oi.apart ops oj=true) ->
      i∈Region.ready .any ops listed->YieldsIf P ops T oi v a->S listed w->HG ops listed ->
      IH P ops Q S fuel (listed.setIfInBounds i true) (a.put oi.dst v) w->IH P ops Q S (fuel+1) listed a w:=by
  intro fuel
  induction fuel with
  | zero =>
    intro listed a w _ hr hy hw hcl H
    refine ⟨λh=>(by rw [h] at hr;cases hr),λj hj=>?_⟩
    by_cases hji:j=i
    · subst hji;exact hy.wpOp hi (hT listed w hcl hr hw) ⟨(hS _ _).2 hw,H⟩
    · have:=ready_mono hj hji
      rw [H.1] at this
      cases this
  | succ fuel ih =>
    intro listed a w hfree hr hy hw hcl H
    refine ⟨λh=>(by rw [h] at hr;cases hr),λj hj=>?_⟩
    by_cases hji:j=i
    · subst hji;exact hy.wpOp hi (hT listed w hcl hr hw) ⟨(hS _ _).2 hw,H⟩
    · have h1:=H.2 j (ready_mono hj hji)
      obtain ⟨hjun,oj,hoj,hall⟩:=mem_ready.1 hj
      have hnot:∀e∈oj.after,Region.binds .any e=true->e.on≠i:=λe he hb heq=>by
        have h1:=hall e he hb
        have h0:=(mem_ready.1 hr).1
        rw [heq] at h1
        rcases Nat.lt_or_ge i listed.size with h'|h'
        · simp [h'] at h0 h1;rw [h0] at h1;cases h1
        · simp [Array.getElem?_eq_none h'] at h1
      have h2:=wpOp_putIf hoj (hfree j oj hoj hji hjun hnot) (λcs b=>hsel i oi cs b hi) (λcs b=>hsel j oj cs b hoj) hQ hy h1
      have hfree':∀k ok,ops[k]?=some ok->k≠i->(listed.setIfInBounds j true).getD k true=false ->
          (∀e∈ok.after,Region.binds .any e=true->e.on≠i)->oi.apart ops ok=true:=λk ok hk hki hun hno=>by
        refine hfree k ok hk hki ?_ hno
        by_cases hjk:j=k
        · subst hjk;exact hjun
        · rw [getD_set_ne true hjk] at hun;exact hun
      refine wpOp_mono (λa' w' h3=>?_) h2
      obtain ⟨h4,h5,h6⟩:=h3
      rw [Array.setIfInBounds_comm _ _ (Ne.symm hji)] at h5 h6
      have h7:=(hS _ _).1 h5
      exact ⟨h7,ih (listed.setIfInBounds j true) a' w' hfree' (ready_mono hr (Ne.symm hji)) h4 h7 (hcl.set hj) h6⟩
end
def Ch (P:Program) (ops:Array Oper) (Q:Exit->Act->World->Prop) (n:Nat) (w0:BD) (Lro:List As) (K:List (Nat×Value)->List As->Prop):List (Nat×Bool)->List (Nat×Value)->List As->Prop
  | [],F,L=>K F L
  | (i,true)::r,F,L=>∃o d v,ops[i]?=some o/\o.dst=some d/\d<n/\dA P ops n w0 Lro F o v/\Ch P ops Q n w0 Lro K r ((d,v)::F) L
  | (i,false)::r,F,L=>∃o,ops[i]?=some o/\AR P ops [o] (PE Q n w0 Lro λF' L'=>Ch P ops Q n w0 Lro K r F' L') n F w0 L
def JU (P:Program) (ops:Array Oper) (Q:Exit->Act->World->Prop) (n:Nat) (w0:BD) (LB:List As) (k:Nat) (e2:List (Nat×Bool)) (F:List (Nat×Value)) (L:List As):Prop :=
  ∃o,ops[k]?=some o/\AR P ops [o] (PE Q n w0 LB λF' L'=>OkE P ops Q n w0 LB e2 F' L') n F w0 L
def M9 (l:List Oper) (i:Nat):Bool:=match l[i]? with
  | some o=>(match o.op with
    | .extract _ _=>true
    | _=>false)
  | none=>false
theorem Xy {P:Program} {l:List Oper} {i:Nat} {o:Oper} {a:Act} {v:Value} {w:World} (w':World) (hi:l[i]?=some o) (hx:M9 l i=true) (h:(execOp a.eval o).run P w=.ok (.value v) w):(execOp a.eval o).run P w'=.ok (.value v) w':=by
  unfold M9 at hx
  rw [hi] at hx
  obtain ⟨d,op,t,p,af,g⟩:=o
  cases op<;>first|(simp at hx;done)|skip
  rename_i x j
  simp only [execOp] at h ⊢
  unfold Instr.extract at h ⊢
  revert h
  cases a.eval x<;>simp
  rename_i vs
  cases vs[j]?<;>simp
def P6 (l:List Oper) (e1:List (Nat×Bool)) (k:Nat) (e2:List (Nat×Bool)):Bool :=
  Dr l [] none (e1++(k,false)::e2)&&NW l [] (e1++(k,false)::e2)&&Nat.beq (e1.length+e2.length+1) l.length&&Region.noSelect l.toArray&&(match l[k]? with|some o=>e1.all λe=>!e.2||EQ o e.1||M9 l e.1|none=>false)
section
variable {P:Program} {ops:Array Oper} {Q:Exit->Act->World->Prop} {n:Nat} {w0:BD} {LA LB L L':List As} {F F':List (Nat×Value)} {l:List Oper} {e2:List (Nat×Bool)} {k:Nat}
theorem W1 (hsel:Region.noSelect l.toArray=true) (hQ:∀c a d v w,Q (.panic c) (a.put d v) w->Q (.panic c) a w) (hAB:LB.Sublist LA) {ok:Oper} (hok:l[k]?=some ok) :
    ∀(es:List (Nat×Bool)) (D:List Nat) (p:Option Nat) (listed:Array Bool) (a:Act) (w:World) (F:List (Nat×Value)) (L:List As),
      (es.all λe=>!e.2||EQ ok e.1||M9 l e.1)=true->k ∉ D->Dr l D p (es++(k,false)::e2)=true->NQ l D listed->(∀i,i<l.length->i∈D\/(es++(k,false)::e2).any (λe=>e.1 == i)=true)->Wk LA L->Cx n a F->BH w0 w L->Ch P l.toArray Q n w0 LA (JU P l.toArray Q n w0 LB k e2) es F L ->
      IH P l.toArray Q (λlisted w=>BH w0 w (if listed.getD k false=true then LB else LA)) (es.length+e2.length+1) listed a w:=by
  have only:∀(i:Nat) (r:List (Nat×Bool)) (D:List Nat) (p:Option Nat) (listed:Array Bool),Dr l D p ((i,false)::r)=true->NQ l D listed->(∀j,j<l.length->j∈D\/((i,false)::r).any (λe=>e.1 == j)=true)->∀j,j∈Region.ready .any l.toArray listed->j=i:=λi r D p listed hc hL hall j hj=>by
    obtain ⟨o,hg⟩:=DG hc
    obtain ⟨h0,oj,hoj,_⟩:=mem_ready.1 hj
    have hjl:j<l.length:=by simpa using (Array.getElem?_eq_some_iff.1 hoj).1
    rw [Cb (by rw [hL.size];exact hjl)] at h0
    rcases hall j hjl with h1|h1
    · rw [(hL.mem j).1 h1] at h0;cases h0
    · obtain ⟨e,he,rfl⟩:=IP h1
      rcases xN.1 he with rfl|he
      · rfl
      · exact absurd hj (EY hL.cl hg.tl (hL.no hg.nin) (λe he=>hL.no λhd=>(Ds hg.tl e he).1 (List.mem_cons_of_mem _ hd)) e he)
  have nxt:∀(i:Nat) (b:Bool) (r:List (Nat×Bool)) (D:List Nat),(∀j,j<l.length->j∈D\/((i,b)::r).any (λe=>e.1 == j)=true)->∀j,j<l.length->j∈i::D\/r.any (λe=>e.1 == j)=true:=λi b r D hall j hj=>by
    rcases hall j hj with h1|h1
    · exact .inl (List.mem_cons_of_mem _ h1)
    · simp only [List.any_cons,yy,beq_iff_eq] at h1
      rcases h1 with h1|h1
      · exact .inl (h1▸List.mem_cons_self)
      · exact .inr h1
  intro es
  induction es with
  | nil =>
    intro D p listed a w F L hE hkD hc hL hall hro ha hw h
    obtain ⟨o',ho',h⟩:=h
    simp only [List.nil_append,List.length_nil,Nat.zero_add] at hc hall ⊢
    obtain ⟨o,hg⟩:=DG hc
    have hat:l.toArray[k]?=some o:=by simpa using hg.at_
    rw [hat] at ho';injection ho' with ho';subst ho'
    have hkl:k<l.length:=(List.getElem?_eq_some_iff.1 hg.at_).1
    have hp:∀e∈o.after,Region.binds .any e=true->listed.getD e.on false=true:=λe he hb=>(hL.mem _).1 (hg.pre e he hb)
    have hrd:k∈Region.ready .any l.toArray listed:=mem_ready.2 ⟨by rw [Cb (by rw [hL.size];exact hkl)];exact hL.no hg.nin,o,hat,hp⟩
    refine ⟨λh0=>absurd hrd (by rw [h0];exact List.not_mem_nil),λj hj=>?_⟩
    have hjk:=only k e2 D p listed hc hL hall j hj
    subst hjk
    have hlk:(listed.setIfInBounds j true).getD j false=true:=by rw [IW _ _ _ _ (by rw [hL.size];exact hkl)];simp
    refine Is hat (h a w ha hw) λF' L' a' w' h1 h2 h3 h4=>⟨by show BH _ _ (ite _ _ _);rw [if_pos hlk];exact h3 _ _ h2,?_⟩
    exact HE (T:=λw=>BH w0 w LB) _ _ _ _ (λl' hl w hw=>by show BH _ _ (ite _ _ _);rw [if_pos (hl j hlk)];exact hw) (JQ hsel hQ e2 (j::D) (some j) _ a' w' F' L' hg.tl (hL.add hg.at_ hp) (nxt j false e2 D hall) h3 h1 h2 h4)
  | cons e r ih =>
    intro D p listed a w F L hE hkD hc hL hall hro ha hw h
    obtain ⟨i,b⟩:=e
    rw [List.cons_append] at hc hall
    obtain ⟨o,hg⟩:=DG hc
    have hat:l.toArray[i]?=some o:=by simpa using hg.at_
    have hil:i<l.length:=(List.getElem?_eq_some_iff.1 hg.at_).1
    have hp:∀e∈o.after,Region.binds .any e=true->listed.getD e.on false=true:=λe he hb=>(hL.mem _).1 (hg.pre e he hb)
    have hrd:i∈Region.ready .any l.toArray listed:=mem_ready.2 ⟨by rw [Cb (by rw [hL.size];exact hil)];exact hL.no hg.nin,o,hat,hp⟩
    have hki:k≠i:=λe=>(Ds hg.tl (k,false) (List.mem_append_right _ List.mem_cons_self)).1 (e▸List.mem_cons_self)
    have hkD':k ∉ i::D:=λh=>(xN.1 h).elim hki hkD
    have hE':(r.all λe=>!e.2||EQ ok e.1||M9 l e.1)=true:=by rw [List.all_cons,yz] at hE;exact hE.2
    have hnk:listed.getD k false=false:=hL.no hkD
    have hnk':(listed.setIfInBounds i true).getD k false=false:=(hL.add hg.at_ hp).no hkD'
    rw [show ((i,b)::r).length+e2.length+1=r.length+e2.length+1+1 by simp only [List.length_cons];omega]
    cases b with
    | true =>
      obtain ⟨o',d,v,ho',hd,hdn,hy,hn⟩:=h
      rw [hat] at ho';injection ho' with ho';subst ho'
      have hyield:YieldsIf P l.toArray (λw=>BH w0 w LA) o v a:=by
        rcases hy with ⟨h1,h2⟩|⟨h1,h2⟩
        · exact .inl ⟨h1 a ha,λw hW=>h2 a w ha hW⟩
        · exact .inr ⟨h1 a ha,h2⟩
      have hedge:EQ ok i=true\/M9 l i=true:=by
        rw [List.all_cons,yz] at hE
        simpa using hE.1
      rcases hedge with hedge|hext
      · refine Ey hat (Region.noSelect_spec hsel) (λc a w=>bP hQ c a o.dst v w) (T:=λw=>BH w0 w LA) (λl' w hcl hr hS=>?_) (λl' w=>?_) _ listed a w (F0 hL hg.at_ (hg.fr O) hp) hrd hyield ?_ (λj oj hj ho e he hb=>hL.cl j oj hj (by simpa using ho) e he hb) ?_
        · have hkf:¬l'.getD k false=true:=λhk=>by
            obtain ⟨e,he,hb,rfl⟩:=DW hedge
            have h1:=hcl k ok hk (by simpa using hok) e he hb
            obtain ⟨h0,_⟩:=mem_ready.1 hr
            rcases Nat.lt_or_ge e.on l'.size with h5|h5
            · rw [Cb h5] at h0;rw [h0] at h1;cases h1
            · simp [Array.getElem?_eq_none h5] at h1
          have hS:BH w0 w (if l'.getD k false=true then LB else LA):=hS
          rw [if_neg hkf] at hS;exact hS
        · show BH _ _ (ite _ _ _)↔BH _ _ (ite _ _ _);rw [getD_set_ne false (Ne.symm hki)]
        · show BH _ _ (ite _ _ _);rw [if_neg (by rw [hnk];exact Bool.false_ne_true)];exact hro _ _ hw
        · exact ih (i::D) p _ _ w ((d,v)::F) L hE' hkD' hg.tl (hL.add hg.at_ hp) (nxt i true _ D hall) hro (by rw [hd];exact ha.put hdn) hw hn
      · have hyield':YieldsIf P l.toArray (λ_=>True) o v a:=by
          rcases hy with ⟨h1,h2⟩|⟨h1,h2⟩
          · exact .inl ⟨h1 a ha,λw' _=>Xy w' hg.at_ hext (h2 a w ha (hro _ _ hw))⟩
          · exact .inr ⟨h1 a ha,h2⟩
        refine Ey hat (Region.noSelect_spec hsel) (λc a w=>bP hQ c a o.dst v w) (T:=λ_=>True) (λ_ _ _ _ _=>trivial) (λl' w=>?_) _ listed a w (F0 hL hg.at_ (hg.fr O) hp) hrd hyield' ?_ (λj oj hj ho e he hb=>hL.cl j oj hj (by simpa using ho) e he hb) ?_
        · show BH _ _ (ite _ _ _)↔BH _ _ (ite _ _ _);rw [getD_set_ne false (Ne.symm hki)]
        · show BH _ _ (ite _ _ _);rw [if_neg (by rw [hnk];exact Bool.false_ne_true)];exact hro _ _ hw
        · exact ih (i::D) p _ _ w ((d,v)::F) L hE' hkD' hg.tl (hL.add hg.at_ hp) (nxt i true _ D hall) hro (by rw [hd];exact ha.put hdn) hw hn
    | false =>
      obtain ⟨o',ho',h⟩:=h
      rw [hat] at ho';injection ho' with ho';subst ho'
      refine ⟨λh0=>absurd hrd (by rw [h0];exact List.not_mem_nil),λj hj=>?_⟩
      have hji:=only i (r++(k,false)::e2) D p listed hc hL hall j hj
      subst hji
      refine Is hat (h a w ha hw) λF' L' a' w' h1 h2 h3 h4=>⟨by show BH _ _ (ite _ _ _);rw [if_neg (by rw [hnk'];exact Bool.false_ne_true)];exact h3 _ _ h2,?_⟩
      exact ih (j::D) (some j) _ a' w' F' L' hE' hkD' hg.tl (hL.add hg.at_ hp) (nxt j false _ D hall) h3 h1 h2 h4
theorem dI {id:Nat} (e1:List (Nat×Bool)) (k:Nat) (e2:List (Nat×Bool)) (hA:Wk LA L) (hAB:LB.Sublist LA) (hc:P6 l e1 k e2=true) (hQ:∀c a d v w,Q (.panic c) (a.put d v) w->Q (.panic c) a w)
    (h:Ch prog l.toArray Q n w0 LA (JU prog l.toArray Q n w0 LB k e2) e1 F L):OkC prog (.region id l.toArray true) Q n F w0 L:=λa w ha hw=>by
  simp only [P6,yz] at hc
  obtain ⟨⟨⟨⟨h1,h2⟩,h3⟩,h4⟩,h5⟩:=hc
  have hlen:=Nat.eq_of_beq_eq_true h3
  cases hok:l[k]? with
  | none=>simp [hok] at h5
  | some ok =>
    simp only [hok] at h5
    refine wp_region_any EP (II (S:=λlisted w=>BH w0 w (if listed.getD k false=true then LB else LA)) _ _ _ _ ?_)
    rw [show l.toArray.size=e1.length+e2.length+1 by rw [hlen];simp]
    have hst:=HV (l:=l)
    rw [<-hlen] at hst
    refine W1 h4 hQ hAB hok e1 [] none _ a w.drew F L h5 jX h1 hst (λi hi=>?_) hA ha hw.drew h
    have:=List.all_eq_true.1 h2 i (List.mem_range.2 hi)
    simpa using this
theorem rC {id:Nat} (e1:List (Nat×Bool)) (k:Nat) (e2:List (Nat×Bool)) (hA:LA.Sublist L) (hAB:LB.Sublist LA) (hc:P6 l e1 k e2=true) (hQ:∀c a d v w,Q (.panic c) (a.put d v) w->Q (.panic c) a w)
    (h:Ch prog l.toArray Q n w0 LA (JU prog l.toArray Q n w0 LB k e2) e1 F L):OkC prog (.region id l.toArray true) Q n F w0 L:=dI e1 k e2 (Wk.of hA) hAB hc hQ h
variable {r:List (Nat×Bool)} {i d s b off:Nat} {op:Op} {t ty T:TypeId} {p:String} {af:Array Edge} {u v:Value} {x y:Operand} {cs vs:List Value} {o:Oper} {K:List (Nat×Value)->List As->Prop}
theorem zp (hro:LA.Sublist L') (h:Ch P ops Q n w0 LA K r F' L'):AR P ops [] (PE Q n w0 LA λF' L'=>Ch P ops Q n w0 LA K r F' L') n F' w0 L':=AR.nil λa w ha hw=>⟨F',L',ha,hw,Wk.of hro,h⟩
theorem yj (hro:Wk LA L') (h:Ch P ops Q n w0 LA K r F' L'):AR P ops [] (PE Q n w0 LA λF' L'=>Ch P ops Q n w0 LA K r F' L') n F' w0 L':=AR.nil λa w ha hw=>⟨F',L',ha,hw,hro,h⟩
theorem zu (ho:ops[i]?=some o) (h:AR P ops [o] (PE Q n w0 LA λF' L'=>Ch P ops Q n w0 LA K r F' L') n F w0 L):Ch P ops Q n w0 LA K ((i,false)::r) F L:=⟨o,ho,h⟩
theorem yL (ho:ops[k]?=some o) (h:AR P ops [o] (PE Q n w0 LB λF' L'=>OkE P ops Q n w0 LB e2 F' L') n F w0 L):Ch P ops Q n w0 LA (JU P ops Q n w0 LB k e2) [] F L:=⟨o,ho,h⟩
theorem Ch.pas (ho:ops[i]?=some o) (hw:Wt ops n F o) (he:Ex P n F w0 LA o v) (hd:o.dst=some d) (hn:Nat.ble (d+1) n=true) (next:Ch P ops Q n w0 LA K r ((d,v)::F) L):Ch P ops Q n w0 LA K ((i,true)::r) F L:=⟨o,d,v,ho,hd,Nat.le_of_ble_eq_true hn,.inl ⟨hw,he⟩,next⟩
theorem vE (ho:ops[i]?=some ⟨some d,op,t,p,af,none⟩) (he:Ex P n F w0 LA ⟨some d,op,t,p,af,none⟩ v) (hn:Nat.ble (d+1) n=true) (next:Ch P ops Q n w0 LA K r ((d,v)::F) L):Ch P ops Q n w0 LA K ((i,true)::r) F L:=Ch.pas ho (AI rfl) he rfl hn next
theorem vM (ho:ops[i]?=some ⟨some d,.move x,t,p,af,none⟩) (hx:evF F x=some v) (hn:Nat.ble (d+1) n=true) (next:Ch P ops Q n w0 LA K r ((d,v)::F) L):Ch P ops Q n w0 LA K ((i,true)::r) F L:=vE ho (Cn hx) hn next
end
end
section
set_option maxRecDepth 100000
theorem YC (g N c:Nat) (us:List Nat) (hus:W32 us) (hlu:us.length=N) (hN:N<=4398046511104) (w:World) (hg:w.heap[g]?=some (.cells (Aj us).toArray 89 (0,0))):Calls prog 263 #[(qz (jk g) N c)] w (λe w'=>e=.returned (.tuple #[])/\Jq w w' (some g)/\w'.heap[g]?=some (.cells (Aj (Ck N (val us/2))).toArray 89 (0,0))):=by
 refine Fw (args:=[(qz (jk g) N c)]) (g:=g) (T:=89) (cs:=Aj us) func263 O O (A_ O) hg (zM (sL [0] O) (q4 (AL O (AD (v:=(vN N)) (AE O underlying220) O (AL O (oNl' (zB (sL [0,4,5] O) (zA (zI ?_)))))))))
 refine yE (tg λ(i:Nat) (os:List Nat)=>i<=N/\os.length=N/\W32 os/\os.drop i=us.drop i/\2*val (os.take i)+us.getD 0 0%2=val (us.take i)+us.getD i 0%2*4294967296^i) (tg λ(i:Nat) (os:List Nat)=>[(0,(qz (jk g) N c)),(4,(vN N)),(5,(vN i))]) (tg λ(i:Nat) (os:List Nat)=>[AY g 89 (Aj os)]) (tg λ(i:Nat) (os:List Nat)=>N-i) 0 us (⟨xJ _,hlu,hus,rfl,by simp [val]⟩) (sF O) sr (λi os hJ=>?_)
 obtain ⟨hi,hl,hw32,hd,hv⟩:=hJ
 refine q4 (AD (Ab (c:=(decide (i<N))) O O (DA (a:=i) (b:=N))) O (oNl' (q1 ?_)))
 refine zK O (λhc0=>?_) (λhc0=>?_)
 ·replace hc0:=xT hc0
  refine zC (q1 (zI (q4 (AL O (asg' O (q3 (sL [0,4,5,2] O) (AL O (AL O (AD (v:=(pP g i)) (AG (j:=i) O O underlying220 sizeOf89 O Z jX) O ?_)))))))))
  have hx1:os.getD i 0<4294967296:=W32.getD hw32 i
  refine AD (AH (i:=0) (v:=(vK .u32 (os.getD i 0))) O O isAgg89 (BF (xs:=os) (j:=i) Z)) O ?_
  have hui:=hus.getD i
  have huj:=hus.getD (i+1)
  refine zL (k:=11) (u:=(vK .u32 (us.getD i 0))) O (by rw [Mu hd (Nat.le_refl _)]) (AD (C1 (s:=1) (c:=(((us.getD i 0)/2:Nat):Int)) O O O jY (GS (a:=us.getD i 0) (s:=1))) O (AD (v:=(pP g i)) (AG (j:=i) O O underlying220 sizeOf89 O Z jX) O (zo (i:=0) (off:=i) (vs:=[(vK .u32 ((us.getD i 0)/2))]) (cs':=Aj (os.set i ((us.getD i 0)/2))) (L':=[AY g 89 (Aj (os.set i ((us.getD i 0)/2)))]) (AI O) O O O O O sizeOf89 O (Cm (BO _) Z) (CI Z) O (q3 (sL [0,4,5,2] O) (AL O (AD (AS (c:=((i+1:Nat):Int)) O O (AV (a:=i) (b:=1) Z)) O (AL O (AD (v:=(vN N)) (AE O underlying220) O (AD (Ab (c:=(decide ((i+1)<N))) O O (DA (a:=i+1) (b:=N))) O (oNl' (zB (sL [0,4,5,2,18] O) ?_)))))))))))
  refine zA ?_
  refine yb (tg True) (tg [(0,(qz (jk g) N c)),(4,(vN N)),(5,(vN i))]) (tg [AY g 89 (Aj (os.set i (us.getD i 0/2+us.getD (i+1) 0%2*2147483648)))]) ?_ ?_
  ·refine zK O (λhc1=>?_) (λhc1=>?_)
   ·replace hc1:=xT hc1
    refine rC [(0,true),(1,true),(2,true),(3,true),(4,true),(5,true),(6,true),(7,true),(8,true),(9,true),(10,true),(11,true)] 12 [] sr (sl sr) jV (λ_ _ d _ _ h=>by cases d<;>exact h) ?_
    have e1:(os.set i (us.getD i 0/2)).getD i 0=us.getD i 0/2:=Me Z
    have e2:(os.set i (us.getD i 0/2)).getD (i+1) 0=us.getD (i+1) 0:=by rw [Jm Z,Mu hd Z]
    have hll:(os.set i (us.getD i 0/2)).length=N:=by rw [List.length_set];exact hl
    refine vM O O O (vM O O O (vE (v:=(pP g i)) O (AG (j:=i) O O underlying220 sizeOf89 O Z jX) O ?_))
    have hx2:(os.set i ((us.getD i 0)/2)).getD i 0<4294967296:=W32.getD (W32.set hw32 Z i) i
    refine vE O (AH (i:=0) (v:=(vK .u32 ((os.set i ((us.getD i 0)/2)).getD i 0))) O O isAgg89 (BF (xs:=os.set i ((us.getD i 0)/2)) (j:=i) Z)) O (vM O O O (vM O O O (vE O (AS (c:=((i+1:Nat):Int)) O O (AV (a:=i) (b:=1) Z)) O (vE (v:=(pP g (i+1))) O (AG (j:=i+1) O O underlying220 sizeOf89 O Z jX) O ?_))))
    have hx3:(os.set i ((us.getD i 0)/2)).getD (i+1) 0<4294967296:=W32.getD (W32.set hw32 Z i) (i+1)
    exact vE O (AH (i:=0) (v:=(vK .u32 ((os.set i ((us.getD i 0)/2)).getD (i+1) 0))) O O isAgg89 (BF (xs:=os.set i ((us.getD i 0)/2)) (j:=(i+1)) Z)) O (vE (v:=(vK .u32 ((os.set i (us.getD i 0/2)).getD (i+1) 0*2^31%4294967296))) O (Gp (s:=31) O O O jY NH) O (vE O (Jc (c:=((us.getD i 0/2+us.getD (i+1) 0%2*2147483648:Nat):Int)) O O (KQ (by rw [e1];omega) (Nat.mod_lt _ Z) (by rw [e1,e2];exact YD Z))) O (vE (v:=(pP g i)) O (AG (j:=i) O O underlying220 sizeOf89 O Z jX) O (yL O (zo (i:=0) (off:=i) (vs:=[(vK .u32 (us.getD i 0/2+us.getD (i+1) 0%2*2147483648))]) (cs':=Aj ((os.set i ((us.getD i 0)/2)).set i (us.getD i 0/2+us.getD (i+1) 0%2*2147483648))) (L':=[AY g 89 (Aj ((os.set i ((us.getD i 0)/2)).set i (us.getD i 0/2+us.getD (i+1) 0%2*2147483648)))]) (AI O) O O O O O sizeOf89 O (Cm (BO _) Z) (CI Z) O (zD (sl sr) (zQ (zB (sL [0,4,5,2] O) (yp (L':=[AY g 89 (Aj (os.set i (us.getD i 0/2+us.getD (i+1) 0%2*2147483648)))]) (by rw [List.set_set]) (yF  (trivial) (sF O) sr))))))))))
   ·replace hc1:=xS hc1
    refine zC ?_
    refine yp (L':=[AY g 89 (Aj (os.set i (us.getD i 0/2+us.getD (i+1) 0%2*2147483648)))]) (by rw [show us.getD (i+1) 0=0 by simp [List.getD_eq_getElem?_getD,show N<=i+1 by omega,hlu],Nat.zero_mod,Nat.zero_mul,Nat.add_zero]) ?_
    exact yF  (trivial) (sF O) sr
  ·intro hJ
   refine zF (zA (zH (AD (AS (c:=((i+1:Nat):Int)) O O (AV (a:=i) (b:=1) Z)) O (AL O (oNl' (zB (sL [0,4,5] O) ?_))))))
   have hst:=Se hlu hl hc0 hus hd hv (x:=us.getD i 0/2+us.getD (i+1) 0%2*2147483648) rfl
   exact zn (i+1) (os.set i (us.getD i 0/2+us.getD (i+1) 0%2*2147483648)) (⟨Z,by rw [List.length_set];exact hl,W32.set hw32 Z _,hst.1,hst.2⟩) Z (sF O) sr
 ·replace hc0:=xS hc0
  have hiN:i=N:=by omega
  have hfin:=Sd hlu hl (by rw [<-hiN];exact hv) hus
  exact zU (zO (zl (zP (Lo (.inr O) O  (λw hw=>⟨rfl,hw.1,by rw [<-H9 hw32 hl hfin];exact hw.get (i:=0) O⟩)))))
theorem YW (g q k n N c1 c3 D:Nat) (us vb:List Nat) (hus:W32 us) (hlu:us.length=N) (hvb:W32 vb) (hn:n<=vb.length) (hk:k+n+1<=N) (hN:N<=4398046511104) (hD:D<4294967296) (hu:val us<4294967296^(k+n+1)) (hne:q≠g) (w:World) (hg:w.heap[g]?=some (.cells (Aj us).toArray 89 (0,0))) (hq:w.heap[q]?=some (.cells (Aj vb).toArray 89 (0,0))):Calls prog 262 #[(qz (some ⟨g,k,none⟩) (n+1) c1),(qz (jk q) n c3),(vK .u64 D)] w (λe w'=>e=.returned (.bool (decide (val us<D*val (vb.take n)*4294967296^k)))/\Jq w w' (some g)/\w'.heap[g]?=some (.cells (Aj (Ck N (val us+(if val us<D*val (vb.take n)*4294967296^k then 4294967296^(k+n+1) else 0)-D*val (vb.take n)*4294967296^k))).toArray 89 (0,0))):=by
 refine Fw (args:=[(qz (some ⟨g,k,none⟩) (n+1) c1),(qz (jk q) n c3),(vK .u64 D)]) (g:=g) (T:=89) (cs:=Aj us) func262 O O (A_ O) hg (zM (sL [0,1,2] O) (q4 (asg' O (oNl' (q2 (asg' O (asg' O (oNl' (q1 (q4 (AL O ?_)))))))))))
 refine AD (v:=(vN n)) (AE O underlying220) O (AL O (oNl' (zA (zI ?_))))
 refine yR (tg λ(i:Nat) (os:List Nat) (c:Nat) (l:Nat)=>i<=n/\os.length=N/\W32 os/\c<4294967296/\l<=1/\(∀j,k+n+1<=j->os.getD j 0=0)/\val os+D*val (vb.take i)*4294967296^k=val us+(c+l)*4294967296^(k+i)) (tg λ(i:Nat) (os:List Nat) (c:Nat) (l:Nat)=>[(0,(qz (some ⟨g,k,none⟩) (n+1) c1)),(1,(qz (jk q) n c3)),(2,(vK .u64 D)),(6,(qa false)),(12,(qz (jk q) n c3)),(13,(vN n)),(14,(vN i)),(7,(vK .u64 c)),(8,(vK .u32 l))]) (tg λ(i:Nat) (os:List Nat) (c:Nat) (l:Nat)=>[AY g 89 (Aj os)]) (tg λ(i:Nat) (os:List Nat) (c:Nat) (l:Nat)=>n-i) 0 us 0 0 (⟨xJ _,hlu,hus,Z,Z,Jp hu,by simp [val]⟩) (sF O) sr (λi os c l hJ=>?_)
 obtain ⟨hi,hl,hw32,hcb,hll,hz,hv⟩:=hJ
 refine q4 (AD (Ab (c:=(decide (i<n))) O O (DA (a:=i) (b:=n))) O (oNl' (q1 ?_)))
 refine zK O (λhc0=>?_) (λhc0=>?_)
 ·replace hc0:=xT hc0
  refine zC (q1 (zI (q4 (AL O (AD (v:=(pP q i)) (AG (j:=i) O O underlying220 sizeOf89 O Z jX) O ?_)))))
  have hx1:vb.getD i 0<4294967296:=W32.getD hvb i
  refine AD (Bc (v:=(vK .u32 (vb.getD i 0))) O (λw' hw=>CA.at0 (hw.oldCA (by simpa using hne) (FB hq)) (BF (xs:=vb) (j:=i) Z)) isAgg89) O ?_
  have hvi:=hvb.getD i
  have hml:=LY hD hvi
  refine asg' O (asg' O (q3 (sL [0,1,2,6,12,13,14,7,8,9,10] O) (AL O (AL O (AL O (AD (Aq (c:=((vb.getD i 0:Nat):Int)) O underlying89 underlying60 (BS Z)) O (AD (Bo (c:=((D*(vb.getD i 0):Nat):Int)) O O (FK (a:=D) (b:=vb.getD i 0) Z)) O (AD (AS (c:=((c+(D*(vb.getD i 0)):Nat):Int)) O O (De (a:=c) (b:=D*(vb.getD i 0)) Z)) O (asg' O (q3 (sL [0,1,2,6,12,13,14,7,8,9] O) (AL O ?_)))))))))))
  refine AL O (AL O (AL O (AD (v:=(pP g (k+i))) (AG (j:=i) O O underlying220 sizeOf89 O Z jX) O ?_)))
  have hx2:os.getD (k+i) 0<4294967296:=W32.getD hw32 (k+i)
  refine AD (AH (i:=0) (v:=(vK .u32 (os.getD (k+i) 0))) O O isAgg89 (BF (xs:=os) (j:=k+i) Z)) O (AL O (AD (Aq (c:=(((c+(D*(vb.getD i 0)))%4294967296:Nat):Int)) O underlying60 underlying89 EX) O (AL O (ck' call225 (Lu (os.getD (k+i) 0) ((c+(D*(vb.getD i 0)))%4294967296) l _ Z Z Z O) O (AL O (AD (AJ (v:=(vK .u32 (((os.getD (k+i) 0)+(4294967296-((c+(D*(vb.getD i 0)))%4294967296))+(4294967296-l))%4294967296))) O O) O (AD (AJ (v:=(vK .u32 (JX (os.getD (k+i) 0) (((c+(D*(vb.getD i 0)))%4294967296)+l)))) O O) O (AD (v:=(pP g (k+i))) (AG (j:=i) O O underlying220 sizeOf89 O Z jX) O (zo (i:=0) (off:=k+i) (vs:=[(vK .u32 (((os.getD (k+i) 0)+(4294967296-((c+(D*(vb.getD i 0)))%4294967296))+(4294967296-l))%4294967296))]) (cs':=Aj (os.set (k+i) (((os.getD (k+i) 0)+(4294967296-((c+(D*(vb.getD i 0)))%4294967296))+(4294967296-l))%4294967296))) (L':=[AY g 89 (Aj (os.set (k+i) (((os.getD (k+i) 0)+(4294967296-((c+(D*(vb.getD i 0)))%4294967296))+(4294967296-l))%4294967296)))]) (AI O) O O O O O sizeOf89 O (Cm (BO _) Z) (CI Z) O (asg' O (oNl' ?_)))))))))))
  refine zB (sL [0,1,2,6,12,13,14,7,8] O) (zA (zH (AL O (AD (C1 (s:=32) (c:=(((c+(D*(vb.getD i 0)))/4294967296:Nat):Int)) O O O jY (GS (a:=c+(D*(vb.getD i 0))) (s:=32))) O (asg' O (oNl' (zB (sL [0,1,2,6,12,13,14,7,8] O) (zF (zA (zH (AD (AS (c:=((i+1:Nat):Int)) O O (AV (a:=i) (b:=1) Z)) O ?_)))))))))))
  exact AL O (oNl' (zB (sL [0,1,2,6,12,13,14,7,8] O) (z8 (i+1) (os.set (k+i) ((os.getD (k+i) 0+(4294967296-(c+D*vb.getD i 0)%4294967296)+(4294967296-l))%4294967296)) ((c+D*vb.getD i 0)/4294967296) (JX (os.getD (k+i) 0) ((c+D*vb.getD i 0)%4294967296+l)) (⟨Z,by rw [List.length_set];exact hl,W32.set hw32 Z _,Z,P3 _ _,F6 hz Z,Sn (n:=n) hl Z hw32 hll hv O O⟩) Z (sF O) sr)))
 ·replace hc0:=xS hc0
  have hin:i=n:=by omega
  have hv1:=hv
  rw [hin] at hv1
  have hll2:=Sm hl Z hw32 hll hcb hv1
  have hfin:=Sl (c:=0) (os:=os.set (k+n) ((os.getD (k+n) 0+(4294967296-c)+(4294967296-l))%4294967296)) (us:=us) (vs:=vb) (n:=n) (l:=JX (os.getD (k+n) 0) (c+l)) (D:=D) (by rw [List.length_set];exact hl) (W32.set hw32 Z _) hk hu hll2 (P3 _ _) (F6 hz Z)
  refine zU (zO (yC (zP (q2 (AL O (AD (v:=(vN n)) (AE O underlying220) O (asg' O (q3 (sL [0,1,2,6,12,13,14,7,8,11] O) (AL O (AL O (AL O ?_)))))))))))
  refine AL O (AD (v:=(pP g (k+n))) (AG (j:=n) O O underlying220 sizeOf89 O Z jX) O ?_)
  have hx3:os.getD (k+n) 0<4294967296:=W32.getD hw32 (k+n)
  refine AD (AH (i:=0) (v:=(vK .u32 (os.getD (k+n) 0))) O O isAgg89 (BF (xs:=os) (j:=k+n) Z)) O (AL O (AD (Aq (c:=((c:Nat):Int)) O underlying60 underlying89 (CW Z)) O (AL O (ck' call225 (Lu (os.getD (k+n) 0) c l _ Z Z Z O) O (AL O (AD (AJ (v:=(vK .u32 (((os.getD (k+n) 0)+(4294967296-c)+(4294967296-l))%4294967296))) O O) O (AD (AJ (v:=(vK .u32 (JX (os.getD (k+n) 0) (c+l)))) O O) O (AD (v:=(pP g (k+n))) (AG (j:=n) O O underlying220 sizeOf89 O Z jX) O (zo (i:=0) (off:=k+n) (vs:=[(vK .u32 (((os.getD (k+n) 0)+(4294967296-c)+(4294967296-l))%4294967296))]) (cs':=Aj (os.set (k+n) (((os.getD (k+n) 0)+(4294967296-c)+(4294967296-l))%4294967296))) (L':=[AY g 89 (Aj (os.set (k+n) (((os.getD (k+n) 0)+(4294967296-c)+(4294967296-l))%4294967296)))]) (AI O) O O O O O sizeOf89 O (Cm (BO _) Z) (CI Z) O (asg' O (q3 (sL [0,1,2,6,12,13,14,7,8] O) ?_)))))))))))
  exact AL O (AD (Da (c:=(decide (0<(JX (os.getD (k+n) 0) (c+l))))) O O (DA (a:=0) (b:=JX (os.getD (k+n) 0) (c+l)))) O (asg' O (oNl' (zB (sL [0,1,2,6,12,13,14,7,8] O) (zA (zG (ret_one O (rd_tmp (v:=(qa (decide (0<(JX (os.getD (k+n) 0) (c+l)))))) O) (λw hw=>⟨by rw [hfin.1],hw.1,by rw [<-hfin.2];exact hw.get (i:=0) O⟩))))))))
end
end Go.Proofs.YtbfdamnfcmefmaaGreatDoor
