import Derived.Test.YtpolhpjiahbidaaGreatDoorPart05
import Derived.Test.YtpolhpjiahbidaaGreatDoorPart12
namespace Go.Proofs.YtpolhpjiahbidaaGreatDoor
open Go Go.RowKit Go.Proofs.Tryz
set_option linter.unusedVariables false
set_option linter.unusedSimpArgs false
section
def IN (P:Program) (ops:Array Oper) (Q:Exit->Act->World->Prop) (S:Array Bool->World->Prop):Nat->Array Bool->Act->World->Prop
  | 0,listed,a,w=>Region.ready .any ops listed=[]/\Q .normal a w
  | fuel+1,listed,a,w=>(Region.ready .any ops listed=[]->Q .normal a w) /\
    ∀i∈Region.ready .any ops listed,wpOp P ops Q i (λa' w'=>S (listed.setIfInBounds i true) w'/\IN P ops Q S fuel (listed.setIfInBounds i true) a' w') a w
section
variable {P:Program} {ops:Array Oper} {Q:Exit->Act->World->Prop} {S:Array Bool->World->Prop}
theorem KG:∀(fuel:Nat) (listed:Array Bool) (a:Act) (w:World),IN P ops Q S fuel listed a w->wpAny P .any ops Q fuel listed a w
  | 0,_,_,_,h=>h
  | fuel+1,_,_,_,h=>⟨h.1,λi hi=>wpOp_mono (λa' w' h'=>KG fuel _ a' w' h'.2) (h.2 i hi)⟩
theorem Ic {T:World->Prop}:∀(fuel:Nat) (listed:Array Bool) (a:Act) (w:World),(∀l',(∀j,listed.getD j false=true->l'.getD j false=true)->∀w,T w->S l' w)->wpAnyH P .any ops Q T fuel listed a w->IN P ops Q S fuel listed a w
  | 0,_,_,_,_,h=>h
  | fuel+1,listed,a,w,hT,h=>⟨h.1,λi hi=>wpOp_mono (λa' w' h'=>⟨hT _ (λj hj=>getD_set_true hj) w' h'.1,Ic fuel _ a' w' (λl' hl w hw=>hT l' (λj hj=>hl j (getD_set_true hj)) w hw) h'.2⟩) (h.2 i hi)⟩
def Hs (ops:Array Oper) (listed:Array Bool):Prop:=∀(j:Nat) (o:Oper),listed.getD j false=true->ops[j]?=some o->∀e∈o.after,Region.binds .any e=true->listed.getD e.on false=true
theorem Hs.set {listed:Array Bool} (h:Hs ops listed) {i:Nat} (hi:i∈Region.ready .any ops listed):Hs ops (listed.setIfInBounds i true):=λj o hj ho e he hb=>by
  obtain ⟨h0,o',ho',hall⟩:=mem_ready.1 hi
  by_cases e1:i=j
  · subst e1
    rw [ho'] at ho;injection ho with ho;subst ho
    exact getD_set_true (hall e he hb)
  · rw [getD_set_ne false e1] at hj
    exact getD_set_true (h j o hj ho e he hb)
theorem Hc {T:World->Prop} {i:Nat} {oi:Oper} {v:Value} (hi:ops[i]?=some oi) (hsel:∀(j:Nat) (o:Oper) cs b,ops[j]?=some o->o.op≠.select cs b) (hQ:∀c a w,Q (.panic c) (a.put oi.dst v) w->Q (.panic c) a w)
    (hT:∀listed w,Hs ops listed->i∈Region.ready .any ops listed->S listed w->T w) (hS:∀listed w,S (listed.setIfInBounds i true) w↔S listed w) :
    ∀(fuel:Nat) (listed:Array Bool) (a:Act) (w:World),
      (∀j oj,ops[j]?=some oj->j≠i->listed.getD j true=false->(∀e∈oj.after,Region.binds .any e=true->e.on≠i)->oi.apart ops oj=true) ->
      i∈Region.ready .any ops listed->YieldsIf P ops T oi v a->S listed w->Hs ops listed ->
      IN P ops Q S fuel (listed.setIfInBounds i true) (a.put oi.dst v) w->IN P ops Q S (fuel+1) listed a w:=by
  intro fuel
  induction fuel with
  | zero =>
    intro listed a w _ hr hy hw hcl H
    refine ⟨λh=>(by rw [h] at hr;cases hr),λj hj=>?_⟩
    by_cases hji:j=i
    · subst hji;exact hy.wpOp hi (hT listed w hcl hr hw) ⟨(hS _ _).2 hw,H⟩
    · have:=ready_mono hj hji
      rw [H.1] at this
      cases this
  | succ fuel ih =>
    intro listed a w hfree hr hy hw hcl H
    refine ⟨λh=>(by rw [h] at hr;cases hr),λj hj=>?_⟩
    by_cases hji:j=i
    · subst hji;exact hy.wpOp hi (hT listed w hcl hr hw) ⟨(hS _ _).2 hw,H⟩
    · have h1:=H.2 j (ready_mono hj hji)
      obtain ⟨hjun,oj,hoj,hall⟩:=mem_ready.1 hj
      have hnot:∀e∈oj.after,Region.binds .any e=true->e.on≠i:=λe he hb heq=>by
        have h1:=hall e he hb
        have h0:=(mem_ready.1 hr).1
        rw [heq] at h1
        rcases Nat.lt_or_ge i listed.size with h'|h'
        · simp [h'] at h0 h1;rw [h0] at h1;cases h1
        · simp [Array.getElem?_eq_none h'] at h1
      have h2:=wpOp_putIf hoj (hfree j oj hoj hji hjun hnot) (λcs b=>hsel i oi cs b hi) (λcs b=>hsel j oj cs b hoj) hQ hy h1
      have hfree':∀k ok,ops[k]?=some ok->k≠i->(listed.setIfInBounds j true).getD k true=false ->
          (∀e∈ok.after,Region.binds .any e=true->e.on≠i)->oi.apart ops ok=true:=λk ok hk hki hun hno=>by
        refine hfree k ok hk hki ?_ hno
        by_cases hjk:j=k
        · subst hjk;exact hjun
        · rw [getD_set_ne true hjk] at hun;exact hun
      refine wpOp_mono (λa' w' h3=>?_) h2
      obtain ⟨h4,h5,h6⟩:=h3
      rw [Array.setIfInBounds_comm _ _ (Ne.symm hji)] at h5 h6
      have h7:=(hS _ _).1 h5
      exact ⟨h7,ih (listed.setIfInBounds j true) a' w' hfree' (ready_mono hr (Ne.symm hji)) h4 h7 (hcl.set hj) h6⟩
end
def Ch (P:Program) (ops:Array Oper) (Q:Exit->Act->World->Prop) (n:Nat) (w0:A_) (Lro:List As) (K:List (Nat×Value)->List As->Prop):List (Nat×Bool)->List (Nat×Value)->List As->Prop
  | [],F,L=>K F L
  | (i,true)::r,F,L=>∃o d v,ops[i]?=some o/\o.dst=some d/\d<n/\Zd P ops n w0 Lro F o v/\Ch P ops Q n w0 Lro K r ((d,v)::F) L
  | (i,false)::r,F,L=>∃o,ops[i]?=some o/\OkL P ops [o] (PE Q n w0 Lro λF' L'=>Ch P ops Q n w0 Lro K r F' L') n F w0 L
def P3 (P:Program) (ops:Array Oper) (Q:Exit->Act->World->Prop) (n:Nat) (w0:A_) (LB:List As) (k:Nat) (e2:List (Nat×Bool)) (F:List (Nat×Value)) (L:List As):Prop :=
  ∃o,ops[k]?=some o/\OkL P ops [o] (PE Q n w0 LB λF' L'=>OkE P ops Q n w0 LB e2 F' L') n F w0 L
def K4 (l:List Oper) (i:Nat):Bool:=match l[i]? with
  | some o=>(match o.op with
    | .extract _ _=>true
    | _=>false)
  | none=>false
theorem WG {P:Program} {l:List Oper} {i:Nat} {o:Oper} {a:Act} {v:Value} {w:World} (w':World) (hi:l[i]?=some o) (hx:K4 l i=true) (h:(execOp a.eval o).run P w=.ok (.value v) w):(execOp a.eval o).run P w'=.ok (.value v) w':=by
  unfold K4 at hx
  rw [hi] at hx
  obtain ⟨d,op,t,p,af,g⟩:=o
  cases op<;>first|(simp at hx;done)|skip
  rename_i x j
  simp only [execOp] at h ⊢
  unfold Instr.extract at h ⊢
  revert h
  cases a.eval x<;>simp
  rename_i vs
  cases vs[j]?<;>simp
def Pb (l:List Oper) (e1:List (Nat×Bool)) (k:Nat) (e2:List (Nat×Bool)):Bool :=
  ED l [] none (e1++(k,false)::e2)&&Ob l [] (e1++(k,false)::e2)&&Nat.beq (e1.length+e2.length+1) l.length&&Region.noSelect l.toArray&&(match l[k]? with|some o=>e1.all λe=>!e.2||EX o e.1||K4 l e.1|none=>false)
section
variable {P:Program} {ops:Array Oper} {Q:Exit->Act->World->Prop} {n:Nat} {w0:A_} {LA LB L L':List As} {F F':List (Nat×Value)} {l:List Oper} {e2:List (Nat×Bool)} {k:Nat}
theorem U5 (hsel:Region.noSelect l.toArray=true) (hQ:∀c a d v w,Q (.panic c) (a.put d v) w->Q (.panic c) a w) (hAB:LB.Sublist LA) {ok:Oper} (hok:l[k]?=some ok) :
    ∀(es:List (Nat×Bool)) (D:List Nat) (p:Option Nat) (listed:Array Bool) (a:Act) (w:World) (F:List (Nat×Value)) (L:List As),
      (es.all λe=>!e.2||EX ok e.1||K4 l e.1)=true->k ∉ D->ED l D p (es++(k,false)::e2)=true->OG l D listed->(∀i,i<l.length->i∈D\/(es++(k,false)::e2).any (λe=>e.1 == i)=true)->Wk LA L->Cn n a F->BD w0 w L->Ch P l.toArray Q n w0 LA (P3 P l.toArray Q n w0 LB k e2) es F L ->
      IN P l.toArray Q (λlisted w=>BD w0 w (if listed.getD k false=true then LB else LA)) (es.length+e2.length+1) listed a w:=by
  have only:∀(i:Nat) (r:List (Nat×Bool)) (D:List Nat) (p:Option Nat) (listed:Array Bool),ED l D p ((i,false)::r)=true->OG l D listed->(∀j,j<l.length->j∈D\/((i,false)::r).any (λe=>e.1 == j)=true)->∀j,j∈Region.ready .any l.toArray listed->j=i:=λi r D p listed hc hL hall j hj=>by
    obtain ⟨o,hg⟩:=EI hc
    obtain ⟨h0,oj,hoj,_⟩:=mem_ready.1 hj
    have hjl:j<l.length:=by simpa using (Array.getElem?_eq_some_iff.1 hoj).1
    rw [C8 (by rw [hL.size];exact hjl)] at h0
    rcases hall j hjl with h1|h1
    · rw [(hL.mem j).1 h1] at h0;cases h0
    · obtain ⟨e,he,rfl⟩:=JG h1
      rcases List.mem_cons.1 he with rfl|he
      · rfl
      · exact absurd hj (Eu hL.cl hg.tl (hL.no hg.nin) (λe he=>hL.no λhd=>(Ef hg.tl e he).1 (List.mem_cons_of_mem _ hd)) e he)
  have nxt:∀(i:Nat) (b:Bool) (r:List (Nat×Bool)) (D:List Nat),(∀j,j<l.length->j∈D\/((i,b)::r).any (λe=>e.1 == j)=true)->∀j,j<l.length->j∈i::D\/r.any (λe=>e.1 == j)=true:=λi b r D hall j hj=>by
    rcases hall j hj with h1|h1
    · exact .inl (List.mem_cons_of_mem _ h1)
    · simp only [List.any_cons,Bool.or_eq_true,beq_iff_eq] at h1
      rcases h1 with h1|h1
      · exact .inl (h1▸List.mem_cons_self)
      · exact .inr h1
  intro es
  induction es with
  | nil =>
    intro D p listed a w F L hE hkD hc hL hall hro ha hw h
    obtain ⟨o',ho',h⟩:=h
    simp only [List.nil_append,List.length_nil,Nat.zero_add] at hc hall ⊢
    obtain ⟨o,hg⟩:=EI hc
    have hat:l.toArray[k]?=some o:=by simpa using hg.at_
    rw [hat] at ho';injection ho' with ho';subst ho'
    have hkl:k<l.length:=(List.getElem?_eq_some_iff.1 hg.at_).1
    have hp:∀e∈o.after,Region.binds .any e=true->listed.getD e.on false=true:=λe he hb=>(hL.mem _).1 (hg.pre e he hb)
    have hrd:k∈Region.ready .any l.toArray listed:=mem_ready.2 ⟨by rw [C8 (by rw [hL.size];exact hkl)];exact hL.no hg.nin,o,hat,hp⟩
    refine ⟨λh0=>absurd hrd (by rw [h0];exact List.not_mem_nil),λj hj=>?_⟩
    have hjk:=only k e2 D p listed hc hL hall j hj
    subst hjk
    have hlk:(listed.setIfInBounds j true).getD j false=true:=by rw [J9 _ _ _ _ (by rw [hL.size];exact hkl)];simp
    refine Mm hat (h a w ha hw) λF' L' a' w' h1 h2 h3 h4=>⟨by show BD _ _ (ite _ _ _);rw [if_pos hlk];exact h3 _ _ h2,?_⟩
    exact Ic (T:=λw=>BD w0 w LB) _ _ _ _ (λl' hl w hw=>by show BD _ _ (ite _ _ _);rw [if_pos (hl j hlk)];exact hw) (Ju hsel hQ e2 (j::D) (some j) _ a' w' F' L' hg.tl (hL.add hg.at_ hp) (nxt j false e2 D hall) h3 h1 h2 h4)
  | cons e r ih =>
    intro D p listed a w F L hE hkD hc hL hall hro ha hw h
    obtain ⟨i,b⟩:=e
    rw [List.cons_append] at hc hall
    obtain ⟨o,hg⟩:=EI hc
    have hat:l.toArray[i]?=some o:=by simpa using hg.at_
    have hil:i<l.length:=(List.getElem?_eq_some_iff.1 hg.at_).1
    have hp:∀e∈o.after,Region.binds .any e=true->listed.getD e.on false=true:=λe he hb=>(hL.mem _).1 (hg.pre e he hb)
    have hrd:i∈Region.ready .any l.toArray listed:=mem_ready.2 ⟨by rw [C8 (by rw [hL.size];exact hil)];exact hL.no hg.nin,o,hat,hp⟩
    have hki:k≠i:=λe=>(Ef hg.tl (k,false) (List.mem_append_right _ List.mem_cons_self)).1 (e▸List.mem_cons_self)
    have hkD':k ∉ i::D:=λh=>(List.mem_cons.1 h).elim hki hkD
    have hE':(r.all λe=>!e.2||EX ok e.1||K4 l e.1)=true:=by rw [List.all_cons,Bool.and_eq_true] at hE;exact hE.2
    have hnk:listed.getD k false=false:=hL.no hkD
    have hnk':(listed.setIfInBounds i true).getD k false=false:=(hL.add hg.at_ hp).no hkD'
    rw [show ((i,b)::r).length+e2.length+1=r.length+e2.length+1+1 by simp only [List.length_cons];omega]
    cases b with
    | true =>
      obtain ⟨o',d,v,ho',hd,hdn,hy,hn⟩:=h
      rw [hat] at ho';injection ho' with ho';subst ho'
      have hyield:YieldsIf P l.toArray (λw=>BD w0 w LA) o v a:=by
        rcases hy with ⟨h1,h2⟩|⟨h1,h2⟩
        · exact .inl ⟨h1 a ha,λw hW=>h2 a w ha hW⟩
        · exact .inr ⟨h1 a ha,h2⟩
      have hedge:EX ok i=true\/K4 l i=true:=by
        rw [List.all_cons,Bool.and_eq_true] at hE
        simpa using hE.1
      rcases hedge with hedge|hext
      · refine Hc hat (Region.noSelect_spec hsel) (λc a w=>ZY hQ c a o.dst v w) (T:=λw=>BD w0 w LA) (λl' w hcl hr hS=>?_) (λl' w=>?_) _ listed a w (HZ hL hg.at_ (hg.fr O) hp) hrd hyield ?_ (λj oj hj ho e he hb=>hL.cl j oj hj (by simpa using ho) e he hb) ?_
        · have hkf:¬l'.getD k false=true:=λhk=>by
            obtain ⟨e,he,hb,rfl⟩:=Dj hedge
            have h1:=hcl k ok hk (by simpa using hok) e he hb
            obtain ⟨h0,_⟩:=mem_ready.1 hr
            rcases Nat.lt_or_ge e.on l'.size with h5|h5
            · rw [C8 h5] at h0;rw [h0] at h1;cases h1
            · simp [Array.getElem?_eq_none h5] at h1
          have hS:BD w0 w (if l'.getD k false=true then LB else LA):=hS
          rw [if_neg hkf] at hS;exact hS
        · show BD _ _ (ite _ _ _)↔BD _ _ (ite _ _ _);rw [getD_set_ne false (Ne.symm hki)]
        · show BD _ _ (ite _ _ _);rw [if_neg (by rw [hnk];exact Bool.false_ne_true)];exact hro _ _ hw
        · exact ih (i::D) p _ _ w ((d,v)::F) L hE' hkD' hg.tl (hL.add hg.at_ hp) (nxt i true _ D hall) hro (by rw [hd];exact ha.put hdn) hw hn
      · have hyield':YieldsIf P l.toArray (λ_=>True) o v a:=by
          rcases hy with ⟨h1,h2⟩|⟨h1,h2⟩
          · exact .inl ⟨h1 a ha,λw' _=>WG w' hg.at_ hext (h2 a w ha (hro _ _ hw))⟩
          · exact .inr ⟨h1 a ha,h2⟩
        refine Hc hat (Region.noSelect_spec hsel) (λc a w=>ZY hQ c a o.dst v w) (T:=λ_=>True) (λ_ _ _ _ _=>trivial) (λl' w=>?_) _ listed a w (HZ hL hg.at_ (hg.fr O) hp) hrd hyield' ?_ (λj oj hj ho e he hb=>hL.cl j oj hj (by simpa using ho) e he hb) ?_
        · show BD _ _ (ite _ _ _)↔BD _ _ (ite _ _ _);rw [getD_set_ne false (Ne.symm hki)]
        · show BD _ _ (ite _ _ _);rw [if_neg (by rw [hnk];exact Bool.false_ne_true)];exact hro _ _ hw
        · exact ih (i::D) p _ _ w ((d,v)::F) L hE' hkD' hg.tl (hL.add hg.at_ hp) (nxt i true _ D hall) hro (by rw [hd];exact ha.put hdn) hw hn
    | false =>
      obtain ⟨o',ho',h⟩:=h
      rw [hat] at ho';injection ho' with ho';subst ho'
      refine ⟨λh0=>absurd hrd (by rw [h0];exact List.not_mem_nil),λj hj=>?_⟩
      have hji:=only i (r++(k,false)::e2) D p listed hc hL hall j hj
      subst hji
      refine Mm hat (h a w ha hw) λF' L' a' w' h1 h2 h3 h4=>⟨by show BD _ _ (ite _ _ _);rw [if_neg (by rw [hnk'];exact Bool.false_ne_true)];exact h3 _ _ h2,?_⟩
      exact ih (j::D) (some j) _ a' w' F' L' hE' hkD' hg.tl (hL.add hg.at_ hp) (nxt j false _ D hall) h3 h1 h2 h4
theorem Zi {id:Nat} (e1:List (Nat×Bool)) (k:Nat) (e2:List (Nat×Bool)) (hA:Wk LA L) (hAB:LB.Sublist LA) (hc:Pb l e1 k e2=true) (hQ:∀c a d v w,Q (.panic c) (a.put d v) w->Q (.panic c) a w)
    (h:Ch prog l.toArray Q n w0 LA (P3 prog l.toArray Q n w0 LB k e2) e1 F L):OkC prog (.region id l.toArray true) Q n F w0 L:=λa w ha hw=>by
  simp only [Pb,Bool.and_eq_true] at hc
  obtain ⟨⟨⟨⟨h1,h2⟩,h3⟩,h4⟩,h5⟩:=hc
  have hlen:=Nat.eq_of_beq_eq_true h3
  cases hok:l[k]? with
  | none=>simp [hok] at h5
  | some ok =>
    simp only [hok] at h5
    refine wp_region_any FC (KG (S:=λlisted w=>BD w0 w (if listed.getD k false=true then LB else LA)) _ _ _ _ ?_)
    rw [show l.toArray.size=e1.length+e2.length+1 by rw [hlen];simp]
    have hst:=IK (l:=l)
    rw [<-hlen] at hst
    refine U5 h4 hQ hAB hok e1 [] none _ a w.drew F L h5 (by simp) h1 hst (λi hi=>?_) hA ha hw.drew h
    have:=List.all_eq_true.1 h2 i (List.mem_range.2 hi)
    simpa using this
theorem rC {id:Nat} (e1:List (Nat×Bool)) (k:Nat) (e2:List (Nat×Bool)) (hA:LA.Sublist L) (hAB:LB.Sublist LA) (hc:Pb l e1 k e2=true) (hQ:∀c a d v w,Q (.panic c) (a.put d v) w->Q (.panic c) a w)
    (h:Ch prog l.toArray Q n w0 LA (P3 prog l.toArray Q n w0 LB k e2) e1 F L):OkC prog (.region id l.toArray true) Q n F w0 L:=Zi e1 k e2 (Wk.of hA) hAB hc hQ h
variable {r:List (Nat×Bool)} {i d s b off:Nat} {op:Op} {t ty T:TypeId} {p:String} {af:Array Edge} {u v:Value} {x y:Operand} {cs vs:List Value} {o:Oper} {K:List (Nat×Value)->List As->Prop}
theorem Ch.back (hro:LA.Sublist L') (h:Ch P ops Q n w0 LA K r F' L'):OkL P ops [] (PE Q n w0 LA λF' L'=>Ch P ops Q n w0 LA K r F' L') n F' w0 L':=OkL.nil λa w ha hw=>⟨F',L',ha,hw,Wk.of hro,h⟩
theorem Ch.backW (hro:Wk LA L') (h:Ch P ops Q n w0 LA K r F' L'):OkL P ops [] (PE Q n w0 LA λF' L'=>Ch P ops Q n w0 LA K r F' L') n F' w0 L':=OkL.nil λa w ha hw=>⟨F',L',ha,hw,hro,h⟩
theorem Ch.imp (ho:ops[i]?=some o) (h:OkL P ops [o] (PE Q n w0 LA λF' L'=>Ch P ops Q n w0 LA K r F' L') n F w0 L):Ch P ops Q n w0 LA K ((i,false)::r) F L:=⟨o,ho,h⟩
theorem Ch.cut (ho:ops[k]?=some o) (h:OkL P ops [o] (PE Q n w0 LB λF' L'=>OkE P ops Q n w0 LB e2 F' L') n F w0 L):Ch P ops Q n w0 LA (P3 P ops Q n w0 LB k e2) [] F L:=⟨o,ho,h⟩
theorem Ch.pas (ho:ops[i]?=some o) (hw:Wt ops n F o) (he:Ex P n F w0 LA o v) (hd:o.dst=some d) (hn:Nat.ble (d+1) n=true) (next:Ch P ops Q n w0 LA K r ((d,v)::F) L):Ch P ops Q n w0 LA K ((i,true)::r) F L:=⟨o,d,v,ho,hd,Nat.le_of_ble_eq_true hn,.inl ⟨hw,he⟩,next⟩
theorem vE (ho:ops[i]?=some ⟨some d,op,t,p,af,none⟩) (he:Ex P n F w0 LA ⟨some d,op,t,p,af,none⟩ v) (hn:Nat.ble (d+1) n=true) (next:Ch P ops Q n w0 LA K r ((d,v)::F) L):Ch P ops Q n w0 LA K ((i,true)::r) F L:=Ch.pas ho (AP rfl) he rfl hn next
theorem vM (ho:ops[i]?=some ⟨some d,.move x,t,p,af,none⟩) (hx:evF F x=some v) (hn:Nat.ble (d+1) n=true) (next:Ch P ops Q n w0 LA K r ((d,v)::F) L):Ch P ops Q n w0 LA K ((i,true)::r) F L:=vE ho (Ai hx) hn next
end
end
section
set_option maxRecDepth 100000
theorem WC (g N c:Nat) (us:List Nat) (hus:W32 us) (hlu:us.length=N) (hN:N<=4398046511104) (w:World) (hg:w.heap[g]?=some (.cells (Ag us).toArray 92 (0,0))):Calls prog 275 #[(Value.slice (some ⟨g,0,none⟩) N c)] w (λe w'=>e=.returned (.tuple #[])/\Kc w w' (some g)/\w'.heap[g]?=some (.cells (Ag (CP N (val us/2))).toArray 92 (0,0))):=by
 refine IQ (args:=[(Value.slice (some ⟨g,0,none⟩) N c)]) (g:=g) (T:=92) (cs:=Ag us) func275 O O (AI O) hg (OkC.subF (sL [0] O) (q4 (AM O (AH (v:=(vN N)) (AD O underlying255) O (AM O (OkL.nil (OkQ.subF (sL [0,4,5] O) (OkQ.then_ (OkC.block ?_)))))))))
 refine OkC.lp2 (tg λ(i:Nat) (os:List Nat)=>i<=N/\os.length=N/\W32 os/\os.drop i=us.drop i/\2*val (os.take i)+us.getD 0 0%2=val (us.take i)+us.getD i 0%2*4294967296^i) (tg λ(i:Nat) (os:List Nat)=>[(0,(Value.slice (some ⟨g,0,none⟩) N c)),(4,(vN N)),(5,(vN i))]) (tg λ(i:Nat) (os:List Nat)=>[AU g 92 (Ag os)]) (tg λ(i:Nat) (os:List Nat)=>N-i) 0 us (⟨Nat.zero_le _,hlu,hus,rfl,by simp [val]⟩) (sF O) sr (λi os hJ=>?_)
 obtain ⟨hi,hl,hw32,hd,hv⟩:=hJ
 refine q4 (AH (Ae (c:=(decide (i<N))) O O (CB (a:=i) (b:=N))) O (OkL.nil (q1 ?_)))
 refine OkC.cond O (λhc0=>?_) (λhc0=>?_)
 ·replace hc0:=of_decide_eq_true hc0
  refine OkC.skip (q1 (OkC.block (q4 (AM O (asg' O (q3 (sL [0,4,5,2] O) (AM O (AM O (AH (v:=(pP g i)) (AK (j:=i) O O underlying255 sizeOf92 O Z (by simp)) O ?_)))))))))
  have hx1:os.getD i 0<4294967296:=W32.getD hw32 i
  refine AH (AF (i:=0) (v:=(vK .u32 (os.getD i 0))) O O isAgg92 (A8 (xs:=os) (j:=i) Z)) O ?_
  have hui:=hus.getD i
  have huj:=hus.getD (i+1)
  refine OkL.retell (k:=11) (u:=(vK .u32 (us.getD i 0))) O (by rw [LP hd (Nat.le_refl _)]) (AH (Cg (s:=1) (c:=(((us.getD i 0)/2:Nat):Int)) O O O (by decide) (Fy (a:=us.getD i 0) (s:=1))) O (AH (v:=(pP g i)) (AK (j:=i) O O underlying255 sizeOf92 O Z (by simp)) O (OkL.store' (i:=0) (off:=i) (vs:=[(vK .u32 ((us.getD i 0)/2))]) (cs':=Ag (os.set i ((us.getD i 0)/2))) (L':=[AU g 92 (Ag (os.set i ((us.getD i 0)/2)))]) (AP O) O O O O O sizeOf92 O (CR (BJ _) Z) (B2 Z) O (q3 (sL [0,4,5,2] O) (AM O (AH (AX (c:=((i+1:Nat):Int)) O O (AR (a:=i) (b:=1) Z)) O (AM O (AH (v:=(vN N)) (AD O underlying255) O (AH (Ae (c:=(decide ((i+1)<N))) O O (CB (a:=i+1) (b:=N))) O (OkL.nil (OkQ.subF (sL [0,4,5,2,18] O) ?_)))))))))))
  refine OkQ.then_ ?_
  refine OkC.jn0 (tg True) (tg [(0,(Value.slice (some ⟨g,0,none⟩) N c)),(4,(vN N)),(5,(vN i))]) (tg [AU g 92 (Ag (os.set i (us.getD i 0/2+us.getD (i+1) 0%2*2147483648)))]) ?_ ?_
  ·skip
   refine OkC.cond O (λhc1=>?_) (λhc1=>?_)
   ·replace hc1:=of_decide_eq_true hc1
    refine rC [(0,true),(1,true),(2,true),(3,true),(4,true),(5,true),(6,true),(7,true),(8,true),(9,true),(10,true),(11,true)] 12 [] sr (sl sr) (by kernel_rfl) (λ_ _ d _ _ h=>by cases d<;>exact h) ?_
    have e1:(os.set i (us.getD i 0/2)).getD i 0=us.getD i 0/2:=Ko Z
    have e2:(os.set i (us.getD i 0/2)).getD (i+1) 0=us.getD (i+1) 0:=by rw [Ij Z,LP hd Z]
    have hll:(os.set i (us.getD i 0/2)).length=N:=by rw [List.length_set];exact hl
    refine vM O O O (vM O O O (vE (v:=(pP g i)) O (AK (j:=i) O O underlying255 sizeOf92 O Z (by simp)) O ?_))
    have hx2:(os.set i ((us.getD i 0)/2)).getD i 0<4294967296:=W32.getD (W32.set hw32 Z i) i
    refine vE O (AF (i:=0) (v:=(vK .u32 ((os.set i ((us.getD i 0)/2)).getD i 0))) O O isAgg92 (A8 (xs:=os.set i ((us.getD i 0)/2)) (j:=i) Z)) O (vM O O O (vM O O O (vE O (AX (c:=((i+1:Nat):Int)) O O (AR (a:=i) (b:=1) Z)) O (vE (v:=(pP g (i+1))) O (AK (j:=i+1) O O underlying255 sizeOf92 O Z (by simp)) O ?_))))
    have hx3:(os.set i ((us.getD i 0)/2)).getD (i+1) 0<4294967296:=W32.getD (W32.set hw32 Z i) (i+1)
    exact vE O (AF (i:=0) (v:=(vK .u32 ((os.set i ((us.getD i 0)/2)).getD (i+1) 0))) O O isAgg92 (A8 (xs:=os.set i ((us.getD i 0)/2)) (j:=(i+1)) Z)) O (vE (v:=(vK .u32 ((os.set i (us.getD i 0/2)).getD (i+1) 0*2^31%4294967296))) O (GV (s:=31) O O O (by decide) LJ) O (vE O (IZ (c:=((us.getD i 0/2+us.getD (i+1) 0%2*2147483648:Nat):Int)) O O (JD (by rw [e1];omega) (Nat.mod_lt _ Z) (by rw [e1,e2];exact WT Z))) O (vE (v:=(pP g i)) O (AK (j:=i) O O underlying255 sizeOf92 O Z (by simp)) O (Ch.cut O (OkL.store' (i:=0) (off:=i) (vs:=[(vK .u32 (us.getD i 0/2+us.getD (i+1) 0%2*2147483648))]) (cs':=Ag ((os.set i ((us.getD i 0)/2)).set i (us.getD i 0/2+us.getD (i+1) 0%2*2147483648))) (L':=[AU g 92 (Ag ((os.set i ((us.getD i 0)/2)).set i (us.getD i 0/2+us.getD (i+1) 0%2*2147483648)))]) (AP O) O O O O O sizeOf92 O (CR (BJ _) Z) (B2 Z) O (OkE.back (sl sr) (OkE.nil (OkQ.subF (sL [0,4,5,2] O) (OkQ.reblock (L':=[AU g 92 (Ag (os.set i (us.getD i 0/2+us.getD (i+1) 0%2*2147483648)))]) (by rw [List.set_set]) (OkQ.join0  (trivial) (sF O) sr))))))))))
   ·replace hc1:=of_decide_eq_false hc1
    refine OkC.skip ?_
    refine OkQ.reblock (L':=[AU g 92 (Ag (os.set i (us.getD i 0/2+us.getD (i+1) 0%2*2147483648)))]) (by rw [show us.getD (i+1) 0=0 by simp [List.getD_eq_getElem?_getD,show N<=i+1 by omega,hlu],Nat.zero_mod,Nat.zero_mul,Nat.add_zero]) ?_
    exact OkQ.join0  (trivial) (sF O) sr
  ·intro hJ
   refine OkQ.in_normal (OkQ.then_ (OkC.region (AH (AX (c:=((i+1:Nat):Int)) O O (AR (a:=i) (b:=1) Z)) O (AM O (OkL.nil (OkQ.subF (sL [0,4,5] O) ?_))))))
   have hst:=RZ hlu hl hc0 hus hd hv (x:=us.getD i 0/2+us.getD (i+1) 0%2*2147483648) rfl
   exact OkQ.round2 (i+1) (os.set i (us.getD i 0/2+us.getD (i+1) 0%2*2147483648)) (⟨Z,by rw [List.length_set];exact hl,W32.set hw32 Z _,hst.1,hst.2⟩) Z (sF O) sr
 ·replace hc0:=of_decide_eq_false hc0
  have hiN:i=N:=by omega
  have hfin:=Qr hlu hl (by rw [<-hiN];exact hv) hus
  exact OkC.exit (OkQ.then_exit (OkQ.round2_exit (OkQ.in_exit (SK (.inr O) O  (λw hw=>⟨rfl,hw.1,by rw [<-HH hw32 hl hfin];exact hw.get (i:=0) O⟩)))))
theorem Wn (g q k n N c1 c3 D:Nat) (us vb:List Nat) (hus:W32 us) (hlu:us.length=N) (hvb:W32 vb) (hn:n<=vb.length) (hk:k+n+1<=N) (hN:N<=4398046511104) (hD:D<4294967296) (hu:val us<4294967296^(k+n+1)) (hne:q≠g) (w:World) (hg:w.heap[g]?=some (.cells (Ag us).toArray 92 (0,0))) (hq:w.heap[q]?=some (.cells (Ag vb).toArray 92 (0,0))):Calls prog 274 #[(Value.slice (some ⟨g,k,none⟩) (n+1) c1),(Value.slice (some ⟨q,0,none⟩) n c3),(vK .u64 D)] w (λe w'=>e=.returned (.bool (decide (val us<D*val (vb.take n)*4294967296^k)))/\Kc w w' (some g)/\w'.heap[g]?=some (.cells (Ag (CP N (val us+(if val us<D*val (vb.take n)*4294967296^k then 4294967296^(k+n+1) else 0)-D*val (vb.take n)*4294967296^k))).toArray 92 (0,0))):=by
 refine IQ (args:=[(Value.slice (some ⟨g,k,none⟩) (n+1) c1),(Value.slice (some ⟨q,0,none⟩) n c3),(vK .u64 D)]) (g:=g) (T:=92) (cs:=Ag us) func274 O O (AI O) hg (OkC.subF (sL [0,1,2] O) (q4 (asg' O (OkL.nil (q2 (asg' O (asg' O (OkL.nil (q1 (q4 (AM O ?_)))))))))))
 refine AH (v:=(vN n)) (AD O underlying255) O (AM O (OkL.nil (OkQ.then_ (OkC.block ?_))))
 refine OkC.lp4 (tg λ(i:Nat) (os:List Nat) (c:Nat) (l:Nat)=>i<=n/\os.length=N/\W32 os/\c<4294967296/\l<=1/\(∀j,k+n+1<=j->os.getD j 0=0)/\val os+D*val (vb.take i)*4294967296^k=val us+(c+l)*4294967296^(k+i)) (tg λ(i:Nat) (os:List Nat) (c:Nat) (l:Nat)=>[(0,(Value.slice (some ⟨g,k,none⟩) (n+1) c1)),(1,(Value.slice (some ⟨q,0,none⟩) n c3)),(2,(vK .u64 D)),(6,(Value.bool false)),(12,(Value.slice (some ⟨q,0,none⟩) n c3)),(13,(vN n)),(14,(vN i)),(7,(vK .u64 c)),(8,(vK .u32 l))]) (tg λ(i:Nat) (os:List Nat) (c:Nat) (l:Nat)=>[AU g 92 (Ag os)]) (tg λ(i:Nat) (os:List Nat) (c:Nat) (l:Nat)=>n-i) 0 us 0 0 (⟨Nat.zero_le _,hlu,hus,Z,Z,Ia hu,by simp [val]⟩) (sF O) sr (λi os c l hJ=>?_)
 obtain ⟨hi,hl,hw32,hcb,hll,hz,hv⟩:=hJ
 refine q4 (AH (Ae (c:=(decide (i<n))) O O (CB (a:=i) (b:=n))) O (OkL.nil (q1 ?_)))
 refine OkC.cond O (λhc0=>?_) (λhc0=>?_)
 ·replace hc0:=of_decide_eq_true hc0
  refine OkC.skip (q1 (OkC.block (q4 (AM O (AH (v:=(pP q i)) (AK (j:=i) O O underlying255 sizeOf92 O Z (by simp)) O ?_)))))
  have hx1:vb.getD i 0<4294967296:=W32.getD hvb i
  refine AH (BR (v:=(vK .u32 (vb.getD i 0))) O (λw' hw=>CA.at0 (hw.oldCA (by simpa using hne) (EM hq)) (A8 (xs:=vb) (j:=i) Z)) isAgg92) O ?_
  have hvi:=hvb.getD i
  have hml:=KQ hD hvi
  refine asg' O (asg' O (q3 (sL [0,1,2,6,12,13,14,7,8,9,10] O) (AM O (AM O (AM O (AH (Aw (c:=((vb.getD i 0:Nat):Int)) O underlying92 underlying69 (BK Z)) O (AH (CN (c:=((D*(vb.getD i 0):Nat):Int)) O O (Et (a:=D) (b:=vb.getD i 0) Z)) O (AH (AX (c:=((c+(D*(vb.getD i 0)):Nat):Int)) O O (DF (a:=c) (b:=D*(vb.getD i 0)) Z)) O (asg' O (q3 (sL [0,1,2,6,12,13,14,7,8,9] O) (AM O ?_)))))))))))
  refine AM O (AM O (AM O (AH (v:=(pP g (k+i))) (AK (j:=i) O O underlying255 sizeOf92 O Z (by simp)) O ?_)))
  have hx2:os.getD (k+i) 0<4294967296:=W32.getD hw32 (k+i)
  refine AH (AF (i:=0) (v:=(vK .u32 (os.getD (k+i) 0))) O O isAgg92 (A8 (xs:=os) (j:=k+i) Z)) O (AM O (AH (Aw (c:=(((c+(D*(vb.getD i 0)))%4294967296:Nat):Int)) O underlying69 underlying92 D_) O (AM O (ck' call244 (Jm (os.getD (k+i) 0) ((c+(D*(vb.getD i 0)))%4294967296) l _ Z Z Z O) O (AM O (AH (AV (v:=(vK .u32 (((os.getD (k+i) 0)+(4294967296-((c+(D*(vb.getD i 0)))%4294967296))+(4294967296-l))%4294967296))) O O) O (AH (AV (v:=(vK .u32 (Im (os.getD (k+i) 0) (((c+(D*(vb.getD i 0)))%4294967296)+l)))) O O) O (AH (v:=(pP g (k+i))) (AK (j:=i) O O underlying255 sizeOf92 O Z (by simp)) O (OkL.store' (i:=0) (off:=k+i) (vs:=[(vK .u32 (((os.getD (k+i) 0)+(4294967296-((c+(D*(vb.getD i 0)))%4294967296))+(4294967296-l))%4294967296))]) (cs':=Ag (os.set (k+i) (((os.getD (k+i) 0)+(4294967296-((c+(D*(vb.getD i 0)))%4294967296))+(4294967296-l))%4294967296))) (L':=[AU g 92 (Ag (os.set (k+i) (((os.getD (k+i) 0)+(4294967296-((c+(D*(vb.getD i 0)))%4294967296))+(4294967296-l))%4294967296)))]) (AP O) O O O O O sizeOf92 O (CR (BJ _) Z) (B2 Z) O (asg' O (OkL.nil ?_)))))))))))
  refine OkQ.subF (sL [0,1,2,6,12,13,14,7,8] O) (OkQ.then_ (OkC.region (AM O (AH (Cg (s:=32) (c:=(((c+(D*(vb.getD i 0)))/4294967296:Nat):Int)) O O O (by decide) (Fy (a:=c+(D*(vb.getD i 0))) (s:=32))) O (asg' O (OkL.nil (OkQ.subF (sL [0,1,2,6,12,13,14,7,8] O) (OkQ.in_normal (OkQ.then_ (OkC.region (AH (AX (c:=((i+1:Nat):Int)) O O (AR (a:=i) (b:=1) Z)) O ?_)))))))))))
  exact AM O (OkL.nil (OkQ.subF (sL [0,1,2,6,12,13,14,7,8] O) (OkQ.round4 (i+1) (os.set (k+i) ((os.getD (k+i) 0+(4294967296-(c+D*vb.getD i 0)%4294967296)+(4294967296-l))%4294967296)) ((c+D*vb.getD i 0)/4294967296) (Im (os.getD (k+i) 0) ((c+D*vb.getD i 0)%4294967296+l)) (⟨Z,by rw [List.length_set];exact hl,W32.set hw32 Z _,Z,Ox _ _,FS hz Z,Ra (n:=n) hl Z hw32 hll hv O O⟩) Z (sF O) sr)))
 ·replace hc0:=of_decide_eq_false hc0
  have hin:i=n:=by omega
  have hv1:=hv
  rw [hin] at hv1
  have hll2:=Qq hl Z hw32 hll hcb hv1
  have hfin:=Q_ (c:=0) (os:=os.set (k+n) ((os.getD (k+n) 0+(4294967296-c)+(4294967296-l))%4294967296)) (us:=us) (vs:=vb) (n:=n) (l:=Im (os.getD (k+n) 0) (c+l)) (D:=D) (by rw [List.length_set];exact hl) (W32.set hw32 Z _) hk hu hll2 (Ox _ _) (FS hz Z)
  refine OkC.exit (OkQ.then_exit (OkQ.round4_exit (OkQ.in_exit (q2 (AM O (AH (v:=(vN n)) (AD O underlying255) O (asg' O (q3 (sL [0,1,2,6,12,13,14,7,8,11] O) (AM O (AM O (AM O ?_)))))))))))
  refine AM O (AH (v:=(pP g (k+n))) (AK (j:=n) O O underlying255 sizeOf92 O Z (by simp)) O ?_)
  have hx3:os.getD (k+n) 0<4294967296:=W32.getD hw32 (k+n)
  refine AH (AF (i:=0) (v:=(vK .u32 (os.getD (k+n) 0))) O O isAgg92 (A8 (xs:=os) (j:=k+n) Z)) O (AM O (AH (Aw (c:=((c:Nat):Int)) O underlying69 underlying92 (CV Z)) O (AM O (ck' call244 (Jm (os.getD (k+n) 0) c l _ Z Z Z O) O (AM O (AH (AV (v:=(vK .u32 (((os.getD (k+n) 0)+(4294967296-c)+(4294967296-l))%4294967296))) O O) O (AH (AV (v:=(vK .u32 (Im (os.getD (k+n) 0) (c+l)))) O O) O (AH (v:=(pP g (k+n))) (AK (j:=n) O O underlying255 sizeOf92 O Z (by simp)) O (OkL.store' (i:=0) (off:=k+n) (vs:=[(vK .u32 (((os.getD (k+n) 0)+(4294967296-c)+(4294967296-l))%4294967296))]) (cs':=Ag (os.set (k+n) (((os.getD (k+n) 0)+(4294967296-c)+(4294967296-l))%4294967296))) (L':=[AU g 92 (Ag (os.set (k+n) (((os.getD (k+n) 0)+(4294967296-c)+(4294967296-l))%4294967296)))]) (AP O) O O O O O sizeOf92 O (CR (BJ _) Z) (B2 Z) O (asg' O (q3 (sL [0,1,2,6,12,13,14,7,8] O) ?_)))))))))))
  exact AM O (AH (Bs (c:=(decide (0<(Im (os.getD (k+n) 0) (c+l))))) O O (CB (a:=0) (b:=Im (os.getD (k+n) 0) (c+l)))) O (asg' O (OkL.nil (OkQ.subF (sL [0,1,2,6,12,13,14,7,8] O) (OkQ.then_ (OkC.ret (ret_one O (rd_tmp (v:=(Value.bool (decide (0<(Im (os.getD (k+n) 0) (c+l)))))) O) (λw hw=>⟨by rw [hfin.1],hw.1,by rw [<-hfin.2];exact hw.get (i:=0) O⟩))))))))
end
end Go.Proofs.YtpolhpjiahbidaaGreatDoor
