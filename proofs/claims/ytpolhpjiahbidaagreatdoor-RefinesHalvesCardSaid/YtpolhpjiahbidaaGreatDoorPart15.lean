import Derived.Test.YtpolhpjiahbidaaGreatDoorPart05
import Derived.Test.YtpolhpjiahbidaaGreatDoorPart14
namespace Go.Proofs.YtpolhpjiahbidaaGreatDoor
open Go Go.RowKit Go.Proofs.Tryz
set_option linter.unusedVariables false
set_option linter.unusedSimpArgs false
section
def Hi (P:Program) (ops:Array Oper) (Q:Exit->Act->World->Prop) (S:Array Bool->World->Prop):Nat->Array Bool->Act->World->Prop
  | 0,listed,a,w=>Region.ready .any ops listed=[]/\Q .normal a w
  | fuel+1,listed,a,w=>(Region.ready .any ops listed=[]->Q .normal a w) /\
    ∀i∈Region.ready .any ops listed,wpOp P ops Q i (λa' w'=>S (listed.setIfInBounds i true) w'/\Hi P ops Q S fuel (listed.setIfInBounds i true) a' w') a w
section
variable {P:Program} {ops:Array Oper} {Q:Exit->Act->World->Prop} {S:Array Bool->World->Prop}
theorem JQ:∀(fuel:Nat) (listed:Array Bool) (a:Act) (w:World),Hi P ops Q S fuel listed a w->wpAny P .any ops Q fuel listed a w
  | 0,_,_,_,h=>h
  | fuel+1,_,_,_,h=>⟨h.1,λi hi=>wpOp_mono (λa' w' h'=>JQ fuel _ a' w' h'.2) (h.2 i hi)⟩
theorem ID {T:World->Prop}:∀(fuel:Nat) (listed:Array Bool) (a:Act) (w:World),(∀l',(∀j,listed.getD j false=true->l'.getD j false=true)->∀w,T w->S l' w)->wpAnyH P .any ops Q T fuel listed a w->Hi P ops Q S fuel listed a w
  | 0,_,_,_,_,h=>h
  | fuel+1,listed,a,w,hT,h=>⟨h.1,λi hi=>wpOp_mono (λa' w' h'=>⟨hT _ (λj hj=>getD_set_true hj) w' h'.1,ID fuel _ a' w' (λl' hl w hw=>hT l' (λj hj=>hl j (getD_set_true hj)) w hw) h'.2⟩) (h.2 i hi)⟩
def HT (ops:Array Oper) (listed:Array Bool):Prop:=∀(j:Nat) (o:Oper),listed.getD j false=true->ops[j]?=some o->∀e∈o.after,Region.binds .any e=true->listed.getD e.on false=true
theorem HT.set {listed:Array Bool} (h:HT ops listed) {i:Nat} (hi:i∈Region.ready .any ops listed):HT ops (listed.setIfInBounds i true):=λj o hj ho e he hb=>by
  obtain ⟨h0,o',ho',hall⟩:=mem_ready.1 hi
  by_cases e1:i=j
  · subst e1
    rw [ho'] at ho;injection ho with ho;subst ho
    exact getD_set_true (hall e he hb)
  · rw [getD_set_ne false e1] at hj
    exact getD_set_true (h j o hj ho e he hb)
theorem HK {T:World->Prop} {i:Nat} {oi:Oper} {v:Value} (hi:ops[i]?=some oi) (hsel:∀(j:Nat) (o:Oper) cs b,ops[j]?=some o->o.op≠.select cs b) (hQ:∀c a w,Q (.panic c) (a.put oi.dst v) w->Q (.panic c) a w)
    (hT:∀listed w,HT ops listed->i∈Region.ready .any ops listed->S listed w->T w) (hS:∀listed w,S (listed.setIfInBounds i true) w↔S listed w) :
    ∀(fuel:Nat) (listed:Array Bool) (a:Act) (w:World),
      (∀j oj,ops[j]?=some oj->j≠i->listed.getD j true=false->(∀e∈oj.after,Region.binds .any e=true->e.on≠i)->oi.apart ops oj=true) ->
      i∈Region.ready .any ops listed->YieldsIf P ops T oi v a->S listed w->HT ops listed ->
      Hi P ops Q S fuel (listed.setIfInBounds i true) (a.put oi.dst v) w->Hi P ops Q S (fuel+1) listed a w:=by
  intro fuel
  induction fuel with
  | zero =>
    intro listed a w _ hr hy hw hcl H
    refine ⟨λh=>(by rw [h] at hr;cases hr),λj hj=>?_⟩
    by_cases hji:j=i
    · subst hji;exact hy.wpOp hi (hT listed w hcl hr hw) ⟨(hS _ _).2 hw,H⟩
    · have:=ready_mono hj hji
      rw [H.1] at this
      cases this
  | succ fuel ih =>
    intro listed a w hfree hr hy hw hcl H
    refine ⟨λh=>(by rw [h] at hr;cases hr),λj hj=>?_⟩
    by_cases hji:j=i
    · subst hji;exact hy.wpOp hi (hT listed w hcl hr hw) ⟨(hS _ _).2 hw,H⟩
    · have h1:=H.2 j (ready_mono hj hji)
      obtain ⟨hjun,oj,hoj,hall⟩:=mem_ready.1 hj
      have hnot:∀e∈oj.after,Region.binds .any e=true->e.on≠i:=λe he hb heq=>by
        have h1:=hall e he hb
        have h0:=(mem_ready.1 hr).1
        rw [heq] at h1
        rcases Nat.lt_or_ge i listed.size with h'|h'
        · simp [h'] at h0 h1;rw [h0] at h1;cases h1
        · simp [Array.getElem?_eq_none h'] at h1
      have h2:=wpOp_putIf hoj (hfree j oj hoj hji hjun hnot) (λcs b=>hsel i oi cs b hi) (λcs b=>hsel j oj cs b hoj) hQ hy h1
      have hfree':∀k ok,ops[k]?=some ok->k≠i->(listed.setIfInBounds j true).getD k true=false ->
          (∀e∈ok.after,Region.binds .any e=true->e.on≠i)->oi.apart ops ok=true:=λk ok hk hki hun hno=>by
        refine hfree k ok hk hki ?_ hno
        by_cases hjk:j=k
        · subst hjk;exact hjun
        · rw [getD_set_ne true hjk] at hun;exact hun
      refine wpOp_mono (λa' w' h3=>?_) h2
      obtain ⟨h4,h5,h6⟩:=h3
      rw [Array.setIfInBounds_comm _ _ (Ne.symm hji)] at h5 h6
      have h7:=(hS _ _).1 h5
      exact ⟨h7,ih (listed.setIfInBounds j true) a' w' hfree' (ready_mono hr (Ne.symm hji)) h4 h7 (hcl.set hj) h6⟩
end
def Cd (P:Program) (ops:Array Oper) (Q:Exit->Act->World->Prop) (n:Nat) (w0:A_) (Lro:List As) (K:List (Nat×Value)->List As->Prop):List (Nat×Bool)->List (Nat×Value)->List As->Prop
  | [],F,L=>K F L
  | (i,true)::r,F,L=>∃o d v,ops[i]?=some o/\o.dst=some d/\d<n/\YM P ops n w0 Lro F o v/\Cd P ops Q n w0 Lro K r ((d,v)::F) L
  | (i,false)::r,F,L=>∃o,ops[i]?=some o/\OkL P ops [o] (PE Q n w0 Lro λF' L'=>Cd P ops Q n w0 Lro K r F' L') n F w0 L
def PJ (P:Program) (ops:Array Oper) (Q:Exit->Act->World->Prop) (n:Nat) (w0:A_) (LB:List As) (k:Nat) (e2:List (Nat×Bool)) (F:List (Nat×Value)) (L:List As):Prop :=
  ∃o,ops[k]?=some o/\OkL P ops [o] (PE Q n w0 LB λF' L'=>OkE P ops Q n w0 LB e2 F' L') n F w0 L
def Ki (l:List Oper) (i:Nat):Bool:=match l[i]? with
  | some o=>(match o.op with
    | .extract _ _=>true
    | _=>false)
  | none=>false
theorem Vh {P:Program} {l:List Oper} {i:Nat} {o:Oper} {a:Act} {v:Value} {w:World} (w':World) (hi:l[i]?=some o) (hx:Ki l i=true) (h:(execOp a.eval o).run P w=.ok (.value v) w):(execOp a.eval o).run P w'=.ok (.value v) w':=by
  unfold Ki at hx
  rw [hi] at hx
  obtain ⟨d,op,t,p,af,g⟩:=o
  cases op<;>first|(simp at hx;done)|skip
  rename_i x j
  simp only [execOp] at h ⊢
  unfold Instr.extract at h ⊢
  revert h
  cases a.eval x<;>simp
  rename_i vs
  cases vs[j]?<;>simp
def OO (l:List Oper) (e1:List (Nat×Bool)) (k:Nat) (e2:List (Nat×Bool)):Bool :=
  Dx l [] none (e1++(k,false)::e2)&&Oa l [] (e1++(k,false)::e2)&&Nat.beq (e1.length+e2.length+1) l.length&&Region.noSelect l.toArray&&(match l[k]? with|some o=>e1.all λe=>!e.2||EA o e.1||Ki l e.1|none=>false)
section
variable {P:Program} {ops:Array Oper} {Q:Exit->Act->World->Prop} {n:Nat} {w0:A_} {LA LB L L':List As} {F F':List (Nat×Value)} {l:List Oper} {e2:List (Nat×Bool)} {k:Nat}
theorem Si (hsel:Region.noSelect l.toArray=true) (hQ:∀c a d v w,Q (.panic c) (a.put d v) w->Q (.panic c) a w) (hAB:LB.Sublist LA) {ok:Oper} (hok:l[k]?=some ok) :
    ∀(es:List (Nat×Bool)) (D:List Nat) (p:Option Nat) (listed:Array Bool) (a:Act) (w:World) (F:List (Nat×Value)) (L:List As),
      (es.all λe=>!e.2||EA ok e.1||Ki l e.1)=true->k ∉ D->Dx l D p (es++(k,false)::e2)=true->ND l D listed->(∀i,i<l.length->i∈D\/(es++(k,false)::e2).any (λe=>e.1 == i)=true)->Wk LA L->Cf n a F->BB w0 w L->Cd P l.toArray Q n w0 LA (PJ P l.toArray Q n w0 LB k e2) es F L ->
      Hi P l.toArray Q (λlisted w=>BB w0 w (if listed.getD k false=true then LB else LA)) (es.length+e2.length+1) listed a w:=by
  have only:∀(i:Nat) (r:List (Nat×Bool)) (D:List Nat) (p:Option Nat) (listed:Array Bool),Dx l D p ((i,false)::r)=true->ND l D listed->(∀j,j<l.length->j∈D\/((i,false)::r).any (λe=>e.1 == j)=true)->∀j,j∈Region.ready .any l.toArray listed->j=i:=λi r D p listed hc hL hall j hj=>by
    obtain ⟨o,hg⟩:=Du hc
    obtain ⟨h0,oj,hoj,_⟩:=mem_ready.1 hj
    have hjl:j<l.length:=by simpa using (Array.getElem?_eq_some_iff.1 hoj).1
    rw [C2 (by rw [hL.size];exact hjl)] at h0
    rcases hall j hjl with h1|h1
    · rw [(hL.mem j).1 h1] at h0;cases h0
    · obtain ⟨e,he,rfl⟩:=Ii h1
      rcases List.mem_cons.1 he with rfl|he
      · rfl
      · exact absurd hj (EV hL.cl hg.tl (hL.no hg.nin) (λe he=>hL.no λhd=>(EI hg.tl e he).1 (List.mem_cons_of_mem _ hd)) e he)
  have nxt:∀(i:Nat) (b:Bool) (r:List (Nat×Bool)) (D:List Nat),(∀j,j<l.length->j∈D\/((i,b)::r).any (λe=>e.1 == j)=true)->∀j,j<l.length->j∈i::D\/r.any (λe=>e.1 == j)=true:=λi b r D hall j hj=>by
    rcases hall j hj with h1|h1
    · exact .inl (List.mem_cons_of_mem _ h1)
    · simp only [List.any_cons,Bool.or_eq_true,beq_iff_eq] at h1
      rcases h1 with h1|h1
      · exact .inl (h1▸List.mem_cons_self)
      · exact .inr h1
  intro es
  induction es with
  | nil =>
    intro D p listed a w F L hE hkD hc hL hall hro ha hw h
    obtain ⟨o',ho',h⟩:=h
    simp only [List.nil_append,List.length_nil,Nat.zero_add] at hc hall ⊢
    obtain ⟨o,hg⟩:=Du hc
    have hat:l.toArray[k]?=some o:=by simpa using hg.at_
    rw [hat] at ho';injection ho' with ho';subst ho'
    have hkl:k<l.length:=(List.getElem?_eq_some_iff.1 hg.at_).1
    have hp:∀e∈o.after,Region.binds .any e=true->listed.getD e.on false=true:=λe he hb=>(hL.mem _).1 (hg.pre e he hb)
    have hrd:k∈Region.ready .any l.toArray listed:=mem_ready.2 ⟨by rw [C2 (by rw [hL.size];exact hkl)];exact hL.no hg.nin,o,hat,hp⟩
    refine ⟨λh0=>absurd hrd (by rw [h0];exact List.not_mem_nil),λj hj=>?_⟩
    have hjk:=only k e2 D p listed hc hL hall j hj
    subst hjk
    have hlk:(listed.setIfInBounds j true).getD j false=true:=by rw [Jx _ _ _ _ (by rw [hL.size];exact hkl)];simp
    refine LT hat (h a w ha hw) λF' L' a' w' h1 h2 h3 h4=>⟨by show BB _ _ (ite _ _ _);rw [if_pos hlk];exact h3 _ _ h2,?_⟩
    exact ID (T:=λw=>BB w0 w LB) _ _ _ _ (λl' hl w hw=>by show BB _ _ (ite _ _ _);rw [if_pos (hl j hlk)];exact hw) (JP hsel hQ e2 (j::D) (some j) _ a' w' F' L' hg.tl (hL.add hg.at_ hp) (nxt j false e2 D hall) h3 h1 h2 h4)
  | cons e r ih =>
    intro D p listed a w F L hE hkD hc hL hall hro ha hw h
    obtain ⟨i,b⟩:=e
    rw [List.cons_append] at hc hall
    obtain ⟨o,hg⟩:=Du hc
    have hat:l.toArray[i]?=some o:=by simpa using hg.at_
    have hil:i<l.length:=(List.getElem?_eq_some_iff.1 hg.at_).1
    have hp:∀e∈o.after,Region.binds .any e=true->listed.getD e.on false=true:=λe he hb=>(hL.mem _).1 (hg.pre e he hb)
    have hrd:i∈Region.ready .any l.toArray listed:=mem_ready.2 ⟨by rw [C2 (by rw [hL.size];exact hil)];exact hL.no hg.nin,o,hat,hp⟩
    have hki:k≠i:=λe=>(EI hg.tl (k,false) (List.mem_append_right _ List.mem_cons_self)).1 (e▸List.mem_cons_self)
    have hkD':k ∉ i::D:=λh=>(List.mem_cons.1 h).elim hki hkD
    have hE':(r.all λe=>!e.2||EA ok e.1||Ki l e.1)=true:=by rw [List.all_cons,Bool.and_eq_true] at hE;exact hE.2
    have hnk:listed.getD k false=false:=hL.no hkD
    have hnk':(listed.setIfInBounds i true).getD k false=false:=(hL.add hg.at_ hp).no hkD'
    rw [show ((i,b)::r).length+e2.length+1=r.length+e2.length+1+1 by simp only [List.length_cons];omega]
    cases b with
    | true =>
      obtain ⟨o',d,v,ho',hd,hdn,hy,hn⟩:=h
      rw [hat] at ho';injection ho' with ho';subst ho'
      have hyield:YieldsIf P l.toArray (λw=>BB w0 w LA) o v a:=by
        rcases hy with ⟨h1,h2⟩|⟨h1,h2⟩
        · exact .inl ⟨h1 a ha,λw hW=>h2 a w ha hW⟩
        · exact .inr ⟨h1 a ha,h2⟩
      have hedge:EA ok i=true\/Ki l i=true:=by
        rw [List.all_cons,Bool.and_eq_true] at hE
        simpa using hE.1
      rcases hedge with hedge|hext
      · refine HK hat (Region.noSelect_spec hsel) (λc a w=>YR hQ c a o.dst v w) (T:=λw=>BB w0 w LA) (λl' w hcl hr hS=>?_) (λl' w=>?_) _ listed a w (HA hL hg.at_ (hg.fr rfl) hp) hrd hyield ?_ (λj oj hj ho e he hb=>hL.cl j oj hj (by simpa using ho) e he hb) ?_
        · have hkf:¬l'.getD k false=true:=λhk=>by
            obtain ⟨e,he,hb,rfl⟩:=DV hedge
            have h1:=hcl k ok hk (by simpa using hok) e he hb
            obtain ⟨h0,_⟩:=mem_ready.1 hr
            rcases Nat.lt_or_ge e.on l'.size with h5|h5
            · rw [C2 h5] at h0;rw [h0] at h1;cases h1
            · simp [Array.getElem?_eq_none h5] at h1
          have hS:BB w0 w (if l'.getD k false=true then LB else LA):=hS
          rw [if_neg hkf] at hS;exact hS
        · show BB _ _ (ite _ _ _)↔BB _ _ (ite _ _ _);rw [getD_set_ne false (Ne.symm hki)]
        · show BB _ _ (ite _ _ _);rw [if_neg (by rw [hnk];exact Bool.false_ne_true)];exact hro _ _ hw
        · exact ih (i::D) p _ _ w ((d,v)::F) L hE' hkD' hg.tl (hL.add hg.at_ hp) (nxt i true _ D hall) hro (by rw [hd];exact ha.put hdn) hw hn
      · have hyield':YieldsIf P l.toArray (λ_=>True) o v a:=by
          rcases hy with ⟨h1,h2⟩|⟨h1,h2⟩
          · exact .inl ⟨h1 a ha,λw' _=>Vh w' hg.at_ hext (h2 a w ha (hro _ _ hw))⟩
          · exact .inr ⟨h1 a ha,h2⟩
        refine HK hat (Region.noSelect_spec hsel) (λc a w=>YR hQ c a o.dst v w) (T:=λ_=>True) (λ_ _ _ _ _=>trivial) (λl' w=>?_) _ listed a w (HA hL hg.at_ (hg.fr rfl) hp) hrd hyield' ?_ (λj oj hj ho e he hb=>hL.cl j oj hj (by simpa using ho) e he hb) ?_
        · show BB _ _ (ite _ _ _)↔BB _ _ (ite _ _ _);rw [getD_set_ne false (Ne.symm hki)]
        · show BB _ _ (ite _ _ _);rw [if_neg (by rw [hnk];exact Bool.false_ne_true)];exact hro _ _ hw
        · exact ih (i::D) p _ _ w ((d,v)::F) L hE' hkD' hg.tl (hL.add hg.at_ hp) (nxt i true _ D hall) hro (by rw [hd];exact ha.put hdn) hw hn
    | false =>
      obtain ⟨o',ho',h⟩:=h
      rw [hat] at ho';injection ho' with ho';subst ho'
      refine ⟨λh0=>absurd hrd (by rw [h0];exact List.not_mem_nil),λj hj=>?_⟩
      have hji:=only i (r++(k,false)::e2) D p listed hc hL hall j hj
      subst hji
      refine LT hat (h a w ha hw) λF' L' a' w' h1 h2 h3 h4=>⟨by show BB _ _ (ite _ _ _);rw [if_neg (by rw [hnk'];exact Bool.false_ne_true)];exact h3 _ _ h2,?_⟩
      exact ih (j::D) (some j) _ a' w' F' L' hE' hkD' hg.tl (hL.add hg.at_ hp) (nxt j false _ D hall) h3 h1 h2 h4
theorem YK {id:Nat} (e1:List (Nat×Bool)) (k:Nat) (e2:List (Nat×Bool)) (hA:Wk LA L) (hAB:LB.Sublist LA) (hc:OO l e1 k e2=true) (hQ:∀c a d v w,Q (.panic c) (a.put d v) w->Q (.panic c) a w)
    (h:Cd Tryz.prog l.toArray Q n w0 LA (PJ Tryz.prog l.toArray Q n w0 LB k e2) e1 F L):OkC Tryz.prog (.region id l.toArray true) Q n F w0 L:=λa w ha hw=>by
  simp only [OO,Bool.and_eq_true] at hc
  obtain ⟨⟨⟨⟨h1,h2⟩,h3⟩,h4⟩,h5⟩:=hc
  have hlen:=Nat.eq_of_beq_eq_true h3
  cases hok:l[k]? with
  | none=>simp [hok] at h5
  | some ok =>
    simp only [hok] at h5
    refine wp_region_any Es (JQ (S:=λlisted w=>BB w0 w (if listed.getD k false=true then LB else LA)) _ _ _ _ ?_)
    rw [show l.toArray.size=e1.length+e2.length+1 by rw [hlen];simp]
    have hst:=Hr (l:=l)
    rw [<-hlen] at hst
    refine Si h4 hQ hAB hok e1 [] none _ a w.drew F L h5 (by simp) h1 hst (λi hi=>?_) hA ha hw.drew h
    have:=List.all_eq_true.1 h2 i (List.mem_range.2 hi)
    simpa using this
theorem rC {id:Nat} (e1:List (Nat×Bool)) (k:Nat) (e2:List (Nat×Bool)) (hA:LA.Sublist L) (hAB:LB.Sublist LA) (hc:OO l e1 k e2=true) (hQ:∀c a d v w,Q (.panic c) (a.put d v) w->Q (.panic c) a w)
    (h:Cd Tryz.prog l.toArray Q n w0 LA (PJ Tryz.prog l.toArray Q n w0 LB k e2) e1 F L):OkC Tryz.prog (.region id l.toArray true) Q n F w0 L:=YK e1 k e2 (Wk.of hA) hAB hc hQ h
variable {r:List (Nat×Bool)} {i d s b off:Nat} {op:Op} {t ty T:TypeId} {p:String} {af:Array Edge} {u v:Value} {x y:Operand} {cs vs:List Value} {o:Oper} {K:List (Nat×Value)->List As->Prop}
theorem Cd.back (hro:LA.Sublist L') (h:Cd P ops Q n w0 LA K r F' L'):OkL P ops [] (PE Q n w0 LA λF' L'=>Cd P ops Q n w0 LA K r F' L') n F' w0 L':=OkL.nil λa w ha hw=>⟨F',L',ha,hw,Wk.of hro,h⟩
theorem Cd.backW (hro:Wk LA L') (h:Cd P ops Q n w0 LA K r F' L'):OkL P ops [] (PE Q n w0 LA λF' L'=>Cd P ops Q n w0 LA K r F' L') n F' w0 L':=OkL.nil λa w ha hw=>⟨F',L',ha,hw,hro,h⟩
theorem Cd.imp (ho:ops[i]?=some o) (h:OkL P ops [o] (PE Q n w0 LA λF' L'=>Cd P ops Q n w0 LA K r F' L') n F w0 L):Cd P ops Q n w0 LA K ((i,false)::r) F L:=⟨o,ho,h⟩
theorem Cd.cut (ho:ops[k]?=some o) (h:OkL P ops [o] (PE Q n w0 LB λF' L'=>OkE P ops Q n w0 LB e2 F' L') n F w0 L):Cd P ops Q n w0 LA (PJ P ops Q n w0 LB k e2) [] F L:=⟨o,ho,h⟩
theorem Cd.pas (ho:ops[i]?=some o) (hw:Wt ops n F o) (he:Ex P n F w0 LA o v) (hd:o.dst=some d) (hn:Nat.ble (d+1) n=true) (next:Cd P ops Q n w0 LA K r ((d,v)::F) L):Cd P ops Q n w0 LA K ((i,true)::r) F L:=⟨o,d,v,ho,hd,Nat.le_of_ble_eq_true hn,.inl ⟨hw,he⟩,next⟩
theorem vE (ho:ops[i]?=some ⟨some d,op,t,p,af,none⟩) (he:Ex P n F w0 LA ⟨some d,op,t,p,af,none⟩ v) (hn:Nat.ble (d+1) n=true) (next:Cd P ops Q n w0 LA K r ((d,v)::F) L):Cd P ops Q n w0 LA K ((i,true)::r) F L:=Cd.pas ho (AP rfl) he rfl hn next
theorem vM (ho:ops[i]?=some ⟨some d,.move x,t,p,af,none⟩) (hx:evF F x=some v) (hn:Nat.ble (d+1) n=true) (next:Cd P ops Q n w0 LA K r ((d,v)::F) L):Cd P ops Q n w0 LA K ((i,true)::r) F L:=vE ho (Ac hx) hn next
end
end
section
set_option maxRecDepth 100000
theorem U4 (g N c:Nat) (us:List Nat) (hus:W32 us) (hlu:us.length=N) (hN:N<=4398046511104) (w:World) (hg:w.heap[g]?=some (.cells (Ae us).toArray 92 (0,0))):Calls Tryz.prog 275 #[(Value.slice (some ⟨g,0,none⟩) N c)] w (λe w'=>e=.returned (.tuple #[])/\KA w w' (some g)/\w'.heap[g]?=some (.cells (Ae (CK N (val us/2))).toArray 92 (0,0))):=by
 refine Hn (args:=[(Value.slice (some ⟨g,0,none⟩) N c)]) (g:=g) (T:=92) (cs:=Ae us) Tryz.func275 rfl rfl (AK rfl) hg (OkC.subF (sL [0] rfl) (q4 (AO rfl (AG (v:=(vN N)) (AD rfl Tryz.underlying255) rfl (AO rfl (OkL.nil (OkQ.subF (sL [0,4,5] rfl) (OkQ.then_ (OkC.block ?_)))))))))
 refine OkC.lp2 (tg λ(i:Nat) (os:List Nat)=>i<=N/\os.length=N/\W32 os/\os.drop i=us.drop i/\2*val (os.take i)+us.getD 0 0%2=val (us.take i)+us.getD i 0%2*4294967296^i) (tg λ(i:Nat) (os:List Nat)=>[(0,(Value.slice (some ⟨g,0,none⟩) N c)),(4,(vN N)),(5,(vN i))]) (tg λ(i:Nat) (os:List Nat)=>[AX g 92 (Ae os)]) (tg λ(i:Nat) (os:List Nat)=>N-i) 0 us (⟨Nat.zero_le _,hlu,hus,rfl,by simp [val]⟩) (sF rfl) sr (λi os hJ=>?_)
 obtain ⟨hi,hl,hw32,hd,hv⟩:=hJ
 refine q4 (AG (Af (c:=(decide (i<N))) rfl rfl (B9 (a:=i) (b:=N))) rfl (OkL.nil (q1 ?_)))
 refine OkC.cond rfl (λhc0=>?_) (λhc0=>?_)
 ·replace hc0:=of_decide_eq_true hc0
  refine OkC.skip (q1 (OkC.block (q4 (AO rfl (asg' rfl (q3 (sL [0,4,5,2] rfl) (AO rfl (AO rfl (AG (v:=(pP g i)) (AL (j:=i) rfl rfl Tryz.underlying255 Tryz.sizeOf92 rfl (by omega) (by simp)) rfl ?_)))))))))
  have hx1:os.getD i 0<4294967296:=W32.getD hw32 i
  refine AG (AE (i:=0) (v:=(vK .u32 (os.getD i 0))) rfl rfl Tryz.isAgg92 (A6 (xs:=os) (j:=i) (by omega))) rfl ?_
  have hui:=hus.getD i
  have huj:=hus.getD (i+1)
  refine OkL.retell (k:=11) (u:=(vK .u32 (us.getD i 0))) rfl (by rw [K4 hd (Nat.le_refl _)]) (AG (Cc (s:=1) (c:=(((us.getD i 0)/2:Nat):Int)) rfl rfl rfl (by decide) (Ff (a:=us.getD i 0) (s:=1))) rfl (AG (v:=(pP g i)) (AL (j:=i) rfl rfl Tryz.underlying255 Tryz.sizeOf92 rfl (by omega) (by simp)) rfl (OkL.store' (i:=0) (off:=i) (vs:=[(vK .u32 ((us.getD i 0)/2))]) (cs':=Ae (os.set i ((us.getD i 0)/2))) (L':=[AX g 92 (Ae (os.set i ((us.getD i 0)/2)))]) (AP rfl) rfl rfl rfl rfl rfl Tryz.sizeOf92 rfl (CM (BI _) (by omega)) (B0 (by omega)) rfl (q3 (sL [0,4,5,2] rfl) (AO rfl (AG (AY (c:=((i+1:Nat):Int)) rfl rfl (AT (a:=i) (b:=1) (by omega))) rfl (AO rfl (AG (v:=(vN N)) (AD rfl Tryz.underlying255) rfl (AG (Af (c:=(decide ((i+1)<N))) rfl rfl (B9 (a:=i+1) (b:=N))) rfl (OkL.nil (OkQ.subF (sL [0,4,5,2,18] rfl) ?_)))))))))))
  refine OkQ.then_ ?_
  refine OkC.jn0 (tg True) (tg [(0,(Value.slice (some ⟨g,0,none⟩) N c)),(4,(vN N)),(5,(vN i))]) (tg [AX g 92 (Ae (os.set i (us.getD i 0/2+us.getD (i+1) 0%2*2147483648)))]) ?_ ?_
  ·skip
   refine OkC.cond rfl (λhc1=>?_) (λhc1=>?_)
   ·replace hc1:=of_decide_eq_true hc1
    refine rC [(0,true),(1,true),(2,true),(3,true),(4,true),(5,true),(6,true),(7,true),(8,true),(9,true),(10,true),(11,true)] 12 [] sr (sl sr) (by kernel_rfl) (λ_ _ d _ _ h=>by cases d<;>exact h) ?_
    have e1:(os.set i (us.getD i 0/2)).getD i 0=us.getD i 0/2:=KR (by omega)
    have e2:(os.set i (us.getD i 0/2)).getD (i+1) 0=us.getD (i+1) 0:=by rw [IE (by omega),K4 hd (by omega)]
    have hll:(os.set i (us.getD i 0/2)).length=N:=by rw [List.length_set];exact hl
    refine vM rfl rfl rfl (vM rfl rfl rfl (vE (v:=(pP g i)) rfl (AL (j:=i) rfl rfl Tryz.underlying255 Tryz.sizeOf92 rfl (by omega) (by simp)) rfl ?_))
    have hx2:(os.set i ((us.getD i 0)/2)).getD i 0<4294967296:=W32.getD (W32.set hw32 (by omega) i) i
    refine vE rfl (AE (i:=0) (v:=(vK .u32 ((os.set i ((us.getD i 0)/2)).getD i 0))) rfl rfl Tryz.isAgg92 (A6 (xs:=os.set i ((us.getD i 0)/2)) (j:=i) (by omega))) rfl (vM rfl rfl rfl (vM rfl rfl rfl (vE rfl (AY (c:=((i+1:Nat):Int)) rfl rfl (AT (a:=i) (b:=1) (by omega))) rfl (vE (v:=(pP g (i+1))) rfl (AL (j:=i+1) rfl rfl Tryz.underlying255 Tryz.sizeOf92 rfl (by omega) (by simp)) rfl ?_))))
    have hx3:(os.set i ((us.getD i 0)/2)).getD (i+1) 0<4294967296:=W32.getD (W32.set hw32 (by omega) i) (i+1)
    exact vE rfl (AE (i:=0) (v:=(vK .u32 ((os.set i ((us.getD i 0)/2)).getD (i+1) 0))) rfl rfl Tryz.isAgg92 (A6 (xs:=os.set i ((us.getD i 0)/2)) (j:=(i+1)) (by omega))) rfl (vE (v:=(vK .u32 ((os.set i (us.getD i 0/2)).getD (i+1) 0*2^31%4294967296))) rfl (Fy (s:=31) rfl rfl rfl (by decide) Ke) rfl (vE rfl (IH (c:=((us.getD i 0/2+us.getD (i+1) 0%2*2147483648:Nat):Int)) rfl rfl (Iw (by rw [e1];omega) (Nat.mod_lt _ (by omega)) (by rw [e1,e2];exact UB (by omega)))) rfl (vE (v:=(pP g i)) rfl (AL (j:=i) rfl rfl Tryz.underlying255 Tryz.sizeOf92 rfl (by omega) (by simp)) rfl (Cd.cut rfl (OkL.store' (i:=0) (off:=i) (vs:=[(vK .u32 (us.getD i 0/2+us.getD (i+1) 0%2*2147483648))]) (cs':=Ae ((os.set i ((us.getD i 0)/2)).set i (us.getD i 0/2+us.getD (i+1) 0%2*2147483648))) (L':=[AX g 92 (Ae ((os.set i ((us.getD i 0)/2)).set i (us.getD i 0/2+us.getD (i+1) 0%2*2147483648)))]) (AP rfl) rfl rfl rfl rfl rfl Tryz.sizeOf92 rfl (CM (BI _) (by omega)) (B0 (by omega)) rfl (OkE.back (sl sr) (OkE.nil (OkQ.subF (sL [0,4,5,2] rfl) (OkQ.reblock (L':=[AX g 92 (Ae (os.set i (us.getD i 0/2+us.getD (i+1) 0%2*2147483648)))]) (by rw [List.set_set]) (OkQ.join0  (trivial) (sF rfl) sr))))))))))
   ·replace hc1:=of_decide_eq_false hc1
    refine OkC.skip ?_
    refine OkQ.reblock (L':=[AX g 92 (Ae (os.set i (us.getD i 0/2+us.getD (i+1) 0%2*2147483648)))]) (by rw [show us.getD (i+1) 0=0 by simp [List.getD_eq_getElem?_getD,show N<=i+1 by omega,hlu],Nat.zero_mod,Nat.zero_mul,Nat.add_zero]) ?_
    exact OkQ.join0  (trivial) (sF rfl) sr
  ·intro hJ
   refine OkQ.in_normal (OkQ.then_ (OkC.region (AG (AY (c:=((i+1:Nat):Int)) rfl rfl (AT (a:=i) (b:=1) (by omega))) rfl (AO rfl (OkL.nil (OkQ.subF (sL [0,4,5] rfl) ?_))))))
   have hst:=P4 hlu hl hc0 hus hd hv (x:=us.getD i 0/2+us.getD (i+1) 0%2*2147483648) rfl
   exact OkQ.round2 (i+1) (os.set i (us.getD i 0/2+us.getD (i+1) 0%2*2147483648)) (⟨by omega,by rw [List.length_set];exact hl,W32.set hw32 (by omega) _,hst.1,hst.2⟩) (by omega) (sF rfl) sr
 ·replace hc0:=of_decide_eq_false hc0
  have hiN:i=N:=by omega
  have hfin:=QO hlu hl (by rw [<-hiN];exact hv) hus
  exact OkC.exit (OkQ.then_exit (OkQ.round2_exit (OkQ.in_exit (S6 (.inr rfl) rfl  (λw hw=>⟨rfl,hw.1,by rw [<-Gp hw32 hl hfin];exact hw.get (i:=0) rfl⟩)))))
theorem U8 (g q k n N c1 c3 D:Nat) (us vb:List Nat) (hus:W32 us) (hlu:us.length=N) (hvb:W32 vb) (hn:n<=vb.length) (hk:k+n+1<=N) (hN:N<=4398046511104) (hD:D<4294967296) (hu:val us<4294967296^(k+n+1)) (hne:q≠g) (w:World) (hg:w.heap[g]?=some (.cells (Ae us).toArray 92 (0,0))) (hq:w.heap[q]?=some (.cells (Ae vb).toArray 92 (0,0))):Calls Tryz.prog 274 #[(Value.slice (some ⟨g,k,none⟩) (n+1) c1),(Value.slice (some ⟨q,0,none⟩) n c3),(vK .u64 D)] w (λe w'=>e=.returned (.bool (decide (val us<D*val (vb.take n)*4294967296^k)))/\KA w w' (some g)/\w'.heap[g]?=some (.cells (Ae (CK N (val us+(if val us<D*val (vb.take n)*4294967296^k then 4294967296^(k+n+1) else 0)-D*val (vb.take n)*4294967296^k))).toArray 92 (0,0))):=by
 refine Hn (args:=[(Value.slice (some ⟨g,k,none⟩) (n+1) c1),(Value.slice (some ⟨q,0,none⟩) n c3),(vK .u64 D)]) (g:=g) (T:=92) (cs:=Ae us) Tryz.func274 rfl rfl (AK rfl) hg (OkC.subF (sL [0,1,2] rfl) (q4 (asg' rfl (OkL.nil (q2 (asg' rfl (asg' rfl (OkL.nil (q1 (q4 (AO rfl ?_)))))))))))
 refine AG (v:=(vN n)) (AD rfl Tryz.underlying255) rfl (AO rfl (OkL.nil (OkQ.then_ (OkC.block ?_))))
 refine OkC.lp4 (tg λ(i:Nat) (os:List Nat) (c:Nat) (l:Nat)=>i<=n/\os.length=N/\W32 os/\c<4294967296/\l<=1/\(∀j,k+n+1<=j->os.getD j 0=0)/\val os+D*val (vb.take i)*4294967296^k=val us+(c+l)*4294967296^(k+i)) (tg λ(i:Nat) (os:List Nat) (c:Nat) (l:Nat)=>[(0,(Value.slice (some ⟨g,k,none⟩) (n+1) c1)),(1,(Value.slice (some ⟨q,0,none⟩) n c3)),(2,(vK .u64 D)),(6,(Value.bool false)),(12,(Value.slice (some ⟨q,0,none⟩) n c3)),(13,(vN n)),(14,(vN i)),(7,(vK .u64 c)),(8,(vK .u32 l))]) (tg λ(i:Nat) (os:List Nat) (c:Nat) (l:Nat)=>[AX g 92 (Ae os)]) (tg λ(i:Nat) (os:List Nat) (c:Nat) (l:Nat)=>n-i) 0 us 0 0 (⟨Nat.zero_le _,hlu,hus,by omega,by omega,IG hu,by simp [val]⟩) (sF rfl) sr (λi os c l hJ=>?_)
 obtain ⟨hi,hl,hw32,hcb,hll,hz,hv⟩:=hJ
 refine q4 (AG (Af (c:=(decide (i<n))) rfl rfl (B9 (a:=i) (b:=n))) rfl (OkL.nil (q1 ?_)))
 refine OkC.cond rfl (λhc0=>?_) (λhc0=>?_)
 ·replace hc0:=of_decide_eq_true hc0
  refine OkC.skip (q1 (OkC.block (q4 (AO rfl (AG (v:=(pP q i)) (AL (j:=i) rfl rfl Tryz.underlying255 Tryz.sizeOf92 rfl (by omega) (by simp)) rfl ?_)))))
  have hx1:vb.getD i 0<4294967296:=W32.getD hvb i
  refine AG (BP (v:=(vK .u32 (vb.getD i 0))) rfl (λw' hw=>CA.at0 (hw.oldCA (by simpa using hne) (D6 hq)) (A6 (xs:=vb) (j:=i) (by omega))) Tryz.isAgg92) rfl ?_
  have hvi:=hvb.getD i
  have hml:=JL hD hvi
  refine asg' rfl (asg' rfl (q3 (sL [0,1,2,6,12,13,14,7,8,9,10] rfl) (AO rfl (AO rfl (AO rfl (AG (Ar (c:=((vb.getD i 0:Nat):Int)) rfl Tryz.underlying92 Tryz.underlying69 (BG (by omega))) rfl (AG (Cr (c:=((D*(vb.getD i 0):Nat):Int)) rfl rfl (EY (a:=D) (b:=vb.getD i 0) (by omega))) rfl (AG (AY (c:=((c+(D*(vb.getD i 0)):Nat):Int)) rfl rfl (C9 (a:=c) (b:=D*(vb.getD i 0)) (by omega))) rfl (asg' rfl (q3 (sL [0,1,2,6,12,13,14,7,8,9] rfl) (AO rfl ?_)))))))))))
  refine AO rfl (AO rfl (AO rfl (AG (v:=(pP g (k+i))) (AL (j:=i) rfl rfl Tryz.underlying255 Tryz.sizeOf92 rfl (by omega) (by simp)) rfl ?_)))
  have hx2:os.getD (k+i) 0<4294967296:=W32.getD hw32 (k+i)
  refine AG (AE (i:=0) (v:=(vK .u32 (os.getD (k+i) 0))) rfl rfl Tryz.isAgg92 (A6 (xs:=os) (j:=k+i) (by omega))) rfl (AO rfl (AG (Ar (c:=(((c+(D*(vb.getD i 0)))%4294967296:Nat):Int)) rfl Tryz.underlying69 Tryz.underlying92 Dy) rfl (AO rfl (ck' Tryz.call244 (J2 (os.getD (k+i) 0) ((c+(D*(vb.getD i 0)))%4294967296) l _ (by omega) (by omega) (by omega) rfl) rfl (AO rfl (AG (AV (v:=(vK .u32 (((os.getD (k+i) 0)+(4294967296-((c+(D*(vb.getD i 0)))%4294967296))+(4294967296-l))%4294967296))) rfl rfl) rfl (AG (AV (v:=(vK .u32 (IN (os.getD (k+i) 0) (((c+(D*(vb.getD i 0)))%4294967296)+l)))) rfl rfl) rfl (AG (v:=(pP g (k+i))) (AL (j:=i) rfl rfl Tryz.underlying255 Tryz.sizeOf92 rfl (by omega) (by simp)) rfl (OkL.store' (i:=0) (off:=k+i) (vs:=[(vK .u32 (((os.getD (k+i) 0)+(4294967296-((c+(D*(vb.getD i 0)))%4294967296))+(4294967296-l))%4294967296))]) (cs':=Ae (os.set (k+i) (((os.getD (k+i) 0)+(4294967296-((c+(D*(vb.getD i 0)))%4294967296))+(4294967296-l))%4294967296))) (L':=[AX g 92 (Ae (os.set (k+i) (((os.getD (k+i) 0)+(4294967296-((c+(D*(vb.getD i 0)))%4294967296))+(4294967296-l))%4294967296)))]) (AP rfl) rfl rfl rfl rfl rfl Tryz.sizeOf92 rfl (CM (BI _) (by omega)) (B0 (by omega)) rfl (asg' rfl (OkL.nil ?_)))))))))))
  refine OkQ.subF (sL [0,1,2,6,12,13,14,7,8] rfl) (OkQ.then_ (OkC.region (AO rfl (AG (Cc (s:=32) (c:=(((c+(D*(vb.getD i 0)))/4294967296:Nat):Int)) rfl rfl rfl (by decide) (Ff (a:=c+(D*(vb.getD i 0))) (s:=32))) rfl (asg' rfl (OkL.nil (OkQ.subF (sL [0,1,2,6,12,13,14,7,8] rfl) (OkQ.in_normal (OkQ.then_ (OkC.region (AG (AY (c:=((i+1:Nat):Int)) rfl rfl (AT (a:=i) (b:=1) (by omega))) rfl ?_)))))))))))
  exact AO rfl (OkL.nil (OkQ.subF (sL [0,1,2,6,12,13,14,7,8] rfl) (OkQ.round4 (i+1) (os.set (k+i) ((os.getD (k+i) 0+(4294967296-(c+D*vb.getD i 0)%4294967296)+(4294967296-l))%4294967296)) ((c+D*vb.getD i 0)/4294967296) (IN (os.getD (k+i) 0) ((c+D*vb.getD i 0)%4294967296+l)) (⟨by omega,by rw [List.length_set];exact hl,W32.set hw32 (by omega) _,by omega,Na _ _,E_ hz (by omega),Qv (n:=n) hl (by omega) hw32 hll hv rfl rfl⟩) (by omega) (sF rfl) sr)))
 ·replace hc0:=of_decide_eq_false hc0
  have hin:i=n:=by omega
  have hv1:=hv
  rw [hin] at hv1
  have hll2:=Qy hl (by omega) hw32 hll hcb hv1
  have hfin:=QR (c:=0) (os:=os.set (k+n) ((os.getD (k+n) 0+(4294967296-c)+(4294967296-l))%4294967296)) (us:=us) (vs:=vb) (n:=n) (l:=IN (os.getD (k+n) 0) (c+l)) (D:=D) (by rw [List.length_set];exact hl) (W32.set hw32 (by omega) _) hk hu hll2 (Na _ _) (E_ hz (by omega))
  refine OkC.exit (OkQ.then_exit (OkQ.round4_exit (OkQ.in_exit (q2 (AO rfl (AG (v:=(vN n)) (AD rfl Tryz.underlying255) rfl (asg' rfl (q3 (sL [0,1,2,6,12,13,14,7,8,11] rfl) (AO rfl (AO rfl (AO rfl ?_)))))))))))
  refine AO rfl (AG (v:=(pP g (k+n))) (AL (j:=n) rfl rfl Tryz.underlying255 Tryz.sizeOf92 rfl (by omega) (by simp)) rfl ?_)
  have hx3:os.getD (k+n) 0<4294967296:=W32.getD hw32 (k+n)
  refine AG (AE (i:=0) (v:=(vK .u32 (os.getD (k+n) 0))) rfl rfl Tryz.isAgg92 (A6 (xs:=os) (j:=k+n) (by omega))) rfl (AO rfl (AG (Ar (c:=((c:Nat):Int)) rfl Tryz.underlying69 Tryz.underlying92 (CO (by omega))) rfl (AO rfl (ck' Tryz.call244 (J2 (os.getD (k+n) 0) c l _ (by omega) (by omega) (by omega) rfl) rfl (AO rfl (AG (AV (v:=(vK .u32 (((os.getD (k+n) 0)+(4294967296-c)+(4294967296-l))%4294967296))) rfl rfl) rfl (AG (AV (v:=(vK .u32 (IN (os.getD (k+n) 0) (c+l)))) rfl rfl) rfl (AG (v:=(pP g (k+n))) (AL (j:=n) rfl rfl Tryz.underlying255 Tryz.sizeOf92 rfl (by omega) (by simp)) rfl (OkL.store' (i:=0) (off:=k+n) (vs:=[(vK .u32 (((os.getD (k+n) 0)+(4294967296-c)+(4294967296-l))%4294967296))]) (cs':=Ae (os.set (k+n) (((os.getD (k+n) 0)+(4294967296-c)+(4294967296-l))%4294967296))) (L':=[AX g 92 (Ae (os.set (k+n) (((os.getD (k+n) 0)+(4294967296-c)+(4294967296-l))%4294967296)))]) (AP rfl) rfl rfl rfl rfl rfl Tryz.sizeOf92 rfl (CM (BI _) (by omega)) (B0 (by omega)) rfl (asg' rfl (q3 (sL [0,1,2,6,12,13,14,7,8] rfl) ?_)))))))))))
  exact AO rfl (AG (B6 (c:=(decide (0<(IN (os.getD (k+n) 0) (c+l))))) rfl rfl (B9 (a:=0) (b:=IN (os.getD (k+n) 0) (c+l)))) rfl (asg' rfl (OkL.nil (OkQ.subF (sL [0,1,2,6,12,13,14,7,8] rfl) (OkQ.then_ (OkC.ret (ret_one rfl (rd_tmp (v:=(Value.bool (decide (0<(IN (os.getD (k+n) 0) (c+l)))))) rfl) (λw hw=>⟨by rw [hfin.1],hw.1,by rw [<-hfin.2];exact hw.get (i:=0) rfl⟩))))))))
end
end Go.Proofs.YtpolhpjiahbidaaGreatDoor
