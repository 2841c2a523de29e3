import Derived.Test.YtpolhpjiahbidaaGreatDoorPart14
namespace Go.Proofs.YtpolhpjiahbidaaGreatDoor
open Go Go.RowKit Go.Proofs.Tryz
open Go.Value renaming slice→qw,bool→qa
set_option linter.unusedVariables false
set_option linter.unusedSimpArgs false
section
theorem YY {l:List Oper} {ok:Oper} {es:List (Nat×Bool)} (h:(es.all λe=>!e.2||B3 ok e.1)=true):(es.all λe=>!e.2||B3 ok e.1||Lr l e.1)=true :=
  List.all_eq_true.2 λe he=>by rw [List.all_eq_true.1 h e he];rfl
def Ll (P:Program) (ops:Array Oper) (Q:Exit->Act->World->Prop) (n:Nat) (w0:BC) (Lro:List As) (K:List (Nat×Value)->List As->Prop) (q:Nat):List (Nat×Bool)->List (Nat×Value)->List As->Prop
  | [],F,L=>∃o,ops[q]?=some o/\AL P ops [o] (PE Q n w0 Lro λF' L'=>B6 P ops Q n w0 Lro K [] F' L') n F w0 L
  | (i,true)::r,F,L=>∃o d v,ops[i]?=some o/\o.dst=some d/\d<n/\bX P ops n w0 Lro F o v/\Ll P ops Q n w0 Lro K q r ((d,v)::F) L
  | (i,false)::r,F,L=>(∃o,ops[q]?=some o/\AL P ops [o] (PE Q n w0 Lro λF' L'=>B6 P ops Q n w0 Lro K ((i,false)::r) F' L') n F w0 L) /\
      ∃o,ops[i]?=some o/\(B3 o q=true\/AL P ops [o] (PE Q n w0 Lro λF' L'=>Ll P ops Q n w0 Lro K q r F' L') n F w0 L)
def UR (l:List Oper) (q:Nat):List (Nat×Bool)->List Nat->Bool
  | [],D=>match l[q]? with|some o=>o.after.all λe=>!Region.binds .any e||D.contains e.on|none=>false
  | (i,true)::r,D=>(match l[i]? with|some o=>!B3 o q|none=>false)&&UR l q r (i::D)
  | (i,false)::r,D=>(r.all λe=>!e.2)&&(match l[q]? with|some o=>o.after.all λe=>!Region.binds .any e||D.contains e.on|none=>false)&&UR l q r (i::D)
section
variable {P:Program} {ops:Array Oper} {Q:Exit->Act->World->Prop} {n:Nat} {w0:BC} {LA LB L L':List As} {F F':List (Nat×Value)} {l:List Oper} {e2:List (Nat×Bool)} {k q:Nat}
theorem Zz {o:Oper} (h:B3 o q=false):∀e∈o.after,Region.binds .any e=true->e.on≠q:=λe he hb hq=>by
  have:B3 o q=true:=by
    unfold B3
    rw [List.any_eq_true]
    exact ⟨e,by simpa using he,by rw [xZ];exact ⟨hb,by simpa using hq⟩⟩
  rw [h] at this;cases this
theorem Gc {listed:Array Bool} (hcl:Ey l.toArray listed):∀(f k i:Nat),Bw l f k i=true->listed.getD k false=true->listed.getD i false=true
  | 0,_,_,h,_=>by cases h
  | f+1,k,i,h,hk=>by
    unfold Bw at h
    cases ho:l[k]? with
    | none=>rw [ho] at h;cases h
    | some o =>
      rw [ho] at h
      simp only [xY,List.any_eq_true,xZ] at h
      have st:∀m,B3 o m=true->listed.getD m false=true:=λm hm=>by
        obtain ⟨e,he,hb,rfl⟩:=Cc hm
        exact hcl k o hk (by simpa using ho) e he hb
      rcases h with h|⟨m,_,h1,h2⟩
      · exact st i h
      · exact Gc hcl f m i h2 (st m h1)
theorem NZ {listed:Array Bool} (hcl:Ey l.toArray listed) {f j i:Nat} (hb:Bw l (f+1) j i=true) (hj:j∈Region.ready .any l.toArray listed):listed.getD i false=true:=by
  obtain ⟨_,oj,hoj,hpre⟩:=mem_ready.1 hj
  have hoj':l[j]?=some oj:=by simpa using hoj
  unfold Bw at hb
  rw [hoj'] at hb
  simp only [xY,List.any_eq_true,xZ] at hb
  have st:∀m,B3 oj m=true->listed.getD m false=true:=λm hm=>by
    obtain ⟨e,he,hb,rfl⟩:=Cc hm
    exact hpre e he hb
  rcases hb with h|⟨m,_,h1,h2⟩
  · exact st i h
  · exact Gc hcl f m i h2 (st m h1)
theorem cA {D:List Nat} (h:(match l[q]? with|some o=>o.after.all λe=>!Region.binds .any e||D.contains e.on|none=>false)=true):∃o,l[q]?=some o/\∀e∈o.after,Region.binds .any e=true->e.on∈D:=by
  cases ho:l[q]? with
  | none=>rw [ho] at h;cases h
  | some o =>
    rw [ho] at h
    refine ⟨o,rfl,λe he hb=>?_⟩
    have h1:=Array.all_eq_true_iff_forall_mem.1 h e he
    rw [hb] at h1
    simpa using h1
theorem To (hsel:Region.noSelect l.toArray=true) (hQ:∀c a d v w,Q (.panic c) (a.put d v) w->Q (.panic c) a w) (hAB:LB.Sublist LA) {ok:Oper} (hok:l[k]?=some ok) (hkq:k≠q) (hkeq:Bw l 5 k q=true) :
    ∀(es:List (Nat×Bool)) (D DQ:List Nat) (p:Option Nat) (listed:Array Bool) (a:Act) (w:World) (F:List (Nat×Value)) (L:List As),
      (∀x,x∈DQ↔x=q\/x∈D)->q ∉ D->UR l q es D=true ->
      (es.all λe=>!e.2||Bw l 4 k e.1)=true->k ∉ DQ->EJ l DQ p (es++(k,false)::e2)=true->Lst l D listed->(∀i,i<l.length->i∈DQ\/(es++(k,false)::e2).any (λe=>e.1 == i)=true)->Wk LA L->Frm n a F->Own w0 w L->Ll P l.toArray Q n w0 LA (K0 P l.toArray Q n w0 LB k e2) q es F L ->
      wpAnyS P l.toArray Q (λlisted w=>Own w0 w (if listed.getD k false=true then LB else LA)) (es.length+e2.length+1+1) listed a w:=by
  have nxt:∀(i:Nat) (b:Bool) (r:List (Nat×Bool)) (D:List Nat),(∀j,j<l.length->j∈D\/((i,b)::r).any (λe=>e.1 == j)=true)->∀j,j<l.length->j∈i::D\/r.any (λe=>e.1 == j)=true:=λi b r D hall j hj=>by
    rcases hall j hj with h1|h1
    · exact .inl (List.mem_cons_of_mem _ h1)
    · simp only [List.any_cons,xY,beq_iff_eq] at h1
      rcases h1 with h1|h1
      · exact .inl (h1▸List.mem_cons_self)
      · exact .inr h1
  -- the floating one comes now
  have doQ:∀(es:List (Nat×Bool)) (D DQ:List Nat) (p:Option Nat) (listed:Array Bool) (a:Act) (w:World) (F:List (Nat×Value)) (L:List As) (oq:Oper),l[q]?=some oq->(∀e∈oq.after,Region.binds .any e=true->e.on∈D)->(∀x,x∈DQ↔x=q\/x∈D)->q ∉ D ->
      (es.all λe=>!e.2||B3 ok e.1)=true->k ∉ DQ->EJ l DQ p (es++(k,false)::e2)=true->Lst l D listed->(∀i,i<l.length->i∈DQ\/(es++(k,false)::e2).any (λe=>e.1 == i)=true)->Frm n a F->Own w0 w L ->
      AL P l.toArray [oq] (PE Q n w0 LA λF' L'=>B6 P l.toArray Q n w0 LA (K0 P l.toArray Q n w0 LB k e2) es F' L') n F w0 L ->
      q∈Region.ready .any l.toArray listed/\wpOp P l.toArray Q q (λa' w'=>Own w0 w' (if (listed.setIfInBounds q true).getD k false=true then LB else LA)/\wpAnyS P l.toArray Q (λlisted w=>Own w0 w (if listed.getD k false=true then LB else LA)) (es.length+e2.length+1) (listed.setIfInBounds q true) a' w') a w:=λes D DQ p listed a w F L oq hoq hpq hDQ hqD hE hkD hc hL hall ha hw h=>by
    have hat:l.toArray[q]?=some oq:=by simpa using hoq
    have hql:q<l.length:=(List.getElem?_eq_some_iff.1 hoq).1
    have hp:∀e∈oq.after,Region.binds .any e=true->listed.getD e.on false=true:=λe he hb=>(hL.mem _).1 (hpq e he hb)
    refine ⟨mem_ready.2 ⟨by rw [CP (by rw [hL.size];exact hql)];exact hL.no hqD,oq,hat,hp⟩,?_⟩
    have hL2:=(hL.add hoq hp).congr (D2:=DQ) (λx=>by rw [hDQ,xL])
    refine Ii hat (h a w ha hw) λF' L' a' w' h1 h2 h3 h4=>⟨by rw [if_neg (by rw [hL2.no hkD];exact Bool.false_ne_true)];exact h3 _ _ h2,?_⟩
    exact PQ hsel hQ hAB hok es DQ p _ a' w' F' L' (YY hE) hkD hc hL2 hall h3 h1 h2 h4
  intro es
  induction es with
  | nil =>
    intro D DQ p listed a w F L hDQ hqD hcq hE hkD hc hL hall hro ha hw h
    obtain ⟨o',ho',h⟩:=h
    obtain ⟨oq,hoq,hpq⟩:=cA hcq
    rw [show l.toArray[q]?=some oq by simpa using hoq] at ho';injection ho' with ho';subst ho'
    obtain ⟨hrd,hdo⟩:=doQ [] D DQ p listed a w F L oq hoq hpq hDQ hqD rfl hkD hc hL hall ha hw h
    refine ⟨λh0=>absurd hrd (by rw [h0];exact List.not_mem_nil),λj hj=>?_⟩
    have hjq:j=q:=by
      simp only [List.nil_append] at hc hall
      obtain ⟨o,hg⟩:=D0 hc
      obtain ⟨h0,oj,hoj,hpre⟩:=mem_ready.1 hj
      have hjl:j<l.length:=by simpa using (Array.getElem?_eq_some_iff.1 hoj).1
      rw [CP (by rw [hL.size];exact hjl)] at h0
      rcases hall j hjl with h1|h1
      · rcases (hDQ j).1 h1 with h1|h1
        · exact h1
        · rw [(hL.mem j).1 h1] at h0;cases h0
      · obtain ⟨e,he,rfl⟩:=Hp h1
        rcases xL.1 he with rfl|he
        · have:=NZ (λj oj hj ho e he hb=>hL.cl j oj hj (by simpa using ho) e he hb) hkeq hj
          rw [hL.no hqD] at this;cases this
        · exact absurd hj (Ec hL.cl hg.tl (hL.no λhd=>hg.nin ((hDQ _).2 (.inr hd))) (λe he=>hL.no λhd=>(Dr hg.tl e he).1 (List.mem_cons_of_mem _ ((hDQ _).2 (.inr hd)))) e he)
    subst hjq
    exact hdo
  | cons e r ih =>
    intro D DQ p listed a w F L hDQ hqD hcq hE hkD hc hL hall hro ha hw h
    obtain ⟨i,b⟩:=e
    have hc0:=hc
    have hall0:=hall
    rw [List.cons_append] at hc hall
    obtain ⟨o,hg⟩:=D0 hc
    have hat:l.toArray[i]?=some o:=by simpa using hg.at_
    have hil:i<l.length:=(List.getElem?_eq_some_iff.1 hg.at_).1
    have hiq:i≠q:=λe=>hg.nin ((hDQ i).2 (.inl e))
    have hiD:i ∉ D:=λh=>hg.nin ((hDQ i).2 (.inr h))
    have hki:k≠i:=λe=>(Dr hg.tl (k,false) (xG _ List.mem_cons_self)).1 (e▸List.mem_cons_self)
    have hkD':k ∉ i::DQ:=λh=>(xL.1 h).elim hki hkD
    have hE':(r.all λe=>!e.2||Bw l 4 k e.1)=true:=by rw [List.all_cons,xZ] at hE;exact hE.2
    have hDQ':∀x,x∈i::DQ↔x=q\/x∈i::D:=λx=>by rw [xL,xL,hDQ];constructor<;>(rintro (h|h|h)<;>simp [h])
    have hqD':q ∉ i::D:=λh=>(xL.1 h).elim (λe=>hiq e.symm) hqD
    have hkDD:k ∉ D:=λh=>hkD ((hDQ k).2 (.inr h))
    have hnk:listed.getD k false=false:=hL.no hkDD
    rw [show ((i,b)::r).length+e2.length+1+1=r.length+e2.length+1+1+1 by simp only [List.length_cons];omega]
    cases b with
    | true =>
      have hcq:((match l[i]? with|some o=>!B3 o q|none=>false)&&UR l q r (i::D))=true:=hcq
      rw [hg.at_,xZ] at hcq
      have hnq:=Zz (q:=q) (by simpa using hcq.1)
      have hp:∀e∈o.after,Region.binds .any e=true->listed.getD e.on false=true:=λe he hb=>(hL.mem _).1 (((hDQ _).1 (hg.pre e he hb)).resolve_left (hnq e he hb))
      have hrd:i∈Region.ready .any l.toArray listed:=mem_ready.2 ⟨by rw [CP (by rw [hL.size];exact hil)];exact hL.no hiD,o,hat,hp⟩
      obtain ⟨o',d,v,ho',hd,hdn,hy,hn⟩:=h
      rw [hat] at ho';injection ho' with ho';subst ho'
      have hyield:YieldsIf P l.toArray (λw=>Own w0 w LA) o v a:=by
        rcases hy with ⟨h1,h2⟩|⟨h1,h2⟩
        · exact .inl ⟨h1 a ha,λw hW=>h2 a w ha hW⟩
        · exact .inr ⟨h1 a ha,h2⟩
      have hedge:Bw l 4 k i=true:=by
        rw [List.all_cons,xZ] at hE
        simpa using hE.1
      refine GU hat (Region.noSelect_spec hsel) (λc a w=>bY hQ c a o.dst v w) (T:=λw=>Own w0 w LA) (λl' w hcl hr hS=>?_) (λl' w=>?_) _ listed a w (G_ hL hg.at_ (hg.fr O) hp) hrd hyield ?_ (λj oj hj ho e he hb=>hL.cl j oj hj (by simpa using ho) e he hb) ?_
      · have hkf:¬l'.getD k false=true:=λhk=>by
          have h1:=Gc hcl 4 k i hedge hk
          obtain ⟨h0,_⟩:=mem_ready.1 hr
          rcases Nat.lt_or_ge i l'.size with h5|h5
          · rw [CP h5] at h0;rw [h0] at h1;cases h1
          · simp [Array.getElem?_eq_none h5] at h1
        have hS:Own w0 w (if l'.getD k false=true then LB else LA):=hS
        rw [if_neg hkf] at hS;exact hS
      · show Own _ _ (ite _ _ _)↔Own _ _ (ite _ _ _);rw [getD_set_ne false (Ne.symm hki)]
      · show Own _ _ (ite _ _ _);rw [if_neg (by rw [hnk];exact Bool.false_ne_true)];exact hro _ _ hw
      · exact ih (i::D) (i::DQ) p _ _ w ((d,v)::F) L hDQ' hqD' hcq.2 hE' hkD' hg.tl (hL.add hg.at_ hp) (nxt i true _ DQ hall) hro (by rw [hd];exact ha.put hdn) hw hn
    | false =>
      have hcq:((r.all λe=>!e.2)&&(match l[q]? with|some o=>o.after.all λe=>!Region.binds .any e||D.contains e.on|none=>false)&&UR l q r (i::D))=true:=hcq
      rw [xZ,xZ] at hcq
      obtain ⟨oq,hoq,hpq⟩:=cA hcq.1.2
      have hEi:(((i,false)::r).all λe=>!e.2||B3 ok e.1)=true:=by
        rw [List.all_cons,xZ]
        exact ⟨rfl,List.all_eq_true.2 λe he=>by rw [List.all_eq_true.1 hcq.1.1 e he];rfl⟩
      obtain ⟨⟨o1,ho1,hA⟩,⟨o',ho',hB⟩⟩:=h
      rw [show l.toArray[q]?=some oq by simpa using hoq] at ho1;injection ho1 with ho1;subst ho1
      rw [hat] at ho';injection ho' with ho';subst ho'
      obtain ⟨hrd,hdo⟩:=doQ ((i,false)::r) D DQ p listed a w F L oq hoq hpq hDQ hqD hEi hkD hc0 hL hall0 ha hw hA
      refine ⟨λh0=>absurd hrd (by rw [h0];exact List.not_mem_nil),λj hj=>?_⟩
      obtain ⟨h0,oj,hoj,hpre⟩:=mem_ready.1 hj
      have hjl:j<l.length:=by simpa using (Array.getElem?_eq_some_iff.1 hoj).1
      rw [CP (by rw [hL.size];exact hjl)] at h0
      rcases hall j hjl with h1|h1
      · rcases (hDQ j).1 h1 with h1|h1
        · subst h1
          rw [show ((i,false)::r).length+e2.length+1=r.length+e2.length+1+1 by simp only [List.length_cons];omega] at hdo
          exact hdo
        · rw [(hL.mem j).1 h1] at h0;cases h0
      · obtain ⟨e,he,rfl⟩:=Hp h1
        rcases xL.1 he with rfl|he
        · rw [hat] at hoj;injection hoj with hoj;subst hoj
          rcases hB with hB|hB
          · obtain ⟨e,he,hb,hq⟩:=Cc hB
            have:=hpre e he hb
            rw [hq,hL.no hqD] at this;cases this
          · have hp:∀e∈o.after,Region.binds .any e=true->listed.getD e.on false=true:=hpre
            have hL2:=hL.add hg.at_ hp
            refine Ii hat (hB a w ha hw) λF' L' a' w' h1 h2 h3 h4=>⟨by show Own _ _ (ite _ _ _);rw [if_neg (by rw [hL2.no (λh=>(xL.1 h).elim hki hkDD)];exact Bool.false_ne_true)];exact h3 _ _ h2,?_⟩
            exact ih (i::D) (i::DQ) (some i) _ a' w' F' L' hDQ' hqD' hcq.2 hE' hkD' hg.tl hL2 (nxt i false _ DQ hall) h3 h1 h2 h4
        · exact absurd hj (Ec hL.cl hg.tl (hL.no hiD) (λe he=>hL.no λhd=>(Dr hg.tl e he).1 (List.mem_cons_of_mem _ ((hDQ _).2 (.inr hd)))) e he)
theorem MW {S:Array Bool->World->Prop} {T:World->Prop} {i:Nat} {oi:Oper} {v:Value} (hi:ops[i]?=some oi) (hsel:∀(j:Nat) (o:Oper) cs b,ops[j]?=some o->o.op≠.select cs b) (hQ:∀c a w,Q (.panic c) (a.put oi.dst v) w->Q (.panic c) a w)
    (hT:∀listed w,Ey ops listed->i∈Region.ready .any ops listed->S listed w->T w) (hS:∀listed w,S (listed.setIfInBounds i true) w↔S listed w)
    (hfree:∀(listed:Array Bool) (j:Nat) (oj:Oper),Ey ops listed->i∈Region.ready .any ops listed->j∈Region.ready .any ops listed->j≠i->ops[j]?=some oj->oi.apart ops oj=true) :
    ∀(fuel:Nat) (listed:Array Bool) (a:Act) (w:World),
      i∈Region.ready .any ops listed->YieldsIf P ops T oi v a->S listed w->Ey ops listed ->
      wpAnyS P ops Q S fuel (listed.setIfInBounds i true) (a.put oi.dst v) w->wpAnyS P ops Q S (fuel+1) listed a w:=by
  intro fuel
  induction fuel with
  | zero =>
    intro listed a w hr hy hw hcl H
    refine ⟨λh=>(by rw [h] at hr;cases hr),λj hj=>?_⟩
    by_cases hji:j=i
    · subst hji;exact hy.wpOp hi (hT listed w hcl hr hw) ⟨(hS _ _).2 hw,H⟩
    · have:=ready_mono hj hji
      rw [H.1] at this
      cases this
  | succ fuel ih =>
    intro listed a w hr hy hw hcl H
    refine ⟨λh=>(by rw [h] at hr;cases hr),λj hj=>?_⟩
    by_cases hji:j=i
    · subst hji;exact hy.wpOp hi (hT listed w hcl hr hw) ⟨(hS _ _).2 hw,H⟩
    · have h1:=H.2 j (ready_mono hj hji)
      obtain ⟨hjun,oj,hoj,hall⟩:=mem_ready.1 hj
      have h2:=wpOp_putIf hoj (hfree listed j oj hcl hr hj hji hoj) (λcs b=>hsel i oi cs b hi) (λcs b=>hsel j oj cs b hoj) hQ hy h1
      refine wpOp_mono (λa' w' h3=>?_) h2
      obtain ⟨h4,h5,h6⟩:=h3
      rw [Array.setIfInBounds_comm _ _ (Ne.symm hji)] at h5 h6
      have h7:=(hS _ _).1 h5
      exact ⟨h7,ih (listed.setIfInBounds j true) a' w' (ready_mono hr (Ne.symm hji)) h4 h7 (hcl.set hj) h6⟩
def bg (l:List Oper) (i:Nat) (o:Oper):Bool:=(List.range l.length).all λj=>j == i||match l[j]? with
  | some oj=>B3 o j||Bw l 5 j i||o.apart l.toArray oj
  | none=>true
def chkP (l:List Oper) (q k:Nat):List Nat->List Nat->Bool
  | [],_=>true
  | i::r,D=>(match l[i]? with|some o=>(o.after.all λe=>!Region.binds .any e||D.contains e.on)&&bg l i o|none=>false)&&!D.contains i&&!Nat.beq i q&&!Nat.beq i k&&Bw l 4 k i&&chkP l q k r (i::D)
theorem L8 {listed:Array Bool} {i:Nat} (h:i∈Region.ready .any l.toArray listed):listed.getD i false=false:=by
  obtain ⟨h0,_⟩:=mem_ready.1 h
  rcases Nat.lt_or_ge i listed.size with h5|h5
  · rw [CP h5] at h0;exact h0
  · simp [Array.getElem?_eq_none h5]
def OkP (P:Program) (ops:Array Oper) (n:Nat) (w0:BC) (LA:List As) (K:List (Nat×Value)->List As->Prop):List Nat->List (Nat×Value)->List As->Prop
  | [],F,L=>K F L
  | i::r,F,L=>∃o d v,ops[i]?=some o/\o.dst=some d/\d<n/\bX P ops n w0 LA F o v/\OkP P ops n w0 LA K r ((d,v)::F) L
theorem VL (hsel:Region.noSelect l.toArray=true) (hQ:∀c a d v w,Q (.panic c) (a.put d v) w->Q (.panic c) a w) {K:List (Nat×Value)->List As->Prop} {m:Nat} {Dend:List Nat}
    (hK:∀(D:List Nat) (listed:Array Bool) (a:Act) (w:World) (F:List (Nat×Value)) (L:List As),D=Dend->Lst l D listed->Wk LA L->Frm n a F->Own w0 w L->K F L->wpAnyS P l.toArray Q (λlisted w=>Own w0 w (if listed.getD k false=true then LB else LA)) m listed a w) :
    ∀(e0 D:List Nat) (listed:Array Bool) (a:Act) (w:World) (F:List (Nat×Value)) (L:List As),Dend=e0.reverse++D->chkP l q k e0 D=true->k ∉ D->Lst l D listed->Wk LA L->Frm n a F->Own w0 w L->OkP P l.toArray n w0 LA K e0 F L ->
      wpAnyS P l.toArray Q (λlisted w=>Own w0 w (if listed.getD k false=true then LB else LA)) (e0.length+m) listed a w
  | [],D,listed,a,w,F,L,hD,hc,hk,hL,hro,ha,hw,h=>by
    rw [List.length_nil,Nat.zero_add]
    exact hK D listed a w F L hD.symm hL hro ha hw h
  | i::r,D,listed,a,w,F,L,hD,hc,hkD,hL,hro,ha,hw,h=>by
    obtain ⟨o,d,v,ho,hd,hdn,hy,hn⟩:=h
    have hol:l[i]?=some o:=by simpa using ho
    unfold chkP at hc
    rw [hol] at hc
    simp only [xZ,xV] at hc
    obtain ⟨⟨⟨⟨⟨⟨h1,h2⟩,h3⟩,h4⟩,h5⟩,h6⟩,h7⟩:=hc
    have hil:i<l.length:=(List.getElem?_eq_some_iff.1 hol).1
    have hiD:i ∉ D:=λhm=>by rw [List.contains_iff_mem.2 hm] at h3;cases h3
    have hki:k≠i:=λe=>by rw [e] at h5;simp at h5
    have hp:∀e∈o.after,Region.binds .any e=true->listed.getD e.on false=true:=λe he hb=>(hL.mem _).1 (by
      have h8:=Array.all_eq_true_iff_forall_mem.1 h1 e he
      rw [hb] at h8
      simpa using h8)
    have hrd:i∈Region.ready .any l.toArray listed:=mem_ready.2 ⟨by rw [CP (by rw [hL.size];exact hil)];exact hL.no hiD,o,ho,hp⟩
    have hyield:YieldsIf P l.toArray (λw=>Own w0 w LA) o v a:=by
      rcases hy with ⟨h1,h2⟩|⟨h1,h2⟩
      · exact .inl ⟨h1 a ha,λw hW=>h2 a w ha hW⟩
      · exact .inr ⟨h1 a ha,h2⟩
    have hnk:listed.getD k false=false:=hL.no hkD
    rw [show (i::r).length+m=r.length+m+1 by simp only [List.length_cons];omega]
    refine MW ho (Region.noSelect_spec hsel) (λc a w=>bY hQ c a o.dst v w) (T:=λw=>Own w0 w LA) (λl' w hcl hr hS=>?_) (λl' w=>?_) (λl' j oj hcl hr hj hji hoj=>?_) _ listed a w hrd hyield ?_ (λj oj hj ho e he hb=>hL.cl j oj hj (by simpa using ho) e he hb) ?_
    · have hkf:¬l'.getD k false=true:=λhk=>by
        have h9:=Gc hcl 4 k i h6 hk
        rw [L8 hr] at h9;cases h9
      have hS:Own w0 w (if l'.getD k false=true then LB else LA):=hS
      rw [if_neg hkf] at hS;exact hS
    · show Own _ _ (ite _ _ _)↔Own _ _ (ite _ _ _);rw [getD_set_ne false (Ne.symm hki)]
    · have hjl:j<l.length:=by simpa using (Array.getElem?_eq_some_iff.1 hoj).1
      have h8:=List.all_eq_true.1 h2 j (List.mem_range.2 hjl)
      rw [show l[j]?=some oj by simpa using hoj] at h8
      simp only [xY,beq_iff_eq] at h8
      rcases h8 with h8|(h8|h8)|h8
      · exact absurd h8 hji
      · obtain ⟨e,he,hb,rfl⟩:=Cc h8
        obtain ⟨_,o2,ho2,hpre⟩:=mem_ready.1 hr
        rw [ho] at ho2;injection ho2 with ho2;subst ho2
        have:=hpre e he hb
        rw [L8 hj] at this;cases this
      · have:=NZ hcl h8 hj
        rw [L8 hr] at this;cases this
      · exact h8
    · show Own _ _ (ite _ _ _);rw [if_neg (by rw [hnk];exact Bool.false_ne_true)];exact hro _ _ hw
    · exact VL hsel hQ hK r (i::D) _ _ w ((d,v)::F) L (by rw [hD,List.reverse_cons,xw];rfl) h7 (λh=>(xL.1 h).elim hki hkD) (hL.add hol hp) hro (by rw [hd];exact ha.put hdn) hw hn
def Sq (l:List Oper) (q:Nat) (e0:List Nat) (e1:List (Nat×Bool)) (k:Nat) (e2:List (Nat×Bool)):Bool :=
  chkP l q k e0 []&&EJ l (q::e0.reverse) none (e1++(k,false)::e2)&&UR l q e1 e0.reverse&&Nx l (q::e0.reverse) (e1++(k,false)::e2)&&Nat.beq (e0.length+e1.length+e2.length+2) l.length&&Region.noSelect l.toArray&&(match l[k]? with|some o=>Bw l 5 k q&&e1.all λe=>!e.2||Bw l 4 k e.1|none=>false)&&!(q::e0.reverse).contains k&&!e0.reverse.contains q
theorem eR {id:Nat} (q:Nat) (e0:List Nat) (e1:List (Nat×Bool)) (k:Nat) (e2:List (Nat×Bool)) (hA:LA.Sublist L) (hAB:LB.Sublist LA) (hc:Sq l q e0 e1 k e2=true) (hQ:∀c a d v w,Q (.panic c) (a.put d v) w->Q (.panic c) a w)
    (h:OkP prog l.toArray n w0 LA (λF L=>Ll prog l.toArray Q n w0 LA (K0 prog l.toArray Q n w0 LB k e2) q e1 F L) e0 F L):OkC prog (.region id l.toArray true) Q n F w0 L:=λa w ha hw=>by
  simp only [Sq,xZ] at hc
  obtain ⟨⟨⟨⟨⟨⟨⟨⟨h0,h1⟩,h2⟩,h3⟩,h4⟩,h5⟩,h6⟩,h7⟩,h8⟩:=hc
  have hlen:=Nat.eq_of_beq_eq_true h4
  cases hok:l[k]? with
  | none=>simp [hok] at h6
  | some ok =>
    simp only [hok,xZ] at h6
    have hkD:k ∉ q::e0.reverse:=λh=>by rw [List.contains_iff_mem.2 h] at h7;cases h7
    have hqD:q ∉ e0.reverse:=λh=>by rw [List.contains_iff_mem.2 h] at h8;cases h8
    have hkq:k≠q:=λe=>hkD (e▸List.mem_cons_self)
    refine wp_region_any Ew (IH (S:=λlisted w=>Own w0 w (if listed.getD k false=true then LB else LA)) _ _ _ _ ?_)
    rw [show l.toArray.size=e0.length+(e1.length+e2.length+1+1) by rw [show e0.length+(e1.length+e2.length+1+1)=l.length by omega];simp]
    have hst:=Hh (l:=l)
    rw [show l.length=e0.length+(e1.length+e2.length+1+1) by omega] at hst
    refine VL (q:=q) (Dend:=e0.reverse) h5 hQ (λD listed a w F L hD hL hro ha hw h=>?_) e0 [] _ a w.drew F L jX h0 jX hst (Wk.of hA) ha hw.drew h
    subst hD
    refine To h5 hQ hAB hok hkq h6.1 e1 _ (q::e0.reverse) none _ a w F L (λx=>xL) hqD h2 h6.2 hkD h1 hL (λi hi=>?_) hro ha hw h
    have:=List.all_eq_true.1 h3 i (List.mem_range.2 hi)
    simpa using this
theorem yQ {K2:List (Nat×Value)->List As->Prop} {r:List Nat} {i d:Nat} {v:Value} {o:Oper} (ho:ops[i]?=some o) (hw:Wt ops n F o) (he:Ex P n F w0 LA o v) (hd:o.dst=some d) (hn:Nat.ble (d+1) n=true) (next:OkP P ops n w0 LA K2 r ((d,v)::F) L):OkP P ops n w0 LA K2 (i::r) F L:=⟨o,d,v,ho,hd,Nat.le_of_ble_eq_true hn,.inl ⟨hw,he⟩,next⟩
theorem y9 {K2:List (Nat×Value)->List As->Prop} (h:K2 F L):OkP P ops n w0 LA K2 [] F L:=h
variable {r:List (Nat×Bool)} {i d:Nat} {v:Value} {o oq:Oper} {K:List (Nat×Value)->List As->Prop}
theorem yx (hoq:ops[q]?=some oq) (ho:ops[i]?=some o) (hq:AL P ops [oq] (PE Q n w0 LA λF' L'=>B6 P ops Q n w0 LA K ((i,false)::r) F' L') n F w0 L) (h:AL P ops [o] (PE Q n w0 LA λF' L'=>Ll P ops Q n w0 LA K q r F' L') n F w0 L):Ll P ops Q n w0 LA K q ((i,false)::r) F L:=⟨⟨oq,hoq,hq⟩,o,ho,.inr h⟩
theorem xA (hoq:ops[q]?=some oq) (ho:ops[i]?=some o) (he:B3 o q=true) (hq:AL P ops [oq] (PE Q n w0 LA λF' L'=>B6 P ops Q n w0 LA K ((i,false)::r) F' L') n F w0 L):Ll P ops Q n w0 LA K q ((i,false)::r) F L:=⟨⟨oq,hoq,hq⟩,o,ho,.inl he⟩
theorem yo (hro:LA.Sublist L') (h:Ll P ops Q n w0 LA K q r F' L'):AL P ops [] (PE Q n w0 LA λF' L'=>Ll P ops Q n w0 LA K q r F' L') n F' w0 L':=AL.nil λa w ha hw=>⟨F',L',ha,hw,Wk.of hro,h⟩
end
end
section
set_option maxRecDepth 100000
def SN (v:dU) (md:List (P2×Nat)) (pr d:Nat):Prop:=∀(al:List T3) (pa:Option Addr) (ca:Nat) (ho1:OwnOk pa al.length ca) (pl:List Nat) (pp:Option Addr) (cp:Nat) (ho2:OwnOk pp pl.length cp) (C:T3) (hC:C.1<4611686018427387904/\C.2.1<4611686018427387904/\C.2.2<4611686018427387904) (hal:al.length+2^(d)<=1000000) (hpl:pl.length+2^(d)<=1000000) (w:World) (w0:BC) (LR:List As),Own w0 w (CC v.b ER vN md::AR v.bm 135 ([(Value.map (some v.b))])::rowW pa 105 3 al.length ca (rowsL Ac al)::AR v.ba 23 ([(qw pa al.length ca)])::rowW pp 3 1 pl.length cp (inL pl)::AR v.bp 32 ([(qw pp pl.length cp)])::AR v.bf 138 ([(Value.func (.func 65) #[] #[(pP v.bm 0),(pP v.ba 0),(pP v.bp 0),(pP v.bf 0)])])::LR)->Calls prog 65 #[aG (Ac C),vN pr,vN d,pP v.bm 0,pP v.ba 0,pP v.bp 0,pP v.bf 0] w (λe w'=>e=.returned (.tuple #[])/\∃a:bZ,(OwnOk a.pa (al++Cg md d C).length a.ca/\OwnOk a.pp (pl++CU (Cg md d C).length pr).length a.cp)/\Own w0 w' (CC v.b ER vN md::AR v.bm 135 ([(Value.map (some v.b))])::rowW a.pa 105 3 ((al++Cg md d C).length) a.ca (rowsL Ac (al++Cg md d C))::AR v.ba 23 ([(qw a.pa ((al++Cg md d C).length) a.ca)])::rowW a.pp 3 1 ((pl++CU (Cg md d C).length pr).length) a.cp (inL (pl++CU (Cg md d C).length pr))::AR v.bp 32 ([(qw a.pp ((pl++CU (Cg md d C).length pr).length) a.cp)])::AR v.bf 138 ([(Value.func (.func 65) #[] #[(pP v.bm 0),(pP v.ba 0),(pP v.bp 0),(pP v.bf 0)])])::LR))
theorem D_ (x0:Tq3):Instr.fill (λi=>some (i*3,3)) ((Array.range (1*3)).map ((Value.agg (Ac jJ).toArray).cells[·%(Value.agg (Ac jJ).toArray).cells.size]!)) [(0,.agg (Ac x0).toArray)]=some (Ac x0).toArray:=by kernel_rfl
set_option maxHeartbeats 1000000 in
theorem YS (v:dU) (md:List (P2×Nat)) (pr:Nat) (hmd:H3 KD md) (hmv:∀k n,Ap md k=some n->n<4611686018427387904) (hpr:pr<4611686018427387904) (al:List T3) (pa:Option Addr) (ca:Nat) (ho1:OwnOk pa al.length ca) (pl:List Nat) (pp:Option Addr) (cp:Nat) (ho2:OwnOk pp pl.length cp) (C:T3) (hC:C.1<4611686018427387904/\C.2.1<4611686018427387904/\C.2.2<4611686018427387904) (hal:al.length+2^(0)<=1000000) (hpl:pl.length+2^(0)<=1000000) (w:World) {w0:BC} {LR:List As} (hW:Own w0 w (CC v.b ER vN md::AR v.bm 135 ([(Value.map (some v.b))])::rowW pa 105 3 al.length ca (rowsL Ac al)::AR v.ba 23 ([(qw pa al.length ca)])::rowW pp 3 1 pl.length cp (inL pl)::AR v.bp 32 ([(qw pp pl.length cp)])::AR v.bf 138 ([(Value.func (.func 65) #[] #[(pP v.bm 0),(pP v.ba 0),(pP v.bp 0),(pP v.bf 0)])])::LR)):Calls prog 65 #[(aG (Ac C)),(vN pr),(vI 0),(pP v.bm 0),(pP v.ba 0),(pP v.bp 0),(pP v.bf 0)] w (λe w'=>e=.returned (.tuple #[])/\∃a:bZ,(OwnOk a.pa (al++Cg md (0) C).length a.ca/\OwnOk a.pp (pl++CU (Cg md (0) C).length pr).length a.cp)/\Own w0 w' (CC v.b ER vN md::AR v.bm 135 ([(Value.map (some v.b))])::rowW a.pa 105 3 ((al++Cg md (0) C).length) a.ca (rowsL Ac (al++Cg md (0) C))::AR v.ba 23 ([(qw a.pa ((al++Cg md (0) C).length) a.ca)])::rowW a.pp 3 1 ((pl++CU (Cg md (0) C).length pr).length) a.cp (inL (pl++CU (Cg md (0) C).length pr))::AR v.bp 32 ([(qw a.pp ((pl++CU (Cg md (0) C).length pr).length) a.cp)])::AR v.bf 138 ([(Value.func (.func 65) #[] #[(pP v.bm 0),(pP v.ba 0),(pP v.bp 0),(pP v.bf 0)])])::LR)):=by
 refine Ni (args:=[(aG (Ac C)),(vN pr),(vI 0),(pP v.bm 0),(pP v.ba 0),(pP v.bp 0),(pP v.bf 0)]) func65 O O (Av O) hW (zN (sL [0,1,2,3,4,5,6] O) (q4 (Bb (cs:=Ac C) O λb1=>q6 (sL [1,2,3,4,5,6,7] O) (CQ (Db 5++[(5,false),(6,true),(7,true),(8,true),(9,true),(10,true),(11,true)]) sr (Be 2 (Value.map (some v.b)) Uv O (Aj (v:=(pP b1 1)) O (AD (j:=1) O O underlying105 sizeOf3 O jY O) (Be 0 (vN C.2.1) BN O (Aj (v:=(pP b1 2)) O (AD (j:=2) O O underlying105 sizeOf3 O jY O) (Be 0 (vN C.2.2) BN O (zK O ?_))))))))))
 refine ck' call66 (HZ C.2.1 C.2.2) O (zD sr (Aj (v:=(Value.tuple #[(vN ((Ap md (min C.2.1 C.2.2,max C.2.1 C.2.2)).getD 0)),(qa ((Ap md (min C.2.1 C.2.2,max C.2.1 C.2.2)).isSome))])) O (Cr H7 1 (eV:=vN) (kvs:=md) (x:=(min C.2.1 C.2.2,max C.2.1 C.2.2)) (z0:=0) (co:=true) O O underlying135 zeroValue3 O (hmd) (Bm Z Z)) (BT O (Aj O (AZ (v:=(vN ((Ap md (min C.2.1 C.2.2,max C.2.1 C.2.2)).getD 0))) O O) (Aj O (AZ (v:=(qa ((Ap md (min C.2.1 C.2.2,max C.2.1 C.2.2)).isSome))) O O) (pS' O (pS' O (zT (zB (sL [1,2,4,5,6,7,10,11] O) (q1 (q4 ?_)))))))))))
 obtain ⟨is,his⟩:∃q,q=(Ap md ((min C.2.1 C.2.2,max C.2.1 C.2.2):P2)).isSome:=⟨_,rfl⟩
 refine AM O (zC (k:=22) (u:=(qa is)) O (by rw [his]) (AG (BQ (c:=(!is)) O O) O (AM O ?_)))
 refine zX (FM:=[(1,(vN pr)),(2,(vI 0)),(4,(pP v.ba 0)),(5,(pP v.bp 0)),(6,(pP v.bf 0)),(7,(pP b1 0)),(10,(vN ((Ap md (min C.2.1 C.2.2,max C.2.1 C.2.2)).getD 0))),(11,(qa ((Ap md (min C.2.1 C.2.2,max C.2.1 C.2.2)).isSome))),(22,(qa is)),(23,(qa (!is))),(24,(qa (!is))),(27,(qa ((!is)||true)))]) (LM:=(AR b1 105 (Ac C)::CC v.b ER vN md::AR v.bm 135 ([(Value.map (some v.b))])::rowW pa 105 3 al.length ca (rowsL Ac al)::AR v.ba 23 ([(qw pa al.length ca)])::rowW pp 3 1 pl.length cp (inL pl)::AR v.bp 32 ([(qw pp pl.length cp)])::AR v.bf 138 ([(Value.func (.func 65) #[] #[(pP v.bm 0),(pP v.ba 0),(pP v.bp 0),(pP v.bf 0)])])::LR)) 3 ?_ ?_
 ·rcases xO (!is) with hg1|hg1
  ·refine zC (k:=24) (u:=qa true) O (by rw [hg1]) ?_
   have hg1':=hg1
   simp only [jK] at hg1'
   exact Ar O (Ar O (AG (v:=(qa true)) (AN O O) O (oNl' (zR Bg (xP _)))))
  ·refine zC (k:=24) (u:=qa false) O (by rw [hg1]) ?_
   have hg1':=hg1
   simp only [jK] at hg1'
   exact Ds O (Au (v:=(qa true)) O (BO (c:=true) O O jY) (AG (v:=(qa true)) (AI O O) O (oNl' (zR Bg (xP _)))))
 refine oNl' (zB (sL [1,2,4,5,6,7,10,27] O) (zA ?_))
 refine zM O (λhc0=>?_) (λhc0=>?_)
 ·simp only [jK] at hc0
  refine zV (eR 6 [0,1,4,5] [(2,false),(3,false),(7,false)] 8 [(9,false)] (sk (sk (sk (sl (sk (sl sr)))))) (sk (sk (sk (sl (sl sr))))) jV (λ_ _ d _ _ h=>by cases d<;>exact h) (yQ (v:=(qw pa al.length ca)) O (AJ O) (AE (i:=3) (v:=(qw pa al.length ca)) O O B1.a O) O O (yQ (v:=(aG (Ac C))) O (AJ O) (A_ (i:=0) (vs:=Ac C) O O B_.a B_.s O O) O O (yQ (v:=(qw pp pl.length cp)) O (AJ O) (AE (i:=4) (v:=(qw pp pl.length cp)) O O aj.a O) O O (yQ (v:=(vN pr)) O (AJ O) (BE O) O O (y9 ?_))))))
  refine yx O O ?_ ?_
  ·refine zZ (V:=λb2=>(qw (jk b2) 1 1)) (T:=3) (cs:=[(vN pr)]) (AJ O) (Af (cs:=[(vN pr)]) (pv:=[(0,(vN pr))]) underlying32 sizeOf3 zeroValue3 jY jY O jV) O (Av O) λb2=>zj (sl (sk (sk (sk (sl (sk (sl sr))))))) (zp O (zZ (V:=λb3=>(qw (jk b3) 1 1)) (T:=105) (cs:=Ac C) (AJ O) (Af (z:=.agg (Ac jJ).toArray) (cs:=Ac C) (pv:=[(0,(aG (Ac C)))]) underlying23 sizeOf105 zeroValue105 jY jY O (D_ C)) O (Av O) λb3=>zj (sl (sl (sk (sk (sk (sl (sk (sl sr)))))))) (zp O (zh 5 (j:=0) (cs2:=rowsL Ac (al++[C])) I3 O ho1 (AV Am _) O O O O O jY (FD Z) Z (by rw [BI];rfl) O λp_1 c_1 ho_1 hne_1=>zj (sl (sl (sk (sk (sk (sl (sk (sl sr)))))))) (zp O (zh 7 (j:=1) (cs2:=inL (pl++[pr])) Mg O ho2 (by rw [Cl,Nat.mul_one]) O O O O O jY (FD Z) Z (by rw [DJ];rfl) O λp_2 c_2 ho_2 hne_2=>zj (sl (sl (sk (sk (sk (sl (sk (sl sr)))))))) (yC O ?_)))))))
   exact Ek 6 (off:=0) (vs:=[(qw p_1 (al.length+1) c_1)]) (cs':=[(qw p_1 (al.length+1) c_1)]) (AJ O) O sizeOf23 O (zD (sl (sl (sk (sk (sk (sl (sl (sl (sl sr))))))))) (zK O (Ek 8 (off:=0) (vs:=[(qw p_2 (pl.length+1) c_2)]) (cs':=[(qw p_2 (pl.length+1) c_2)]) (AJ O) O sizeOf32 O (zD (sl (sl (sk (sk (sk (sl (sl (sl (sl sr))))))))) (zT (zB (sL [1,2,6,7,10] O) (zA (zF (zO (E1 (.inl O) O  (λw hw=>⟨rfl,⟨p_1,c_1,p_2,c_2⟩,(by rw [show al++Cg md (0) C=al++[C] from by rfl,show pl++CU (Cg md (0) C).length pr=pl++[pr] from by rfl];rw [show al.length+1=(al++[C]).length by simp,show pl.length+1=(pl++[pr]).length by simp] at hw;exact ⟨⟨(by simpa using ho_1),(by simpa using ho_2)⟩,hw.weak (sl (sl (sl sr)))⟩)⟩)))))))))))
  ·refine zZ (V:=λb2=>(qw (jk b2) 1 1)) (T:=105) (cs:=Ac C) (AJ O) (Af (z:=.agg (Ac jJ).toArray) (cs:=Ac C) (pv:=[(0,(aG (Ac C)))]) underlying23 sizeOf105 zeroValue105 jY jY O (D_ C)) O (Av O) λb2=>yo (sl (sk (sk (sk (sl (sk (sl sr))))))) ?_
   refine yx O O ?_ ?_
   ·refine zZ (V:=λb3=>(qw (jk b3) 1 1)) (T:=3) (cs:=[(vN pr)]) (AJ O) (Af (cs:=[(vN pr)]) (pv:=[(0,(vN pr))]) underlying32 sizeOf3 zeroValue3 jY jY O jV) O (Av O) λb3=>zj (sl (sl (sk (sk (sk (sl (sk (sl sr)))))))) (zp O (zh 5 (j:=1) (cs2:=rowsL Ac (al++[C])) I3 O ho1 (AV Am _) O O O O O jY (FD Z) Z (by rw [BI];rfl) O λp_3 c_3 ho_3 hne_3=>zj (sl (sl (sk (sk (sk (sl (sk (sl sr)))))))) (zp O (zh 7 (j:=0) (cs2:=inL (pl++[pr])) Mg O ho2 (by rw [Cl,Nat.mul_one]) O O O O O jY (FD Z) Z (by rw [DJ];rfl) O λp_4 c_4 ho_4 hne_4=>zj (sl (sl (sk (sk (sk (sl (sk (sl sr)))))))) (yC O (Ek 6 (off:=0) (vs:=[(qw p_3 (al.length+1) c_3)]) (cs':=[(qw p_3 (al.length+1) c_3)]) (AJ O) O sizeOf23 O (zD (sl (sl (sk (sk (sk (sl (sl (sl (sl sr))))))))) (zK O ?_))))))))
    exact Ek 8 (off:=0) (vs:=[(qw p_4 (pl.length+1) c_4)]) (cs':=[(qw p_4 (pl.length+1) c_4)]) (AJ O) O sizeOf32 O (zD (sl (sl (sk (sk (sk (sl (sl (sl (sl sr))))))))) (zT (zB (sL [1,2,6,7,10] O) (zA (zF (zO (E1 (.inl O) O  (λw hw=>⟨rfl,⟨p_3,c_3,p_4,c_4⟩,(by rw [show al++Cg md (0) C=al++[C] from by rfl,show pl++CU (Cg md (0) C).length pr=pl++[pr] from by rfl];rw [show al.length+1=(al++[C]).length by simp,show pl.length+1=(pl++[pr]).length by simp] at hw;exact ⟨⟨(by simpa using ho_3),(by simpa using ho_4)⟩,hw.weak (sl (sl (sl sr)))⟩)⟩))))))))
   ·refine zh 4 (j:=0) (cs2:=rowsL Ac (al++[C])) I3 O ho1 (AV Am _) O O O O O jY (FD Z) Z (by rw [BI];rfl) O λp_5 c_5 ho_5 hne_5=>yo (sl (sk (sk (sk (sl (sk (sl sr))))))) (xA O O jV (zZ (V:=λb3=>(qw (jk b3) 1 1)) (T:=3) (cs:=[(vN pr)]) (AJ O) (Af (cs:=[(vN pr)]) (pv:=[(0,(vN pr))]) underlying32 sizeOf3 zeroValue3 jY jY O jV) O (Av O) λb3=>zj (sl (sl (sk (sk (sk (sl (sk (sl sr)))))))) (zp O (zh 7 (j:=0) (cs2:=inL (pl++[pr])) Mg O ho2 (by rw [Cl,Nat.mul_one]) O O O O O jY (FD Z) Z (by rw [DJ];rfl) O λp_6 c_6 ho_6 hne_6=>zj (sl (sl (sk (sk (sk (sl (sk (sl sr)))))))) (yC O (Ek 6 (off:=0) (vs:=[(qw p_5 (al.length+1) c_5)]) (cs':=[(qw p_5 (al.length+1) c_5)]) (AJ O) O sizeOf23 O (zD (sl (sl (sk (sk (sk (sl (sl (sl (sl sr))))))))) (zK O ?_))))))))
    exact Ek 8 (off:=0) (vs:=[(qw p_6 (pl.length+1) c_6)]) (cs':=[(qw p_6 (pl.length+1) c_6)]) (AJ O) O sizeOf32 O (zD (sl (sl (sk (sk (sk (sl (sl (sl (sl sr))))))))) (zT (zB (sL [1,2,6,7,10] O) (zA (zF (zO (E1 (.inl O) O  (λw hw=>⟨rfl,⟨p_5,c_5,p_6,c_6⟩,(by rw [show al++Cg md (0) C=al++[C] from by rfl,show pl++CU (Cg md (0) C).length pr=pl++[pr] from by rfl];rw [show al.length+1=(al++[C]).length by simp,show pl.length+1=(pl++[pr]).length by simp] at hw;exact ⟨⟨(by simpa using ho_5),(by simpa using ho_6)⟩,hw.weak (sl (sl (sl sr)))⟩)⟩))))))))
 ·simp only [jK] at hc0
  simp at hc0
theorem Gn (x0 x1 x2:Nat):Instr.fill (λi=>some (i*1,1)) (Ac jJ).toArray [(0,vN x0),(1,vN x1),(2,vN x2)]=some (Ac (x0,x1,x2)).toArray:=by kernel_rfl
set_option maxHeartbeats 1000000 in
theorem R2 (v:dU) (md:List (P2×Nat)) (pr d:Nat) (hmd:H3 KD md) (hmv:∀k n,Ap md k=some n->n<4611686018427387904) (hpr:pr<4611686018427387904) (hd3:d<=3) (ih:SN v md pr d) (al:List T3) (pa:Option Addr) (ca:Nat) (ho1:OwnOk pa al.length ca) (pl:List Nat) (pp:Option Addr) (cp:Nat) (ho2:OwnOk pp pl.length cp) (C:T3) (hC:C.1<4611686018427387904/\C.2.1<4611686018427387904/\C.2.2<4611686018427387904) (hal:al.length+2^(d+1)<=1000000) (hpl:pl.length+2^(d+1)<=1000000) (w:World) {w0:BC} {LR:List As} (hW:Own w0 w (CC v.b ER vN md::AR v.bm 135 ([(Value.map (some v.b))])::rowW pa 105 3 al.length ca (rowsL Ac al)::AR v.ba 23 ([(qw pa al.length ca)])::rowW pp 3 1 pl.length cp (inL pl)::AR v.bp 32 ([(qw pp pl.length cp)])::AR v.bf 138 ([(Value.func (.func 65) #[] #[(pP v.bm 0),(pP v.ba 0),(pP v.bp 0),(pP v.bf 0)])])::LR)):Calls prog 65 #[(aG (Ac C)),(vN pr),(vN (d+1)),(pP v.bm 0),(pP v.ba 0),(pP v.bp 0),(pP v.bf 0)] w (λe w'=>e=.returned (.tuple #[])/\∃a:bZ,(OwnOk a.pa (al++Cg md (d+1) C).length a.ca/\OwnOk a.pp (pl++CU (Cg md (d+1) C).length pr).length a.cp)/\Own w0 w' (CC v.b ER vN md::AR v.bm 135 ([(Value.map (some v.b))])::rowW a.pa 105 3 ((al++Cg md (d+1) C).length) a.ca (rowsL Ac (al++Cg md (d+1) C))::AR v.ba 23 ([(qw a.pa ((al++Cg md (d+1) C).length) a.ca)])::rowW a.pp 3 1 ((pl++CU (Cg md (d+1) C).length pr).length) a.cp (inL (pl++CU (Cg md (d+1) C).length pr))::AR v.bp 32 ([(qw a.pp ((pl++CU (Cg md (d+1) C).length pr).length) a.cp)])::AR v.bf 138 ([(Value.func (.func 65) #[] #[(pP v.bm 0),(pP v.ba 0),(pP v.bp 0),(pP v.bf 0)])])::LR)):=by
 have hp2:0<2^d:=Nat.two_pow_pos d
 refine Ni (args:=[(aG (Ac C)),(vN pr),(vN (d+1)),(pP v.bm 0),(pP v.ba 0),(pP v.bp 0),(pP v.bf 0)]) func65 O O (Av O) hW (zN (sL [0,1,2,3,4,5,6] O) (q4 (Bb (cs:=Ac C) O λb1=>q6 (sL [1,2,3,4,5,6,7] O) (CQ (Db 5++[(5,false),(6,true),(7,true),(8,true),(9,true),(10,true),(11,true)]) sr (Be 2 (Value.map (some v.b)) Uv O (Aj (v:=(pP b1 1)) O (AD (j:=1) O O underlying105 sizeOf3 O jY O) (Be 0 (vN C.2.1) BN O (Aj (v:=(pP b1 2)) O (AD (j:=2) O O underlying105 sizeOf3 O jY O) (Be 0 (vN C.2.2) BN O (zK O ?_))))))))))
 refine ck' call66 (HZ C.2.1 C.2.2) O (zD sr (Aj (v:=(Value.tuple #[(vN ((Ap md (min C.2.1 C.2.2,max C.2.1 C.2.2)).getD 0)),(qa ((Ap md (min C.2.1 C.2.2,max C.2.1 C.2.2)).isSome))])) O (Cr H7 1 (eV:=vN) (kvs:=md) (x:=(min C.2.1 C.2.2,max C.2.1 C.2.2)) (z0:=0) (co:=true) O O underlying135 zeroValue3 O (hmd) (Bm Z Z)) (BT O (Aj O (AZ (v:=(vN ((Ap md (min C.2.1 C.2.2,max C.2.1 C.2.2)).getD 0))) O O) (Aj O (AZ (v:=(qa ((Ap md (min C.2.1 C.2.2,max C.2.1 C.2.2)).isSome))) O O) (pS' O (pS' O (zT (zB (sL [1,2,4,5,6,7,10,11] O) (q1 (q4 ?_)))))))))))
 obtain ⟨is,his⟩:∃q,q=(Ap md ((min C.2.1 C.2.2,max C.2.1 C.2.2):P2)).isSome:=⟨_,rfl⟩
 refine AM O (zC (k:=22) (u:=(qa is)) O (by rw [his]) (AG (BQ (c:=(!is)) O O) O (AM O ?_)))
 refine zX (FM:=[(1,(vN pr)),(2,(vN (d+1))),(4,(pP v.ba 0)),(5,(pP v.bp 0)),(6,(pP v.bf 0)),(7,(pP b1 0)),(10,(vN ((Ap md (min C.2.1 C.2.2,max C.2.1 C.2.2)).getD 0))),(11,(qa ((Ap md (min C.2.1 C.2.2,max C.2.1 C.2.2)).isSome))),(22,(qa is)),(23,(qa (!is))),(24,(qa (!is))),(27,(qa (!is)))]) (LM:=(AR b1 105 (Ac C)::CC v.b ER vN md::AR v.bm 135 ([(Value.map (some v.b))])::rowW pa 105 3 al.length ca (rowsL Ac al)::AR v.ba 23 ([(qw pa al.length ca)])::rowW pp 3 1 pl.length cp (inL pl)::AR v.bp 32 ([(qw pp pl.length cp)])::AR v.bf 138 ([(Value.func (.func 65) #[] #[(pP v.bm 0),(pP v.ba 0),(pP v.bp 0),(pP v.bf 0)])])::LR)) 3 ?_ ?_
 ·rcases xO (!is) with hg1|hg1
  ·refine zC (k:=24) (u:=qa true) O (by rw [hg1]) ?_
   have hg1':=hg1
   simp only [jK] at hg1'
   exact Ar O (Ar O (AG (v:=(qa true)) (AN O O) O (oNl' (zR Bg (xP _)))))
  ·refine zC (k:=24) (u:=qa false) O (by rw [hg1]) ?_
   have hg1':=hg1
   simp only [jK] at hg1'
   exact Ds O (Au (v:=(qa false)) O (BO (c:=false) O O (xx Z)) (AG (v:=(qa false)) (AI O O) O (oNl' (zR Bg (xP _)))))
 refine oNl' (zB (sL [1,2,4,5,6,7,10,27] O) (zA ?_))
 refine zM O (λhc0=>?_) (λhc0=>?_)
 ·simp only [jK] at hc0
  have hno:Ap md (Cf C)=none:=by rw [<-Option.isNone_iff_eq_none];show (Ap md ((min C.2.1 C.2.2,max C.2.1 C.2.2):P2)).isNone=true;rw [<-Option.not_isSome];simp_all
  refine zV (eR 6 [0,1,4,5] [(2,false),(3,false),(7,false)] 8 [(9,false)] (sk (sk (sk (sl (sk (sl sr)))))) (sk (sk (sk (sl (sl sr))))) jV (λ_ _ d _ _ h=>by cases d<;>exact h) (yQ (v:=(qw pa al.length ca)) O (AJ O) (AE (i:=3) (v:=(qw pa al.length ca)) O O B1.a O) O O (yQ (v:=(aG (Ac C))) O (AJ O) (A_ (i:=0) (vs:=Ac C) O O B_.a B_.s O O) O O (yQ (v:=(qw pp pl.length cp)) O (AJ O) (AE (i:=4) (v:=(qw pp pl.length cp)) O O aj.a O) O O (yQ (v:=(vN pr)) O (AJ O) (BE O) O O (y9 ?_))))))
  refine yx O O ?_ ?_
  ·refine zZ (V:=λb2=>(qw (jk b2) 1 1)) (T:=3) (cs:=[(vN pr)]) (AJ O) (Af (cs:=[(vN pr)]) (pv:=[(0,(vN pr))]) underlying32 sizeOf3 zeroValue3 jY jY O jV) O (Av O) λb2=>zj (sl (sk (sk (sk (sl (sk (sl sr))))))) (zp O (zZ (V:=λb3=>(qw (jk b3) 1 1)) (T:=105) (cs:=Ac C) (AJ O) (Af (z:=.agg (Ac jJ).toArray) (cs:=Ac C) (pv:=[(0,(aG (Ac C)))]) underlying23 sizeOf105 zeroValue105 jY jY O (D_ C)) O (Av O) λb3=>zj (sl (sl (sk (sk (sk (sl (sk (sl sr)))))))) (zp O (zh 5 (j:=0) (cs2:=rowsL Ac (al++[C])) I3 O ho1 (AV Am _) O O O O O jY (FD Z) Z (by rw [BI];rfl) O λp_1 c_1 ho_1 hne_1=>zj (sl (sl (sk (sk (sk (sl (sk (sl sr)))))))) (zp O (zh 7 (j:=1) (cs2:=inL (pl++[pr])) Mg O ho2 (by rw [Cl,Nat.mul_one]) O O O O O jY (FD Z) Z (by rw [DJ];rfl) O λp_2 c_2 ho_2 hne_2=>zj (sl (sl (sk (sk (sk (sl (sk (sl sr)))))))) (yC O ?_)))))))
   exact Ek 6 (off:=0) (vs:=[(qw p_1 (al.length+1) c_1)]) (cs':=[(qw p_1 (al.length+1) c_1)]) (AJ O) O sizeOf23 O (zD (sl (sl (sk (sk (sk (sl (sl (sl (sl sr))))))))) (zK O (Ek 8 (off:=0) (vs:=[(qw p_2 (pl.length+1) c_2)]) (cs':=[(qw p_2 (pl.length+1) c_2)]) (AJ O) O sizeOf32 O (zD (sl (sl (sk (sk (sk (sl (sl (sl (sl sr))))))))) (zT (zB (sL [1,2,6,7,10] O) (zA (zF (zO (E1 (.inl O) O  (λw hw=>⟨rfl,⟨p_1,c_1,p_2,c_2⟩,(by rw [show al++Cg md (d+1) C=al++[C] from by rw [HJ hno],show pl++CU (Cg md (d+1) C).length pr=pl++[pr] from by rw [HJ hno];rfl];rw [show al.length+1=(al++[C]).length by simp,show pl.length+1=(pl++[pr]).length by simp] at hw;exact ⟨⟨(by simpa using ho_1),(by simpa using ho_2)⟩,hw.weak (sl (sl (sl sr)))⟩)⟩)))))))))))
  ·refine zZ (V:=λb2=>(qw (jk b2) 1 1)) (T:=105) (cs:=Ac C) (AJ O) (Af (z:=.agg (Ac jJ).toArray) (cs:=Ac C) (pv:=[(0,(aG (Ac C)))]) underlying23 sizeOf105 zeroValue105 jY jY O (D_ C)) O (Av O) λb2=>yo (sl (sk (sk (sk (sl (sk (sl sr))))))) ?_
   refine yx O O ?_ ?_
   ·refine zZ (V:=λb3=>(qw (jk b3) 1 1)) (T:=3) (cs:=[(vN pr)]) (AJ O) (Af (cs:=[(vN pr)]) (pv:=[(0,(vN pr))]) underlying32 sizeOf3 zeroValue3 jY jY O jV) O (Av O) λb3=>zj (sl (sl (sk (sk (sk (sl (sk (sl sr)))))))) (zp O (zh 5 (j:=1) (cs2:=rowsL Ac (al++[C])) I3 O ho1 (AV Am _) O O O O O jY (FD Z) Z (by rw [BI];rfl) O λp_3 c_3 ho_3 hne_3=>zj (sl (sl (sk (sk (sk (sl (sk (sl sr)))))))) (zp O (zh 7 (j:=0) (cs2:=inL (pl++[pr])) Mg O ho2 (by rw [Cl,Nat.mul_one]) O O O O O jY (FD Z) Z (by rw [DJ];rfl) O λp_4 c_4 ho_4 hne_4=>zj (sl (sl (sk (sk (sk (sl (sk (sl sr)))))))) (yC O (Ek 6 (off:=0) (vs:=[(qw p_3 (al.length+1) c_3)]) (cs':=[(qw p_3 (al.length+1) c_3)]) (AJ O) O sizeOf23 O (zD (sl (sl (sk (sk (sk (sl (sl (sl (sl sr))))))))) (zK O ?_))))))))
    exact Ek 8 (off:=0) (vs:=[(qw p_4 (pl.length+1) c_4)]) (cs':=[(qw p_4 (pl.length+1) c_4)]) (AJ O) O sizeOf32 O (zD (sl (sl (sk (sk (sk (sl (sl (sl (sl sr))))))))) (zT (zB (sL [1,2,6,7,10] O) (zA (zF (zO (E1 (.inl O) O  (λw hw=>⟨rfl,⟨p_3,c_3,p_4,c_4⟩,(by rw [show al++Cg md (d+1) C=al++[C] from by rw [HJ hno],show pl++CU (Cg md (d+1) C).length pr=pl++[pr] from by rw [HJ hno];rfl];rw [show al.length+1=(al++[C]).length by simp,show pl.length+1=(pl++[pr]).length by simp] at hw;exact ⟨⟨(by simpa using ho_3),(by simpa using ho_4)⟩,hw.weak (sl (sl (sl sr)))⟩)⟩))))))))
   ·refine zh 4 (j:=0) (cs2:=rowsL Ac (al++[C])) I3 O ho1 (AV Am _) O O O O O jY (FD Z) Z (by rw [BI];rfl) O λp_5 c_5 ho_5 hne_5=>yo (sl (sk (sk (sk (sl (sk (sl sr))))))) (xA O O jV (zZ (V:=λb3=>(qw (jk b3) 1 1)) (T:=3) (cs:=[(vN pr)]) (AJ O) (Af (cs:=[(vN pr)]) (pv:=[(0,(vN pr))]) underlying32 sizeOf3 zeroValue3 jY jY O jV) O (Av O) λb3=>zj (sl (sl (sk (sk (sk (sl (sk (sl sr)))))))) (zp O (zh 7 (j:=0) (cs2:=inL (pl++[pr])) Mg O ho2 (by rw [Cl,Nat.mul_one]) O O O O O jY (FD Z) Z (by rw [DJ];rfl) O λp_6 c_6 ho_6 hne_6=>zj (sl (sl (sk (sk (sk (sl (sk (sl sr)))))))) (yC O (Ek 6 (off:=0) (vs:=[(qw p_5 (al.length+1) c_5)]) (cs':=[(qw p_5 (al.length+1) c_5)]) (AJ O) O sizeOf23 O (zD (sl (sl (sk (sk (sk (sl (sl (sl (sl sr))))))))) (zK O ?_))))))))
    exact Ek 8 (off:=0) (vs:=[(qw p_6 (pl.length+1) c_6)]) (cs':=[(qw p_6 (pl.length+1) c_6)]) (AJ O) O sizeOf32 O (zD (sl (sl (sk (sk (sk (sl (sl (sl (sl sr))))))))) (zT (zB (sL [1,2,6,7,10] O) (zA (zF (zO (E1 (.inl O) O  (λw hw=>⟨rfl,⟨p_5,c_5,p_6,c_6⟩,(by rw [show al++Cg md (d+1) C=al++[C] from by rw [HJ hno],show pl++CU (Cg md (d+1) C).length pr=pl++[pr] from by rw [HJ hno];rfl];rw [show al.length+1=(al++[C]).length by simp,show pl.length+1=(pl++[pr]).length by simp] at hw;exact ⟨⟨(by simpa using ho_5),(by simpa using ho_6)⟩,hw.weak (sl (sl (sl sr)))⟩)⟩))))))))
 ·simp only [jK] at hc0
  have hpw:2^(d+1)=2^d+2^d:=by rw [Nat.pow_succ];omega
  obtain ⟨nv,hys⟩:∃n,Ap md (Cf C)=some n:=Option.isSome_iff_exists.1 (by show (Ap md ((min C.2.1 C.2.2,max C.2.1 C.2.2):P2)).isSome=true;simp_all)
  have hnv:=hmv _ _ hys
  have hnvq:nv=(Ap md ((min C.2.1 C.2.2,max C.2.1 C.2.2):P2)).getD 0:=by rw [show Ap md ((min C.2.1 C.2.2,max C.2.1 C.2.2):P2)=some nv from hys];rfl
  refine zG (q2 (Az 7 (Value.func (.func 65) #[] #[(pP v.bm 0),(pP v.ba 0),(pP v.bp 0),(pP v.bf 0)]) VG O (AM O (zC (k:=37) (u:=(vN nv)) O (by rw [hnvq]) (AG (v:=(pP b1 0)) (AD (j:=0) O O underlying105 sizeOf3 O jY O) O (Az 0 (vN C.1) BN O (AG (v:=(pP b1 1)) (AD (j:=1) O O underlying105 sizeOf3 O jY O) O (Az 0 (vN C.2.1) BN O (AG (v:=(aG (Ac (nv,C.1,C.2.1)))) (BF (zs:=Ac jJ) (vs:=Ac (nv,C.1,C.2.1)) (pv:=[(0,(vN nv)),(1,(vN C.1)),(2,(vN C.2.1))]) zeroValue105 underlying105 sizeOf3 O (Gn nv C.1 C.2.1)) O (AM O (AM O ?_)))))))))))
  refine AG (BY (c:=((d:Nat):Int)) O O (by rw [BP Z Z];omega)) O ?_
  have hq1:=Hq md d (nv,C.1,C.2.1)
  refine yw (v:=.tuple #[]) (α:=bZ) (K:=λa=>OwnOk a.pa (al++Cg md d (nv,C.1,C.2.1)).length a.ca/\OwnOk a.pp (pl++CU (Cg md d (nv,C.1,C.2.1)).length pr).length a.cp) (LO:=λa=>(CC v.b ER vN md::AR v.bm 135 ([(Value.map (some v.b))])::rowW a.pa 105 3 ((al++Cg md d (nv,C.1,C.2.1)).length) a.ca (rowsL Ac (al++Cg md d (nv,C.1,C.2.1)))::AR v.ba 23 ([(qw a.pa ((al++Cg md d (nv,C.1,C.2.1)).length) a.ca)])::rowW a.pp 3 1 ((pl++CU (Cg md d (nv,C.1,C.2.1)).length pr).length) a.cp (inL (pl++CU (Cg md d (nv,C.1,C.2.1)).length pr))::AR v.bp 32 ([(qw a.pp ((pl++CU (Cg md d (nv,C.1,C.2.1)).length pr).length) a.cp)])::AR v.bf 138 ([(Value.func (.func 65) #[] #[(pP v.bm 0),(pP v.ba 0),(pP v.bp 0),(pP v.bf 0)])])::AR b1 105 (Ac C)::LR)) (AJ O) (DM (args:=[(aG (Ac (nv,C.1,C.2.1))),(vN pr),(vN d)]) (caps:=[(pP v.bm 0),(pP v.ba 0),(pP v.bp 0),(pP v.bf 0)]) (all:=[(aG (Ac (nv,C.1,C.2.1))),(vN pr),(vN d),(pP v.bm 0),(pP v.ba 0),(pP v.bp 0),(pP v.bf 0)]) O O O call65) ((List.perm_middle (l₁:=[CC v.b ER vN md,AR v.bm 135 ([(Value.map (some v.b))]),rowW pa 105 3 al.length ca (rowsL Ac al),AR v.ba 23 ([(qw pa al.length ca)]),rowW pp 3 1 pl.length cp (inL pl),AR v.bp 32 ([(qw pp pl.length cp)]),AR v.bf 138 ([(Value.func (.func 65) #[] #[(pP v.bm 0),(pP v.ba 0),(pP v.bp 0),(pP v.bf 0)])])]) (l₂:=LR)).symm) (λw hw=>ih al pa ca ho1 pl pp cp ho2 (nv,C.1,C.2.1) ⟨hnv,hC.1,hC.2.1⟩ (by simp [CU] at *;omega) (by simp [CU] at *;omega) w w0 (AR b1 105 (Ac C)::LR) hw) (λd hd=>by cases hd<;>exact (Av O)) ?_;intro a1 ⟨ho3,ho4⟩
  refine oNl' (zB (sL [1,2,4,5,6,7,10] O) (zA (zH (Az 6 (Value.func (.func 65) #[] #[(pP v.bm 0),(pP v.ba 0),(pP v.bp 0),(pP v.bf 0)]) VG O (AM O (zC (k:=48) (u:=(vN nv)) O (by rw [hnvq]) (AG (v:=(pP b1 2)) (AD (j:=2) O O underlying105 sizeOf3 O jY O) O (Az 7 (vN C.2.2) BN O (AG (v:=(pP b1 0)) (AD (j:=0) O O underlying105 sizeOf3 O jY O) O (Az 7 (vN C.1) BN O (AG (v:=(aG (Ac (nv,C.2.2,C.1)))) (BF (zs:=Ac jJ) (vs:=Ac (nv,C.2.2,C.1)) (pv:=[(0,(vN nv)),(1,(vN C.2.2)),(2,(vN C.1))]) zeroValue105 underlying105 sizeOf3 O (Gn nv C.2.2 C.1)) O ?_)))))))))))
  refine AM O (AM O (AG (BY (c:=((d:Nat):Int)) O O (by rw [BP Z Z];omega)) O ?_))
  have hq2:=Hq md d (nv,C.2.2,C.1)
  refine yw (v:=.tuple #[]) (α:=bZ) (K:=λa=>OwnOk a.pa ((al++Cg md d (nv,C.1,C.2.1))++Cg md d (nv,C.2.2,C.1)).length a.ca/\OwnOk a.pp ((pl++CU (Cg md d (nv,C.1,C.2.1)).length pr)++CU (Cg md d (nv,C.2.2,C.1)).length pr).length a.cp) (LO:=λa=>(CC v.b ER vN md::AR v.bm 135 ([(Value.map (some v.b))])::rowW a.pa 105 3 (((al++Cg md d (nv,C.1,C.2.1))++Cg md d (nv,C.2.2,C.1)).length) a.ca (rowsL Ac ((al++Cg md d (nv,C.1,C.2.1))++Cg md d (nv,C.2.2,C.1)))::AR v.ba 23 ([(qw a.pa (((al++Cg md d (nv,C.1,C.2.1))++Cg md d (nv,C.2.2,C.1)).length) a.ca)])::rowW a.pp 3 1 (((pl++CU (Cg md d (nv,C.1,C.2.1)).length pr)++CU (Cg md d (nv,C.2.2,C.1)).length pr).length) a.cp (inL ((pl++CU (Cg md d (nv,C.1,C.2.1)).length pr)++CU (Cg md d (nv,C.2.2,C.1)).length pr))::AR v.bp 32 ([(qw a.pp (((pl++CU (Cg md d (nv,C.1,C.2.1)).length pr)++CU (Cg md d (nv,C.2.2,C.1)).length pr).length) a.cp)])::AR v.bf 138 ([(Value.func (.func 65) #[] #[(pP v.bm 0),(pP v.ba 0),(pP v.bp 0),(pP v.bf 0)])])::AR b1 105 (Ac C)::LR)) (AJ O) (DM (args:=[(aG (Ac (nv,C.2.2,C.1))),(vN pr),(vN d)]) (caps:=[(pP v.bm 0),(pP v.ba 0),(pP v.bp 0),(pP v.bf 0)]) (all:=[(aG (Ac (nv,C.2.2,C.1))),(vN pr),(vN d),(pP v.bm 0),(pP v.ba 0),(pP v.bp 0),(pP v.bf 0)]) O O O call65) (List.Perm.refl _) (λw hw=>ih (al++Cg md d (nv,C.1,C.2.1)) a1.pa a1.ca ho3 (pl++CU (Cg md d (nv,C.1,C.2.1)).length pr) a1.pp a1.cp ho4 (nv,C.2.2,C.1) ⟨hnv,hC.2.2,hC.1⟩ (by simp [CU] at *;omega) (by simp [CU] at *;omega) w w0 (AR b1 105 (Ac C)::LR) hw) (λd hd=>by cases hd<;>exact (Av O)) ?_;intro a2 ⟨ho5,ho6⟩
  exact oNl' (zB (sL [1,2,4,5,6,7,10] O) (E1 (.inr O) O  (λw hw=>⟨rfl,⟨a2.pa,a2.ca,a2.pp,a2.cp⟩,(by rw [show al++Cg md (d+1) C=((al++Cg md d (nv,C.1,C.2.1))++Cg md d (nv,C.2.2,C.1)) from by rw [Ke hys,xw],show pl++CU (Cg md (d+1) C).length pr=((pl++CU (Cg md d (nv,C.1,C.2.1)).length pr)++CU (Cg md d (nv,C.2.2,C.1)).length pr) from by rw [Ke hys,xJ,Kj,xw]];exact ⟨⟨(by simpa using ho5),(by simpa using ho6)⟩,hw.weak (sk (sk (sk (sk (sk (sk (sk (sl sr))))))))⟩)⟩)))
theorem UK (v:dU) (md:List (P2×Nat)) (pr:Nat) (hmd:H3 KD md) (hmv:∀k n,Ap md k=some n->n<4611686018427387904) (hpr:pr<4611686018427387904):SN v md pr 2 :=
 λal pa ca ho1 pl pp cp ho2 C hC hal hpl w w0 LR hW=>R2 v md pr 1 hmd hmv hpr jY (λal pa ca ho1 pl pp cp ho2 C hC hal hpl w w0 LR hW=>R2 v md pr 0 hmd hmv hpr jY (λal pa ca ho1 pl pp cp ho2 C hC hal hpl w w0 LR hW=>YS v md pr hmd hmv hpr al pa ca ho1 pl pp cp ho2 C hC hal hpl w hW) al pa ca ho1 pl pp cp ho2 C hC hal hpl w hW) al pa ca ho1 pl pp cp ho2 C hC hal hpl w hW
end
end Go.Proofs.YtpolhpjiahbidaaGreatDoor
