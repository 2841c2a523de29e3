import Derived.Test.YtfbomiejpbchdaaGreatPart14
namespace Go.Proofs.YtfbomiejpbchdaaGreat
open Go Go.RowKit Go.Proofs.Tryz
set_option linter.unusedVariables false
set_option linter.unusedSimpArgs false
section
theorem Ve {l:List Oper} {ok:Oper} {es:List (Nat×Bool)} (h:(es.all λe=>!e.2||BU ok e.1)=true):(es.all λe=>!e.2||BU ok e.1||KI l e.1)=true :=
  List.all_eq_true.2 λe he=>by rw [List.all_eq_true.1 h e he];rfl
def JC (P:Program) (ops:Array Oper) (Q:Exit->Act->World->Prop) (n:Nat) (w0:BM) (Lro:List As) (K:List (Nat×Value)->List As->Prop) (q:Nat):List (Nat×Bool)->List (Nat×Value)->List As->Prop
  | [],F,L=>∃o,ops[q]?=some o/\AE P ops [o] (PE Q n w0 Lro λF' L'=>Bu P ops Q n w0 Lro K [] F' L') n F w0 L
  | (i,true)::r,F,L=>∃o d v,ops[i]?=some o/\o.dst=some d/\d<n/\Yd P ops n w0 Lro F o v/\JC P ops Q n w0 Lro K q r ((d,v)::F) L
  | (i,false)::r,F,L=>(∃o,ops[q]?=some o/\AE P ops [o] (PE Q n w0 Lro λF' L'=>Bu P ops Q n w0 Lro K ((i,false)::r) F' L') n F w0 L) /\
      ∃o,ops[i]?=some o/\(BU o q=true\/AE P ops [o] (PE Q n w0 Lro λF' L'=>JC P ops Q n w0 Lro K q r F' L') n F w0 L)
def RS (l:List Oper) (q:Nat):List (Nat×Bool)->List Nat->Bool
  | [],D=>match l[q]? with|some o=>o.after.all λe=>!Region.binds .any e||D.contains e.on|none=>false
  | (i,true)::r,D=>(match l[i]? with|some o=>!BU o q|none=>false)&&RS l q r (i::D)
  | (i,false)::r,D=>(r.all λe=>!e.2)&&(match l[q]? with|some o=>o.after.all λe=>!Region.binds .any e||D.contains e.on|none=>false)&&RS l q r (i::D)
section
variable {P:Program} {ops:Array Oper} {Q:Exit->Act->World->Prop} {n:Nat} {w0:BM} {LA LB L L':List As} {F F':List (Nat×Value)} {l:List Oper} {e2:List (Nat×Bool)} {k q:Nat}
theorem YN {o:Oper} (h:BU o q=false):∀e∈o.after,Region.binds .any e=true->e.on≠q:=λe he hb hq=>by
  have:BU o q=true:=by
    unfold BU
    rw [List.any_eq_true]
    exact ⟨e,by simpa using he,by rw [Bool.and_eq_true];exact ⟨hb,by simpa using hq⟩⟩
  rw [h] at this;cases this
theorem F6 {listed:Array Bool} (hcl:EK l.toArray listed):∀(f k i:Nat),Bh l f k i=true->listed.getD k false=true->listed.getD i false=true
  | 0,_,_,h,_=>by cases h
  | f+1,k,i,h,hk=>by
    unfold Bh at h
    cases ho:l[k]? with
    | none=>rw [ho] at h;cases h
    | some o =>
      rw [ho] at h
      simp only [Bool.or_eq_true,List.any_eq_true,Bool.and_eq_true] at h
      have st:∀m,BU o m=true->listed.getD m false=true:=λm hm=>by
        obtain ⟨e,he,hb,rfl⟩:=BF hm
        exact hcl k o hk (by simpa using ho) e he hb
      rcases h with h|⟨m,_,h1,h2⟩
      · exact st i h
      · exact F6 hcl f m i h2 (st m h1)
theorem L4 {listed:Array Bool} (hcl:EK l.toArray listed) {f j i:Nat} (hb:Bh l (f+1) j i=true) (hj:j∈Region.ready .any l.toArray listed):listed.getD i false=true:=by
  obtain ⟨_,oj,hoj,hpre⟩:=mem_ready.1 hj
  have hoj':l[j]?=some oj:=by simpa using hoj
  unfold Bh at hb
  rw [hoj'] at hb
  simp only [Bool.or_eq_true,List.any_eq_true,Bool.and_eq_true] at hb
  have st:∀m,BU oj m=true->listed.getD m false=true:=λm hm=>by
    obtain ⟨e,he,hb,rfl⟩:=BF hm
    exact hpre e he hb
  rcases hb with h|⟨m,_,h1,h2⟩
  · exact st i h
  · exact F6 hcl f m i h2 (st m h1)
theorem ZL {D:List Nat} (h:(match l[q]? with|some o=>o.after.all λe=>!Region.binds .any e||D.contains e.on|none=>false)=true):∃o,l[q]?=some o/\∀e∈o.after,Region.binds .any e=true->e.on∈D:=by
  cases ho:l[q]? with
  | none=>rw [ho] at h;cases h
  | some o =>
    rw [ho] at h
    refine ⟨o,rfl,λe he hb=>?_⟩
    have h1:=Array.all_eq_true_iff_forall_mem.1 h e he
    rw [hb] at h1
    simpa using h1
theorem RT (hsel:Region.noSelect l.toArray=true) (hQ:∀c a d v w,Q (.panic c) (a.put d v) w->Q (.panic c) a w) (hAB:LB.Sublist LA) {ok:Oper} (hok:l[k]?=some ok) (hkq:k≠q) (hkeq:Bh l 5 k q=true) :
    ∀(es:List (Nat×Bool)) (D DQ:List Nat) (p:Option Nat) (listed:Array Bool) (a:Act) (w:World) (F:List (Nat×Value)) (L:List As),
      (∀x,x∈DQ↔x=q\/x∈D)->q ∉ D->RS l q es D=true ->
      (es.all λe=>!e.2||Bh l 4 k e.1)=true->k ∉ DQ->Dp l DQ p (es++(k,false)::e2)=true->Lst l D listed->(∀i,i<l.length->i∈DQ\/(es++(k,false)::e2).any (λe=>e.1 == i)=true)->Wk LA L->Frm n a F->Own w0 w L->JC P l.toArray Q n w0 LA (K_ P l.toArray Q n w0 LB k e2) q es F L ->
      wpAnyS P l.toArray Q (λlisted w=>Own w0 w (if listed.getD k false=true then LB else LA)) (es.length+e2.length+1+1) listed a w:=by
  have nxt:∀(i:Nat) (b:Bool) (r:List (Nat×Bool)) (D:List Nat),(∀j,j<l.length->j∈D\/((i,b)::r).any (λe=>e.1 == j)=true)->∀j,j<l.length->j∈i::D\/r.any (λe=>e.1 == j)=true:=λi b r D hall j hj=>by
    rcases hall j hj with h1|h1
    · exact .inl (List.mem_cons_of_mem _ h1)
    · simp only [List.any_cons,Bool.or_eq_true,beq_iff_eq] at h1
      rcases h1 with h1|h1
      · exact .inl (h1▸List.mem_cons_self)
      · exact .inr h1
  -- the floating one comes now
  have doQ:∀(es:List (Nat×Bool)) (D DQ:List Nat) (p:Option Nat) (listed:Array Bool) (a:Act) (w:World) (F:List (Nat×Value)) (L:List As) (oq:Oper),l[q]?=some oq->(∀e∈oq.after,Region.binds .any e=true->e.on∈D)->(∀x,x∈DQ↔x=q\/x∈D)->q ∉ D ->
      (es.all λe=>!e.2||BU ok e.1)=true->k ∉ DQ->Dp l DQ p (es++(k,false)::e2)=true->Lst l D listed->(∀i,i<l.length->i∈DQ\/(es++(k,false)::e2).any (λe=>e.1 == i)=true)->Frm n a F->Own w0 w L ->
      AE P l.toArray [oq] (PE Q n w0 LA λF' L'=>Bu P l.toArray Q n w0 LA (K_ P l.toArray Q n w0 LB k e2) es F' L') n F w0 L ->
      q∈Region.ready .any l.toArray listed/\wpOp P l.toArray Q q (λa' w'=>Own w0 w' (if (listed.setIfInBounds q true).getD k false=true then LB else LA)/\wpAnyS P l.toArray Q (λlisted w=>Own w0 w (if listed.getD k false=true then LB else LA)) (es.length+e2.length+1) (listed.setIfInBounds q true) a' w') a w:=λes D DQ p listed a w F L oq hoq hpq hDQ hqD hE hkD hc hL hall ha hw h=>by
    have hat:l.toArray[q]?=some oq:=by simpa using hoq
    have hql:q<l.length:=(List.getElem?_eq_some_iff.1 hoq).1
    have hp:∀e∈oq.after,Region.binds .any e=true->listed.getD e.on false=true:=λe he hb=>(hL.mem _).1 (hpq e he hb)
    refine ⟨mem_ready.2 ⟨by rw [CN (by rw [hL.size];exact hql)];exact hL.no hqD,oq,hat,hp⟩,?_⟩
    have hL2:=(hL.add hoq hp).congr (D2:=DQ) (λx=>by rw [hDQ,List.mem_cons])
    refine IB hat (h a w ha hw) λF' L' a' w' h1 h2 h3 h4=>⟨by rw [if_neg (by rw [hL2.no hkD];exact Bool.false_ne_true)];exact h3 _ _ h2,?_⟩
    exact N8 hsel hQ hAB hok es DQ p _ a' w' F' L' (Ve hE) hkD hc hL2 hall h3 h1 h2 h4
  intro es
  induction es with
  | nil =>
    intro D DQ p listed a w F L hDQ hqD hcq hE hkD hc hL hall hro ha hw h
    obtain ⟨o',ho',h⟩:=h
    obtain ⟨oq,hoq,hpq⟩:=ZL hcq
    rw [show l.toArray[q]?=some oq by simpa using hoq] at ho';injection ho' with ho';subst ho'
    obtain ⟨hrd,hdo⟩:=doQ [] D DQ p listed a w F L oq hoq hpq hDQ hqD rfl hkD hc hL hall ha hw h
    refine ⟨λh0=>absurd hrd (by rw [h0];exact List.not_mem_nil),λj hj=>?_⟩
    have hjq:j=q:=by
      simp only [List.nil_append] at hc hall
      obtain ⟨o,hg⟩:=Dd hc
      obtain ⟨h0,oj,hoj,hpre⟩:=mem_ready.1 hj
      have hjl:j<l.length:=by simpa using (Array.getElem?_eq_some_iff.1 hoj).1
      rw [CN (by rw [hL.size];exact hjl)] at h0
      rcases hall j hjl with h1|h1
      · rcases (hDQ j).1 h1 with h1|h1
        · exact h1
        · rw [(hL.mem j).1 h1] at h0;cases h0
      · obtain ⟨e,he,rfl⟩:=Gy h1
        rcases List.mem_cons.1 he with rfl|he
        · have:=L4 (λj oj hj ho e he hb=>hL.cl j oj hj (by simpa using ho) e he hb) hkeq hj
          rw [hL.no hqD] at this;cases this
        · exact absurd hj (Du hL.cl hg.tl (hL.no λhd=>hg.nin ((hDQ _).2 (.inr hd))) (λe he=>hL.no λhd=>(DS hg.tl e he).1 (List.mem_cons_of_mem _ ((hDQ _).2 (.inr hd)))) e he)
    subst hjq
    exact hdo
  | cons e r ih =>
    intro D DQ p listed a w F L hDQ hqD hcq hE hkD hc hL hall hro ha hw h
    obtain ⟨i,b⟩:=e
    have hc0:=hc
    have hall0:=hall
    rw [List.cons_append] at hc hall
    obtain ⟨o,hg⟩:=Dd hc
    have hat:l.toArray[i]?=some o:=by simpa using hg.at_
    have hil:i<l.length:=(List.getElem?_eq_some_iff.1 hg.at_).1
    have hiq:i≠q:=λe=>hg.nin ((hDQ i).2 (.inl e))
    have hiD:i ∉ D:=λh=>hg.nin ((hDQ i).2 (.inr h))
    have hki:k≠i:=λe=>(DS hg.tl (k,false) (List.mem_append_right _ List.mem_cons_self)).1 (e▸List.mem_cons_self)
    have hkD':k ∉ i::DQ:=λh=>(List.mem_cons.1 h).elim hki hkD
    have hE':(r.all λe=>!e.2||Bh l 4 k e.1)=true:=by rw [List.all_cons,Bool.and_eq_true] at hE;exact hE.2
    have hDQ':∀x,x∈i::DQ↔x=q\/x∈i::D:=λx=>by rw [List.mem_cons,List.mem_cons,hDQ];constructor<;>(rintro (h|h|h)<;>simp [h])
    have hqD':q ∉ i::D:=λh=>(List.mem_cons.1 h).elim (λe=>hiq e.symm) hqD
    have hkDD:k ∉ D:=λh=>hkD ((hDQ k).2 (.inr h))
    have hnk:listed.getD k false=false:=hL.no hkDD
    rw [show ((i,b)::r).length+e2.length+1+1=r.length+e2.length+1+1+1 by simp only [List.length_cons];omega]
    cases b with
    | true =>
      have hcq:((match l[i]? with|some o=>!BU o q|none=>false)&&RS l q r (i::D))=true:=hcq
      rw [hg.at_,Bool.and_eq_true] at hcq
      have hnq:=YN (q:=q) (by simpa using hcq.1)
      have hp:∀e∈o.after,Region.binds .any e=true->listed.getD e.on false=true:=λe he hb=>(hL.mem _).1 (((hDQ _).1 (hg.pre e he hb)).resolve_left (hnq e he hb))
      have hrd:i∈Region.ready .any l.toArray listed:=mem_ready.2 ⟨by rw [CN (by rw [hL.size];exact hil)];exact hL.no hiD,o,hat,hp⟩
      obtain ⟨o',d,v,ho',hd,hdn,hy,hn⟩:=h
      rw [hat] at ho';injection ho' with ho';subst ho'
      have hyield:YieldsIf P l.toArray (λw=>Own w0 w LA) o v a:=by
        rcases hy with ⟨h1,h2⟩|⟨h1,h2⟩
        · exact .inl ⟨h1 a ha,λw hW=>h2 a w ha hW⟩
        · exact .inr ⟨h1 a ha,h2⟩
      have hedge:Bh l 4 k i=true:=by
        rw [List.all_cons,Bool.and_eq_true] at hE
        simpa using hE.1
      refine F7 hat (Region.noSelect_spec hsel) (λc a w=>Ye hQ c a o.dst v w) (T:=λw=>Own w0 w LA) (λl' w hcl hr hS=>?_) (λl' w=>?_) _ listed a w (GR hL hg.at_ (hg.fr O) hp) hrd hyield ?_ (λj oj hj ho e he hb=>hL.cl j oj hj (by simpa using ho) e he hb) ?_
      · have hkf:¬l'.getD k false=true:=λhk=>by
          have h1:=F6 hcl 4 k i hedge hk
          obtain ⟨h0,_⟩:=mem_ready.1 hr
          rcases Nat.lt_or_ge i l'.size with h5|h5
          · rw [CN h5] at h0;rw [h0] at h1;cases h1
          · simp [Array.getElem?_eq_none h5] at h1
        have hS:Own w0 w (if l'.getD k false=true then LB else LA):=hS
        rw [if_neg hkf] at hS;exact hS
      · show Own _ _ (ite _ _ _)↔Own _ _ (ite _ _ _);rw [getD_set_ne false (Ne.symm hki)]
      · show Own _ _ (ite _ _ _);rw [if_neg (by rw [hnk];exact Bool.false_ne_true)];exact hro _ _ hw
      · exact ih (i::D) (i::DQ) p _ _ w ((d,v)::F) L hDQ' hqD' hcq.2 hE' hkD' hg.tl (hL.add hg.at_ hp) (nxt i true _ DQ hall) hro (by rw [hd];exact ha.put hdn) hw hn
    | false =>
      have hcq:((r.all λe=>!e.2)&&(match l[q]? with|some o=>o.after.all λe=>!Region.binds .any e||D.contains e.on|none=>false)&&RS l q r (i::D))=true:=hcq
      rw [Bool.and_eq_true,Bool.and_eq_true] at hcq
      obtain ⟨oq,hoq,hpq⟩:=ZL hcq.1.2
      have hEi:(((i,false)::r).all λe=>!e.2||BU ok e.1)=true:=by
        rw [List.all_cons,Bool.and_eq_true]
        exact ⟨rfl,List.all_eq_true.2 λe he=>by rw [List.all_eq_true.1 hcq.1.1 e he];rfl⟩
      obtain ⟨⟨o1,ho1,hA⟩,⟨o',ho',hB⟩⟩:=h
      rw [show l.toArray[q]?=some oq by simpa using hoq] at ho1;injection ho1 with ho1;subst ho1
      rw [hat] at ho';injection ho' with ho';subst ho'
      obtain ⟨hrd,hdo⟩:=doQ ((i,false)::r) D DQ p listed a w F L oq hoq hpq hDQ hqD hEi hkD hc0 hL hall0 ha hw hA
      refine ⟨λh0=>absurd hrd (by rw [h0];exact List.not_mem_nil),λj hj=>?_⟩
      obtain ⟨h0,oj,hoj,hpre⟩:=mem_ready.1 hj
      have hjl:j<l.length:=by simpa using (Array.getElem?_eq_some_iff.1 hoj).1
      rw [CN (by rw [hL.size];exact hjl)] at h0
      rcases hall j hjl with h1|h1
      · rcases (hDQ j).1 h1 with h1|h1
        · subst h1
          rw [show ((i,false)::r).length+e2.length+1=r.length+e2.length+1+1 by simp only [List.length_cons];omega] at hdo
          exact hdo
        · rw [(hL.mem j).1 h1] at h0;cases h0
      · obtain ⟨e,he,rfl⟩:=Gy h1
        rcases List.mem_cons.1 he with rfl|he
        · rw [hat] at hoj;injection hoj with hoj;subst hoj
          rcases hB with hB|hB
          · obtain ⟨e,he,hb,hq⟩:=BF hB
            have:=hpre e he hb
            rw [hq,hL.no hqD] at this;cases this
          · have hp:∀e∈o.after,Region.binds .any e=true->listed.getD e.on false=true:=hpre
            have hL2:=hL.add hg.at_ hp
            refine IB hat (hB a w ha hw) λF' L' a' w' h1 h2 h3 h4=>⟨by show Own _ _ (ite _ _ _);rw [if_neg (by rw [hL2.no (λh=>(List.mem_cons.1 h).elim hki hkDD)];exact Bool.false_ne_true)];exact h3 _ _ h2,?_⟩
            exact ih (i::D) (i::DQ) (some i) _ a' w' F' L' hDQ' hqD' hcq.2 hE' hkD' hg.tl hL2 (nxt i false _ DQ hall) h3 h1 h2 h4
        · exact absurd hj (Du hL.cl hg.tl (hL.no hiD) (λe he=>hL.no λhd=>(DS hg.tl e he).1 (List.mem_cons_of_mem _ ((hDQ _).2 (.inr hd)))) e he)
theorem LZ {S:Array Bool->World->Prop} {T:World->Prop} {i:Nat} {oi:Oper} {v:Value} (hi:ops[i]?=some oi) (hsel:∀(j:Nat) (o:Oper) cs b,ops[j]?=some o->o.op≠.select cs b) (hQ:∀c a w,Q (.panic c) (a.put oi.dst v) w->Q (.panic c) a w)
    (hT:∀listed w,EK ops listed->i∈Region.ready .any ops listed->S listed w->T w) (hS:∀listed w,S (listed.setIfInBounds i true) w↔S listed w)
    (hfree:∀(listed:Array Bool) (j:Nat) (oj:Oper),EK ops listed->i∈Region.ready .any ops listed->j∈Region.ready .any ops listed->j≠i->ops[j]?=some oj->oi.apart ops oj=true) :
    ∀(fuel:Nat) (listed:Array Bool) (a:Act) (w:World),
      i∈Region.ready .any ops listed->YieldsIf P ops T oi v a->S listed w->EK ops listed ->
      wpAnyS P ops Q S fuel (listed.setIfInBounds i true) (a.put oi.dst v) w->wpAnyS P ops Q S (fuel+1) listed a w:=by
  intro fuel
  induction fuel with
  | zero =>
    intro listed a w hr hy hw hcl H
    refine ⟨λh=>(by rw [h] at hr;cases hr),λj hj=>?_⟩
    by_cases hji:j=i
    · subst hji;exact hy.wpOp hi (hT listed w hcl hr hw) ⟨(hS _ _).2 hw,H⟩
    · have:=ready_mono hj hji
      rw [H.1] at this
      cases this
  | succ fuel ih =>
    intro listed a w hr hy hw hcl H
    refine ⟨λh=>(by rw [h] at hr;cases hr),λj hj=>?_⟩
    by_cases hji:j=i
    · subst hji;exact hy.wpOp hi (hT listed w hcl hr hw) ⟨(hS _ _).2 hw,H⟩
    · have h1:=H.2 j (ready_mono hj hji)
      obtain ⟨hjun,oj,hoj,hall⟩:=mem_ready.1 hj
      have h2:=wpOp_putIf hoj (hfree listed j oj hcl hr hj hji hoj) (λcs b=>hsel i oi cs b hi) (λcs b=>hsel j oj cs b hoj) hQ hy h1
      refine wpOp_mono (λa' w' h3=>?_) h2
      obtain ⟨h4,h5,h6⟩:=h3
      rw [Array.setIfInBounds_comm _ _ (Ne.symm hji)] at h5 h6
      have h7:=(hS _ _).1 h5
      exact ⟨h7,ih (listed.setIfInBounds j true) a' w' (ready_mono hr (Ne.symm hji)) h4 h7 (hcl.set hj) h6⟩
def Ys (l:List Oper) (i:Nat) (o:Oper):Bool:=(List.range l.length).all λj=>j == i||match l[j]? with
  | some oj=>BU o j||Bh l 5 j i||o.apart l.toArray oj
  | none=>true
def chkP (l:List Oper) (q k:Nat):List Nat->List Nat->Bool
  | [],_=>true
  | i::r,D=>(match l[i]? with|some o=>(o.after.all λe=>!Region.binds .any e||D.contains e.on)&&Ys l i o|none=>false)&&!D.contains i&&!Nat.beq i q&&!Nat.beq i k&&Bh l 4 k i&&chkP l q k r (i::D)
theorem Jw {listed:Array Bool} {i:Nat} (h:i∈Region.ready .any l.toArray listed):listed.getD i false=false:=by
  obtain ⟨h0,_⟩:=mem_ready.1 h
  rcases Nat.lt_or_ge i listed.size with h5|h5
  · rw [CN h5] at h0;exact h0
  · simp [Array.getElem?_eq_none h5]
def OkP (P:Program) (ops:Array Oper) (n:Nat) (w0:BM) (LA:List As) (K:List (Nat×Value)->List As->Prop):List Nat->List (Nat×Value)->List As->Prop
  | [],F,L=>K F L
  | i::r,F,L=>∃o d v,ops[i]?=some o/\o.dst=some d/\d<n/\Yd P ops n w0 LA F o v/\OkP P ops n w0 LA K r ((d,v)::F) L
theorem TV (hsel:Region.noSelect l.toArray=true) (hQ:∀c a d v w,Q (.panic c) (a.put d v) w->Q (.panic c) a w) {K:List (Nat×Value)->List As->Prop} {m:Nat} {Dend:List Nat}
    (hK:∀(D:List Nat) (listed:Array Bool) (a:Act) (w:World) (F:List (Nat×Value)) (L:List As),D=Dend->Lst l D listed->Wk LA L->Frm n a F->Own w0 w L->K F L->wpAnyS P l.toArray Q (λlisted w=>Own w0 w (if listed.getD k false=true then LB else LA)) m listed a w) :
    ∀(e0 D:List Nat) (listed:Array Bool) (a:Act) (w:World) (F:List (Nat×Value)) (L:List As),Dend=e0.reverse++D->chkP l q k e0 D=true->k ∉ D->Lst l D listed->Wk LA L->Frm n a F->Own w0 w L->OkP P l.toArray n w0 LA K e0 F L ->
      wpAnyS P l.toArray Q (λlisted w=>Own w0 w (if listed.getD k false=true then LB else LA)) (e0.length+m) listed a w
  | [],D,listed,a,w,F,L,hD,hc,hk,hL,hro,ha,hw,h=>by
    rw [List.length_nil,Nat.zero_add]
    exact hK D listed a w F L hD.symm hL hro ha hw h
  | i::r,D,listed,a,w,F,L,hD,hc,hkD,hL,hro,ha,hw,h=>by
    obtain ⟨o,d,v,ho,hd,hdn,hy,hn⟩:=h
    have hol:l[i]?=some o:=by simpa using ho
    unfold chkP at hc
    rw [hol] at hc
    simp only [Bool.and_eq_true,Bool.not_eq_true'] at hc
    obtain ⟨⟨⟨⟨⟨⟨h1,h2⟩,h3⟩,h4⟩,h5⟩,h6⟩,h7⟩:=hc
    have hil:i<l.length:=(List.getElem?_eq_some_iff.1 hol).1
    have hiD:i ∉ D:=λhm=>by rw [List.contains_iff_mem.2 hm] at h3;cases h3
    have hki:k≠i:=λe=>by rw [e] at h5;simp at h5
    have hp:∀e∈o.after,Region.binds .any e=true->listed.getD e.on false=true:=λe he hb=>(hL.mem _).1 (by
      have h8:=Array.all_eq_true_iff_forall_mem.1 h1 e he
      rw [hb] at h8
      simpa using h8)
    have hrd:i∈Region.ready .any l.toArray listed:=mem_ready.2 ⟨by rw [CN (by rw [hL.size];exact hil)];exact hL.no hiD,o,ho,hp⟩
    have hyield:YieldsIf P l.toArray (λw=>Own w0 w LA) o v a:=by
      rcases hy with ⟨h1,h2⟩|⟨h1,h2⟩
      · exact .inl ⟨h1 a ha,λw hW=>h2 a w ha hW⟩
      · exact .inr ⟨h1 a ha,h2⟩
    have hnk:listed.getD k false=false:=hL.no hkD
    rw [show (i::r).length+m=r.length+m+1 by simp only [List.length_cons];omega]
    refine LZ ho (Region.noSelect_spec hsel) (λc a w=>Ye hQ c a o.dst v w) (T:=λw=>Own w0 w LA) (λl' w hcl hr hS=>?_) (λl' w=>?_) (λl' j oj hcl hr hj hji hoj=>?_) _ listed a w hrd hyield ?_ (λj oj hj ho e he hb=>hL.cl j oj hj (by simpa using ho) e he hb) ?_
    · have hkf:¬l'.getD k false=true:=λhk=>by
        have h9:=F6 hcl 4 k i h6 hk
        rw [Jw hr] at h9;cases h9
      have hS:Own w0 w (if l'.getD k false=true then LB else LA):=hS
      rw [if_neg hkf] at hS;exact hS
    · show Own _ _ (ite _ _ _)↔Own _ _ (ite _ _ _);rw [getD_set_ne false (Ne.symm hki)]
    · have hjl:j<l.length:=by simpa using (Array.getElem?_eq_some_iff.1 hoj).1
      have h8:=List.all_eq_true.1 h2 j (List.mem_range.2 hjl)
      rw [show l[j]?=some oj by simpa using hoj] at h8
      simp only [Bool.or_eq_true,beq_iff_eq] at h8
      rcases h8 with h8|(h8|h8)|h8
      · exact absurd h8 hji
      · obtain ⟨e,he,hb,rfl⟩:=BF h8
        obtain ⟨_,o2,ho2,hpre⟩:=mem_ready.1 hr
        rw [ho] at ho2;injection ho2 with ho2;subst ho2
        have:=hpre e he hb
        rw [Jw hj] at this;cases this
      · have:=L4 hcl h8 hj
        rw [Jw hr] at this;cases this
      · exact h8
    · show Own _ _ (ite _ _ _);rw [if_neg (by rw [hnk];exact Bool.false_ne_true)];exact hro _ _ hw
    · exact TV hsel hQ hK r (i::D) _ _ w ((d,v)::F) L (by rw [hD,List.reverse_cons,List.append_assoc];rfl) h7 (λh=>(List.mem_cons.1 h).elim hki hkD) (hL.add hol hp) hro (by rw [hd];exact ha.put hdn) hw hn
def QU (l:List Oper) (q:Nat) (e0:List Nat) (e1:List (Nat×Bool)) (k:Nat) (e2:List (Nat×Bool)):Bool :=
  chkP l q k e0 []&&Dp l (q::e0.reverse) none (e1++(k,false)::e2)&&RS l q e1 e0.reverse&&Ma l (q::e0.reverse) (e1++(k,false)::e2)&&Nat.beq (e0.length+e1.length+e2.length+2) l.length&&Region.noSelect l.toArray&&(match l[k]? with|some o=>Bh l 5 k q&&e1.all λe=>!e.2||Bh l 4 k e.1|none=>false)&&!(q::e0.reverse).contains k&&!e0.reverse.contains q
theorem Zj {id:Nat} (q:Nat) (e0:List Nat) (e1:List (Nat×Bool)) (k:Nat) (e2:List (Nat×Bool)) (hA:LA.Sublist L) (hAB:LB.Sublist LA) (hc:QU l q e0 e1 k e2=true) (hQ:∀c a d v w,Q (.panic c) (a.put d v) w->Q (.panic c) a w)
    (h:OkP prog l.toArray n w0 LA (λF L=>JC prog l.toArray Q n w0 LA (K_ prog l.toArray Q n w0 LB k e2) q e1 F L) e0 F L):AF prog (.region id l.toArray true) Q n F w0 L:=λa w ha hw=>by
  simp only [QU,Bool.and_eq_true] at hc
  obtain ⟨⟨⟨⟨⟨⟨⟨⟨h0,h1⟩,h2⟩,h3⟩,h4⟩,h5⟩,h6⟩,h7⟩,h8⟩:=hc
  have hlen:=Nat.eq_of_beq_eq_true h4
  cases hok:l[k]? with
  | none=>simp [hok] at h6
  | some ok =>
    simp only [hok,Bool.and_eq_true] at h6
    have hkD:k ∉ q::e0.reverse:=λh=>by rw [List.contains_iff_mem.2 h] at h7;cases h7
    have hqD:q ∉ e0.reverse:=λh=>by rw [List.contains_iff_mem.2 h] at h8;cases h8
    have hkq:k≠q:=λe=>hkD (e▸List.mem_cons_self)
    refine wp_region_any EM (Hc (S:=λlisted w=>Own w0 w (if listed.getD k false=true then LB else LA)) _ _ _ _ ?_)
    rw [show l.toArray.size=e0.length+(e1.length+e2.length+1+1) by rw [show e0.length+(e1.length+e2.length+1+1)=l.length by omega];simp]
    have hst:=Gx (l:=l)
    rw [show l.length=e0.length+(e1.length+e2.length+1+1) by omega] at hst
    refine TV (q:=q) (Dend:=e0.reverse) h5 hQ (λD listed a w F L hD hL hro ha hw h=>?_) e0 [] _ a w.drew F L (by simp) h0 (by simp) hst (Wk.of hA) ha hw.drew h
    subst hD
    refine RT h5 hQ hAB hok hkq h6.1 e1 _ (q::e0.reverse) none _ a w F L (λx=>List.mem_cons) hqD h2 h6.2 hkD h1 hL (λi hi=>?_) hro ha hw h
    have:=List.all_eq_true.1 h3 i (List.mem_range.2 hi)
    simpa using this
theorem OkP.pas {K2:List (Nat×Value)->List As->Prop} {r:List Nat} {i d:Nat} {v:Value} {o:Oper} (ho:ops[i]?=some o) (hw:Wt ops n F o) (he:Ex P n F w0 LA o v) (hd:o.dst=some d) (hn:Nat.ble (d+1) n=true) (next:OkP P ops n w0 LA K2 r ((d,v)::F) L):OkP P ops n w0 LA K2 (i::r) F L:=⟨o,d,v,ho,hd,Nat.le_of_ble_eq_true hn,.inl ⟨hw,he⟩,next⟩
theorem OkP.nil {K2:List (Nat×Value)->List As->Prop} (h:K2 F L):OkP P ops n w0 LA K2 [] F L:=h
variable {r:List (Nat×Bool)} {i d:Nat} {v:Value} {o oq:Oper} {K:List (Nat×Value)->List As->Prop}
theorem JC.pas (ho:ops[i]?=some o) (hw:Wt ops n F o) (he:Ex P n F w0 LA o v) (hd:o.dst=some d) (hn:Nat.ble (d+1) n=true) (next:JC P ops Q n w0 LA K q r ((d,v)::F) L):JC P ops Q n w0 LA K q ((i,true)::r) F L:=⟨o,d,v,ho,hd,Nat.le_of_ble_eq_true hn,.inl ⟨hw,he⟩,next⟩
theorem JC.two (hoq:ops[q]?=some oq) (ho:ops[i]?=some o) (hq:AE P ops [oq] (PE Q n w0 LA λF' L'=>Bu P ops Q n w0 LA K ((i,false)::r) F' L') n F w0 L) (h:AE P ops [o] (PE Q n w0 LA λF' L'=>JC P ops Q n w0 LA K q r F' L') n F w0 L):JC P ops Q n w0 LA K q ((i,false)::r) F L:=⟨⟨oq,hoq,hq⟩,o,ho,.inr h⟩
theorem JC.one (hoq:ops[q]?=some oq) (ho:ops[i]?=some o) (he:BU o q=true) (hq:AE P ops [oq] (PE Q n w0 LA λF' L'=>Bu P ops Q n w0 LA K ((i,false)::r) F' L') n F w0 L):JC P ops Q n w0 LA K q ((i,false)::r) F L:=⟨⟨oq,hoq,hq⟩,o,ho,.inl he⟩
theorem JC.back (hro:LA.Sublist L') (h:JC P ops Q n w0 LA K q r F' L'):AE P ops [] (PE Q n w0 LA λF' L'=>JC P ops Q n w0 LA K q r F' L') n F' w0 L':=AE.nil λa w ha hw=>⟨F',L',ha,hw,Wk.of hro,h⟩
end
end
end Go.Proofs.YtfbomiejpbchdaaGreat
