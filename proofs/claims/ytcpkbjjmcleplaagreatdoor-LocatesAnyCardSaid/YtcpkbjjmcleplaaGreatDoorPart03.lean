import Derived.Test.YtcpkbjjmcleplaaGreatDoorPart02
namespace Go.Proofs.YtcpkbjjmcleplaaGreatDoor
open Go Go.RowKit Go.Proofs.Tryz
open Go.Value renaming slice→qz,bool→qa
set_option linter.unusedVariables false
set_option linter.unusedSimpArgs false
section
def VD (l:List Oper) (i:Nat) (o:Oper):Bool:=(List.range l.length).all λk=>k == i||match l[k]? with
  | some ok=>B_ o k||B_ ok i||o.apart l.toArray ok
  | none=>true
def eF (l:List Oper):Nat:=bif Nat.ble 45 l.length then 8 else 4
def Df (l:List Oper):List Nat->Option Nat->List (Nat×Bool)->Bool
  | _,_,[]=>true
  | D,p,(i,k)::r=>(match l[i]? with
      | some o=>(o.after.all λe=>!Region.binds .any e||D.contains e.on)&&(match p with|some q=>CV l (eF l) i q|none=>true)&&(!k||VD l i o)&&!D.contains i
      | none=>false)&&Df l (i::D) (if k then p else some i) r
def NS (l:List Oper) (D:List Nat) (es:List (Nat×Bool)):Bool:=(List.range l.length).all λi=>D.contains i||es.any λe=>e.1 == i
def XX (l:List Oper) (es:List (Nat×Bool)):Bool:=Df l [] none es&&NS l [] es&&Nat.beq es.length l.length&&Region.noSelect l.toArray
section
variable {P:Program} {ops:Array Oper} {Q:Exit->Act->World->Prop} {n:Nat} {w0:Av} {Lro L L':List As} {F F':List (Nat×Value)} {l:List Oper}
theorem fh {o:Oper} {a:Act} {w:World} {K K':Act->World->Prop} {Q':Exit->Act->World->Prop} (h:∀a w,K a w->K' a w) (hp:∀c a w,Q (.panic c) a w->Q' (.panic c) a w) (hl:LetsOut Q->LetsOut Q') (hh:o.wp P a w K Q):o.wp P a w K' Q':=by
  unfold Oper.wp at *
  generalize (execOp a.eval o).run P w=r at *
  cases r with
  | ok n w' =>
    cases n<;>simp only [Oper.upon] at hh ⊢ <;>
      first
        | exact h _ _ hh
        | exact Calls.mono hh (λe w'' he=>by cases e<;>first|exact h _ _ he|exact hp _ _ _ he|exact hl he)
        | exact Rows.mono hh (λ_ _ he=>h _ _ he)
  | halt x w'=>cases x<;>simp only [Oper.upon] at hh ⊢<;>first|exact hp _ _ _ hh|exact hl hh|exact hh
def dl (P:Program) (ops:Array Oper) (n:Nat) (w0:Av) (Lro:List As) (F:List (Nat×Value)) (o:Oper) (v:Value):Prop :=
  (Wt ops n F o/\Ex P n F w0 Lro o v)\/((∀a,CP n a F->Region.wanted o (yielded ops a.tmps)=false)/\v=undef)
def Wk (Lro L:List As):Prop:=∀(w0:Av) (w:World),A6 w0 w L->A6 w0 w Lro
theorem Wk.of {Lro L:List As} (h:Lro.Sublist L):Wk Lro L:=λ_ _ hw=>hw.weak h
def PE (Q:Exit->Act->World->Prop) (n:Nat) (w0:Av) (Lro:List As) (K:List (Nat×Value)->List As->Prop):Exit->Act->World->Prop
  | .normal,a,w=>∃F' L',CP n a F'/\A6 w0 w L'/\Wk Lro L'/\K F' L'
  | e,a,w=>Q e a w
def OkE (P:Program) (ops:Array Oper) (Q:Exit->Act->World->Prop) (n:Nat) (w0:Av) (Lro:List As):List (Nat×Bool)->List (Nat×Value)->List As->Prop
  | [],F,L=>OkQ Q .normal n F w0 L
  | (i,true)::r,F,L=>∃o d v,ops[i]?=some o/\o.dst=some d/\d<n/\dl P ops n w0 Lro F o v/\OkE P ops Q n w0 Lro r ((d,v)::F) L
  | (i,false)::r,F,L=>∃o,ops[i]?=some o/\AO P ops [o] (PE Q n w0 Lro λF' L'=>OkE P ops Q n w0 Lro r F' L') n F w0 L
def G7 (P:Program) (ops:Array Oper) (Q:Exit->Act->World->Prop) (n:Nat) (w0:Av) (Lro:List As) (j:Nat) (e2:List (Nat×Bool)):List (Nat×Bool)->List (Nat×Value)->List As->Prop
  | [],F,L=>∃o,ops[j]?=some o/\AO P ops [o] (PE Q n w0 Lro λF' L'=>OkE P ops Q n w0 Lro e2 F' L') n F w0 L
  | (i,true)::r,F,L=>∃o d v,ops[i]?=some o/\o.dst=some d/\d<n/\dl P ops n w0 Lro F o v/\G7 P ops Q n w0 Lro j e2 r ((d,v)::F) L
  | (i,false)::r,F,L=>(∃o,ops[i]?=some o/\AO P ops [o] (PE Q n w0 Lro λF' L'=>G7 P ops Q n w0 Lro j e2 r F' L') n F w0 L) /\
      ∃o,ops[j]?=some o/\AO P ops [o] (PE Q n w0 Lro λF' L'=>OkE P ops Q n w0 Lro ((i,false)::r++e2) F' L') n F w0 L
theorem Hs {i:Nat} {o:Oper} {K:List (Nat×Value)->List As->Prop} {K':Act->World->Prop} {a:Act} {w:World} (hi:ops[i]?=some o) (h:wpList P ops (PE Q n w0 Lro K) [o] a w)
    (hK:∀F' L' a' w',CP n a' F'->A6 w0 w' L'->Wk Lro L'->K F' L'->K' a' w'):wpOp P ops Q i K' a w:=by
  unfold wpOp
  simp only [hi]
  unfold wpList at h
  have go:∀a' w',wpList P ops (PE Q n w0 Lro K) [] a' w'->K' a' w':=λa' w' h=>by
    obtain ⟨F',L',h1,h2,h3,h4⟩:=(show PE Q n w0 Lro K .normal a' w' from h)
    exact hK F' L' a' w' h1 h2 h3 h4
  split
  · rename_i hw
    rw [if_pos hw] at h
    rcases h with h|h
    · exact .inl (fh go (λ_ _ _ h=>h) (λh=>h) h)
    · exact .inr h
  · rename_i hw
    rw [if_neg hw] at h
    exact go _ _ h
theorem Hy {listed:Array Bool} (hcl:∀(j:Nat) (o:Oper),listed.getD j false=true->l[j]?=some o->∀e∈o.after,Region.binds .any e=true->listed.getD e.on false=true) :
    ∀(f i j:Nat) (o:Oper),CV l f i j=true->l[i]?=some o->(∀e∈o.after,Region.binds .any e=true->listed.getD e.on false=true)->listed.getD j false=true
  | 0,i,j,o,h,_,_=>by simp [CV] at h
  | f+1,i,j,o,h,ho,hp=>by
    unfold CV at h
    simp only [ho,xY] at h
    rcases h with h|h
    · obtain ⟨e,he,hb,rfl⟩:=BA h
      exact hp e he hb
    · obtain ⟨k,hk,h⟩:=List.any_eq_true.1 h
      simp only [xZ] at h
      obtain ⟨e,he,hb,rfl⟩:=BA h.1
      have hl:=hp e he hb
      have hk':e.on<l.length:=List.mem_range.1 hk
      have ho':l[e.on]?=some l[e.on]:=xN hk'
      exact Hy hcl f e.on j _ h.2 ho' (λe' he' hb'=>hcl _ _ hl ho' e' he' hb')
structure d8 (l:List Oper) (D:List Nat) (p:Option Nat) (i:Nat) (k:Bool) (r:List (Nat×Bool)) (o:Oper):Prop where
  at_:l[i]?=some o
  pre:∀e∈o.after,Region.binds .any e=true->e.on∈D
  bef:∀q,p=some q->CV l (eF l) i q=true
  fr:k=true->VD l i o=true
  nin:i ∉ D
  tl:Df l (i::D) (if k then p else some i) r=true
theorem DO {D:List Nat} {p:Option Nat} {i:Nat} {k:Bool} {r:List (Nat×Bool)} (h:Df l D p ((i,k)::r)=true):∃o,d8 l D p i k r o:=by
  unfold Df at h
  rw [xZ] at h
  obtain ⟨h1,h2⟩:=h
  cases ho:l[i]? with
  | none=>simp [ho] at h1
  | some o =>
    simp only [ho,xZ] at h1
    obtain ⟨⟨⟨h3,h4⟩,h5⟩,h6⟩:=h1
    refine ⟨o,ho,λe he hb=>?_,λq hq=>?_,λhk=>?_,by simpa using h6,h2⟩
    · have:=Array.all_eq_true_iff_forall_mem.1 h3 e he
      simpa [hb] using this
    · subst hq;exact h4
    · subst hk;simpa using h5
theorem D9:∀{es:List (Nat×Bool)} {D:List Nat} {p:Option Nat},Df l D p es=true->∀e∈es,e.1 ∉ D/\e.1<l.length
  | [],_,_,_,e,he=>by cases he
  | (i,k)::r,D,p,h,e,he=>by
    obtain ⟨o,hg⟩:=DO h
    rcases xL.1 he with rfl|he
    · exact ⟨hg.nin,(List.getElem?_eq_some_iff.1 hg.at_).1⟩
    · have:=D9 hg.tl e he
      exact ⟨λhd=>this.1 (List.mem_cons_of_mem _ hd),this.2⟩
theorem EQ {listed:Array Bool} (hcl:∀(j:Nat) (o:Oper),listed.getD j false=true->l[j]?=some o->∀e∈o.after,Region.binds .any e=true->listed.getD e.on false=true) :
    ∀{es:List (Nat×Bool)} {D:List Nat} {p:Nat},Df l D (some p) es=true->listed.getD p false=false->(∀e∈es,listed.getD e.1 false=false)->∀e∈es,e.1 ∉ Region.ready .any l.toArray listed
  | [],_,_,_,_,_,e,he=>by cases he
  | (i,k)::r,D,p,h,hp,hu,e,he=>by
    obtain ⟨o,hg⟩:=DO h
    rcases xL.1 he with rfl|he2
    · intro hr
      obtain ⟨_,o',ho',hall⟩:=mem_ready.1 hr
      have:=Hy hcl (eF l) i p o' (hg.bef p rfl) (by simpa using ho') hall
      rw [hp] at this;cases this
    · have hu':∀e∈r,listed.getD e.1 false=false:=λe he=>hu e (List.mem_cons_of_mem _ he)
      have htl:=hg.tl
      cases k with
      | true=>exact EQ hcl htl hp hu' e he2
      | false=>exact EQ hcl htl (hu (i,false) List.mem_cons_self) hu' e he2
structure Me (l:List Oper) (D:List Nat) (listed:Array Bool):Prop where
  size:listed.size=l.length
  mem:∀i,i∈D↔listed.getD i false=true
  cl:∀(j:Nat) (o:Oper),listed.getD j false=true->l[j]?=some o->∀e∈o.after,Region.binds .any e=true->listed.getD e.on false=true
theorem Me.no {D:List Nat} {listed:Array Bool} (h:Me l D listed) {i:Nat} (hn:i ∉ D):listed.getD i false=false:=by
  cases hx:listed.getD i false with
  | false=>rfl
  | true=>exact absurd ((h.mem i).2 hx) hn
theorem Ck {listed:Array Bool} {i:Nat} (hi:i<listed.size):listed.getD i true=listed.getD i false:=by simp [hi]
theorem Me.add {D:List Nat} {listed:Array Bool} (h:Me l D listed) {i:Nat} {o:Oper} (ho:l[i]?=some o) (hp:∀e∈o.after,Region.binds .any e=true->listed.getD e.on false=true):Me l (i::D) (listed.setIfInBounds i true):=by
  have hil:i<l.length:=(List.getElem?_eq_some_iff.1 ho).1
  have his:i<listed.size:=by rw [h.size];exact hil
  refine ⟨by simpa using h.size,λk=>?_,λj o' hj ho' e he hb=>?_⟩
  · rw [Dg _ _ _ _ his]
    by_cases e:i=k
    · subst e;simp
    · rw [if_neg e,<-h.mem k]
      exact ⟨λhm=>(xL.1 hm).elim (λe2=>absurd e2.symm e) id,List.mem_cons_of_mem _⟩
  · rw [Dg _ _ _ _ his] at hj ⊢
    have:listed.getD e.on false=true:=by
      by_cases e1:i=j
      · subst e1
        rw [ho] at ho';injection ho' with ho';subst ho'
        exact hp e he hb
      · rw [if_neg e1] at hj
        exact h.cl j o' hj ho' e he hb
    split
    · rfl
    · exact this
theorem HL {D:List Nat} {listed:Array Bool} (hL:Me l D listed) {i:Nat} {o:Oper} (ho:l[i]?=some o) (hf:VD l i o=true) (hp:∀e∈o.after,Region.binds .any e=true->listed.getD e.on false=true) (j:Nat) (oj:Oper) (hj:l.toArray[j]?=some oj) (hne:j≠i) (hun:listed.getD j true=false) (hno:∀e∈oj.after,Region.binds .any e=true->e.on≠i) :
    o.apart l.toArray oj=true:=by
  have hj':l[j]?=some oj:=by simpa using hj
  have hjl:j<l.length:=(List.getElem?_eq_some_iff.1 hj').1
  have h1:=List.all_eq_true.1 hf j (List.mem_range.2 hjl)
  simp only [hj',xY,beq_iff_eq,hne,false_or] at h1
  rcases h1 with (h1|h1)|h1
  · obtain ⟨e,he,hb,rfl⟩:=BA h1
    have:=hp e he hb
    rw [Ck (by rw [hL.size];exact hjl)] at hun
    rw [hun] at this;cases this
  · obtain ⟨e,he,hb,h2⟩:=BA h1
    exact absurd h2 (hno e he hb)
  · exact h1
theorem Te {D:List Nat} {listed:Array Bool} (hL:Me l D listed) (hall:∀i,i<l.length->i∈D):Region.ready .any l.toArray listed=[]:=by
  cases hr:Region.ready .any l.toArray listed with
  | nil=>rfl
  | cons j r =>
    obtain ⟨h0,o,ho,_⟩:=(mem_ready (md:=.any) (ops:=l.toArray) (listed:=listed) (j:=j)).1 (by rw [hr];exact List.mem_cons_self ..)
    have hjl:j<l.length:=by simpa using (Array.getElem?_eq_some_iff.1 ho).1
    have:=(hL.mem j).1 (hall j hjl)
    rw [Ck (by rw [hL.size];exact hjl)] at h0
    rw [h0] at this;cases this
theorem bt (hQ:∀c a d v w,Q (.panic c) (a.put d v) w->Q (.panic c) a w) (c) (a:Act) (d:Option Tmp) (v:Value) (w:World) (h:Q (.panic c) (a.put d v) w):Q (.panic c) a w:=hQ c a d v w h
theorem IK (hsel:Region.noSelect l.toArray=true) (hQ:∀c a d v w,Q (.panic c) (a.put d v) w->Q (.panic c) a w) :
    ∀(es:List (Nat×Bool)) (D:List Nat) (p:Option Nat) (listed:Array Bool) (a:Act) (w:World) (F:List (Nat×Value)) (L:List As),
      Df l D p es=true->Me l D listed->(∀i,i<l.length->i∈D\/es.any (λe=>e.1 == i)=true)->Wk Lro L->CP n a F->A6 w0 w L->OkE P l.toArray Q n w0 Lro es F L ->
      wpAnyH P .any l.toArray Q (λw=>A6 w0 w Lro) es.length listed a w
  | [],D,p,listed,a,w,F,L,hc,hL,hall,hro,ha,hw,h=>⟨Te hL λi hi=>(hall i hi).resolve_right jX,h a w ha hw⟩
  | (i,true)::r,D,p,listed,a,w,F,L,hc,hL,hall,hro,ha,hw,h=>by
    obtain ⟨o,hg⟩:=DO hc
    obtain ⟨o',d,v,ho',hd,hdn,hy,hn⟩:=h
    have hat:l.toArray[i]?=some o:=by simpa using hg.at_
    rw [hat] at ho';injection ho' with ho';subst ho'
    have hil:i<l.length:=(List.getElem?_eq_some_iff.1 hg.at_).1
    have hp:∀e∈o.after,Region.binds .any e=true->listed.getD e.on false=true:=λe he hb=>(hL.mem _).1 (hg.pre e he hb)
    have hun:=hL.no hg.nin
    have hrd:i∈Region.ready .any l.toArray listed:=mem_ready.2 ⟨by rw [Ck (by rw [hL.size];exact hil)];exact hun,o,hat,hp⟩
    have hyield:YieldsIf P l.toArray (λw=>A6 w0 w Lro) o v a:=by
      rcases hy with ⟨h1,h2⟩|⟨h1,h2⟩
      · exact .inl ⟨h1 a ha,λw hW=>h2 a w ha hW⟩
      · exact .inr ⟨h1 a ha,h2⟩
    refine wpAnyH_first hat (Region.noSelect_spec hsel) (λc a w=>bt hQ c a o.dst v w) r.length listed a w (HL hL hg.at_ (hg.fr O) hp) hrd hyield (hro _ _ hw) ?_
    refine IK hsel hQ r (i::D) p _ _ w ((d,v)::F) L hg.tl (hL.add hg.at_ hp) (λk hk=>?_) hro (by rw [hd];exact ha.put hdn) hw hn
    rcases hall k hk with h1|h1
    · exact .inl (List.mem_cons_of_mem _ h1)
    · simp only [List.any_cons,xY,beq_iff_eq] at h1
      rcases h1 with h1|h1
      · exact .inl (h1▸List.mem_cons_self)
      · exact .inr h1
  | (i,false)::r,D,p,listed,a,w,F,L,hc,hL,hall,hro,ha,hw,h=>by
    obtain ⟨o,hg⟩:=DO hc
    obtain ⟨o',ho',h⟩:=h
    have hat:l.toArray[i]?=some o:=by simpa using hg.at_
    rw [hat] at ho';injection ho' with ho';subst ho'
    have hil:i<l.length:=(List.getElem?_eq_some_iff.1 hg.at_).1
    have hp:∀e∈o.after,Region.binds .any e=true->listed.getD e.on false=true:=λe he hb=>(hL.mem _).1 (hg.pre e he hb)
    have hun:=hL.no hg.nin
    have hrd:i∈Region.ready .any l.toArray listed:=mem_ready.2 ⟨by rw [Ck (by rw [hL.size];exact hil)];exact hun,o,hat,hp⟩
    have hall':∀k,k<l.length->k∈i::D\/r.any (λe=>e.1 == k)=true:=λk hk=>by
      rcases hall k hk with h1|h1
      · exact .inl (List.mem_cons_of_mem _ h1)
      · simp only [List.any_cons,xY,beq_iff_eq] at h1
        rcases h1 with h1|h1
        · exact .inl (h1▸List.mem_cons_self)
        · exact .inr h1
    refine ⟨λh0=>absurd hrd (by rw [h0];exact List.not_mem_nil),λj hj=>?_⟩
    have hji:j=i:=by
      obtain ⟨h0,oj,hoj,_⟩:=mem_ready.1 hj
      have hjl:j<l.length:=by simpa using (Array.getElem?_eq_some_iff.1 hoj).1
      rw [Ck (by rw [hL.size];exact hjl)] at h0
      rcases hall' j hjl with h1|h1
      · rcases xL.1 h1 with h2|h2
        · exact h2
        · rw [(hL.mem j).1 h2] at h0;cases h0
      · obtain ⟨e,he,h2⟩:=List.any_eq_true.1 h1
        have h3:e.1=j:=by simpa using h2
        subst h3
        exact absurd hj (EQ hL.cl hg.tl hun (λe he=>hL.no λhd=>(D9 hg.tl e he).1 (List.mem_cons_of_mem _ hd)) e he)
    subst hji
    exact Hs hat (h a w ha hw) λF' L' a' w' h1 h2 h3 h4=>⟨h3 _ _ h2,IK hsel hQ r (j::D) (some j) _ a' w' F' L' hg.tl (hL.add hg.at_ hp) hall' h3 h1 h2 h4⟩
theorem Me.congr {D D2:List Nat} {listed:Array Bool} (h:Me l D listed) (e:∀x,x∈D↔x∈D2):Me l D2 listed:=⟨h.size,λi=>(e i).symm.trans (h.mem i),h.cl⟩
theorem GS {es:List (Nat×Bool)} {i:Nat} (h:es.any (λe=>e.1 == i)=true):∃e∈es,e.1=i:=by
  obtain ⟨e,he,h2⟩:=List.any_eq_true.1 h
  exact ⟨e,he,by simpa using h2⟩
theorem L5 {id:Nat} {l:List Oper} (hm:P.follows .mixedOrders=true) {k:Nat} (hk:k=l.length) (h:∀a w,CP n a F->A6 w0 w L->wpAnyH P .any l.toArray Q (λw=>A6 w0 w Lro) k (Array.replicate l.length false) a w):OkC P (.region id l.toArray true) Q n F w0 L:=λa w ha hw=>by
  refine wp_region_held (S:=λw=>A6 w0 w Lro) hm ?_
  rw [show l.toArray.size=l.length by simp,<-hk]
  subst hk
  exact h a w.drew ha hw.drew
theorem F8:Me l [] (Array.replicate l.length false):=by
  have hz:∀j,(Array.replicate l.length false).getD j false=false:=λj=>by
    by_cases h:j<l.length<;>simp [h]
  exact ⟨by simp,λi=>by rw [hz];simp,λj o hj=>by rw [hz] at hj;cases hj⟩
theorem OkC.chainE {id:Nat} (es:List (Nat×Bool)) (hro:Lro.Sublist L) (hm:P.follows .mixedOrders=true) (hc:XX l es=true) (hQ:∀c a d v w,Q (.panic c) (a.put d v) w->Q (.panic c) a w)
    (h:OkE P l.toArray Q n w0 Lro es F L):OkC P (.region id l.toArray true) Q n F w0 L:=by
  simp only [XX,xZ] at hc
  obtain ⟨⟨⟨h1,h2⟩,h3⟩,h4⟩:=hc
  refine L5 hm (Nat.eq_of_beq_eq_true h3) λa w ha hw=>IK h4 hQ es [] none _ a w F L h1 F8 (λi hi=>?_) (Wk.of hro) ha hw h
  have:=List.all_eq_true.1 h2 i (List.mem_range.2 hi)
  simpa using this
variable {r e2:List (Nat×Bool)} {i j d:Nat} {o:Oper} {v:Value}
theorem zP (h:OkQ Q .normal n F w0 L):OkE P ops Q n w0 Lro [] F L:=h
theorem zQ (ho:ops[i]?=some o) (hw:Wt ops n F o) (he:Ex P n F w0 Lro o v) (hd:o.dst=some d) (hn:Nat.ble (d+1) n=true) (next:OkE P ops Q n w0 Lro r ((d,v)::F) L):OkE P ops Q n w0 Lro ((i,true)::r) F L:=⟨o,d,v,ho,hd,Nat.le_of_ble_eq_true hn,.inl ⟨hw,he⟩,next⟩
theorem zZ (ho:ops[i]?=some o) (hw:∀a,CP n a F->Region.wanted o (yielded ops a.tmps)=false) (hd:o.dst=some d) (hn:Nat.ble (d+1) n=true) (next:OkE P ops Q n w0 Lro r ((d,undef)::F) L):OkE P ops Q n w0 Lro ((i,true)::r) F L:=⟨o,d,undef,ho,hd,Nat.le_of_ble_eq_true hn,.inr ⟨hw,rfl⟩,next⟩
theorem zD (ho:ops[i]?=some o) (h:AO P ops [o] (PE Q n w0 Lro λF' L'=>OkE P ops Q n w0 Lro r F' L') n F w0 L):OkE P ops Q n w0 Lro ((i,false)::r) F L:=⟨o,ho,h⟩
theorem zC (hro:Lro.Sublist L') (h:OkE P ops Q n w0 Lro r F' L'):AO P ops [] (PE Q n w0 Lro λF' L'=>OkE P ops Q n w0 Lro r F' L') n F' w0 L':=AO.nil λa w ha hw=>⟨F',L',ha,hw,Wk.of hro,h⟩
theorem G7.back (hro:Lro.Sublist L') (h:G7 P ops Q n w0 Lro j e2 r F' L'):AO P ops [] (PE Q n w0 Lro λF' L'=>G7 P ops Q n w0 Lro j e2 r F' L') n F' w0 L':=AO.nil λa w ha hw=>⟨F',L',ha,hw,Wk.of hro,h⟩
theorem G7.pas (ho:ops[i]?=some o) (hw:Wt ops n F o) (he:Ex P n F w0 Lro o v) (hd:o.dst=some d) (hn:Nat.ble (d+1) n=true) (next:G7 P ops Q n w0 Lro j e2 r ((d,v)::F) L):G7 P ops Q n w0 Lro j e2 ((i,true)::r) F L:=⟨o,d,v,ho,hd,Nat.le_of_ble_eq_true hn,.inl ⟨hw,he⟩,next⟩
theorem G7.imp {oj:Oper} (ho:ops[i]?=some o) (hj:ops[j]?=some oj) (h:AO P ops [o] (PE Q n w0 Lro λF' L'=>G7 P ops Q n w0 Lro j e2 r F' L') n F w0 L) (h2:AO P ops [oj] (PE Q n w0 Lro λF' L'=>OkE P ops Q n w0 Lro ((i,false)::r++e2) F' L') n F w0 L):G7 P ops Q n w0 Lro j e2 ((i,false)::r) F L:=⟨⟨o,ho,h⟩,oj,hj,h2⟩
theorem G7.last {oj:Oper} (hj:ops[j]?=some oj) (h2:AO P ops [oj] (PE Q n w0 Lro λF' L'=>OkE P ops Q n w0 Lro e2 F' L') n F w0 L):G7 P ops Q n w0 Lro j e2 [] F L:=⟨oj,hj,h2⟩
theorem OkE.sub (hs:By F' F) (hl:L'.Sublist L) (h:OkE P ops Q n w0 Lro r F' L') (hr:r=[]):OkE P ops Q n w0 Lro r F L:=by
  subst hr
  exact λa w ha hw=>h a w (ha.sub hs) (hw.weak hl)
end
end
section
def Sm (f:Nat) (v:Nat):List Nat :=
  match f with
  | 0=>[]
  | f+1=>if v=0 then [] else v%4294967296::Sm f (v/4294967296)
def AK (v:Nat):List Nat:=Sm v v
def Un (x:Nat):List UInt8:=[(x%256).toUInt8,(x/256%256).toUInt8,(x/65536%256).toUInt8,(x/16777216%256).toUInt8]
def Lc (v:Nat):Bool:=decide (v<18446744073709551616)
def B7 (v:Nat):Nat:=if Lc v then v else 0
def Bp (v:Nat):ByteArray:=if Lc v then ByteArray.empty else ⟨((AK v).flatMap Un).toArray⟩
def AT (v:Nat):List Value:=[.int .u64 (B7 v:Nat),.string (Bp v)]
def Ax (z:Int):List Value:=[.int .u64 (B7 z.natAbs:Nat),.string (Bp z.natAbs),.bool (decide (z<0))]
def AB (q:Rat):List Value:=[.int .u64 (B7 q.num.natAbs:Nat),.string (Bp q.num.natAbs),.bool (decide (q.num<0)),.int .u64 (B7 (q.den-1):Nat),.string (Bp (q.den-1))]
@[ext] structure Pt where
  x:Rat
  y:Rat
def Ae (p:Pt):List Value:=AB p.x++AB p.y
theorem BY {z:Int} (h:-9223372036854775808<=z) (h':z<9223372036854775808):IntKind.i64.wrap z=z:=by
  simp only [IntKind.wrap,IntKind.bits,IntKind.signed];simp;split<;>omega
theorem Do {z:Int} (h:0<=z) (h':z<18446744073709551616):IntKind.u64.wrap z=z:=by
  simp only [IntKind.wrap,IntKind.bits,IntKind.signed];simp;omega
theorem He {z:Int} (h:0<=z) (h':z<4294967296):IntKind.u32.wrap z=z:=by
  simp only [IntKind.wrap,IntKind.bits,IntKind.signed];simp;omega
theorem ZL {z:Int} (h:0<=z) (h':z<256):IntKind.u8.wrap z=z:=by
  simp only [IntKind.wrap,IntKind.bits,IntKind.signed];simp;omega
theorem Ab {a b:Nat} (h:a+b<9223372036854775808):IntKind.i64.wrap ((a:Int)+(b:Int))=((a+b:Nat):Int):=by rw [BY Z Z];omega
theorem CH {a b:Nat} (h:b<=a) (h':a<9223372036854775808):IntKind.i64.wrap ((a:Int)-(b:Int))=((a-b:Nat):Int):=by rw [BY Z Z];omega
theorem F_ {a b:Nat} (h:a*b<9223372036854775808):IntKind.i64.wrap ((a:Int)*(b:Int))=((a*b:Nat):Int):=by
  rw [<-Int.natCast_mul,BY Z Z]
theorem Dx {a b:Nat} (h:a+b<18446744073709551616):IntKind.u64.wrap ((a:Int)+(b:Int))=((a+b:Nat):Int):=by rw [Do Z Z];omega
theorem I3 {a b:Nat} (h:b<=a) (h':a<18446744073709551616):IntKind.u64.wrap ((a:Int)-(b:Int))=((a-b:Nat):Int):=by rw [Do Z Z];omega
theorem FW {a b:Nat} (h:a*b<18446744073709551616):IntKind.u64.wrap ((a:Int)*(b:Int))=((a*b:Nat):Int):=by
  rw [<-Int.natCast_mul,Do Z Z]
theorem D_ {a:Nat} (h:a<9223372036854775808):IntKind.i64.wrap (a:Int)=(a:Int):=BY Z Z
theorem BO {a:Nat} (h:a<18446744073709551616):IntKind.u64.wrap (a:Int)=(a:Int):=Do Z Z
theorem C9 {a:Nat} (h:a<4294967296):IntKind.u32.wrap (a:Int)=(a:Int):=He Z Z
theorem Od {a:Nat} (h:a<256):IntKind.u8.wrap (a:Int)=(a:Int):=ZL Z Z
theorem Et {a:Nat}:IntKind.u32.wrap (a:Int)=((a%4294967296:Nat):Int):=by
  simp only [IntKind.wrap,IntKind.bits,IntKind.signed];simp
theorem KO {a:Nat}:IntKind.u8.wrap (a:Int)=((a%256:Nat):Int):=by
  simp only [IntKind.wrap,IntKind.bits,IntKind.signed];simp
theorem DL {a b:Nat}:decide ((a:Int)<(b:Int))=decide (a<b):=decide_eq_decide.2 Z
theorem Rp {a b:Nat}:decide ((a:Int)<=(b:Int))=decide (a<=b):=decide_eq_decide.2 Z
theorem OI {a b:Nat}:decide ((a:Int)=(b:Int))=decide (a=b):=decide_eq_decide.2 Z
theorem cX {a b:Nat}:decide ((a:Int)≠(b:Int))=decide (a≠b):=decide_eq_decide.2 Z
theorem Fa {a b:Nat} (h:a<9223372036854775808):IntKind.i64.wrap ((a:Int).tdiv (b:Int))=((a/b:Nat):Int):=by
  have:a/b<=a:=Nat.div_le_self _ _
  rw [<-Int.ofNat_tdiv]
  generalize a/b=q at *
  exact BY Z Z
theorem Iu {a b:Nat} (h:a<18446744073709551616):IntKind.u64.wrap ((a:Int).tdiv (b:Int))=((a/b:Nat):Int):=by
  have:a/b<=a:=Nat.div_le_self _ _
  rw [<-Int.ofNat_tdiv]
  generalize a/b=q at *
  exact Do Z Z
theorem PH {a b:Nat}:((a:Int).tmod (b:Int))=((a%b:Nat):Int):=(Int.ofNat_tmod a b).symm
theorem Gr {a s:Nat}:(a:Int)/2^s=((a/2^s:Nat):Int):=by simp
theorem DW:prog.follows .mixedOrders=true:=by kernel_rfl
theorem Jj.nil {P:Program} {n:Nat} {l:List Oper} {specs:List Sp} {F:List (Nat×Value)} {w0:Av} {Lro L:List As} {os:List Oper}:Jj P n l specs F w0 Lro L os []:=by
  cases os<;>trivial
theorem zo {P:Program} {ops:Array Oper} {rest:List Oper} {Q:Exit->Act->World->Prop} {n:Nat} {F:List (Nat×Value)} {w0:Av} {L L':List As} {v:Value} {x y:Operand} {d:Option Tmp} {t:TypeId} {p:String} {af:Array Edge} {g:Option (Nat×Bool)}
    {i b off:Nat} {ty T:TypeId} {cs vs cs':List Value} (hw:Wt ops n F ⟨d,.store ty x y,t,p,af,g⟩) (ho:d=none) (hx:evF F x=some (.pointer (some ⟨b,off,none⟩))) (hy:evF F y=some v) (hi:L[i]?=some (AQ b T cs))
    (hv:v.cells=vs.toArray) (hs:∀w,(sizeOf ty).run P w=.ok vs.length w) (h1:(vs.all λu=>u.oneCell')=true) (hl:Nat.ble (off+vs.length) cs.length=true)
    (hc:Ib cs off vs=cs') (hL:L.set i (AQ b T cs')=L') (next:AO P ops rest Q n F w0 L'):AO P ops (⟨d,.store ty x y,t,p,af,g⟩::rest) Q n F w0 L:=by
  subst hc;subst hL
  exact AO.store hw (O7 hx hy hi hv hs h1 hl) ho hi next
theorem zx {P:Program} {ops:Array Oper} {rest:List Oper} {Q:Exit->Act->World->Prop} {n:Nat} {F:List (Nat×Value)} {w0:Av} {L:List As} {o:Oper} {d:Nat} {f:FuncId} {args:Array Value} {V:Nat->Value} {T:TypeId} {cs:List Value} (hw:Wt ops n F o)
    (he:∀a w,CP n a F->A6 w0 w L->(execOp a.eval o).run P w=.ok (.enter f args) w)
    (hc:∀w,A6 w0 w L->Calls P f args w λe w'=>∃b,e=.returned (V b)/\E8 w.heap.size w w'/\w.heap.size<=b/\w'.heap[b]?=some (.cells cs.toArray T (0,0)))
    (ho:o.dst=some d) (hd:d<n) (next:∀b,AO P ops rest Q n ((d,V b)::F) w0 (AQ b T cs::L)):AO P ops (o::rest) Q n F w0 L:=λa w ha hW=>by
  unfold wpList
  rw [if_pos (hw a ha)]
  left
  unfold Oper.wp
  rw [he a w ha hW,Oper.upon_enter]
  refine (hc w hW).mono ?_
  rintro e w' ⟨b,rfl,hb,hlt,hcell⟩
  rw [ho]
  exact next b _ _ (ha.put hd) (hW.add O hb hlt ⟨_,hcell,rfl⟩)
theorem yZ {P:Program} {ops:Array Oper} {rest:List Oper} {Q:Exit->Act->World->Prop} {n:Nat} {F:List (Nat×Value)} {w0:Av} {L L':List As} {o:Oper} {f:FuncId} {args:Array Value} {v:Value} {i b:Nat} {T:TypeId} {cs cs':List Value} (hw:Wt ops n F o)
    (he:∀a w,CP n a F->A6 w0 w L->(execOp a.eval o).run P w=.ok (.enter f args) w) (hi:L[i]?=some (AQ b T cs))
    (hc:∀w,A6 w0 w L->Calls P f args w λe w'=>e=.returned v/\Ka w w' (some b)/\w'.heap[b]?=some (.cells cs'.toArray T (0,0)))
    (hd:∀d,o.dst=some d->d<n) (hL:L.set i (AQ b T cs')=L') (next:AO P ops rest Q n (match o.dst with|some d=>(d,v)::F|none=>F) w0 L'):AO P ops (o::rest) Q n F w0 L:=λa w ha hW=>by
  subst hL
  unfold wpList
  rw [if_pos (hw a ha)]
  left
  unfold Oper.wp
  rw [he a w ha hW,Oper.upon_enter]
  refine (hc w hW).mono ?_
  rintro e w' ⟨rfl,hg,hcell⟩
  have hW':=hW.turn hi rfl rfl hg ⟨_,hcell,rfl⟩ (y:=AQ b T cs')
  cases hdst:o.dst with
  | none=>rw [hdst] at next;exact next _ _ ha.put_none hW'
  | some d=>rw [hdst] at next;exact next _ _ (ha.put (hd d hdst)) hW'
abbrev pP (b o:Nat):Value:=.pointer (some ⟨b,o,none⟩)
abbrev aG (l:List Value):Value:=.agg l.toArray
abbrev vI (z:Int):Value:=.int .i64 z
abbrev vN (n:Nat):Value:=.int .i64 (n:Int)
abbrev vK (k:IntKind) (n:Nat):Value:=.int k (n:Int)
theorem leB {a b:Nat} (h:Nat.ble a b=true):a<=b:=Nat.le_of_ble_eq_true h
theorem sN {F:List (Nat×Value)}:By [] F:=trivial
theorem sS {k:Nat} {v:Value} {r F:List (Nat×Value)} (h:F.lookup k=some v) (t:By r F):By ((k,v)::r) F:=⟨h,t⟩
def bO (F:List (Nat×Value)):List (Nat×Value)->List (Option Value)
  | []=>[]
  | p::r=>F.lookup p.1::bO F r
def Zl:List (Nat×Value)->List (Option Value)
  | []=>[]
  | p::r=>some p.2::Zl r
theorem sF:∀{F' F:List (Nat×Value)},bO F F'=Zl F'->By F' F
  | [],_,_=>trivial
  | _::_,_,h=>by
    simp only [bO,Zl,List.cons.injEq] at h
    exact ⟨h.1,sF h.2⟩
theorem vC {P:Program} {n:Nat} {l:List Oper} {specs:List Sp} {F:List (Nat×Value)} {w0:Av} {Lro L:List As} {o:Oper} {os:List Oper} {s:Sp} {ss:List Sp} (h:Vc P n l specs F w0 Lro L o s) (t:Jj P n l specs F w0 Lro L os ss) :
    Jj P n l specs F w0 Lro L (o::os) (s::ss):=⟨h,t⟩
theorem dN {j:Nat}:Fw j []:=trivial
theorem dC {j:Nat} {kd:Kd} {v:Value} {ks:List Nat} {A:Value->List As} {C:Value->Prop} {ss:List Sp} (t:Fw (j+1) ss):Fw j (⟨kd,λ_=>v,ks,A,C⟩::ss):=⟨λ_ _ _ _=>rfl,t⟩
section
variable {P:Program} {ops:Array Oper} {rest:List Oper} {Q:Exit->Act->World->Prop} {n d:Nat} {F F':List (Nat×Value)} {w0:Av} {L Lro:List As} {op:Op} {t:TypeId} {p:String} {af:Array Edge} {v:Value} {l:List Oper} {specs:List Sp}
theorem zG {c:Code} (hs:By F' F) (h:OkC P c Q n F' w0 L):OkC P c Q n F w0 L:=yf hs (xP _) h
theorem zB {e:Exit} (hs:By F' F) (h:OkQ Q e n F' w0 L):OkQ Q e n F w0 L:=OkQ.sub hs (xP _) h
theorem st (he:Ex P n F w0 L ⟨some d,op,t,p,af,none⟩ v) (hd:d<n) (next:AO P ops rest Q n ((d,v)::F) w0 L):AO P ops (⟨some d,op,t,p,af,none⟩::rest) Q n F w0 L:=yS (AJ rfl) he rfl hd next
theorem q1 {x y:Code} (h:OkC P x (Exit.then (y.wp P Q) Q) n F w0 L):OkQ (Exit.then ((Code.seq x y).wp P Q) Q) .normal n F w0 L:=zA (zV h)
theorem q2 {id:Nat} {y:Code} (h:AO P l.toArray l (Exit.then (y.wp P Q) Q) n F w0 L):OkQ (Exit.then ((Code.seq (.region id l.toArray false) y).wp P Q) Q) .normal n F w0 L:=q1 (zL h)
theorem q3 {id:Nat} {y:Code} (hs:By F' F) (h:AO P l.toArray l (Exit.then (y.wp P Q) Q) n F' w0 L):AO P ops [] (Exit.then ((Code.seq (.region id l.toArray false) y).wp P Q) Q) n F w0 L:=AO.nil (zB hs (q2 h))
theorem q4 {id:Nat} {y:Code} (h:AO P l.toArray l (Exit.then (y.wp P Q) Q) n F w0 L):OkC P (Code.seq (.region id l.toArray false) y) Q n F w0 L:=zV (zL h)
theorem q6 {x y:Code} (hs:By F' F) (h:OkC P x (Exit.then (y.wp P Q) Q) n F' w0 L):AO P ops [] (Exit.then ((Code.seq x y).wp P Q) Q) n F w0 L:=AO.nil (zB hs (q1 h))
theorem Ac {x:Operand} {f:FuncId} {xs:List Operand} {args:List Value} {ts:Array TypeId} {dd:Option Tmp} {g:Option (Nat×Bool)} (hf:evF F x=some (.func (.func f) #[] #[])) (hargs:xs.map (evF F)=args.map some)
    (hc:∀args w,(callFunc f args).run P w=.ok (.enter f args) w) :
    ∀a w,CP n a F->A6 w0 w L->(execOp a.eval ⟨dd,.call { callee:=.value x,args:=xs.toArray,argTypes:=ts },t,p,af,g⟩).run P w=.ok (.enter f args.toArray) w :=
  Ik (caps:=[]) hf hargs (List.append_nil _) hc
theorem Ph {v:(Nat->Value)->Value} {ks:List Nat} {G:(Nat->Value)->List (Nat×Value)} {dd:Option Tmp} (hG:∀β,By (G β) (LO l specs β ⟨dd,op,t,p,af,none⟩++F)) (h:∀β,Ex P n (G β) w0 (C8 specs β ks++L) ⟨dd,op,t,p,af,none⟩ (v β)):Vc P n l specs F w0 Lro L ⟨dd,op,t,p,af,none⟩ ⟨.look,v,ks,cY,cd⟩:=ZI hG (λ_=>AJ rfl) h
end
theorem CK {F F':List (Nat×Value)} (h:By F' F:=by repeat (first|exact sN|refine sS (by first|rfl|(rw [hg1];rfl)|rw [hg1]) ?_)):By F' F:=h
theorem Hw {F F':List (Nat×Value)} (h:By F' F:=by repeat (first|exact sN|refine sS (by first|rfl|(rw [hg2];rfl)|rw [hg2]) ?_)):By F' F:=h
theorem Mc {F F':List (Nat×Value)} (h:By F' F:=by repeat (first|exact sN|refine sS (by first|rfl|(rw [hg3];rfl)|rw [hg3]) ?_)):By F' F:=h
theorem Pl {F F':List (Nat×Value)} (h:By F' F:=by repeat (first|exact sN|refine sS (by first|rfl|(rw [hg4];rfl)|rw [hg4]) ?_)):By F' F:=h
theorem Pm {F F':List (Nat×Value)} (h:By F' F:=by repeat (first|exact sN|refine sS (by first|rfl|(rw [hg5];rfl)|rw [hg5]) ?_)):By F' F:=h
theorem de {F F':List (Nat×Value)} (h:By F' F:=by repeat (first|exact sN|refine sS (by first|rfl|(rw [hg6];rfl)|rw [hg6]) ?_)):By F' F:=h
theorem gR {F F':List (Nat×Value)} (h:By F' F:=by repeat (first|exact sN|refine sS (by first|rfl|(rw [hg7];rfl)|rw [hg7]) ?_)):By F' F:=h
theorem gS {F F':List (Nat×Value)} (h:By F' F:=by repeat (first|exact sN|refine sS (by first|rfl|(rw [hg8];rfl)|rw [hg8]) ?_)):By F' F:=h
theorem gT {F F':List (Nat×Value)} (h:By F' F:=by repeat (first|exact sN|refine sS (by first|rfl|(rw [hg9];rfl)|rw [hg9]) ?_)):By F' F:=h
end
end Go.Proofs.YtcpkbjjmcleplaaGreatDoor
