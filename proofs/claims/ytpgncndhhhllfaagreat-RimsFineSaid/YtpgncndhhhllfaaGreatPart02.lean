import Derived.Test.YtpgncndhhhllfaaGreatPart01
namespace Go.Proofs.YtpgncndhhhllfaaGreat
open Go Go.RowKit Go.Proofs.Tryz
set_option linter.unusedVariables false
set_option linter.unusedSimpArgs false
section
def U9 (l:List Oper) (i:Nat) (o:Oper):Bool:=(List.range l.length).all λk=>k == i||match l[k]? with
  | some ok=>Ei o k||Ei ok i||o.apart l.toArray ok
  | none=>true
def cr (l:List Oper):Nat:=bif Nat.ble 45 l.length then 8 else 4
def EU (l:List Oper):List Nat->Option Nat->List (Nat×Bool)->Bool
  | _,_,[]=>true
  | D,p,(i,k)::r=>(match l[i]? with
      | some o=>(o.after.all λe=>!Region.binds .any e||D.contains e.on)&&(match p with|some q=>Cr l (cr l) i q|none=>true)&&(!k||U9 l i o)&&!D.contains i
      | none=>false)&&EU l (i::D) (if k then p else some i) r
def P3 (l:List Oper) (D:List Nat) (es:List (Nat×Bool)):Bool:=(List.range l.length).all λi=>D.contains i||es.any λe=>e.1 == i
def YU (l:List Oper) (es:List (Nat×Bool)):Bool:=EU l [] none es&&P3 l [] es&&Nat.beq es.length l.length&&Region.noSelect l.toArray
section
variable {P:Program} {ops:Array Oper} {Q:Exit->Act->World->Prop} {n:Nat} {w0:BL} {Lro L L':List As} {F F':List (Nat×Value)} {l:List Oper}
theorem eD {o:Oper} {a:Act} {w:World} {K K':Act->World->Prop} {Q':Exit->Act->World->Prop} (h:∀a w,K a w->K' a w) (hp:∀c a w,Q (.panic c) a w->Q' (.panic c) a w) (hl:LetsOut Q->LetsOut Q') (hh:o.wp P a w K Q):o.wp P a w K' Q':=by
  unfold Oper.wp at *
  generalize (execOp a.eval o).run P w=r at *
  cases r with
  | ok n w' =>
    cases n<;>simp only [Oper.upon] at hh ⊢ <;>
      first
        | exact h _ _ hh
        | exact Calls.mono hh (λe w'' he=>by cases e<;>first|exact h _ _ he|exact hp _ _ _ he|exact hl he)
        | exact Rows.mono hh (λ_ _ he=>h _ _ he)
  | halt x w'=>cases x<;>simp only [Oper.upon] at hh ⊢<;>first|exact hp _ _ _ hh|exact hl hh|exact hh
def dw (P:Program) (ops:Array Oper) (n:Nat) (w0:BL) (Lro:List As) (F:List (Nat×Value)) (o:Oper) (v:Value):Prop :=
  (Wt ops n F o/\Ex P n F w0 Lro o v)\/((∀a,C2 n a F->Region.wanted o (yielded ops a.tmps)=false)/\v=undef)
def Wk (Lro L:List As):Prop:=∀(w0:BL) (w:World),BS w0 w L->BS w0 w Lro
theorem Wk.of {Lro L:List As} (h:Lro.Sublist L):Wk Lro L:=λ_ _ hw=>hw.weak h
def PE (Q:Exit->Act->World->Prop) (n:Nat) (w0:BL) (Lro:List As) (K:List (Nat×Value)->List As->Prop):Exit->Act->World->Prop
  | .normal,a,w=>∃F' L',C2 n a F'/\BS w0 w L'/\Wk Lro L'/\K F' L'
  | e,a,w=>Q e a w
def OkE (P:Program) (ops:Array Oper) (Q:Exit->Act->World->Prop) (n:Nat) (w0:BL) (Lro:List As):List (Nat×Bool)->List (Nat×Value)->List As->Prop
  | [],F,L=>OkQ Q .normal n F w0 L
  | (i,true)::r,F,L=>∃o d v,ops[i]?=some o/\o.dst=some d/\d<n/\dw P ops n w0 Lro F o v/\OkE P ops Q n w0 Lro r ((d,v)::F) L
  | (i,false)::r,F,L=>∃o,ops[i]?=some o/\AC P ops [o] (PE Q n w0 Lro λF' L'=>OkE P ops Q n w0 Lro r F' L') n F w0 L
theorem My {i:Nat} {o:Oper} {K:List (Nat×Value)->List As->Prop} {K':Act->World->Prop} {a:Act} {w:World} (hi:ops[i]?=some o) (h:wpList P ops (PE Q n w0 Lro K) [o] a w)
    (hK:∀F' L' a' w',C2 n a' F'->BS w0 w' L'->Wk Lro L'->K F' L'->K' a' w'):wpOp P ops Q i K' a w:=by
  unfold wpOp
  simp only [hi]
  unfold wpList at h
  have go:∀a' w',wpList P ops (PE Q n w0 Lro K) [] a' w'->K' a' w':=λa' w' h=>by
    obtain ⟨F',L',h1,h2,h3,h4⟩:=(show PE Q n w0 Lro K .normal a' w' from h)
    exact hK F' L' a' w' h1 h2 h3 h4
  split
  · rename_i hw
    rw [if_pos hw] at h
    rcases h with h|h
    · exact .inl (eD go (λ_ _ _ h=>h) (λh=>h) h)
    · exact .inr h
  · rename_i hw
    rw [if_neg hw] at h
    exact go _ _ h
theorem HA {listed:Array Bool} (hcl:∀(j:Nat) (o:Oper),listed.getD j false=true->l[j]?=some o->∀e∈o.after,Region.binds .any e=true->listed.getD e.on false=true) :
    ∀(f i j:Nat) (o:Oper),Cr l f i j=true->l[i]?=some o->(∀e∈o.after,Region.binds .any e=true->listed.getD e.on false=true)->listed.getD j false=true
  | 0,i,j,o,h,_,_=>by simp [Cr] at h
  | f+1,i,j,o,h,ho,hp=>by
    unfold Cr at h
    simp only [ho,Bool.or_eq_true] at h
    rcases h with h|h
    · obtain ⟨e,he,hb,rfl⟩:=Dq h
      exact hp e he hb
    · obtain ⟨k,hk,h⟩:=List.any_eq_true.1 h
      simp only [Bool.and_eq_true] at h
      obtain ⟨e,he,hb,rfl⟩:=Dq h.1
      have hl:=hp e he hb
      have hk':e.on<l.length:=List.mem_range.1 hk
      have ho':l[e.on]?=some l[e.on]:=List.getElem?_eq_getElem hk'
      exact HA hcl f e.on j _ h.2 ho' (λe' he' hb'=>hcl _ _ hl ho' e' he' hb')
structure dZ (l:List Oper) (D:List Nat) (p:Option Nat) (i:Nat) (k:Bool) (r:List (Nat×Bool)) (o:Oper):Prop where
  at_:l[i]?=some o
  pre:∀e∈o.after,Region.binds .any e=true->e.on∈D
  bef:∀q,p=some q->Cr l (cr l) i q=true
  fr:k=true->U9 l i o=true
  nin:i ∉ D
  tl:EU l (i::D) (if k then p else some i) r=true
theorem EH {D:List Nat} {p:Option Nat} {i:Nat} {k:Bool} {r:List (Nat×Bool)} (h:EU l D p ((i,k)::r)=true):∃o,dZ l D p i k r o:=by
  unfold EU at h
  rw [Bool.and_eq_true] at h
  obtain ⟨h1,h2⟩:=h
  cases ho:l[i]? with
  | none=>simp [ho] at h1
  | some o =>
    simp only [ho,Bool.and_eq_true] at h1
    obtain ⟨⟨⟨h3,h4⟩,h5⟩,h6⟩:=h1
    refine ⟨o,ho,λe he hb=>?_,λq hq=>?_,λhk=>?_,by simpa using h6,h2⟩
    · have:=Array.all_eq_true_iff_forall_mem.1 h3 e he
      simpa [hb] using this
    · subst hq;exact h4
    · subst hk;simpa using h5
theorem Em:∀{es:List (Nat×Bool)} {D:List Nat} {p:Option Nat},EU l D p es=true->∀e∈es,e.1 ∉ D/\e.1<l.length
  | [],_,_,_,e,he=>by cases he
  | (i,k)::r,D,p,h,e,he=>by
    obtain ⟨o,hg⟩:=EH h
    rcases List.mem_cons.1 he with rfl|he
    · exact ⟨hg.nin,(List.getElem?_eq_some_iff.1 hg.at_).1⟩
    · have:=Em hg.tl e he
      exact ⟨λhd=>this.1 (List.mem_cons_of_mem _ hd),this.2⟩
theorem Ep {listed:Array Bool} (hcl:∀(j:Nat) (o:Oper),listed.getD j false=true->l[j]?=some o->∀e∈o.after,Region.binds .any e=true->listed.getD e.on false=true) :
    ∀{es:List (Nat×Bool)} {D:List Nat} {p:Nat},EU l D (some p) es=true->listed.getD p false=false->(∀e∈es,listed.getD e.1 false=false)->∀e∈es,e.1 ∉ Region.ready .any l.toArray listed
  | [],_,_,_,_,_,e,he=>by cases he
  | (i,k)::r,D,p,h,hp,hu,e,he=>by
    obtain ⟨o,hg⟩:=EH h
    rcases List.mem_cons.1 he with rfl|he2
    · intro hr
      obtain ⟨_,o',ho',hall⟩:=mem_ready.1 hr
      have:=HA hcl (cr l) i p o' (hg.bef p rfl) (by simpa using ho') hall
      rw [hp] at this;cases this
    · have hu':∀e∈r,listed.getD e.1 false=false:=λe he=>hu e (List.mem_cons_of_mem _ he)
      have htl:=hg.tl
      cases k with
      | true=>exact Ep hcl htl hp hu' e he2
      | false=>exact Ep hcl htl (hu (i,false) List.mem_cons_self) hu' e he2
structure Ov (l:List Oper) (D:List Nat) (listed:Array Bool):Prop where
  size:listed.size=l.length
  mem:∀i,i∈D↔listed.getD i false=true
  cl:∀(j:Nat) (o:Oper),listed.getD j false=true->l[j]?=some o->∀e∈o.after,Region.binds .any e=true->listed.getD e.on false=true
theorem Ov.no {D:List Nat} {listed:Array Bool} (h:Ov l D listed) {i:Nat} (hn:i ∉ D):listed.getD i false=false:=by
  cases hx:listed.getD i false with
  | false=>rfl
  | true=>exact absurd ((h.mem i).2 hx) hn
theorem DQ {listed:Array Bool} {i:Nat} (hi:i<listed.size):listed.getD i true=listed.getD i false:=by simp [hi]
theorem Ov.add {D:List Nat} {listed:Array Bool} (h:Ov l D listed) {i:Nat} {o:Oper} (ho:l[i]?=some o) (hp:∀e∈o.after,Region.binds .any e=true->listed.getD e.on false=true):Ov l (i::D) (listed.setIfInBounds i true):=by
  have hil:i<l.length:=(List.getElem?_eq_some_iff.1 ho).1
  have his:i<listed.size:=by rw [h.size];exact hil
  refine ⟨by simpa using h.size,λk=>?_,λj o' hj ho' e he hb=>?_⟩
  · rw [KL _ _ _ _ his]
    by_cases e:i=k
    · subst e;simp
    · rw [if_neg e,<-h.mem k]
      exact ⟨λhm=>(List.mem_cons.1 hm).elim (λe2=>absurd e2.symm e) id,List.mem_cons_of_mem _⟩
  · rw [KL _ _ _ _ his] at hj ⊢
    have:listed.getD e.on false=true:=by
      by_cases e1:i=j
      · subst e1
        rw [ho] at ho';injection ho' with ho';subst ho'
        exact hp e he hb
      · rw [if_neg e1] at hj
        exact h.cl j o' hj ho' e he hb
    split
    · rfl
    · exact this
theorem IN {D:List Nat} {listed:Array Bool} (hL:Ov l D listed) {i:Nat} {o:Oper} (ho:l[i]?=some o) (hf:U9 l i o=true) (hp:∀e∈o.after,Region.binds .any e=true->listed.getD e.on false=true) (j:Nat) (oj:Oper) (hj:l.toArray[j]?=some oj) (hne:j≠i) (hun:listed.getD j true=false) (hno:∀e∈oj.after,Region.binds .any e=true->e.on≠i) :
    o.apart l.toArray oj=true:=by
  have hj':l[j]?=some oj:=by simpa using hj
  have hjl:j<l.length:=(List.getElem?_eq_some_iff.1 hj').1
  have h1:=List.all_eq_true.1 hf j (List.mem_range.2 hjl)
  simp only [hj',Bool.or_eq_true,beq_iff_eq,hne,false_or] at h1
  rcases h1 with (h1|h1)|h1
  · obtain ⟨e,he,hb,rfl⟩:=Dq h1
    have:=hp e he hb
    rw [DQ (by rw [hL.size];exact hjl)] at hun
    rw [hun] at this;cases this
  · obtain ⟨e,he,hb,h2⟩:=Dq h1
    exact absurd h2 (hno e he hb)
  · exact h1
theorem TQ {D:List Nat} {listed:Array Bool} (hL:Ov l D listed) (hall:∀i,i<l.length->i∈D):Region.ready .any l.toArray listed=[]:=by
  cases hr:Region.ready .any l.toArray listed with
  | nil=>rfl
  | cons j r =>
    obtain ⟨h0,o,ho,_⟩:=(mem_ready (md:=.any) (ops:=l.toArray) (listed:=listed) (j:=j)).1 (by rw [hr];exact List.mem_cons_self ..)
    have hjl:j<l.length:=by simpa using (Array.getElem?_eq_some_iff.1 ho).1
    have:=(hL.mem j).1 (hall j hjl)
    rw [DQ (by rw [hL.size];exact hjl)] at h0
    rw [h0] at this;cases this
theorem cR (hQ:∀c a d v w,Q (.panic c) (a.put d v) w->Q (.panic c) a w) (c) (a:Act) (d:Option Tmp) (v:Value) (w:World) (h:Q (.panic c) (a.put d v) w):Q (.panic c) a w:=hQ c a d v w h
theorem Kk (hsel:Region.noSelect l.toArray=true) (hQ:∀c a d v w,Q (.panic c) (a.put d v) w->Q (.panic c) a w) :
    ∀(es:List (Nat×Bool)) (D:List Nat) (p:Option Nat) (listed:Array Bool) (a:Act) (w:World) (F:List (Nat×Value)) (L:List As),
      EU l D p es=true->Ov l D listed->(∀i,i<l.length->i∈D\/es.any (λe=>e.1 == i)=true)->Wk Lro L->C2 n a F->BS w0 w L->OkE P l.toArray Q n w0 Lro es F L ->
      wpAnyH P .any l.toArray Q (λw=>BS w0 w Lro) es.length listed a w
  | [],D,p,listed,a,w,F,L,hc,hL,hall,hro,ha,hw,h=>⟨TQ hL λi hi=>(hall i hi).resolve_right (by simp),h a w ha hw⟩
  | (i,true)::r,D,p,listed,a,w,F,L,hc,hL,hall,hro,ha,hw,h=>by
    obtain ⟨o,hg⟩:=EH hc
    obtain ⟨o',d,v,ho',hd,hdn,hy,hn⟩:=h
    have hat:l.toArray[i]?=some o:=by simpa using hg.at_
    rw [hat] at ho';injection ho' with ho';subst ho'
    have hil:i<l.length:=(List.getElem?_eq_some_iff.1 hg.at_).1
    have hp:∀e∈o.after,Region.binds .any e=true->listed.getD e.on false=true:=λe he hb=>(hL.mem _).1 (hg.pre e he hb)
    have hun:=hL.no hg.nin
    have hrd:i∈Region.ready .any l.toArray listed:=mem_ready.2 ⟨by rw [DQ (by rw [hL.size];exact hil)];exact hun,o,hat,hp⟩
    have hyield:YieldsIf P l.toArray (λw=>BS w0 w Lro) o v a:=by
      rcases hy with ⟨h1,h2⟩|⟨h1,h2⟩
      · exact .inl ⟨h1 a ha,λw hW=>h2 a w ha hW⟩
      · exact .inr ⟨h1 a ha,h2⟩
    refine wpAnyH_first hat (Region.noSelect_spec hsel) (λc a w=>cR hQ c a o.dst v w) r.length listed a w (IN hL hg.at_ (hg.fr O) hp) hrd hyield (hro _ _ hw) ?_
    refine Kk hsel hQ r (i::D) p _ _ w ((d,v)::F) L hg.tl (hL.add hg.at_ hp) (λk hk=>?_) hro (by rw [hd];exact ha.put hdn) hw hn
    rcases hall k hk with h1|h1
    · exact .inl (List.mem_cons_of_mem _ h1)
    · simp only [List.any_cons,Bool.or_eq_true,beq_iff_eq] at h1
      rcases h1 with h1|h1
      · exact .inl (h1▸List.mem_cons_self)
      · exact .inr h1
  | (i,false)::r,D,p,listed,a,w,F,L,hc,hL,hall,hro,ha,hw,h=>by
    obtain ⟨o,hg⟩:=EH hc
    obtain ⟨o',ho',h⟩:=h
    have hat:l.toArray[i]?=some o:=by simpa using hg.at_
    rw [hat] at ho';injection ho' with ho';subst ho'
    have hil:i<l.length:=(List.getElem?_eq_some_iff.1 hg.at_).1
    have hp:∀e∈o.after,Region.binds .any e=true->listed.getD e.on false=true:=λe he hb=>(hL.mem _).1 (hg.pre e he hb)
    have hun:=hL.no hg.nin
    have hrd:i∈Region.ready .any l.toArray listed:=mem_ready.2 ⟨by rw [DQ (by rw [hL.size];exact hil)];exact hun,o,hat,hp⟩
    have hall':∀k,k<l.length->k∈i::D\/r.any (λe=>e.1 == k)=true:=λk hk=>by
      rcases hall k hk with h1|h1
      · exact .inl (List.mem_cons_of_mem _ h1)
      · simp only [List.any_cons,Bool.or_eq_true,beq_iff_eq] at h1
        rcases h1 with h1|h1
        · exact .inl (h1▸List.mem_cons_self)
        · exact .inr h1
    refine ⟨λh0=>absurd hrd (by rw [h0];exact List.not_mem_nil),λj hj=>?_⟩
    have hji:j=i:=by
      obtain ⟨h0,oj,hoj,_⟩:=mem_ready.1 hj
      have hjl:j<l.length:=by simpa using (Array.getElem?_eq_some_iff.1 hoj).1
      rw [DQ (by rw [hL.size];exact hjl)] at h0
      rcases hall' j hjl with h1|h1
      · rcases List.mem_cons.1 h1 with h2|h2
        · exact h2
        · rw [(hL.mem j).1 h2] at h0;cases h0
      · obtain ⟨e,he,h2⟩:=List.any_eq_true.1 h1
        have h3:e.1=j:=by simpa using h2
        subst h3
        exact absurd hj (Ep hL.cl hg.tl hun (λe he=>hL.no λhd=>(Em hg.tl e he).1 (List.mem_cons_of_mem _ hd)) e he)
    subst hji
    exact My hat (h a w ha hw) λF' L' a' w' h1 h2 h3 h4=>⟨h3 _ _ h2,Kk hsel hQ r (j::D) (some j) _ a' w' F' L' hg.tl (hL.add hg.at_ hp) hall' h3 h1 h2 h4⟩
theorem Ov.congr {D D2:List Nat} {listed:Array Bool} (h:Ov l D listed) (e:∀x,x∈D↔x∈D2):Ov l D2 listed:=⟨h.size,λi=>(e i).symm.trans (h.mem i),h.cl⟩
theorem Jj {es:List (Nat×Bool)} {i:Nat} (h:es.any (λe=>e.1 == i)=true):∃e∈es,e.1=i:=by
  obtain ⟨e,he,h2⟩:=List.any_eq_true.1 h
  exact ⟨e,he,by simpa using h2⟩
theorem Ow {id:Nat} {l:List Oper} (hm:P.follows .mixedOrders=true) {k:Nat} (hk:k=l.length) (h:∀a w,C2 n a F->BS w0 w L->wpAnyH P .any l.toArray Q (λw=>BS w0 w Lro) k (Array.replicate l.length false) a w):AE P (.region id l.toArray true) Q n F w0 L:=λa w ha hw=>by
  refine wp_region_held (S:=λw=>BS w0 w Lro) hm ?_
  rw [show l.toArray.size=l.length by simp,<-hk]
  subst hk
  exact h a w.drew ha hw.drew
theorem Iw:Ov l [] (Array.replicate l.length false):=by
  have hz:∀j,(Array.replicate l.length false).getD j false=false:=λj=>by
    by_cases h:j<l.length<;>simp [h]
  exact ⟨by simp,λi=>by rw [hz];simp,λj o hj=>by rw [hz] at hj;cases hj⟩
theorem AE.chainE {id:Nat} (es:List (Nat×Bool)) (hro:Lro.Sublist L) (hm:P.follows .mixedOrders=true) (hc:YU l es=true) (hQ:∀c a d v w,Q (.panic c) (a.put d v) w->Q (.panic c) a w)
    (h:OkE P l.toArray Q n w0 Lro es F L):AE P (.region id l.toArray true) Q n F w0 L:=by
  simp only [YU,Bool.and_eq_true] at hc
  obtain ⟨⟨⟨h1,h2⟩,h3⟩,h4⟩:=hc
  refine Ow hm (Nat.eq_of_beq_eq_true h3) λa w ha hw=>Kk h4 hQ es [] none _ a w F L h1 Iw (λi hi=>?_) (Wk.of hro) ha hw h
  have:=List.all_eq_true.1 h2 i (List.mem_range.2 hi)
  simpa using this
variable {r e2:List (Nat×Bool)} {i j d:Nat} {o:Oper} {v:Value}
theorem OkE.nil (h:OkQ Q .normal n F w0 L):OkE P ops Q n w0 Lro [] F L:=h
theorem OkE.pas (ho:ops[i]?=some o) (hw:Wt ops n F o) (he:Ex P n F w0 Lro o v) (hd:o.dst=some d) (hn:Nat.ble (d+1) n=true) (next:OkE P ops Q n w0 Lro r ((d,v)::F) L):OkE P ops Q n w0 Lro ((i,true)::r) F L:=⟨o,d,v,ho,hd,Nat.le_of_ble_eq_true hn,.inl ⟨hw,he⟩,next⟩
theorem OkE.skp (ho:ops[i]?=some o) (hw:∀a,C2 n a F->Region.wanted o (yielded ops a.tmps)=false) (hd:o.dst=some d) (hn:Nat.ble (d+1) n=true) (next:OkE P ops Q n w0 Lro r ((d,undef)::F) L):OkE P ops Q n w0 Lro ((i,true)::r) F L:=⟨o,d,undef,ho,hd,Nat.le_of_ble_eq_true hn,.inr ⟨hw,rfl⟩,next⟩
theorem OkE.imp (ho:ops[i]?=some o) (h:AC P ops [o] (PE Q n w0 Lro λF' L'=>OkE P ops Q n w0 Lro r F' L') n F w0 L):OkE P ops Q n w0 Lro ((i,false)::r) F L:=⟨o,ho,h⟩
theorem OkE.back (hro:Lro.Sublist L') (h:OkE P ops Q n w0 Lro r F' L'):AC P ops [] (PE Q n w0 Lro λF' L'=>OkE P ops Q n w0 Lro r F' L') n F' w0 L':=AC.nil λa w ha hw=>⟨F',L',ha,hw,Wk.of hro,h⟩
end
end
section
def TV (f:Nat) (v:Nat):List Nat :=
  match f with
  | 0=>[]
  | f+1=>if v=0 then [] else v%4294967296::TV f (v/4294967296)
def AR (v:Nat):List Nat:=TV v v
def WO (x:Nat):List UInt8:=[(x%256).toUInt8,(x/256%256).toUInt8,(x/65536%256).toUInt8,(x/16777216%256).toUInt8]
def small (v:Nat):Bool:=decide (v<18446744073709551616)
def CC (v:Nat):Nat:=if small v then v else 0
def Bn (v:Nat):ByteArray:=if small v then ByteArray.empty else ⟨((AR v).flatMap WO).toArray⟩
def Ag (v:Nat):List Value:=[.int .u64 (CC v:Nat),.string (Bn v)]
def Bi (z:Int):List Value:=[.int .u64 (CC z.natAbs:Nat),.string (Bn z.natAbs),.bool (decide (z<0))]
def BM (q:Rat):List Value:=[.int .u64 (CC q.num.natAbs:Nat),.string (Bn q.num.natAbs),.bool (decide (q.num<0)),.int .u64 (CC (q.den-1):Nat),.string (Bn (q.den-1))]
@[ext] structure Pt where
  x:Rat
  y:Rat
def Bf (p:Pt):List Value:=BM p.x++BM p.y
theorem Ay {z:Int} (h:-9223372036854775808<=z) (h':z<9223372036854775808):IntKind.i64.wrap z=z:=by
  simp only [IntKind.wrap,IntKind.bits,IntKind.signed];simp;split<;>omega
theorem DE {z:Int} (h:0<=z) (h':z<18446744073709551616):IntKind.u64.wrap z=z:=by
  simp only [IntKind.wrap,IntKind.bits,IntKind.signed];simp;omega
theorem GR {z:Int} (h:0<=z) (h':z<4294967296):IntKind.u32.wrap z=z:=by
  simp only [IntKind.wrap,IntKind.bits,IntKind.signed];simp;omega
theorem NF {z:Int} (h:0<=z) (h':z<256):IntKind.u8.wrap z=z:=by
  simp only [IntKind.wrap,IntKind.bits,IntKind.signed];simp;omega
theorem AN {a b:Nat} (h:a+b<9223372036854775808):IntKind.i64.wrap ((a:Int)+(b:Int))=((a+b:Nat):Int):=by rw [Ay Z Z];omega
theorem By {a b:Nat} (h:b<=a) (h':a<9223372036854775808):IntKind.i64.wrap ((a:Int)-(b:Int))=((a-b:Nat):Int):=by rw [Ay Z Z];omega
theorem Cm {a b:Nat} (h:a*b<9223372036854775808):IntKind.i64.wrap ((a:Int)*(b:Int))=((a*b:Nat):Int):=by
  rw [<-Int.natCast_mul,Ay Z Z]
theorem DU {a b:Nat} (h:a+b<18446744073709551616):IntKind.u64.wrap ((a:Int)+(b:Int))=((a+b:Nat):Int):=by rw [DE Z Z];omega
theorem Hr {a b:Nat} (h:b<=a) (h':a<18446744073709551616):IntKind.u64.wrap ((a:Int)-(b:Int))=((a-b:Nat):Int):=by rw [DE Z Z];omega
theorem Ev {a b:Nat} (h:a*b<18446744073709551616):IntKind.u64.wrap ((a:Int)*(b:Int))=((a*b:Nat):Int):=by
  rw [<-Int.natCast_mul,DE Z Z]
theorem CI {a:Nat} (h:a<9223372036854775808):IntKind.i64.wrap (a:Int)=(a:Int):=Ay Z Z
theorem BW {a:Nat} (h:a<18446744073709551616):IntKind.u64.wrap (a:Int)=(a:Int):=DE Z Z
theorem CQ {a:Nat} (h:a<4294967296):IntKind.u32.wrap (a:Int)=(a:Int):=GR Z Z
theorem UE {a:Nat} (h:a<256):IntKind.u8.wrap (a:Int)=(a:Int):=NF Z Z
theorem EN {a:Nat}:IntKind.u32.wrap (a:Int)=((a%4294967296:Nat):Int):=by
  simp only [IntKind.wrap,IntKind.bits,IntKind.signed];simp
theorem Jk {a:Nat}:IntKind.u8.wrap (a:Int)=((a%256:Nat):Int):=by
  simp only [IntKind.wrap,IntKind.bits,IntKind.signed];simp
theorem CD {a b:Nat}:decide ((a:Int)<(b:Int))=decide (a<b):=decide_eq_decide.2 Z
theorem Wh {a b:Nat}:decide ((a:Int)<=(b:Int))=decide (a<=b):=decide_eq_decide.2 Z
theorem JC {a b:Nat}:decide ((a:Int)=(b:Int))=decide (a=b):=decide_eq_decide.2 Z
theorem bR {a b:Nat}:decide ((a:Int)≠(b:Int))=decide (a≠b):=decide_eq_decide.2 Z
theorem E5 {a b:Nat} (h:a<9223372036854775808):IntKind.i64.wrap ((a:Int).tdiv (b:Int))=((a/b:Nat):Int):=by
  have:a/b<=a:=Nat.div_le_self _ _
  rw [<-Int.ofNat_tdiv]
  generalize a/b=q at *
  exact Ay Z Z
theorem Hs {a b:Nat} (h:a<18446744073709551616):IntKind.u64.wrap ((a:Int).tdiv (b:Int))=((a/b:Nat):Int):=by
  have:a/b<=a:=Nat.div_le_self _ _
  rw [<-Int.ofNat_tdiv]
  generalize a/b=q at *
  exact DE Z Z
theorem F3 {a b:Nat}:((a:Int).tmod (b:Int))=((a%b:Nat):Int):=(Int.ofNat_tmod a b).symm
theorem Fy {a s:Nat}:(a:Int)/2^s=((a/2^s:Nat):Int):=by simp
theorem FN:prog.follows .mixedOrders=true:=by kernel_rfl
theorem AC.store' {P:Program} {ops:Array Oper} {rest:List Oper} {Q:Exit->Act->World->Prop} {n:Nat} {F:List (Nat×Value)} {w0:BL} {L L':List As} {v:Value} {x y:Operand} {d:Option Tmp} {t:TypeId} {p:String} {af:Array Edge} {g:Option (Nat×Bool)}
    {i b off:Nat} {ty T:TypeId} {cs vs cs':List Value} (hw:Wt ops n F ⟨d,.store ty x y,t,p,af,g⟩) (ho:d=none) (hx:evF F x=some (.pointer (some ⟨b,off,none⟩))) (hy:evF F y=some v) (hi:L[i]?=some (Af b T cs))
    (hv:v.cells=vs.toArray) (hs:∀w,(sizeOf ty).run P w=.ok vs.length w) (h1:(vs.all λu=>u.oneCell')=true) (hl:Nat.ble (off+vs.length) cs.length=true)
    (hc:IQ cs off vs=cs') (hL:L.set i (Af b T cs')=L') (next:AC P ops rest Q n F w0 L'):AC P ops (⟨d,.store ty x y,t,p,af,g⟩::rest) Q n F w0 L:=by
  subst hc;subst hL
  exact AC.store hw (VJ hx hy hi hv hs h1 hl) ho hi next
theorem AC.callB {P:Program} {ops:Array Oper} {rest:List Oper} {Q:Exit->Act->World->Prop} {n:Nat} {F:List (Nat×Value)} {w0:BL} {L:List As} {o:Oper} {d:Nat} {f:FuncId} {args:Array Value} {V:Nat->Value} {T:TypeId} {cs:List Value} (hw:Wt ops n F o)
    (he:∀a w,C2 n a F->BS w0 w L->(execOp a.eval o).run P w=.ok (.enter f args) w)
    (hc:∀w,BS w0 w L->Calls P f args w λe w'=>∃b,e=.returned (V b)/\GJ w.heap.size w w'/\w.heap.size<=b/\w'.heap[b]?=some (.cells cs.toArray T (0,0)))
    (ho:o.dst=some d) (hd:d<n) (next:∀b,AC P ops rest Q n ((d,V b)::F) w0 (Af b T cs::L)):AC P ops (o::rest) Q n F w0 L:=λa w ha hW=>by
  unfold wpList
  rw [if_pos (hw a ha)]
  left
  unfold Oper.wp
  rw [he a w ha hW,Oper.upon_enter]
  refine (hc w hW).mono ?_
  rintro e w' ⟨b,rfl,hb,hlt,hcell⟩
  rw [ho]
  exact next b _ _ (ha.put hd) (hW.add O hb hlt ⟨_,hcell,rfl⟩)
theorem AC.callM {P:Program} {ops:Array Oper} {rest:List Oper} {Q:Exit->Act->World->Prop} {n:Nat} {F:List (Nat×Value)} {w0:BL} {L L':List As} {o:Oper} {f:FuncId} {args:Array Value} {v:Value} {i b:Nat} {T:TypeId} {cs cs':List Value} (hw:Wt ops n F o)
    (he:∀a w,C2 n a F->BS w0 w L->(execOp a.eval o).run P w=.ok (.enter f args) w) (hi:L[i]?=some (Af b T cs))
    (hc:∀w,BS w0 w L->Calls P f args w λe w'=>e=.returned v/\Lz w w' (some b)/\w'.heap[b]?=some (.cells cs'.toArray T (0,0)))
    (hd:∀d,o.dst=some d->d<n) (hL:L.set i (Af b T cs')=L') (next:AC P ops rest Q n (match o.dst with|some d=>(d,v)::F|none=>F) w0 L'):AC P ops (o::rest) Q n F w0 L:=λa w ha hW=>by
  subst hL
  unfold wpList
  rw [if_pos (hw a ha)]
  left
  unfold Oper.wp
  rw [he a w ha hW,Oper.upon_enter]
  refine (hc w hW).mono ?_
  rintro e w' ⟨rfl,hg,hcell⟩
  have hW':=hW.turn hi rfl rfl hg ⟨_,hcell,rfl⟩ (y:=Af b T cs')
  cases hdst:o.dst with
  | none=>rw [hdst] at next;exact next _ _ ha.put_none hW'
  | some d=>rw [hdst] at next;exact next _ _ (ha.put (hd d hdst)) hW'
abbrev pP (b o:Nat):Value:=.pointer (some ⟨b,o,none⟩)
abbrev aG (l:List Value):Value:=.agg l.toArray
abbrev vI (z:Int):Value:=.int .i64 z
abbrev vN (n:Nat):Value:=.int .i64 (n:Int)
abbrev vK (k:IntKind) (n:Nat):Value:=.int k (n:Int)
theorem Ad {a b:Nat} (h:Nat.ble a b=true):a<=b:=Nat.le_of_ble_eq_true h
theorem sN {F:List (Nat×Value)}:DT [] F:=trivial
theorem sS {k:Nat} {v:Value} {r F:List (Nat×Value)} (h:F.lookup k=some v) (t:DT r F):DT ((k,v)::r) F:=⟨h,t⟩
def dC (F:List (Nat×Value)):List (Nat×Value)->List (Option Value)
  | []=>[]
  | p::r=>F.lookup p.1::dC F r
def dl:List (Nat×Value)->List (Option Value)
  | []=>[]
  | p::r=>some p.2::dl r
theorem sF:∀{F' F:List (Nat×Value)},dC F F'=dl F'->DT F' F
  | [],_,_=>trivial
  | _::_,_,h=>by
    simp only [dC,dl,List.cons.injEq] at h
    exact ⟨h.1,sF h.2⟩
section
variable {P:Program} {ops:Array Oper} {rest:List Oper} {Q:Exit->Act->World->Prop} {n d:Nat} {F F':List (Nat×Value)} {w0:BL} {L Lro:List As} {op:Op} {t:TypeId} {p:String} {af:Array Edge} {v:Value} {l:List Oper} {specs:List Sp}
theorem AE.subF {c:Code} (hs:DT F' F) (h:AE P c Q n F' w0 L):AE P c Q n F w0 L:=AE.sub hs (List.Sublist.refl _) h
theorem OkQ.subF {e:Exit} (hs:DT F' F) (h:OkQ Q e n F' w0 L):OkQ Q e n F w0 L:=OkQ.sub hs (List.Sublist.refl _) h
theorem st (he:Ex P n F w0 L ⟨some d,op,t,p,af,none⟩ v) (hd:d<n) (next:AC P ops rest Q n ((d,v)::F) w0 L):AC P ops (⟨some d,op,t,p,af,none⟩::rest) Q n F w0 L:=AC.step (AP rfl) he rfl hd next
theorem q1 {x y:Code} (h:AE P x (Exit.then (y.wp P Q) Q) n F w0 L):OkQ (Exit.then ((Code.seq x y).wp P Q) Q) .normal n F w0 L:=OkQ.then_ (AE.seq h)
theorem q2 {id:Nat} {y:Code} (h:AC P l.toArray l (Exit.then (y.wp P Q) Q) n F w0 L):OkQ (Exit.then ((Code.seq (.region id l.toArray false) y).wp P Q) Q) .normal n F w0 L:=q1 (AE.region h)
theorem q3 {id:Nat} {y:Code} (hs:DT F' F) (h:AC P l.toArray l (Exit.then (y.wp P Q) Q) n F' w0 L):AC P ops [] (Exit.then ((Code.seq (.region id l.toArray false) y).wp P Q) Q) n F w0 L:=AC.nil (OkQ.subF hs (q2 h))
theorem q4 {id:Nat} {y:Code} (h:AC P l.toArray l (Exit.then (y.wp P Q) Q) n F w0 L):AE P (Code.seq (.region id l.toArray false) y) Q n F w0 L:=AE.seq (AE.region h)
theorem q6 {x y:Code} (hs:DT F' F) (h:AE P x (Exit.then (y.wp P Q) Q) n F' w0 L):AC P ops [] (Exit.then ((Code.seq x y).wp P Q) Q) n F w0 L:=AC.nil (OkQ.subF hs (q1 h))
theorem A_ {x:Operand} {f:FuncId} {xs:List Operand} {args:List Value} {ts:Array TypeId} {dd:Option Tmp} {g:Option (Nat×Bool)} (hf:evF F x=some (.func (.func f) #[] #[])) (hargs:xs.map (evF F)=args.map some)
    (hc:∀args w,(callFunc f args).run P w=.ok (.enter f args) w) :
    ∀a w,C2 n a F->BS w0 w L->(execOp a.eval ⟨dd,.call { callee:=.value x,args:=xs.toArray,argTypes:=ts },t,p,af,g⟩).run P w=.ok (.enter f args.toArray) w :=
  Q6 (caps:=[]) hf hargs (List.append_nil _) hc
end
end
section
structure DO (P:Program) (t:TypeId) (k:Nat):Prop where
  a:∀w,(isAgg t).run P w=.ok true w
  s:∀w,(sizeOf t).run P w=.ok k w
structure EV (P:Program) (t:TypeId):Prop where
  a:∀w,(isAgg t).run P w=.ok false w
def C1 (P:Program) (t:TypeId) (cs:List Value):Prop:=∃u:Value,(∀w,(zeroValue t).run P w=.ok u w)/\u.cells=cs.toArray
section
variable {P:Program} {ops:Array Oper} {rest:List Oper} {Q:Exit->Act->World->Prop} {n d i b off k:Nat} {F F':List (Nat×Value)} {w0:BL} {L Lro:List As} {op:Op} {t ty T:TypeId} {p:String} {af:Array Edge} {u v:Value} {x y:Operand} {l:List Oper} {specs:List Sp} {cs vs:List Value}
theorem Bx {a b:Nat} (h:Nat.ble (a+1) b=true):a<b:=Nat.le_of_ble_eq_true h
theorem mv (hx:evF F x=some v) (hd:Nat.ble (d+1) n=true) (next:AC P ops rest Q n ((d,v)::F) w0 L):AC P ops (⟨some d,.move x,t,p,af,none⟩::rest) Q n F w0 L:=AC.step (AP rfl) (AU hx) rfl (Bx hd) next
theorem eL (hx:evF F x=some v) (hd:Nat.ble (d+1) n=true) (next:AC P ops rest Q n ((d,v)::F) w0 L):AC P ops (⟨some d,.assign x,t,p,af,none⟩::rest) Q n F w0 L:=AC.step (AP rfl) (L3 hx) rfl (Bx hd) next
theorem KP {cs:List Value} {k:Nat} (h:cs.length=k):(cs.drop 0).take k=cs:=by rw [List.drop_zero,List.take_of_length_le Z]
theorem eZ (i:Nat) (ht:DO P ty k) (hx:evF F x=some (pP b 0)) (hi:L[i]?=some (Af b T cs)) (hl:cs.length=k) (hd:Nat.ble (d+1) n=true) (next:AC P ops rest Q n ((d,aG cs)::F) w0 L) :
    AC P ops (⟨some d,.load ty x,t,p,af,none⟩::rest) Q n F w0 L:=AC.step (AP rfl) (BB hx hi ht.a ht.s (KP hl) hl) rfl (Bx hd) next
theorem eO (i:Nat) (vs:List Value) (ht:DO P ty k) (hx:evF F x=some (pP b off)) (hi:L[i]?=some (Af b T cs)) (hv:(cs.drop off).take k=vs) (hl:vs.length=k) (hd:Nat.ble (d+1) n=true) (next:AC P ops rest Q n ((d,aG vs)::F) w0 L) :
    AC P ops (⟨some d,.load ty x,t,p,af,none⟩::rest) Q n F w0 L:=AC.step (AP rfl) (BB hx hi ht.a ht.s hv hl) rfl (Bx hd) next
theorem eS (i:Nat) (v:Value) (ht:EV P ty) (hx:evF F x=some (pP b off)) (hi:L[i]?=some (Af b T cs)) (hv:cs[off]?=some v) (hd:Nat.ble (d+1) n=true) (next:AC P ops rest Q n ((d,v)::F) w0 L) :
    AC P ops (⟨some d,.load ty x,t,p,af,none⟩::rest) Q n F w0 L:=AC.step (AP rfl) (AS hx hi ht.a hv) rfl (Bx hd) next
theorem bx (hx:evF F x=some v) (hv:v.cells=cs.toArray) (hd:Nat.ble (d+1) n=true) (next:∀b,AC P ops rest Q n ((d,pP b 0)::F) w0 (Af b T cs::L)):AC P ops (⟨some d,.box T x,t,p,af,none⟩::rest) Q n F w0 L :=
  AC.open_ (AP rfl) (Z6 hx hv) rfl (Bx hd) next
theorem al (hz:C1 P T cs) (hd:Nat.ble (d+1) n=true) (next:∀b,AC P ops rest Q n ((d,pP b 0)::F) w0 (Af b T cs::L)):AC P ops (⟨some d,.alloc T,t,p,af,none⟩::rest) Q n F w0 L :=
  have ⟨_,h1,h2⟩:=hz
  AC.open_ (AP rfl) (Nu h1 h2) rfl (Bx hd) next
theorem cl {f:FuncId} {xs:List Operand} {args:List Value} {ts:Array TypeId} (hc:∀args w,(callFunc f args).run P w=.ok (.enter f args) w) (h:∀w,BS w0 w L->Calls P f args.toArray w (A9 w v))
    (hf:evF F x=some (.func (.func f) #[] #[])) (hargs:xs.map (evF F)=args.map some) (hd:Nat.ble (d+1) n=true) (next:AC P ops rest Q n ((d,v)::F) w0 L) :
    AC P ops (⟨some d,.call { callee:=.value x,args:=xs.toArray,argTypes:=ts },t,p,af,none⟩::rest) Q n F w0 L:=AC.call (AP rfl) (A_ hf hargs hc) h rfl (Bx hd) next
theorem YH {cs vs:List Value} (h:vs.length=cs.length):IQ cs 0 vs=vs:=by simp [IQ,h]
theorem NY {L':List As} (hx:evF F x=some (pP b 0)) (hy:evF F y=some v) (hi:L[i]?=some (Af b T cs)) (hv:v.cells=vs.toArray) (hs:∀w,(sizeOf ty).run P w=.ok vs.length w) (h1:(vs.all λu=>u.oneCell')=true) (hl:vs.length=cs.length)
    (hL:L.set i (Af b T vs)=L') (next:AC P ops rest Q n F w0 L'):AC P ops (⟨none,.store ty x y,t,p,af,none⟩::rest) Q n F w0 L:=AC.store' (AP rfl) rfl hx hy hi hv hs h1 (Nat.ble_eq_true_of_le Z) (YH hl) hL next
variable {A0 A1 A2 A3 A4 A5:As}
theorem dG (hx:evF F x=some (pP b 0)) (hy:evF F y=some v) (hv:v.cells=vs.toArray) (hs:∀w,(sizeOf ty).run P w=.ok vs.length w) (h1:(vs.all λu=>u.oneCell')=true) (hl:vs.length=cs.length)
    (next:AC P ops rest Q n F w0 (Af b T vs::L)):AC P ops (⟨none,.store ty x y,t,p,af,none⟩::rest) Q n F w0 (Af b T cs::L):=NY (i:=0) hx hy rfl hv hs h1 hl rfl next
theorem dQ (hx:evF F x=some (pP b 0)) (hy:evF F y=some v) (hv:v.cells=vs.toArray) (hs:∀w,(sizeOf ty).run P w=.ok vs.length w) (h1:(vs.all λu=>u.oneCell')=true) (hl:vs.length=cs.length)
    (next:AC P ops rest Q n F w0 (A0::Af b T vs::L)):AC P ops (⟨none,.store ty x y,t,p,af,none⟩::rest) Q n F w0 (A0::Af b T cs::L):=NY (i:=1) hx hy rfl hv hs h1 hl rfl next
theorem dX (hx:evF F x=some (pP b 0)) (hy:evF F y=some v) (hv:v.cells=vs.toArray) (hs:∀w,(sizeOf ty).run P w=.ok vs.length w) (h1:(vs.all λu=>u.oneCell')=true) (hl:vs.length=cs.length)
    (next:AC P ops rest Q n F w0 (A0::A1::Af b T vs::L)):AC P ops (⟨none,.store ty x y,t,p,af,none⟩::rest) Q n F w0 (A0::A1::Af b T cs::L):=NY (i:=2) hx hy rfl hv hs h1 hl rfl next
theorem dW (hx:evF F x=some (pP b 0)) (hy:evF F y=some v) (hv:v.cells=vs.toArray) (hs:∀w,(sizeOf ty).run P w=.ok vs.length w) (h1:(vs.all λu=>u.oneCell')=true) (hl:vs.length=cs.length)
    (next:AC P ops rest Q n F w0 (A0::A1::A2::Af b T vs::L)):AC P ops (⟨none,.store ty x y,t,p,af,none⟩::rest) Q n F w0 (A0::A1::A2::Af b T cs::L):=NY (i:=3) hx hy rfl hv hs h1 hl rfl next
theorem sr {L:List As}:L.Sublist L:=List.Sublist.refl _
theorem sl {a:As} {l1 l2:List As} (h:l1.Sublist l2):l1.Sublist (a::l2):=List.Sublist.cons _ h
theorem sk {a:As} {l1 l2:List As} (h:l1.Sublist l2):(a::l1).Sublist (a::l2):=List.Sublist.cons_cons _ h
end
section
variable {P:Program} {ops:Array Oper} {rest:List Oper} {Q:Exit->Act->World->Prop} {n:Nat} {F F':List (Nat×Value)} {w0:BL} {L Lro:List As} {specs:List Sp} {β:Nat->Value} {A0 A1 A2 A3:As}
end
def V3 (F:List (Nat×Value)):List Nat->Option (List (Nat×Value))
  | []=>some []
  | k::ks=>match F.lookup k with
    | some v=>match V3 F ks with
      | some r=>some ((k,v)::r)
      | none=>none
    | none=>none
theorem sL:∀(ks:List Nat) {F F':List (Nat×Value)},V3 F ks=some F'->DT F' F
  | [],_,_,h=>by injection h with h;subst h;trivial
  | k::ks,F,F',h=>by
    unfold V3 at h
    split at h
    · rename_i v hv
      split at h
      · rename_i r hr
        injection h with h;subst h
        exact ⟨hv,sL ks hr⟩
      · cases h
    · cases h
def OW:List As->Nat->As->Option (List As)
  | [],_,_=>none
  | _::r,0,y=>some (y::r)
  | x::r,i+1,y=>match OW r i y with
    | some r'=>some (x::r')
    | none=>none
theorem Gq:∀{L:List As} {i:Nat} {y:As} {L':List As},OW L i y=some L'->L.set i y=L'
  | [],_,_,_,h=>by cases h
  | _::r,0,y,_,h=>by injection h
  | x::r,i+1,y,L',h=>by
    unfold OW at h
    split at h
    · rename_i r' hr
      injection h with h;subst h
      rw [List.set_cons_succ,Gq hr]
    · cases h
section
variable {α β γ δ ε:Type} {a a':α} {b b':β} {c c':γ} {d d':δ} {e e':ε}
theorem Cw (h:(a,b)=(a',b')):a=a':=congrArg Prod.fst h
theorem BZ (h:(a,b)=(a',b')):b=b':=congrArg Prod.snd h
end
section
variable {P:Program} {ops:Array Oper} {rest:List Oper} {Q:Exit->Act->World->Prop} {n d i b off k:Nat} {F F':List (Nat×Value)} {w0:BL} {L L' Lro:List As} {op:Op} {t ty T:TypeId} {p:String} {af:Array Edge} {u v:Value} {x y:Operand} {l:List Oper} {specs:List Sp} {cs vs:List Value} {o:Oper} {j:Nat} {g:Option (Nat×Bool)}
theorem AA {t:Nat} {b:Bool} (h:(o.guard,(ops[j]?).bind (·.dst),F.lookup t)=(some (j,b),some t,some (.bool b))):Wt ops n F o:=W1 (Cw h) (Cw (BZ h)) (BZ (BZ h))
theorem AH {t:Nat} {b:Bool} (h:(o.guard,(ops[j]?).bind (·.dst),F.lookup t)=(some (j,b),some t,some (.bool (!b)))):∀a,C2 n a F->Region.wanted o (yielded ops a.tmps)=false:=Zt (Cw h) (Cw (BZ h)) (BZ (BZ h))
theorem AJ (he:Ex P n F w0 L ⟨some d,op,t,p,af,none⟩ v) (hd:Nat.ble (d+1) n=true) (next:AC P ops rest Q n ((d,v)::F) w0 L):AC P ops (⟨some d,op,t,p,af,none⟩::rest) Q n F w0 L:=st he (Bx hd) next
theorem AM (h:(evF F x,Nat.ble (d+1) n)=(some v,true)) (next:AC P ops rest Q n ((d,v)::F) w0 L):AC P ops (⟨some d,.move x,t,p,af,none⟩::rest) Q n F w0 L:=mv (Cw h) (BZ h) next
theorem AI (h:(evF F x,Nat.ble (d+1) n)=(some v,true)) (next:AC P ops rest Q n ((d,v)::F) w0 L):AC P ops (⟨some d,.assign x,t,p,af,none⟩::rest) Q n F w0 L:=eL (Cw h) (BZ h) next
theorem BF (i:Nat) (ht:DO P ty k) (h:(evF F x,L[i]?,cs.length,Nat.ble (d+1) n)=(some (pP b 0),some (Af b T cs),k,true)) (next:AC P ops rest Q n ((d,aG cs)::F) w0 L) :
    AC P ops (⟨some d,.load ty x,t,p,af,none⟩::rest) Q n F w0 L:=eZ i ht (Cw h) (Cw (BZ h)) (Cw (BZ (BZ h))) (BZ (BZ (BZ h))) next
theorem Pi (i:Nat) (vs:List Value) (ht:DO P ty k) (h:(evF F x,L[i]?,(cs.drop off).take k,vs.length,Nat.ble (d+1) n)=(some (pP b off),some (Af b T cs),vs,k,true)) (next:AC P ops rest Q n ((d,aG vs)::F) w0 L) :
    AC P ops (⟨some d,.load ty x,t,p,af,none⟩::rest) Q n F w0 L:=eO i vs ht (Cw h) (Cw (BZ h)) (Cw (BZ (BZ h))) (Cw (BZ (BZ (BZ h)))) (BZ (BZ (BZ (BZ h)))) next
theorem BE (i:Nat) (v:Value) (ht:EV P ty) (h:(evF F x,L[i]?,cs[off]?,Nat.ble (d+1) n)=(some (pP b off),some (Af b T cs),some v,true)) (next:AC P ops rest Q n ((d,v)::F) w0 L) :
    AC P ops (⟨some d,.load ty x,t,p,af,none⟩::rest) Q n F w0 L:=eS i v ht (Cw h) (Cw (BZ h)) (Cw (BZ (BZ h))) (BZ (BZ (BZ h))) next
theorem Ca (h:(evF F x,v.cells,Nat.ble (d+1) n)=(some v,cs.toArray,true)) (next:∀b,AC P ops rest Q n ((d,pP b 0)::F) w0 (Af b T cs::L)):AC P ops (⟨some d,.box T x,t,p,af,none⟩::rest) Q n F w0 L :=
  bx (Cw h) (Cw (BZ h)) (BZ (BZ h)) next
theorem DS {f:FuncId} {xs:List Operand} {args:List Value} {ts:Array TypeId} (hc:∀args w,(callFunc f args).run P w=.ok (.enter f args) w) (h:∀w,BS w0 w L->Calls P f args.toArray w (A9 w v))
    (h2:(evF F x,xs.map (evF F),Nat.ble (d+1) n)=(some (.func (.func f) #[] #[]),args.map some,true)) (next:AC P ops rest Q n ((d,v)::F) w0 L) :
    AC P ops (⟨some d,.call { callee:=.value x,args:=xs.toArray,argTypes:=ts },t,p,af,none⟩::rest) Q n F w0 L:=cl hc h (Cw h2) (Cw (BZ h2)) (BZ (BZ h2)) next
theorem ck' {f:FuncId} {xs:List Operand} {args:List Value} {ts:Array TypeId} (hc:∀args w,(callFunc f args).run P w=.ok (.enter f args) w) (h:∀w,Calls P f args.toArray w (A9 w v))
    (h2:(evF F x,xs.map (evF F),Nat.ble (d+1) n)=(some (.func (.func f) #[] #[]),args.map some,true)) (next:AC P ops rest Q n ((d,v)::F) w0 L) :
    AC P ops (⟨some d,.call { callee:=.value x,args:=xs.toArray,argTypes:=ts },t,p,af,none⟩::rest) Q n F w0 L:=DS hc (λw _=>h w) h2 next
variable {A0 A1 A2 A3 A4 A5:As}
theorem BN (h:(evF F x,evF F y,v.cells)=(some (pP b 0),some v,vs.toArray)) (hs:∀w,(sizeOf ty).run P w=.ok vs.length w) (h2:(vs.all λu=>u.oneCell',vs.length)=(true,cs.length))
    (next:AC P ops rest Q n F w0 (Af b T vs::L)):AC P ops (⟨none,.store ty x y,t,p,af,none⟩::rest) Q n F w0 (Af b T cs::L):=dG (Cw h) (Cw (BZ h)) (BZ (BZ h)) hs (Cw h2) (BZ h2) next
theorem Ed (h:(evF F x,evF F y,v.cells)=(some (pP b 0),some v,vs.toArray)) (hs:∀w,(sizeOf ty).run P w=.ok vs.length w) (h2:(vs.all λu=>u.oneCell',vs.length)=(true,cs.length))
    (next:AC P ops rest Q n F w0 (A0::Af b T vs::L)):AC P ops (⟨none,.store ty x y,t,p,af,none⟩::rest) Q n F w0 (A0::Af b T cs::L):=dQ (Cw h) (Cw (BZ h)) (BZ (BZ h)) hs (Cw h2) (BZ h2) next
theorem Me (h:(evF F x,evF F y,v.cells)=(some (pP b 0),some v,vs.toArray)) (hs:∀w,(sizeOf ty).run P w=.ok vs.length w) (h2:(vs.all λu=>u.oneCell',vs.length)=(true,cs.length))
    (next:AC P ops rest Q n F w0 (A0::A1::Af b T vs::L)):AC P ops (⟨none,.store ty x y,t,p,af,none⟩::rest) Q n F w0 (A0::A1::Af b T cs::L):=dX (Cw h) (Cw (BZ h)) (BZ (BZ h)) hs (Cw h2) (BZ h2) next
theorem Nx (h:(evF F x,evF F y,v.cells)=(some (pP b 0),some v,vs.toArray)) (hs:∀w,(sizeOf ty).run P w=.ok vs.length w) (h2:(vs.all λu=>u.oneCell',vs.length)=(true,cs.length))
    (next:AC P ops rest Q n F w0 (A0::A1::A2::Af b T vs::L)):AC P ops (⟨none,.store ty x y,t,p,af,none⟩::rest) Q n F w0 (A0::A1::A2::Af b T cs::L):=dW (Cw h) (Cw (BZ h)) (BZ (BZ h)) hs (Cw h2) (BZ h2) next
theorem F2 (i:Nat) {v:Value} {cs':List Value} (hw:Wt ops n F ⟨none,.store ty x y,t,p,af,g⟩) (h:(evF F x,evF F y,L[i]?,v.cells)=(some (pP b off),some v,some (Af b T cs),vs.toArray))
    (hs:∀w,(sizeOf ty).run P w=.ok vs.length w) (h2:(vs.all λu=>u.oneCell',Nat.ble (off+vs.length) cs.length,IQ cs off vs,OW L i (Af b T cs'))=(true,true,cs',some L')) (next:AC P ops rest Q n F w0 L'):AC P ops (⟨none,.store ty x y,t,p,af,g⟩::rest) Q n F w0 L :=
  AC.store' hw rfl (Cw h) (Cw (BZ h)) (Cw (BZ (BZ h))) (BZ (BZ (BZ h))) hs (Cw h2) (Cw (BZ h2)) (Cw (BZ (BZ h2))) (Gq (BZ (BZ (BZ h2)))) next
end
end
end Go.Proofs.YtpgncndhhhllfaaGreat
