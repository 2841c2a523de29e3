import Derived.Test.YtcpkbjjmcleplaaGreatDoorPart02
namespace Go.Proofs.YtcpkbjjmcleplaaGreatDoor
open Go Go.RowKit Go.Proofs.Tryz
open Go.Value renaming slice→qz,bool→qa
set_option linter.unusedVariables false
set_option linter.unusedSimpArgs false
section
def WQ (l:List Oper) (i:Nat) (o:Oper):Bool:=(List.range l.length).all λk=>k == i||match l[k]? with
  | some ok=>CR o k||CR ok i||o.apart l.toArray ok
  | none=>true
def gQ (l:List Oper):Nat:=bif Nat.ble 45 l.length then 8 else 4
def D1 (l:List Oper):List Nat->Option Nat->List (Nat×Bool)->Bool
  | _,_,[]=>true
  | D,p,(i,k)::r=>(match l[i]? with
      | some o=>(o.after.all λe=>!Region.binds .any e||D.contains e.on)&&(match p with|some q=>Cn l (gQ l) i q|none=>true)&&(!k||WQ l i o)&&!D.contains i
      | none=>false)&&D1 l (i::D) (if k then p else some i) r
def OI (l:List Oper) (D:List Nat) (es:List (Nat×Bool)):Bool:=(List.range l.length).all λi=>D.contains i||es.any λe=>e.1 == i
def Yu (l:List Oper) (es:List (Nat×Bool)):Bool:=D1 l [] none es&&OI l [] es&&Nat.beq es.length l.length&&Region.noSelect l.toArray
section
variable {P:Program} {ops:Array Oper} {Q:Exit->Act->World->Prop} {n:Nat} {w0:Ay} {Lro L L':List As} {F F':List (Nat×Value)} {l:List Oper}
theorem iZ {o:Oper} {a:Act} {w:World} {K K':Act->World->Prop} {Q':Exit->Act->World->Prop} (h:∀a w,K a w->K' a w) (hp:∀c a w,Q (.panic c) a w->Q' (.panic c) a w) (hl:LetsOut Q->LetsOut Q') (hh:o.wp P a w K Q):o.wp P a w K' Q':=by
  unfold Oper.wp at *
  generalize (execOp a.eval o).run P w=r at *
  cases r with
  | ok n w' =>
    cases n<;>simp only [Oper.upon] at hh ⊢ <;>
      first
        | exact h _ _ hh
        | exact Calls.mono hh (λe w'' he=>by cases e<;>first|exact h _ _ he|exact hp _ _ _ he|exact hl he)
        | exact Rows.mono hh (λ_ _ he=>h _ _ he)
  | halt x w'=>cases x<;>simp only [Oper.upon] at hh ⊢<;>first|exact hp _ _ _ hh|exact hl hh|exact hh
def f6 (P:Program) (ops:Array Oper) (n:Nat) (w0:Ay) (Lro:List As) (F:List (Nat×Value)) (o:Oper) (v:Value):Prop :=
  (Wt ops n F o/\Ex P n F w0 Lro o v)\/((∀a,Cg n a F->Region.wanted o (yielded ops a.tmps)=false)/\v=undef)
def Wk (Lro L:List As):Prop:=∀(w0:Ay) (w:World),A_ w0 w L->A_ w0 w Lro
theorem Wk.of {Lro L:List As} (h:Lro.Sublist L):Wk Lro L:=λ_ _ hw=>hw.weak h
def PE (Q:Exit->Act->World->Prop) (n:Nat) (w0:Ay) (Lro:List As) (K:List (Nat×Value)->List As->Prop):Exit->Act->World->Prop
  | .normal,a,w=>∃F' L',Cg n a F'/\A_ w0 w L'/\Wk Lro L'/\K F' L'
  | e,a,w=>Q e a w
def OkE (P:Program) (ops:Array Oper) (Q:Exit->Act->World->Prop) (n:Nat) (w0:Ay) (Lro:List As):List (Nat×Bool)->List (Nat×Value)->List As->Prop
  | [],F,L=>OkQ Q .normal n F w0 L
  | (i,true)::r,F,L=>∃o d v,ops[i]?=some o/\o.dst=some d/\d<n/\f6 P ops n w0 Lro F o v/\OkE P ops Q n w0 Lro r ((d,v)::F) L
  | (i,false)::r,F,L=>∃o,ops[i]?=some o/\AP P ops [o] (PE Q n w0 Lro λF' L'=>OkE P ops Q n w0 Lro r F' L') n F w0 L
def Hc (P:Program) (ops:Array Oper) (Q:Exit->Act->World->Prop) (n:Nat) (w0:Ay) (Lro:List As) (j:Nat) (e2:List (Nat×Bool)):List (Nat×Bool)->List (Nat×Value)->List As->Prop
  | [],F,L=>∃o,ops[j]?=some o/\AP P ops [o] (PE Q n w0 Lro λF' L'=>OkE P ops Q n w0 Lro e2 F' L') n F w0 L
  | (i,true)::r,F,L=>∃o d v,ops[i]?=some o/\o.dst=some d/\d<n/\f6 P ops n w0 Lro F o v/\Hc P ops Q n w0 Lro j e2 r ((d,v)::F) L
  | (i,false)::r,F,L=>(∃o,ops[i]?=some o/\AP P ops [o] (PE Q n w0 Lro λF' L'=>Hc P ops Q n w0 Lro j e2 r F' L') n F w0 L) /\
      ∃o,ops[j]?=some o/\AP P ops [o] (PE Q n w0 Lro λF' L'=>OkE P ops Q n w0 Lro ((i,false)::r++e2) F' L') n F w0 L
theorem II {i:Nat} {o:Oper} {K:List (Nat×Value)->List As->Prop} {K':Act->World->Prop} {a:Act} {w:World} (hi:ops[i]?=some o) (h:wpList P ops (PE Q n w0 Lro K) [o] a w)
    (hK:∀F' L' a' w',Cg n a' F'->A_ w0 w' L'->Wk Lro L'->K F' L'->K' a' w'):wpOp P ops Q i K' a w:=by
  unfold wpOp
  simp only [hi]
  unfold wpList at h
  have go:∀a' w',wpList P ops (PE Q n w0 Lro K) [] a' w'->K' a' w':=λa' w' h=>by
    obtain ⟨F',L',h1,h2,h3,h4⟩:=(show PE Q n w0 Lro K .normal a' w' from h)
    exact hK F' L' a' w' h1 h2 h3 h4
  split
  · rename_i hw
    rw [if_pos hw] at h
    rcases h with h|h
    · exact .inl (iZ go (λ_ _ _ h=>h) (λh=>h) h)
    · exact .inr h
  · rename_i hw
    rw [if_neg hw] at h
    exact go _ _ h
theorem IS {listed:Array Bool} (hcl:∀(j:Nat) (o:Oper),listed.getD j false=true->l[j]?=some o->∀e∈o.after,Region.binds .any e=true->listed.getD e.on false=true) :
    ∀(f i j:Nat) (o:Oper),Cn l f i j=true->l[i]?=some o->(∀e∈o.after,Region.binds .any e=true->listed.getD e.on false=true)->listed.getD j false=true
  | 0,i,j,o,h,_,_=>by simp [Cn] at h
  | f+1,i,j,o,h,ho,hp=>by
    unfold Cn at h
    simp only [ho,xY] at h
    rcases h with h|h
    · obtain ⟨e,he,hb,rfl⟩:=BK h
      exact hp e he hb
    · obtain ⟨k,hk,h⟩:=List.any_eq_true.1 h
      simp only [xZ] at h
      obtain ⟨e,he,hb,rfl⟩:=BK h.1
      have hl:=hp e he hb
      have hk':e.on<l.length:=List.mem_range.1 hk
      have ho':l[e.on]?=some l[e.on]:=xN hk'
      exact IS hcl f e.on j _ h.2 ho' (λe' he' hb'=>hcl _ _ hl ho' e' he' hb')
structure gH (l:List Oper) (D:List Nat) (p:Option Nat) (i:Nat) (k:Bool) (r:List (Nat×Bool)) (o:Oper):Prop where
  at_:l[i]?=some o
  pre:∀e∈o.after,Region.binds .any e=true->e.on∈D
  bef:∀q,p=some q->Cn l (gQ l) i q=true
  fr:k=true->WQ l i o=true
  nin:i ∉ D
  tl:D1 l (i::D) (if k then p else some i) r=true
theorem Dg {D:List Nat} {p:Option Nat} {i:Nat} {k:Bool} {r:List (Nat×Bool)} (h:D1 l D p ((i,k)::r)=true):∃o,gH l D p i k r o:=by
  unfold D1 at h
  rw [xZ] at h
  obtain ⟨h1,h2⟩:=h
  cases ho:l[i]? with
  | none=>simp [ho] at h1
  | some o =>
    simp only [ho,xZ] at h1
    obtain ⟨⟨⟨h3,h4⟩,h5⟩,h6⟩:=h1
    refine ⟨o,ho,λe he hb=>?_,λq hq=>?_,λhk=>?_,by simpa using h6,h2⟩
    · have:=Array.all_eq_true_iff_forall_mem.1 h3 e he
      simpa [hb] using this
    · subst hq;exact h4
    · subst hk;simpa using h5
theorem Ef:∀{es:List (Nat×Bool)} {D:List Nat} {p:Option Nat},D1 l D p es=true->∀e∈es,e.1 ∉ D/\e.1<l.length
  | [],_,_,_,e,he=>by cases he
  | (i,k)::r,D,p,h,e,he=>by
    obtain ⟨o,hg⟩:=Dg h
    rcases xL.1 he with rfl|he
    · exact ⟨hg.nin,(List.getElem?_eq_some_iff.1 hg.at_).1⟩
    · have:=Ef hg.tl e he
      exact ⟨λhd=>this.1 (List.mem_cons_of_mem _ hd),this.2⟩
theorem Eu {listed:Array Bool} (hcl:∀(j:Nat) (o:Oper),listed.getD j false=true->l[j]?=some o->∀e∈o.after,Region.binds .any e=true->listed.getD e.on false=true) :
    ∀{es:List (Nat×Bool)} {D:List Nat} {p:Nat},D1 l D (some p) es=true->listed.getD p false=false->(∀e∈es,listed.getD e.1 false=false)->∀e∈es,e.1 ∉ Region.ready .any l.toArray listed
  | [],_,_,_,_,_,e,he=>by cases he
  | (i,k)::r,D,p,h,hp,hu,e,he=>by
    obtain ⟨o,hg⟩:=Dg h
    rcases xL.1 he with rfl|he2
    · intro hr
      obtain ⟨_,o',ho',hall⟩:=mem_ready.1 hr
      have:=IS hcl (gQ l) i p o' (hg.bef p rfl) (by simpa using ho') hall
      rw [hp] at this;cases this
    · have hu':∀e∈r,listed.getD e.1 false=false:=λe he=>hu e (List.mem_cons_of_mem _ he)
      have htl:=hg.tl
      cases k with
      | true=>exact Eu hcl htl hp hu' e he2
      | false=>exact Eu hcl htl (hu (i,false) List.mem_cons_self) hu' e he2
structure NS (l:List Oper) (D:List Nat) (listed:Array Bool):Prop where
  size:listed.size=l.length
  mem:∀i,i∈D↔listed.getD i false=true
  cl:∀(j:Nat) (o:Oper),listed.getD j false=true->l[j]?=some o->∀e∈o.after,Region.binds .any e=true->listed.getD e.on false=true
theorem NS.no {D:List Nat} {listed:Array Bool} (h:NS l D listed) {i:Nat} (hn:i ∉ D):listed.getD i false=false:=by
  cases hx:listed.getD i false with
  | false=>rfl
  | true=>exact absurd ((h.mem i).2 hx) hn
theorem C3 {listed:Array Bool} {i:Nat} (hi:i<listed.size):listed.getD i true=listed.getD i false:=by simp [hi]
theorem NS.add {D:List Nat} {listed:Array Bool} (h:NS l D listed) {i:Nat} {o:Oper} (ho:l[i]?=some o) (hp:∀e∈o.after,Region.binds .any e=true->listed.getD e.on false=true):NS l (i::D) (listed.setIfInBounds i true):=by
  have hil:i<l.length:=(List.getElem?_eq_some_iff.1 ho).1
  have his:i<listed.size:=by rw [h.size];exact hil
  refine ⟨by simpa using h.size,λk=>?_,λj o' hj ho' e he hb=>?_⟩
  · rw [D5 _ _ _ _ his]
    by_cases e:i=k
    · subst e;simp
    · rw [if_neg e,<-h.mem k]
      exact ⟨λhm=>(xL.1 hm).elim (λe2=>absurd e2.symm e) id,List.mem_cons_of_mem _⟩
  · rw [D5 _ _ _ _ his] at hj ⊢
    have:listed.getD e.on false=true:=by
      by_cases e1:i=j
      · subst e1
        rw [ho] at ho';injection ho' with ho';subst ho'
        exact hp e he hb
      · rw [if_neg e1] at hj
        exact h.cl j o' hj ho' e he hb
    split
    · rfl
    · exact this
theorem Hn {D:List Nat} {listed:Array Bool} (hL:NS l D listed) {i:Nat} {o:Oper} (ho:l[i]?=some o) (hf:WQ l i o=true) (hp:∀e∈o.after,Region.binds .any e=true->listed.getD e.on false=true) (j:Nat) (oj:Oper) (hj:l.toArray[j]?=some oj) (hne:j≠i) (hun:listed.getD j true=false) (hno:∀e∈oj.after,Region.binds .any e=true->e.on≠i) :
    o.apart l.toArray oj=true:=by
  have hj':l[j]?=some oj:=by simpa using hj
  have hjl:j<l.length:=(List.getElem?_eq_some_iff.1 hj').1
  have h1:=List.all_eq_true.1 hf j (List.mem_range.2 hjl)
  simp only [hj',xY,beq_iff_eq,hne,false_or] at h1
  rcases h1 with (h1|h1)|h1
  · obtain ⟨e,he,hb,rfl⟩:=BK h1
    have:=hp e he hb
    rw [C3 (by rw [hL.size];exact hjl)] at hun
    rw [hun] at this;cases this
  · obtain ⟨e,he,hb,h2⟩:=BK h1
    exact absurd h2 (hno e he hb)
  · exact h1
theorem Uw {D:List Nat} {listed:Array Bool} (hL:NS l D listed) (hall:∀i,i<l.length->i∈D):Region.ready .any l.toArray listed=[]:=by
  cases hr:Region.ready .any l.toArray listed with
  | nil=>rfl
  | cons j r =>
    obtain ⟨h0,o,ho,_⟩:=(mem_ready (md:=.any) (ops:=l.toArray) (listed:=listed) (j:=j)).1 (by rw [hr];exact List.mem_cons_self ..)
    have hjl:j<l.length:=by simpa using (Array.getElem?_eq_some_iff.1 ho).1
    have:=(hL.mem j).1 (hall j hjl)
    rw [C3 (by rw [hL.size];exact hjl)] at h0
    rw [h0] at this;cases this
theorem eI (hQ:∀c a d v w,Q (.panic c) (a.put d v) w->Q (.panic c) a w) (c) (a:Act) (d:Option Tmp) (v:Value) (w:World) (h:Q (.panic c) (a.put d v) w):Q (.panic c) a w:=hQ c a d v w h
theorem Is (hsel:Region.noSelect l.toArray=true) (hQ:∀c a d v w,Q (.panic c) (a.put d v) w->Q (.panic c) a w) :
    ∀(es:List (Nat×Bool)) (D:List Nat) (p:Option Nat) (listed:Array Bool) (a:Act) (w:World) (F:List (Nat×Value)) (L:List As),
      D1 l D p es=true->NS l D listed->(∀i,i<l.length->i∈D\/es.any (λe=>e.1 == i)=true)->Wk Lro L->Cg n a F->A_ w0 w L->OkE P l.toArray Q n w0 Lro es F L ->
      wpAnyH P .any l.toArray Q (λw=>A_ w0 w Lro) es.length listed a w
  | [],D,p,listed,a,w,F,L,hc,hL,hall,hro,ha,hw,h=>⟨Uw hL λi hi=>(hall i hi).resolve_right jX,h a w ha hw⟩
  | (i,true)::r,D,p,listed,a,w,F,L,hc,hL,hall,hro,ha,hw,h=>by
    obtain ⟨o,hg⟩:=Dg hc
    obtain ⟨o',d,v,ho',hd,hdn,hy,hn⟩:=h
    have hat:l.toArray[i]?=some o:=by simpa using hg.at_
    rw [hat] at ho';injection ho' with ho';subst ho'
    have hil:i<l.length:=(List.getElem?_eq_some_iff.1 hg.at_).1
    have hp:∀e∈o.after,Region.binds .any e=true->listed.getD e.on false=true:=λe he hb=>(hL.mem _).1 (hg.pre e he hb)
    have hun:=hL.no hg.nin
    have hrd:i∈Region.ready .any l.toArray listed:=mem_ready.2 ⟨by rw [C3 (by rw [hL.size];exact hil)];exact hun,o,hat,hp⟩
    have hyield:YieldsIf P l.toArray (λw=>A_ w0 w Lro) o v a:=by
      rcases hy with ⟨h1,h2⟩|⟨h1,h2⟩
      · exact .inl ⟨h1 a ha,λw hW=>h2 a w ha hW⟩
      · exact .inr ⟨h1 a ha,h2⟩
    refine wpAnyH_first hat (Region.noSelect_spec hsel) (λc a w=>eI hQ c a o.dst v w) r.length listed a w (Hn hL hg.at_ (hg.fr O) hp) hrd hyield (hro _ _ hw) ?_
    refine Is hsel hQ r (i::D) p _ _ w ((d,v)::F) L hg.tl (hL.add hg.at_ hp) (λk hk=>?_) hro (by rw [hd];exact ha.put hdn) hw hn
    rcases hall k hk with h1|h1
    · exact .inl (List.mem_cons_of_mem _ h1)
    · simp only [List.any_cons,xY,beq_iff_eq] at h1
      rcases h1 with h1|h1
      · exact .inl (h1▸List.mem_cons_self)
      · exact .inr h1
  | (i,false)::r,D,p,listed,a,w,F,L,hc,hL,hall,hro,ha,hw,h=>by
    obtain ⟨o,hg⟩:=Dg hc
    obtain ⟨o',ho',h⟩:=h
    have hat:l.toArray[i]?=some o:=by simpa using hg.at_
    rw [hat] at ho';injection ho' with ho';subst ho'
    have hil:i<l.length:=(List.getElem?_eq_some_iff.1 hg.at_).1
    have hp:∀e∈o.after,Region.binds .any e=true->listed.getD e.on false=true:=λe he hb=>(hL.mem _).1 (hg.pre e he hb)
    have hun:=hL.no hg.nin
    have hrd:i∈Region.ready .any l.toArray listed:=mem_ready.2 ⟨by rw [C3 (by rw [hL.size];exact hil)];exact hun,o,hat,hp⟩
    have hall':∀k,k<l.length->k∈i::D\/r.any (λe=>e.1 == k)=true:=λk hk=>by
      rcases hall k hk with h1|h1
      · exact .inl (List.mem_cons_of_mem _ h1)
      · simp only [List.any_cons,xY,beq_iff_eq] at h1
        rcases h1 with h1|h1
        · exact .inl (h1▸List.mem_cons_self)
        · exact .inr h1
    refine ⟨λh0=>absurd hrd (by rw [h0];exact List.not_mem_nil),λj hj=>?_⟩
    have hji:j=i:=by
      obtain ⟨h0,oj,hoj,_⟩:=mem_ready.1 hj
      have hjl:j<l.length:=by simpa using (Array.getElem?_eq_some_iff.1 hoj).1
      rw [C3 (by rw [hL.size];exact hjl)] at h0
      rcases hall' j hjl with h1|h1
      · rcases xL.1 h1 with h2|h2
        · exact h2
        · rw [(hL.mem j).1 h2] at h0;cases h0
      · obtain ⟨e,he,h2⟩:=List.any_eq_true.1 h1
        have h3:e.1=j:=by simpa using h2
        subst h3
        exact absurd hj (Eu hL.cl hg.tl hun (λe he=>hL.no λhd=>(Ef hg.tl e he).1 (List.mem_cons_of_mem _ hd)) e he)
    subst hji
    exact II hat (h a w ha hw) λF' L' a' w' h1 h2 h3 h4=>⟨h3 _ _ h2,Is hsel hQ r (j::D) (some j) _ a' w' F' L' hg.tl (hL.add hg.at_ hp) hall' h3 h1 h2 h4⟩
theorem NS.congr {D D2:List Nat} {listed:Array Bool} (h:NS l D listed) (e:∀x,x∈D↔x∈D2):NS l D2 listed:=⟨h.size,λi=>(e i).symm.trans (h.mem i),h.cl⟩
theorem Gx {es:List (Nat×Bool)} {i:Nat} (h:es.any (λe=>e.1 == i)=true):∃e∈es,e.1=i:=by
  obtain ⟨e,he,h2⟩:=List.any_eq_true.1 h
  exact ⟨e,he,by simpa using h2⟩
theorem M0 {id:Nat} {l:List Oper} (hm:P.follows .mixedOrders=true) {k:Nat} (hk:k=l.length) (h:∀a w,Cg n a F->A_ w0 w L->wpAnyH P .any l.toArray Q (λw=>A_ w0 w Lro) k (Array.replicate l.length false) a w):OkC P (.region id l.toArray true) Q n F w0 L:=λa w ha hw=>by
  refine wp_region_held (S:=λw=>A_ w0 w Lro) hm ?_
  rw [show l.toArray.size=l.length by simp,<-hk]
  subst hk
  exact h a w.drew ha hw.drew
theorem Gb:NS l [] (Array.replicate l.length false):=by
  have hz:∀j,(Array.replicate l.length false).getD j false=false:=λj=>by
    by_cases h:j<l.length<;>simp [h]
  exact ⟨by simp,λi=>by rw [hz];simp,λj o hj=>by rw [hz] at hj;cases hj⟩
theorem OkC.chainE {id:Nat} (es:List (Nat×Bool)) (hro:Lro.Sublist L) (hm:P.follows .mixedOrders=true) (hc:Yu l es=true) (hQ:∀c a d v w,Q (.panic c) (a.put d v) w->Q (.panic c) a w)
    (h:OkE P l.toArray Q n w0 Lro es F L):OkC P (.region id l.toArray true) Q n F w0 L:=by
  simp only [Yu,xZ] at hc
  obtain ⟨⟨⟨h1,h2⟩,h3⟩,h4⟩:=hc
  refine M0 hm (Nat.eq_of_beq_eq_true h3) λa w ha hw=>Is h4 hQ es [] none _ a w F L h1 Gb (λi hi=>?_) (Wk.of hro) ha hw h
  have:=List.all_eq_true.1 h2 i (List.mem_range.2 hi)
  simpa using this
variable {r e2:List (Nat×Bool)} {i j d:Nat} {o:Oper} {v:Value}
theorem zP (h:OkQ Q .normal n F w0 L):OkE P ops Q n w0 Lro [] F L:=h
theorem zQ (ho:ops[i]?=some o) (hw:Wt ops n F o) (he:Ex P n F w0 Lro o v) (hd:o.dst=some d) (hn:Nat.ble (d+1) n=true) (next:OkE P ops Q n w0 Lro r ((d,v)::F) L):OkE P ops Q n w0 Lro ((i,true)::r) F L:=⟨o,d,v,ho,hd,Nat.le_of_ble_eq_true hn,.inl ⟨hw,he⟩,next⟩
theorem zc (ho:ops[i]?=some o) (hw:∀a,Cg n a F->Region.wanted o (yielded ops a.tmps)=false) (hd:o.dst=some d) (hn:Nat.ble (d+1) n=true) (next:OkE P ops Q n w0 Lro r ((d,undef)::F) L):OkE P ops Q n w0 Lro ((i,true)::r) F L:=⟨o,d,undef,ho,hd,Nat.le_of_ble_eq_true hn,.inr ⟨hw,rfl⟩,next⟩
theorem zD (ho:ops[i]?=some o) (h:AP P ops [o] (PE Q n w0 Lro λF' L'=>OkE P ops Q n w0 Lro r F' L') n F w0 L):OkE P ops Q n w0 Lro ((i,false)::r) F L:=⟨o,ho,h⟩
theorem zC (hro:Lro.Sublist L') (h:OkE P ops Q n w0 Lro r F' L'):AP P ops [] (PE Q n w0 Lro λF' L'=>OkE P ops Q n w0 Lro r F' L') n F' w0 L':=AP.nil λa w ha hw=>⟨F',L',ha,hw,Wk.of hro,h⟩
theorem Hc.back (hro:Lro.Sublist L') (h:Hc P ops Q n w0 Lro j e2 r F' L'):AP P ops [] (PE Q n w0 Lro λF' L'=>Hc P ops Q n w0 Lro j e2 r F' L') n F' w0 L':=AP.nil λa w ha hw=>⟨F',L',ha,hw,Wk.of hro,h⟩
theorem Hc.pas (ho:ops[i]?=some o) (hw:Wt ops n F o) (he:Ex P n F w0 Lro o v) (hd:o.dst=some d) (hn:Nat.ble (d+1) n=true) (next:Hc P ops Q n w0 Lro j e2 r ((d,v)::F) L):Hc P ops Q n w0 Lro j e2 ((i,true)::r) F L:=⟨o,d,v,ho,hd,Nat.le_of_ble_eq_true hn,.inl ⟨hw,he⟩,next⟩
theorem Hc.imp {oj:Oper} (ho:ops[i]?=some o) (hj:ops[j]?=some oj) (h:AP P ops [o] (PE Q n w0 Lro λF' L'=>Hc P ops Q n w0 Lro j e2 r F' L') n F w0 L) (h2:AP P ops [oj] (PE Q n w0 Lro λF' L'=>OkE P ops Q n w0 Lro ((i,false)::r++e2) F' L') n F w0 L):Hc P ops Q n w0 Lro j e2 ((i,false)::r) F L:=⟨⟨o,ho,h⟩,oj,hj,h2⟩
theorem Hc.last {oj:Oper} (hj:ops[j]?=some oj) (h2:AP P ops [oj] (PE Q n w0 Lro λF' L'=>OkE P ops Q n w0 Lro e2 F' L') n F w0 L):Hc P ops Q n w0 Lro j e2 [] F L:=⟨oj,hj,h2⟩
end
end
section
def T0 (f:Nat) (v:Nat):List Nat :=
  match f with
  | 0=>[]
  | f+1=>if v=0 then [] else v%4294967296::T0 f (v/4294967296)
def AL (v:Nat):List Nat:=T0 v v
def Vz (x:Nat):List UInt8:=[(x%256).toUInt8,(x/256%256).toUInt8,(x/65536%256).toUInt8,(x/16777216%256).toUInt8]
def small (v:Nat):Bool:=decide (v<18446744073709551616)
def CM (v:Nat):Nat:=if small v then v else 0
def Bw (v:Nat):ByteArray:=if small v then ByteArray.empty else ⟨((AL v).flatMap Vz).toArray⟩
def AW (v:Nat):List Value:=[.int .u64 (CM v:Nat),.string (Bw v)]
def A8 (z:Int):List Value:=[.int .u64 (CM z.natAbs:Nat),.string (Bw z.natAbs),.bool (decide (z<0))]
def AC (q:Rat):List Value:=[.int .u64 (CM q.num.natAbs:Nat),.string (Bw q.num.natAbs),.bool (decide (q.num<0)),.int .u64 (CM (q.den-1):Nat),.string (Bw (q.den-1))]
@[ext] structure Pt where
  x:Rat
  y:Rat
def Ah (p:Pt):List Value:=AC p.x++AC p.y
theorem A6 {z:Int} (h:-9223372036854775808<=z) (h':z<9223372036854775808):IntKind.i64.wrap z=z:=by
  simp only [IntKind.wrap,IntKind.bits,IntKind.signed];simp;split<;>omega
theorem ED {z:Int} (h:0<=z) (h':z<18446744073709551616):IntKind.u64.wrap z=z:=by
  simp only [IntKind.wrap,IntKind.bits,IntKind.signed];simp;omega
theorem H5 {z:Int} (h:0<=z) (h':z<4294967296):IntKind.u32.wrap z=z:=by
  simp only [IntKind.wrap,IntKind.bits,IntKind.signed];simp;omega
theorem O_ {z:Int} (h:0<=z) (h':z<256):IntKind.u8.wrap z=z:=by
  simp only [IntKind.wrap,IntKind.bits,IntKind.signed];simp;omega
theorem AU {a b:Nat} (h:a+b<9223372036854775808):IntKind.i64.wrap ((a:Int)+(b:Int))=((a+b:Nat):Int):=by rw [A6 Z Z];omega
theorem CY {a b:Nat} (h:b<=a) (h':a<9223372036854775808):IntKind.i64.wrap ((a:Int)-(b:Int))=((a-b:Nat):Int):=by rw [A6 Z Z];omega
theorem DT {a b:Nat} (h:a*b<9223372036854775808):IntKind.i64.wrap ((a:Int)*(b:Int))=((a*b:Nat):Int):=by
  rw [<-Int.natCast_mul,A6 Z Z]
theorem EQ {a b:Nat} (h:a+b<18446744073709551616):IntKind.u64.wrap ((a:Int)+(b:Int))=((a+b:Nat):Int):=by rw [ED Z Z];omega
theorem JZ {a b:Nat} (h:b<=a) (h':a<18446744073709551616):IntKind.u64.wrap ((a:Int)-(b:Int))=((a-b:Nat):Int):=by rw [ED Z Z];omega
theorem F5 {a b:Nat} (h:a*b<18446744073709551616):IntKind.u64.wrap ((a:Int)*(b:Int))=((a*b:Nat):Int):=by
  rw [<-Int.natCast_mul,ED Z Z]
theorem B6 {a:Nat} (h:a<9223372036854775808):IntKind.i64.wrap (a:Int)=(a:Int):=A6 Z Z
theorem BW {a:Nat} (h:a<18446744073709551616):IntKind.u64.wrap (a:Int)=(a:Int):=ED Z Z
theorem Co {a:Nat} (h:a<4294967296):IntKind.u32.wrap (a:Int)=(a:Int):=H5 Z Z
theorem Pm {a:Nat} (h:a<256):IntKind.u8.wrap (a:Int)=(a:Int):=O_ Z Z
theorem FT {a:Nat}:IntKind.u32.wrap (a:Int)=((a%4294967296:Nat):Int):=by
  simp only [IntKind.wrap,IntKind.bits,IntKind.signed];simp
theorem K3 {a:Nat}:IntKind.u8.wrap (a:Int)=((a%256:Nat):Int):=by
  simp only [IntKind.wrap,IntKind.bits,IntKind.signed];simp
theorem DE {a b:Nat}:decide ((a:Int)<(b:Int))=decide (a<b):=decide_eq_decide.2 Z
theorem UP {a b:Nat}:decide ((a:Int)<=(b:Int))=decide (a<=b):=decide_eq_decide.2 Z
theorem K0 {a b:Nat}:decide ((a:Int)=(b:Int))=decide (a=b):=decide_eq_decide.2 Z
theorem eo {a b:Nat}:decide ((a:Int)≠(b:Int))=decide (a≠b):=decide_eq_decide.2 Z
theorem FW {a b:Nat} (h:a<9223372036854775808):IntKind.i64.wrap ((a:Int).tdiv (b:Int))=((a/b:Nat):Int):=by
  have:a/b<=a:=Nat.div_le_self _ _
  rw [<-Int.ofNat_tdiv]
  generalize a/b=q at *
  exact A6 Z Z
theorem JR {a b:Nat} (h:a<18446744073709551616):IntKind.u64.wrap ((a:Int).tdiv (b:Int))=((a/b:Nat):Int):=by
  have:a/b<=a:=Nat.div_le_self _ _
  rw [<-Int.ofNat_tdiv]
  generalize a/b=q at *
  exact ED Z Z
theorem HD {a b:Nat}:((a:Int).tmod (b:Int))=((a%b:Nat):Int):=(Int.ofNat_tmod a b).symm
theorem HL {a s:Nat}:(a:Int)/2^s=((a/2^s:Nat):Int):=by simp
theorem Dp:prog.follows .mixedOrders=true:=by kernel_rfl
theorem KE.nil {P:Program} {n:Nat} {l:List Oper} {specs:List Sp} {F:List (Nat×Value)} {w0:Ay} {Lro L:List As} {os:List Oper}:KE P n l specs F w0 Lro L os []:=by
  cases os<;>trivial
theorem zu {P:Program} {ops:Array Oper} {rest:List Oper} {Q:Exit->Act->World->Prop} {n:Nat} {F:List (Nat×Value)} {w0:Ay} {L L':List As} {v:Value} {x y:Operand} {d:Option Tmp} {t:TypeId} {p:String} {af:Array Edge} {g:Option (Nat×Bool)}
    {i b off:Nat} {ty T:TypeId} {cs vs cs':List Value} (hw:Wt ops n F ⟨d,.store ty x y,t,p,af,g⟩) (ho:d=none) (hx:evF F x=some (.pointer (some ⟨b,off,none⟩))) (hy:evF F y=some v) (hi:L[i]?=some (AO b T cs))
    (hv:v.cells=vs.toArray) (hs:∀w,(sizeOf ty).run P w=.ok vs.length w) (h1:(vs.all λu=>u.oneCell')=true) (hl:Nat.ble (off+vs.length) cs.length=true)
    (hc:I7 cs off vs=cs') (hL:L.set i (AO b T cs')=L') (next:AP P ops rest Q n F w0 L'):AP P ops (⟨d,.store ty x y,t,p,af,g⟩::rest) Q n F w0 L:=by
  subst hc;subst hL
  exact AP.store hw (QH hx hy hi hv hs h1 hl) ho hi next
theorem yB {P:Program} {ops:Array Oper} {rest:List Oper} {Q:Exit->Act->World->Prop} {n:Nat} {F:List (Nat×Value)} {w0:Ay} {L:List As} {o:Oper} {d:Nat} {f:FuncId} {args:Array Value} {V:Nat->Value} {T:TypeId} {cs:List Value} (hw:Wt ops n F o)
    (he:∀a w,Cg n a F->A_ w0 w L->(execOp a.eval o).run P w=.ok (.enter f args) w)
    (hc:∀w,A_ w0 w L->Calls P f args w λe w'=>∃b,e=.returned (V b)/\GB w.heap.size w w'/\w.heap.size<=b/\w'.heap[b]?=some (.cells cs.toArray T (0,0)))
    (ho:o.dst=some d) (hd:d<n) (next:∀b,AP P ops rest Q n ((d,V b)::F) w0 (AO b T cs::L)):AP P ops (o::rest) Q n F w0 L:=λa w ha hW=>by
  unfold wpList
  rw [if_pos (hw a ha)]
  left
  unfold Oper.wp
  rw [he a w ha hW,Oper.upon_enter]
  refine (hc w hW).mono ?_
  rintro e w' ⟨b,rfl,hb,hlt,hcell⟩
  rw [ho]
  exact next b _ _ (ha.put hd) (hW.add O hb hlt ⟨_,hcell,rfl⟩)
theorem yb {P:Program} {ops:Array Oper} {rest:List Oper} {Q:Exit->Act->World->Prop} {n:Nat} {F:List (Nat×Value)} {w0:Ay} {L L':List As} {o:Oper} {f:FuncId} {args:Array Value} {v:Value} {i b:Nat} {T:TypeId} {cs cs':List Value} (hw:Wt ops n F o)
    (he:∀a w,Cg n a F->A_ w0 w L->(execOp a.eval o).run P w=.ok (.enter f args) w) (hi:L[i]?=some (AO b T cs))
    (hc:∀w,A_ w0 w L->Calls P f args w λe w'=>e=.returned v/\LK w w' (some b)/\w'.heap[b]?=some (.cells cs'.toArray T (0,0)))
    (hd:∀d,o.dst=some d->d<n) (hL:L.set i (AO b T cs')=L') (next:AP P ops rest Q n (match o.dst with|some d=>(d,v)::F|none=>F) w0 L'):AP P ops (o::rest) Q n F w0 L:=λa w ha hW=>by
  subst hL
  unfold wpList
  rw [if_pos (hw a ha)]
  left
  unfold Oper.wp
  rw [he a w ha hW,Oper.upon_enter]
  refine (hc w hW).mono ?_
  rintro e w' ⟨rfl,hg,hcell⟩
  have hW':=hW.turn hi rfl rfl hg ⟨_,hcell,rfl⟩ (y:=AO b T cs')
  cases hdst:o.dst with
  | none=>rw [hdst] at next;exact next _ _ ha.put_none hW'
  | some d=>rw [hdst] at next;exact next _ _ (ha.put (hd d hdst)) hW'
abbrev pP (b o:Nat):Value:=.pointer (some ⟨b,o,none⟩)
abbrev aG (l:List Value):Value:=.agg l.toArray
abbrev vI (z:Int):Value:=.int .i64 z
abbrev vN (n:Nat):Value:=.int .i64 (n:Int)
abbrev vK (k:IntKind) (n:Nat):Value:=.int k (n:Int)
theorem leB {a b:Nat} (h:Nat.ble a b=true):a<=b:=Nat.le_of_ble_eq_true h
theorem sN {F:List (Nat×Value)}:CK [] F:=trivial
theorem sS {k:Nat} {v:Value} {r F:List (Nat×Value)} (h:F.lookup k=some v) (t:CK r F):CK ((k,v)::r) F:=⟨h,t⟩
def dw (F:List (Nat×Value)):List (Nat×Value)->List (Option Value)
  | []=>[]
  | p::r=>F.lookup p.1::dw F r
def bd:List (Nat×Value)->List (Option Value)
  | []=>[]
  | p::r=>some p.2::bd r
theorem sF:∀{F' F:List (Nat×Value)},dw F F'=bd F'->CK F' F
  | [],_,_=>trivial
  | _::_,_,h=>by
    simp only [dw,bd,List.cons.injEq] at h
    exact ⟨h.1,sF h.2⟩
theorem vC {P:Program} {n:Nat} {l:List Oper} {specs:List Sp} {F:List (Nat×Value)} {w0:Ay} {Lro L:List As} {o:Oper} {os:List Oper} {s:Sp} {ss:List Sp} (h:Vc P n l specs F w0 Lro L o s) (t:KE P n l specs F w0 Lro L os ss) :
    KE P n l specs F w0 Lro L (o::os) (s::ss):=⟨h,t⟩
theorem dN {j:Nat}:IX j []:=trivial
theorem dC {j:Nat} {kd:Kd} {v:Value} {ks:List Nat} {A:Value->List As} {C:Value->Prop} {ss:List Sp} (t:IX (j+1) ss):IX j (⟨kd,λ_=>v,ks,A,C⟩::ss):=⟨λ_ _ _ _=>rfl,t⟩
section
variable {P:Program} {ops:Array Oper} {rest:List Oper} {Q:Exit->Act->World->Prop} {n d:Nat} {F F':List (Nat×Value)} {w0:Ay} {L Lro:List As} {op:Op} {t:TypeId} {p:String} {af:Array Edge} {v:Value} {l:List Oper} {specs:List Sp}
theorem zI {c:Code} (hs:CK F' F) (h:OkC P c Q n F' w0 L):OkC P c Q n F w0 L:=yi hs (xP _) h
theorem zB {e:Exit} (hs:CK F' F) (h:OkQ Q e n F' w0 L):OkQ Q e n F w0 L:=OkQ.sub hs (xP _) h
theorem st (he:Ex P n F w0 L ⟨some d,op,t,p,af,none⟩ v) (hd:d<n) (next:AP P ops rest Q n ((d,v)::F) w0 L):AP P ops (⟨some d,op,t,p,af,none⟩::rest) Q n F w0 L:=yT (AG rfl) he rfl hd next
theorem q1 {x y:Code} (h:OkC P x (Exit.then (y.wp P Q) Q) n F w0 L):OkQ (Exit.then ((Code.seq x y).wp P Q) Q) .normal n F w0 L:=zA (zS h)
theorem q2 {id:Nat} {y:Code} (h:AP P l.toArray l (Exit.then (y.wp P Q) Q) n F w0 L):OkQ (Exit.then ((Code.seq (.region id l.toArray false) y).wp P Q) Q) .normal n F w0 L:=q1 (zH h)
theorem q3 {id:Nat} {y:Code} (hs:CK F' F) (h:AP P l.toArray l (Exit.then (y.wp P Q) Q) n F' w0 L):AP P ops [] (Exit.then ((Code.seq (.region id l.toArray false) y).wp P Q) Q) n F w0 L:=AP.nil (zB hs (q2 h))
theorem q4 {id:Nat} {y:Code} (h:AP P l.toArray l (Exit.then (y.wp P Q) Q) n F w0 L):OkC P (Code.seq (.region id l.toArray false) y) Q n F w0 L:=zS (zH h)
theorem q6 {x y:Code} (hs:CK F' F) (h:OkC P x (Exit.then (y.wp P Q) Q) n F' w0 L):AP P ops [] (Exit.then ((Code.seq x y).wp P Q) Q) n F w0 L:=AP.nil (zB hs (q1 h))
theorem Ag {x:Operand} {f:FuncId} {xs:List Operand} {args:List Value} {ts:Array TypeId} {dd:Option Tmp} {g:Option (Nat×Bool)} (hf:evF F x=some (.func (.func f) #[] #[])) (hargs:xs.map (evF F)=args.map some)
    (hc:∀args w,(callFunc f args).run P w=.ok (.enter f args) w) :
    ∀a w,Cg n a F->A_ w0 w L->(execOp a.eval ⟨dd,.call { callee:=.value x,args:=xs.toArray,argTypes:=ts },t,p,af,g⟩).run P w=.ok (.enter f args.toArray) w :=
  JH (caps:=[]) hf hargs (List.append_nil _) hc
theorem Qm {v:(Nat->Value)->Value} {ks:List Nat} {G:(Nat->Value)->List (Nat×Value)} {dd:Option Tmp} (hG:∀β,CK (G β) (MK l specs β ⟨dd,op,t,p,af,none⟩++F)) (h:∀β,Ex P n (G β) w0 (DQ specs β ks++L) ⟨dd,op,t,p,af,none⟩ (v β)):Vc P n l specs F w0 Lro L ⟨dd,op,t,p,af,none⟩ ⟨.look,v,ks,ep,eu⟩:=bC hG (λ_=>AG rfl) h
end
theorem CT {F F':List (Nat×Value)} (h:CK F' F:=by repeat (first|exact sN|refine sS (by first|rfl|(rw [hg1];rfl)|rw [hg1]) ?_)):CK F' F:=h
theorem IQ {F F':List (Nat×Value)} (h:CK F' F:=by repeat (first|exact sN|refine sS (by first|rfl|(rw [hg2];rfl)|rw [hg2]) ?_)):CK F' F:=h
theorem Qq {F F':List (Nat×Value)} (h:CK F' F:=by repeat (first|exact sN|refine sS (by first|rfl|(rw [hg3];rfl)|rw [hg3]) ?_)):CK F' F:=h
theorem Qr {F F':List (Nat×Value)} (h:CK F' F:=by repeat (first|exact sN|refine sS (by first|rfl|(rw [hg4];rfl)|rw [hg4]) ?_)):CK F' F:=h
theorem Qs {F F':List (Nat×Value)} (h:CK F' F:=by repeat (first|exact sN|refine sS (by first|rfl|(rw [hg5];rfl)|rw [hg5]) ?_)):CK F' F:=h
theorem fv {F F':List (Nat×Value)} (h:CK F' F:=by repeat (first|exact sN|refine sS (by first|rfl|(rw [hg6];rfl)|rw [hg6]) ?_)):CK F' F:=h
theorem jA {F F':List (Nat×Value)} (h:CK F' F:=by repeat (first|exact sN|refine sS (by first|rfl|(rw [hg7];rfl)|rw [hg7]) ?_)):CK F' F:=h
theorem jB {F F':List (Nat×Value)} (h:CK F' F:=by repeat (first|exact sN|refine sS (by first|rfl|(rw [hg8];rfl)|rw [hg8]) ?_)):CK F' F:=h
theorem jC {F F':List (Nat×Value)} (h:CK F' F:=by repeat (first|exact sN|refine sS (by first|rfl|(rw [hg9];rfl)|rw [hg9]) ?_)):CK F' F:=h
end
end Go.Proofs.YtcpkbjjmcleplaaGreatDoor
