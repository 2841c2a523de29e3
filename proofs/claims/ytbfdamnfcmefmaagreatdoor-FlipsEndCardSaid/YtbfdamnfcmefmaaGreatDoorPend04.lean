import Derived.Test.YtbfdamnfcmefmaaGreatDoorPend01
namespace Go.Proofs.YtbfdamnfcmefmaaGreatDoor
open Go Go.RowKit Go.Proofs.Tryz
open Go.Value renaming slice→qz,bool→qa
set_option linter.unusedVariables false
set_option linter.unusedSimpArgs false
section
def VE (l:List Oper) (i:Nat) (o:Oper):Bool:=(List.range l.length).all λk=>k == i||match l[k]? with
  | some ok=>EQ o k||EQ ok i||o.apart l.toArray ok
  | none=>true
def dX (l:List Oper):Nat:=bif Nat.ble 45 l.length then 8 else 4
def Dr (l:List Oper):List Nat->Option Nat->List (Nat×Bool)->Bool
  | _,_,[]=>true
  | D,p,(i,k)::r=>(match l[i]? with
      | some o=>(o.after.all λe=>!Region.binds .any e||D.contains e.on)&&(match p with|some q=>CJ l (dX l) i q|none=>true)&&(!k||VE l i o)&&!D.contains i
      | none=>false)&&Dr l (i::D) (if k then p else some i) r
def NW (l:List Oper) (D:List Nat) (es:List (Nat×Bool)):Bool:=(List.range l.length).all λi=>D.contains i||es.any λe=>e.1 == i
def Xg (l:List Oper) (es:List (Nat×Bool)):Bool:=Dr l [] none es&&NW l [] es&&Nat.beq es.length l.length&&Region.noSelect l.toArray
section
variable {P:Program} {ops:Array Oper} {Q:Exit->Act->World->Prop} {n:Nat} {w0:BD} {Lro L L':List As} {F F':List (Nat×Value)} {l:List Oper}
theorem ez {o:Oper} {a:Act} {w:World} {K K':Act->World->Prop} {Q':Exit->Act->World->Prop} (h:∀a w,K a w->K' a w) (hp:∀c a w,Q (.panic c) a w->Q' (.panic c) a w) (hl:LetsOut Q->LetsOut Q') (hh:o.wp P a w K Q):o.wp P a w K' Q':=by
  unfold Oper.wp at *
  generalize (execOp a.eval o).run P w=r at *
  cases r with
  | ok n w' =>
    cases n<;>simp only [Oper.upon] at hh ⊢ <;>
      first
        | exact h _ _ hh
        | exact Calls.mono hh (λe w'' he=>by cases e<;>first|exact h _ _ he|exact hp _ _ _ he|exact hl he)
        | exact Rows.mono hh (λ_ _ he=>h _ _ he)
  | halt x w'=>cases x<;>simp only [Oper.upon] at hh ⊢<;>first|exact hp _ _ _ hh|exact hl hh|exact hh
def dA (P:Program) (ops:Array Oper) (n:Nat) (w0:BD) (Lro:List As) (F:List (Nat×Value)) (o:Oper) (v:Value):Prop :=
  (Wt ops n F o/\Ex P n F w0 Lro o v)\/((∀a,Cx n a F->Region.wanted o (yielded ops a.tmps)=false)/\v=undef)
def Wk (Lro L:List As):Prop:=∀(w0:BD) (w:World),BH w0 w L->BH w0 w Lro
theorem Wk.of {Lro L:List As} (h:Lro.Sublist L):Wk Lro L:=λ_ _ hw=>hw.weak h
def PE (Q:Exit->Act->World->Prop) (n:Nat) (w0:BD) (Lro:List As) (K:List (Nat×Value)->List As->Prop):Exit->Act->World->Prop
  | .normal,a,w=>∃F' L',Cx n a F'/\BH w0 w L'/\Wk Lro L'/\K F' L'
  | e,a,w=>Q e a w
def OkE (P:Program) (ops:Array Oper) (Q:Exit->Act->World->Prop) (n:Nat) (w0:BD) (Lro:List As):List (Nat×Bool)->List (Nat×Value)->List As->Prop
  | [],F,L=>OkQ Q .normal n F w0 L
  | (i,true)::r,F,L=>∃o d v,ops[i]?=some o/\o.dst=some d/\d<n/\dA P ops n w0 Lro F o v/\OkE P ops Q n w0 Lro r ((d,v)::F) L
  | (i,false)::r,F,L=>∃o,ops[i]?=some o/\AR P ops [o] (PE Q n w0 Lro λF' L'=>OkE P ops Q n w0 Lro r F' L') n F w0 L
theorem Is {i:Nat} {o:Oper} {K:List (Nat×Value)->List As->Prop} {K':Act->World->Prop} {a:Act} {w:World} (hi:ops[i]?=some o) (h:wpList P ops (PE Q n w0 Lro K) [o] a w)
    (hK:∀F' L' a' w',Cx n a' F'->BH w0 w' L'->Wk Lro L'->K F' L'->K' a' w'):wpOp P ops Q i K' a w:=by
  unfold wpOp
  simp only [hi]
  unfold wpList at h
  have go:∀a' w',wpList P ops (PE Q n w0 Lro K) [] a' w'->K' a' w':=λa' w' h=>by
    obtain ⟨F',L',h1,h2,h3,h4⟩:=(show PE Q n w0 Lro K .normal a' w' from h)
    exact hK F' L' a' w' h1 h2 h3 h4
  split
  · rename_i hw
    rw [if_pos hw] at h
    rcases h with h|h
    · exact .inl (ez go (λ_ _ _ h=>h) (λh=>h) h)
    · exact .inr h
  · rename_i hw
    rw [if_neg hw] at h
    exact go _ _ h
theorem Hh {listed:Array Bool} (hcl:∀(j:Nat) (o:Oper),listed.getD j false=true->l[j]?=some o->∀e∈o.after,Region.binds .any e=true->listed.getD e.on false=true) :
    ∀(f i j:Nat) (o:Oper),CJ l f i j=true->l[i]?=some o->(∀e∈o.after,Region.binds .any e=true->listed.getD e.on false=true)->listed.getD j false=true
  | 0,i,j,o,h,_,_=>by simp [CJ] at h
  | f+1,i,j,o,h,ho,hp=>by
    unfold CJ at h
    simp only [ho,yy] at h
    rcases h with h|h
    · obtain ⟨e,he,hb,rfl⟩:=DW h
      exact hp e he hb
    · obtain ⟨k,hk,h⟩:=List.any_eq_true.1 h
      simp only [yz] at h
      obtain ⟨e,he,hb,rfl⟩:=DW h.1
      have hl:=hp e he hb
      have hk':e.on<l.length:=List.mem_range.1 hk
      have ho':l[e.on]?=some l[e.on]:=xP hk'
      exact Hh hcl f e.on j _ h.2 ho' (λe' he' hb'=>hcl _ _ hl ho' e' he' hb')
structure dL (l:List Oper) (D:List Nat) (p:Option Nat) (i:Nat) (k:Bool) (r:List (Nat×Bool)) (o:Oper):Prop where
  at_:l[i]?=some o
  pre:∀e∈o.after,Region.binds .any e=true->e.on∈D
  bef:∀q,p=some q->CJ l (dX l) i q=true
  fr:k=true->VE l i o=true
  nin:i ∉ D
  tl:Dr l (i::D) (if k then p else some i) r=true
theorem DG {D:List Nat} {p:Option Nat} {i:Nat} {k:Bool} {r:List (Nat×Bool)} (h:Dr l D p ((i,k)::r)=true):∃o,dL l D p i k r o:=by
  unfold Dr at h
  rw [yz] at h
  obtain ⟨h1,h2⟩:=h
  cases ho:l[i]? with
  | none=>simp [ho] at h1
  | some o =>
    simp only [ho,yz] at h1
    obtain ⟨⟨⟨h3,h4⟩,h5⟩,h6⟩:=h1
    refine ⟨o,ho,λe he hb=>?_,λq hq=>?_,λhk=>?_,by simpa using h6,h2⟩
    · have:=Array.all_eq_true_iff_forall_mem.1 h3 e he
      simpa [hb] using this
    · subst hq;exact h4
    · subst hk;simpa using h5
theorem Ds:∀{es:List (Nat×Bool)} {D:List Nat} {p:Option Nat},Dr l D p es=true->∀e∈es,e.1 ∉ D/\e.1<l.length
  | [],_,_,_,e,he=>by cases he
  | (i,k)::r,D,p,h,e,he=>by
    obtain ⟨o,hg⟩:=DG h
    rcases xN.1 he with rfl|he
    · exact ⟨hg.nin,(List.getElem?_eq_some_iff.1 hg.at_).1⟩
    · have:=Ds hg.tl e he
      exact ⟨λhd=>this.1 (List.mem_cons_of_mem _ hd),this.2⟩
theorem EY {listed:Array Bool} (hcl:∀(j:Nat) (o:Oper),listed.getD j false=true->l[j]?=some o->∀e∈o.after,Region.binds .any e=true->listed.getD e.on false=true) :
    ∀{es:List (Nat×Bool)} {D:List Nat} {p:Nat},Dr l D (some p) es=true->listed.getD p false=false->(∀e∈es,listed.getD e.1 false=false)->∀e∈es,e.1 ∉ Region.ready .any l.toArray listed
  | [],_,_,_,_,_,e,he=>by cases he
  | (i,k)::r,D,p,h,hp,hu,e,he=>by
    obtain ⟨o,hg⟩:=DG h
    rcases xN.1 he with rfl|he2
    · intro hr
      obtain ⟨_,o',ho',hall⟩:=mem_ready.1 hr
      have:=Hh hcl (dX l) i p o' (hg.bef p rfl) (by simpa using ho') hall
      rw [hp] at this;cases this
    · have hu':∀e∈r,listed.getD e.1 false=false:=λe he=>hu e (List.mem_cons_of_mem _ he)
      have htl:=hg.tl
      cases k with
      | true=>exact EY hcl htl hp hu' e he2
      | false=>exact EY hcl htl (hu (i,false) List.mem_cons_self) hu' e he2
structure NQ (l:List Oper) (D:List Nat) (listed:Array Bool):Prop where
  size:listed.size=l.length
  mem:∀i,i∈D↔listed.getD i false=true
  cl:∀(j:Nat) (o:Oper),listed.getD j false=true->l[j]?=some o->∀e∈o.after,Region.binds .any e=true->listed.getD e.on false=true
theorem NQ.no {D:List Nat} {listed:Array Bool} (h:NQ l D listed) {i:Nat} (hn:i ∉ D):listed.getD i false=false:=by
  cases hx:listed.getD i false with
  | false=>rfl
  | true=>exact absurd ((h.mem i).2 hx) hn
theorem Cb {listed:Array Bool} {i:Nat} (hi:i<listed.size):listed.getD i true=listed.getD i false:=by simp [hi]
theorem NQ.add {D:List Nat} {listed:Array Bool} (h:NQ l D listed) {i:Nat} {o:Oper} (ho:l[i]?=some o) (hp:∀e∈o.after,Region.binds .any e=true->listed.getD e.on false=true):NQ l (i::D) (listed.setIfInBounds i true):=by
  have hil:i<l.length:=(List.getElem?_eq_some_iff.1 ho).1
  have his:i<listed.size:=by rw [h.size];exact hil
  refine ⟨by simpa using h.size,λk=>?_,λj o' hj ho' e he hb=>?_⟩
  · rw [IW _ _ _ _ his]
    by_cases e:i=k
    · subst e;simp
    · rw [if_neg e,<-h.mem k]
      exact ⟨λhm=>(xN.1 hm).elim (λe2=>absurd e2.symm e) id,List.mem_cons_of_mem _⟩
  · rw [IW _ _ _ _ his] at hj ⊢
    have:listed.getD e.on false=true:=by
      by_cases e1:i=j
      · subst e1
        rw [ho] at ho';injection ho' with ho';subst ho'
        exact hp e he hb
      · rw [if_neg e1] at hj
        exact h.cl j o' hj ho' e he hb
    split
    · rfl
    · exact this
theorem F0 {D:List Nat} {listed:Array Bool} (hL:NQ l D listed) {i:Nat} {o:Oper} (ho:l[i]?=some o) (hf:VE l i o=true) (hp:∀e∈o.after,Region.binds .any e=true->listed.getD e.on false=true) (j:Nat) (oj:Oper) (hj:l.toArray[j]?=some oj) (hne:j≠i) (hun:listed.getD j true=false) (hno:∀e∈oj.after,Region.binds .any e=true->e.on≠i) :
    o.apart l.toArray oj=true:=by
  have hj':l[j]?=some oj:=by simpa using hj
  have hjl:j<l.length:=(List.getElem?_eq_some_iff.1 hj').1
  have h1:=List.all_eq_true.1 hf j (List.mem_range.2 hjl)
  simp only [hj',yy,beq_iff_eq,hne,false_or] at h1
  rcases h1 with (h1|h1)|h1
  · obtain ⟨e,he,hb,rfl⟩:=DW h1
    have:=hp e he hb
    rw [Cb (by rw [hL.size];exact hjl)] at hun
    rw [hun] at this;cases this
  · obtain ⟨e,he,hb,h2⟩:=DW h1
    exact absurd h2 (hno e he hb)
  · exact h1
theorem S9 {D:List Nat} {listed:Array Bool} (hL:NQ l D listed) (hall:∀i,i<l.length->i∈D):Region.ready .any l.toArray listed=[]:=by
  cases hr:Region.ready .any l.toArray listed with
  | nil=>rfl
  | cons j r =>
    obtain ⟨h0,o,ho,_⟩:=(mem_ready (md:=.any) (ops:=l.toArray) (listed:=listed) (j:=j)).1 (by rw [hr];exact List.mem_cons_self ..)
    have hjl:j<l.length:=by simpa using (Array.getElem?_eq_some_iff.1 ho).1
    have:=(hL.mem j).1 (hall j hjl)
    rw [Cb (by rw [hL.size];exact hjl)] at h0
    rw [h0] at this;cases this
theorem bP (hQ:∀c a d v w,Q (.panic c) (a.put d v) w->Q (.panic c) a w) (c) (a:Act) (d:Option Tmp) (v:Value) (w:World) (h:Q (.panic c) (a.put d v) w):Q (.panic c) a w:=hQ c a d v w h
theorem JQ (hsel:Region.noSelect l.toArray=true) (hQ:∀c a d v w,Q (.panic c) (a.put d v) w->Q (.panic c) a w) :
    ∀(es:List (Nat×Bool)) (D:List Nat) (p:Option Nat) (listed:Array Bool) (a:Act) (w:World) (F:List (Nat×Value)) (L:List As),
      Dr l D p es=true->NQ l D listed->(∀i,i<l.length->i∈D\/es.any (λe=>e.1 == i)=true)->Wk Lro L->Cx n a F->BH w0 w L->OkE P l.toArray Q n w0 Lro es F L ->
      wpAnyH P .any l.toArray Q (λw=>BH w0 w Lro) es.length listed a w
  | [],D,p,listed,a,w,F,L,hc,hL,hall,hro,ha,hw,h=>⟨S9 hL λi hi=>(hall i hi).resolve_right jX,h a w ha hw⟩
  | (i,true)::r,D,p,listed,a,w,F,L,hc,hL,hall,hro,ha,hw,h=>by
    obtain ⟨o,hg⟩:=DG hc
    obtain ⟨o',d,v,ho',hd,hdn,hy,hn⟩:=h
    have hat:l.toArray[i]?=some o:=by simpa using hg.at_
    rw [hat] at ho';injection ho' with ho';subst ho'
    have hil:i<l.length:=(List.getElem?_eq_some_iff.1 hg.at_).1
    have hp:∀e∈o.after,Region.binds .any e=true->listed.getD e.on false=true:=λe he hb=>(hL.mem _).1 (hg.pre e he hb)
    have hun:=hL.no hg.nin
    have hrd:i∈Region.ready .any l.toArray listed:=mem_ready.2 ⟨by rw [Cb (by rw [hL.size];exact hil)];exact hun,o,hat,hp⟩
    have hyield:YieldsIf P l.toArray (λw=>BH w0 w Lro) o v a:=by
      rcases hy with ⟨h1,h2⟩|⟨h1,h2⟩
      · exact .inl ⟨h1 a ha,λw hW=>h2 a w ha hW⟩
      · exact .inr ⟨h1 a ha,h2⟩
    refine wpAnyH_first hat (Region.noSelect_spec hsel) (λc a w=>bP hQ c a o.dst v w) r.length listed a w (F0 hL hg.at_ (hg.fr O) hp) hrd hyield (hro _ _ hw) ?_
    refine JQ hsel hQ r (i::D) p _ _ w ((d,v)::F) L hg.tl (hL.add hg.at_ hp) (λk hk=>?_) hro (by rw [hd];exact ha.put hdn) hw hn
    rcases hall k hk with h1|h1
    · exact .inl (List.mem_cons_of_mem _ h1)
    · simp only [List.any_cons,yy,beq_iff_eq] at h1
      rcases h1 with h1|h1
      · exact .inl (h1▸List.mem_cons_self)
      · exact .inr h1
  | (i,false)::r,D,p,listed,a,w,F,L,hc,hL,hall,hro,ha,hw,h=>by
    obtain ⟨o,hg⟩:=DG hc
    obtain ⟨o',ho',h⟩:=h
    have hat:l.toArray[i]?=some o:=by simpa using hg.at_
    rw [hat] at ho';injection ho' with ho';subst ho'
    have hil:i<l.length:=(List.getElem?_eq_some_iff.1 hg.at_).1
    have hp:∀e∈o.after,Region.binds .any e=true->listed.getD e.on false=true:=λe he hb=>(hL.mem _).1 (hg.pre e he hb)
    have hun:=hL.no hg.nin
    have hrd:i∈Region.ready .any l.toArray listed:=mem_ready.2 ⟨by rw [Cb (by rw [hL.size];exact hil)];exact hun,o,hat,hp⟩
    have hall':∀k,k<l.length->k∈i::D\/r.any (λe=>e.1 == k)=true:=λk hk=>by
      rcases hall k hk with h1|h1
      · exact .inl (List.mem_cons_of_mem _ h1)
      · simp only [List.any_cons,yy,beq_iff_eq] at h1
        rcases h1 with h1|h1
        · exact .inl (h1▸List.mem_cons_self)
        · exact .inr h1
    refine ⟨λh0=>absurd hrd (by rw [h0];exact List.not_mem_nil),λj hj=>?_⟩
    have hji:j=i:=by
      obtain ⟨h0,oj,hoj,_⟩:=mem_ready.1 hj
      have hjl:j<l.length:=by simpa using (Array.getElem?_eq_some_iff.1 hoj).1
      rw [Cb (by rw [hL.size];exact hjl)] at h0
      rcases hall' j hjl with h1|h1
      · rcases xN.1 h1 with h2|h2
        · exact h2
        · rw [(hL.mem j).1 h2] at h0;cases h0
      · obtain ⟨e,he,h2⟩:=List.any_eq_true.1 h1
        have h3:e.1=j:=by simpa using h2
        subst h3
        exact absurd hj (EY hL.cl hg.tl hun (λe he=>hL.no λhd=>(Ds hg.tl e he).1 (List.mem_cons_of_mem _ hd)) e he)
    subst hji
    exact Is hat (h a w ha hw) λF' L' a' w' h1 h2 h3 h4=>⟨h3 _ _ h2,JQ hsel hQ r (j::D) (some j) _ a' w' F' L' hg.tl (hL.add hg.at_ hp) hall' h3 h1 h2 h4⟩
theorem NQ.congr {D D2:List Nat} {listed:Array Bool} (h:NQ l D listed) (e:∀x,x∈D↔x∈D2):NQ l D2 listed:=⟨h.size,λi=>(e i).symm.trans (h.mem i),h.cl⟩
theorem IP {es:List (Nat×Bool)} {i:Nat} (h:es.any (λe=>e.1 == i)=true):∃e∈es,e.1=i:=by
  obtain ⟨e,he,h2⟩:=List.any_eq_true.1 h
  exact ⟨e,he,by simpa using h2⟩
theorem Pm {id:Nat} {l:List Oper} (hm:P.follows .mixedOrders=true) {k:Nat} (hk:k=l.length) (h:∀a w,Cx n a F->BH w0 w L->wpAnyH P .any l.toArray Q (λw=>BH w0 w Lro) k (Array.replicate l.length false) a w):OkC P (.region id l.toArray true) Q n F w0 L:=λa w ha hw=>by
  refine wp_region_held (S:=λw=>BH w0 w Lro) hm ?_
  rw [show l.toArray.size=l.length by simp,<-hk]
  subst hk
  exact h a w.drew ha hw.drew
theorem HV:NQ l [] (Array.replicate l.length false):=by
  have hz:∀j,(Array.replicate l.length false).getD j false=false:=λj=>by
    by_cases h:j<l.length<;>simp [h]
  exact ⟨by simp,λi=>by rw [hz];simp,λj o hj=>by rw [hz] at hj;cases hj⟩
theorem OkC.chainE {id:Nat} (es:List (Nat×Bool)) (hro:Lro.Sublist L) (hm:P.follows .mixedOrders=true) (hc:Xg l es=true) (hQ:∀c a d v w,Q (.panic c) (a.put d v) w->Q (.panic c) a w)
    (h:OkE P l.toArray Q n w0 Lro es F L):OkC P (.region id l.toArray true) Q n F w0 L:=by
  simp only [Xg,yz] at hc
  obtain ⟨⟨⟨h1,h2⟩,h3⟩,h4⟩:=hc
  refine Pm hm (Nat.eq_of_beq_eq_true h3) λa w ha hw=>JQ h4 hQ es [] none _ a w F L h1 HV (λi hi=>?_) (Wk.of hro) ha hw h
  have:=List.all_eq_true.1 h2 i (List.mem_range.2 hi)
  simpa using this
variable {r e2:List (Nat×Bool)} {i j d:Nat} {o:Oper} {v:Value}
theorem zQ (h:OkQ Q .normal n F w0 L):OkE P ops Q n w0 Lro [] F L:=h
theorem zW (ho:ops[i]?=some o) (hw:Wt ops n F o) (he:Ex P n F w0 Lro o v) (hd:o.dst=some d) (hn:Nat.ble (d+1) n=true) (next:OkE P ops Q n w0 Lro r ((d,v)::F) L):OkE P ops Q n w0 Lro ((i,true)::r) F L:=⟨o,d,v,ho,hd,Nat.le_of_ble_eq_true hn,.inl ⟨hw,he⟩,next⟩
theorem zz (ho:ops[i]?=some o) (hw:∀a,Cx n a F->Region.wanted o (yielded ops a.tmps)=false) (hd:o.dst=some d) (hn:Nat.ble (d+1) n=true) (next:OkE P ops Q n w0 Lro r ((d,undef)::F) L):OkE P ops Q n w0 Lro ((i,true)::r) F L:=⟨o,d,undef,ho,hd,Nat.le_of_ble_eq_true hn,.inr ⟨hw,rfl⟩,next⟩
theorem zN (ho:ops[i]?=some o) (h:AR P ops [o] (PE Q n w0 Lro λF' L'=>OkE P ops Q n w0 Lro r F' L') n F w0 L):OkE P ops Q n w0 Lro ((i,false)::r) F L:=⟨o,ho,h⟩
theorem zD (hro:Lro.Sublist L') (h:OkE P ops Q n w0 Lro r F' L'):AR P ops [] (PE Q n w0 Lro λF' L'=>OkE P ops Q n w0 Lro r F' L') n F' w0 L':=AR.nil λa w ha hw=>⟨F',L',ha,hw,Wk.of hro,h⟩
end
end
end Go.Proofs.YtbfdamnfcmefmaaGreatDoor
