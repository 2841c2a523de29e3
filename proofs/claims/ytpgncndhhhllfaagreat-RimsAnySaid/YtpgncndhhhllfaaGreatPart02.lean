import Derived.Test.YtpgncndhhhllfaaGreatPart01
namespace Go.Proofs.YtpgncndhhhllfaaGreat
open Go Go.RowKit Go.Proofs.Tryz
set_option linter.unusedVariables false
set_option linter.unusedSimpArgs false
section
def UU (l:List Oper) (i:Nat) (o:Oper):Bool:=(List.range l.length).all λk=>k == i||match l[k]? with
  | some ok=>EA o k||EA ok i||o.apart l.toArray ok
  | none=>true
def bC (l:List Oper):Nat:=bif Nat.ble 45 l.length then 8 else 4
def Dq (l:List Oper):List Nat->Option Nat->List (Nat×Bool)->Bool
  | _,_,[]=>true
  | D,p,(i,k)::r=>(match l[i]? with
      | some o=>(o.after.all λe=>!Region.binds .any e||D.contains e.on)&&(match p with|some q=>Cg l (bC l) i q|none=>true)&&(!k||UU l i o)&&!D.contains i
      | none=>false)&&Dq l (i::D) (if k then p else some i) r
def O0 (l:List Oper) (D:List Nat) (es:List (Nat×Bool)):Bool:=(List.range l.length).all λi=>D.contains i||es.any λe=>e.1 == i
def Ve (l:List Oper) (es:List (Nat×Bool)):Bool:=Dq l [] none es&&O0 l [] es&&Nat.beq es.length l.length&&Region.noSelect l.toArray
section
variable {P:Program} {ops:Array Oper} {Q:Exit->Act->World->Prop} {n:Nat} {w0:BE} {Lro L L':List As} {F F':List (Nat×Value)} {l:List Oper}
theorem bv {o:Oper} {a:Act} {w:World} {K K':Act->World->Prop} {Q':Exit->Act->World->Prop} (h:∀a w,K a w->K' a w) (hp:∀c a w,Q (.panic c) a w->Q' (.panic c) a w) (hl:LetsOut Q->LetsOut Q') (hh:o.wp P a w K Q):o.wp P a w K' Q':=by
  unfold Oper.wp at *
  generalize (execOp a.eval o).run P w=r at *
  cases r with
  | ok n w' =>
    cases n<;>simp only [Oper.upon] at hh ⊢ <;>
      first
        | exact h _ _ hh
        | exact Calls.mono hh (λe w'' he=>by cases e<;>first|exact h _ _ he|exact hp _ _ _ he|exact hl he)
        | exact Rows.mono hh (λ_ _ he=>h _ _ he)
  | halt x w'=>cases x<;>simp only [Oper.upon] at hh ⊢<;>first|exact hp _ _ _ hh|exact hl hh|exact hh
def bJ (P:Program) (ops:Array Oper) (n:Nat) (w0:BE) (Lro:List As) (F:List (Nat×Value)) (o:Oper) (v:Value):Prop :=
  (Wt ops n F o/\Ex P n F w0 Lro o v)\/((∀a,Cp n a F->Region.wanted o (yielded ops a.tmps)=false)/\v=undef)
def Wk (Lro L:List As):Prop:=∀(w0:BE) (w:World),BM w0 w L->BM w0 w Lro
theorem Wk.of {Lro L:List As} (h:Lro.Sublist L):Wk Lro L:=λ_ _ hw=>hw.weak h
def PE (Q:Exit->Act->World->Prop) (n:Nat) (w0:BE) (Lro:List As) (K:List (Nat×Value)->List As->Prop):Exit->Act->World->Prop
  | .normal,a,w=>∃F' L',Cp n a F'/\BM w0 w L'/\Wk Lro L'/\K F' L'
  | e,a,w=>Q e a w
def OkE (P:Program) (ops:Array Oper) (Q:Exit->Act->World->Prop) (n:Nat) (w0:BE) (Lro:List As):List (Nat×Bool)->List (Nat×Value)->List As->Prop
  | [],F,L=>OkQ Q .normal n F w0 L
  | (i,true)::r,F,L=>∃o d v,ops[i]?=some o/\o.dst=some d/\d<n/\bJ P ops n w0 Lro F o v/\OkE P ops Q n w0 Lro r ((d,v)::F) L
  | (i,false)::r,F,L=>∃o,ops[i]?=some o/\AC P ops [o] (PE Q n w0 Lro λF' L'=>OkE P ops Q n w0 Lro r F' L') n F w0 L
theorem MI {i:Nat} {o:Oper} {K:List (Nat×Value)->List As->Prop} {K':Act->World->Prop} {a:Act} {w:World} (hi:ops[i]?=some o) (h:wpList P ops (PE Q n w0 Lro K) [o] a w)
    (hK:∀F' L' a' w',Cp n a' F'->BM w0 w' L'->Wk Lro L'->K F' L'->K' a' w'):wpOp P ops Q i K' a w:=by
  unfold wpOp
  simp only [hi]
  unfold wpList at h
  have go:∀a' w',wpList P ops (PE Q n w0 Lro K) [] a' w'->K' a' w':=λa' w' h=>by
    obtain ⟨F',L',h1,h2,h3,h4⟩:=(show PE Q n w0 Lro K .normal a' w' from h)
    exact hK F' L' a' w' h1 h2 h3 h4
  split
  · rename_i hw
    rw [if_pos hw] at h
    rcases h with h|h
    · exact .inl (bv go (λ_ _ _ h=>h) (λh=>h) h)
    · exact .inr h
  · rename_i hw
    rw [if_neg hw] at h
    exact go _ _ h
theorem Gi {listed:Array Bool} (hcl:∀(j:Nat) (o:Oper),listed.getD j false=true->l[j]?=some o->∀e∈o.after,Region.binds .any e=true->listed.getD e.on false=true) :
    ∀(f i j:Nat) (o:Oper),Cg l f i j=true->l[i]?=some o->(∀e∈o.after,Region.binds .any e=true->listed.getD e.on false=true)->listed.getD j false=true
  | 0,i,j,o,h,_,_=>by simp [Cg] at h
  | f+1,i,j,o,h,ho,hp=>by
    unfold Cg at h
    simp only [ho,Bool.or_eq_true] at h
    rcases h with h|h
    · obtain ⟨e,he,hb,rfl⟩:=Db h
      exact hp e he hb
    · obtain ⟨k,hk,h⟩:=List.any_eq_true.1 h
      simp only [Bool.and_eq_true] at h
      obtain ⟨e,he,hb,rfl⟩:=Db h.1
      have hl:=hp e he hb
      have hk':e.on<l.length:=List.mem_range.1 hk
      have ho':l[e.on]?=some l[e.on]:=List.getElem?_eq_getElem hk'
      exact Gi hcl f e.on j _ h.2 ho' (λe' he' hb'=>hcl _ _ hl ho' e' he' hb')
structure aa (l:List Oper) (D:List Nat) (p:Option Nat) (i:Nat) (k:Bool) (r:List (Nat×Bool)) (o:Oper):Prop where
  at_:l[i]?=some o
  pre:∀e∈o.after,Region.binds .any e=true->e.on∈D
  bef:∀q,p=some q->Cg l (bC l) i q=true
  fr:k=true->UU l i o=true
  nin:i ∉ D
  tl:Dq l (i::D) (if k then p else some i) r=true
theorem Dy {D:List Nat} {p:Option Nat} {i:Nat} {k:Bool} {r:List (Nat×Bool)} (h:Dq l D p ((i,k)::r)=true):∃o,aa l D p i k r o:=by
  unfold Dq at h
  rw [Bool.and_eq_true] at h
  obtain ⟨h1,h2⟩:=h
  cases ho:l[i]? with
  | none=>simp [ho] at h1
  | some o =>
    simp only [ho,Bool.and_eq_true] at h1
    obtain ⟨⟨⟨h3,h4⟩,h5⟩,h6⟩:=h1
    refine ⟨o,ho,λe he hb=>?_,λq hq=>?_,λhk=>?_,by simpa using h6,h2⟩
    · have:=Array.all_eq_true_iff_forall_mem.1 h3 e he
      simpa [hb] using this
    · subst hq;exact h4
    · subst hk;simpa using h5
theorem EG:∀{es:List (Nat×Bool)} {D:List Nat} {p:Option Nat},Dq l D p es=true->∀e∈es,e.1 ∉ D/\e.1<l.length
  | [],_,_,_,e,he=>by cases he
  | (i,k)::r,D,p,h,e,he=>by
    obtain ⟨o,hg⟩:=Dy h
    rcases List.mem_cons.1 he with rfl|he
    · exact ⟨hg.nin,(List.getElem?_eq_some_iff.1 hg.at_).1⟩
    · have:=EG hg.tl e he
      exact ⟨λhd=>this.1 (List.mem_cons_of_mem _ hd),this.2⟩
theorem EO {listed:Array Bool} (hcl:∀(j:Nat) (o:Oper),listed.getD j false=true->l[j]?=some o->∀e∈o.after,Region.binds .any e=true->listed.getD e.on false=true) :
    ∀{es:List (Nat×Bool)} {D:List Nat} {p:Nat},Dq l D (some p) es=true->listed.getD p false=false->(∀e∈es,listed.getD e.1 false=false)->∀e∈es,e.1 ∉ Region.ready .any l.toArray listed
  | [],_,_,_,_,_,e,he=>by cases he
  | (i,k)::r,D,p,h,hp,hu,e,he=>by
    obtain ⟨o,hg⟩:=Dy h
    rcases List.mem_cons.1 he with rfl|he2
    · intro hr
      obtain ⟨_,o',ho',hall⟩:=mem_ready.1 hr
      have:=Gi hcl (bC l) i p o' (hg.bef p rfl) (by simpa using ho') hall
      rw [hp] at this;cases this
    · have hu':∀e∈r,listed.getD e.1 false=false:=λe he=>hu e (List.mem_cons_of_mem _ he)
      have htl:=hg.tl
      cases k with
      | true=>exact EO hcl htl hp hu' e he2
      | false=>exact EO hcl htl (hu (i,false) List.mem_cons_self) hu' e he2
structure Nj (l:List Oper) (D:List Nat) (listed:Array Bool):Prop where
  size:listed.size=l.length
  mem:∀i,i∈D↔listed.getD i false=true
  cl:∀(j:Nat) (o:Oper),listed.getD j false=true->l[j]?=some o->∀e∈o.after,Region.binds .any e=true->listed.getD e.on false=true
theorem Nj.no {D:List Nat} {listed:Array Bool} (h:Nj l D listed) {i:Nat} (hn:i ∉ D):listed.getD i false=false:=by
  cases hx:listed.getD i false with
  | false=>rfl
  | true=>exact absurd ((h.mem i).2 hx) hn
theorem C8 {listed:Array Bool} {i:Nat} (hi:i<listed.size):listed.getD i true=listed.getD i false:=by simp [hi]
theorem Nj.add {D:List Nat} {listed:Array Bool} (h:Nj l D listed) {i:Nat} {o:Oper} (ho:l[i]?=some o) (hp:∀e∈o.after,Region.binds .any e=true->listed.getD e.on false=true):Nj l (i::D) (listed.setIfInBounds i true):=by
  have hil:i<l.length:=(List.getElem?_eq_some_iff.1 ho).1
  have his:i<listed.size:=by rw [h.size];exact hil
  refine ⟨by simpa using h.size,λk=>?_,λj o' hj ho' e he hb=>?_⟩
  · rw [J2 _ _ _ _ his]
    by_cases e:i=k
    · subst e;simp
    · rw [if_neg e,<-h.mem k]
      exact ⟨λhm=>(List.mem_cons.1 hm).elim (λe2=>absurd e2.symm e) id,List.mem_cons_of_mem _⟩
  · rw [J2 _ _ _ _ his] at hj ⊢
    have:listed.getD e.on false=true:=by
      by_cases e1:i=j
      · subst e1
        rw [ho] at ho';injection ho' with ho';subst ho'
        exact hp e he hb
      · rw [if_neg e1] at hj
        exact h.cl j o' hj ho' e he hb
    split
    · rfl
    · exact this
theorem HG {D:List Nat} {listed:Array Bool} (hL:Nj l D listed) {i:Nat} {o:Oper} (ho:l[i]?=some o) (hf:UU l i o=true) (hp:∀e∈o.after,Region.binds .any e=true->listed.getD e.on false=true) (j:Nat) (oj:Oper) (hj:l.toArray[j]?=some oj) (hne:j≠i) (hun:listed.getD j true=false) (hno:∀e∈oj.after,Region.binds .any e=true->e.on≠i) :
    o.apart l.toArray oj=true:=by
  have hj':l[j]?=some oj:=by simpa using hj
  have hjl:j<l.length:=(List.getElem?_eq_some_iff.1 hj').1
  have h1:=List.all_eq_true.1 hf j (List.mem_range.2 hjl)
  simp only [hj',Bool.or_eq_true,beq_iff_eq,hne,false_or] at h1
  rcases h1 with (h1|h1)|h1
  · obtain ⟨e,he,hb,rfl⟩:=Db h1
    have:=hp e he hb
    rw [C8 (by rw [hL.size];exact hjl)] at hun
    rw [hun] at this;cases this
  · obtain ⟨e,he,hb,h2⟩:=Db h1
    exact absurd h2 (hno e he hb)
  · exact h1
theorem Rr {D:List Nat} {listed:Array Bool} (hL:Nj l D listed) (hall:∀i,i<l.length->i∈D):Region.ready .any l.toArray listed=[]:=by
  cases hr:Region.ready .any l.toArray listed with
  | nil=>rfl
  | cons j r =>
    obtain ⟨h0,o,ho,_⟩:=(mem_ready (md:=.any) (ops:=l.toArray) (listed:=listed) (j:=j)).1 (by rw [hr];exact List.mem_cons_self ..)
    have hjl:j<l.length:=by simpa using (Array.getElem?_eq_some_iff.1 ho).1
    have:=(hL.mem j).1 (hall j hjl)
    rw [C8 (by rw [hL.size];exact hjl)] at h0
    rw [h0] at this;cases this
theorem aH (hQ:∀c a d v w,Q (.panic c) (a.put d v) w->Q (.panic c) a w) (c) (a:Act) (d:Option Tmp) (v:Value) (w:World) (h:Q (.panic c) (a.put d v) w):Q (.panic c) a w:=hQ c a d v w h
theorem KA (hsel:Region.noSelect l.toArray=true) (hQ:∀c a d v w,Q (.panic c) (a.put d v) w->Q (.panic c) a w) :
    ∀(es:List (Nat×Bool)) (D:List Nat) (p:Option Nat) (listed:Array Bool) (a:Act) (w:World) (F:List (Nat×Value)) (L:List As),
      Dq l D p es=true->Nj l D listed->(∀i,i<l.length->i∈D\/es.any (λe=>e.1 == i)=true)->Wk Lro L->Cp n a F->BM w0 w L->OkE P l.toArray Q n w0 Lro es F L ->
      wpAnyH P .any l.toArray Q (λw=>BM w0 w Lro) es.length listed a w
  | [],D,p,listed,a,w,F,L,hc,hL,hall,hro,ha,hw,h=>⟨Rr hL λi hi=>(hall i hi).resolve_right (by simp),h a w ha hw⟩
  | (i,true)::r,D,p,listed,a,w,F,L,hc,hL,hall,hro,ha,hw,h=>by
    obtain ⟨o,hg⟩:=Dy hc
    obtain ⟨o',d,v,ho',hd,hdn,hy,hn⟩:=h
    have hat:l.toArray[i]?=some o:=by simpa using hg.at_
    rw [hat] at ho';injection ho' with ho';subst ho'
    have hil:i<l.length:=(List.getElem?_eq_some_iff.1 hg.at_).1
    have hp:∀e∈o.after,Region.binds .any e=true->listed.getD e.on false=true:=λe he hb=>(hL.mem _).1 (hg.pre e he hb)
    have hun:=hL.no hg.nin
    have hrd:i∈Region.ready .any l.toArray listed:=mem_ready.2 ⟨by rw [C8 (by rw [hL.size];exact hil)];exact hun,o,hat,hp⟩
    have hyield:YieldsIf P l.toArray (λw=>BM w0 w Lro) o v a:=by
      rcases hy with ⟨h1,h2⟩|⟨h1,h2⟩
      · exact .inl ⟨h1 a ha,λw hW=>h2 a w ha hW⟩
      · exact .inr ⟨h1 a ha,h2⟩
    refine wpAnyH_first hat (Region.noSelect_spec hsel) (λc a w=>aH hQ c a o.dst v w) r.length listed a w (HG hL hg.at_ (hg.fr O) hp) hrd hyield (hro _ _ hw) ?_
    refine KA hsel hQ r (i::D) p _ _ w ((d,v)::F) L hg.tl (hL.add hg.at_ hp) (λk hk=>?_) hro (by rw [hd];exact ha.put hdn) hw hn
    rcases hall k hk with h1|h1
    · exact .inl (List.mem_cons_of_mem _ h1)
    · simp only [List.any_cons,Bool.or_eq_true,beq_iff_eq] at h1
      rcases h1 with h1|h1
      · exact .inl (h1▸List.mem_cons_self)
      · exact .inr h1
  | (i,false)::r,D,p,listed,a,w,F,L,hc,hL,hall,hro,ha,hw,h=>by
    obtain ⟨o,hg⟩:=Dy hc
    obtain ⟨o',ho',h⟩:=h
    have hat:l.toArray[i]?=some o:=by simpa using hg.at_
    rw [hat] at ho';injection ho' with ho';subst ho'
    have hil:i<l.length:=(List.getElem?_eq_some_iff.1 hg.at_).1
    have hp:∀e∈o.after,Region.binds .any e=true->listed.getD e.on false=true:=λe he hb=>(hL.mem _).1 (hg.pre e he hb)
    have hun:=hL.no hg.nin
    have hrd:i∈Region.ready .any l.toArray listed:=mem_ready.2 ⟨by rw [C8 (by rw [hL.size];exact hil)];exact hun,o,hat,hp⟩
    have hall':∀k,k<l.length->k∈i::D\/r.any (λe=>e.1 == k)=true:=λk hk=>by
      rcases hall k hk with h1|h1
      · exact .inl (List.mem_cons_of_mem _ h1)
      · simp only [List.any_cons,Bool.or_eq_true,beq_iff_eq] at h1
        rcases h1 with h1|h1
        · exact .inl (h1▸List.mem_cons_self)
        · exact .inr h1
    refine ⟨λh0=>absurd hrd (by rw [h0];exact List.not_mem_nil),λj hj=>?_⟩
    have hji:j=i:=by
      obtain ⟨h0,oj,hoj,_⟩:=mem_ready.1 hj
      have hjl:j<l.length:=by simpa using (Array.getElem?_eq_some_iff.1 hoj).1
      rw [C8 (by rw [hL.size];exact hjl)] at h0
      rcases hall' j hjl with h1|h1
      · rcases List.mem_cons.1 h1 with h2|h2
        · exact h2
        · rw [(hL.mem j).1 h2] at h0;cases h0
      · obtain ⟨e,he,h2⟩:=List.any_eq_true.1 h1
        have h3:e.1=j:=by simpa using h2
        subst h3
        exact absurd hj (EO hL.cl hg.tl hun (λe he=>hL.no λhd=>(EG hg.tl e he).1 (List.mem_cons_of_mem _ hd)) e he)
    subst hji
    exact MI hat (h a w ha hw) λF' L' a' w' h1 h2 h3 h4=>⟨h3 _ _ h2,KA hsel hQ r (j::D) (some j) _ a' w' F' L' hg.tl (hL.add hg.at_ hp) hall' h3 h1 h2 h4⟩
theorem Nj.congr {D D2:List Nat} {listed:Array Bool} (h:Nj l D listed) (e:∀x,x∈D↔x∈D2):Nj l D2 listed:=⟨h.size,λi=>(e i).symm.trans (h.mem i),h.cl⟩
theorem JB {es:List (Nat×Bool)} {i:Nat} (h:es.any (λe=>e.1 == i)=true):∃e∈es,e.1=i:=by
  obtain ⟨e,he,h2⟩:=List.any_eq_true.1 h
  exact ⟨e,he,by simpa using h2⟩
theorem NW {id:Nat} {l:List Oper} (hm:P.follows .mixedOrders=true) {k:Nat} (hk:k=l.length) (h:∀a w,Cp n a F->BM w0 w L->wpAnyH P .any l.toArray Q (λw=>BM w0 w Lro) k (Array.replicate l.length false) a w):AE P (.region id l.toArray true) Q n F w0 L:=λa w ha hw=>by
  refine wp_region_held (S:=λw=>BM w0 w Lro) hm ?_
  rw [show l.toArray.size=l.length by simp,<-hk]
  subst hk
  exact h a w.drew ha hw.drew
theorem H7:Nj l [] (Array.replicate l.length false):=by
  have hz:∀j,(Array.replicate l.length false).getD j false=false:=λj=>by
    by_cases h:j<l.length<;>simp [h]
  exact ⟨by simp,λi=>by rw [hz];simp,λj o hj=>by rw [hz] at hj;cases hj⟩
theorem AE.chainE {id:Nat} (es:List (Nat×Bool)) (hro:Lro.Sublist L) (hm:P.follows .mixedOrders=true) (hc:Ve l es=true) (hQ:∀c a d v w,Q (.panic c) (a.put d v) w->Q (.panic c) a w)
    (h:OkE P l.toArray Q n w0 Lro es F L):AE P (.region id l.toArray true) Q n F w0 L:=by
  simp only [Ve,Bool.and_eq_true] at hc
  obtain ⟨⟨⟨h1,h2⟩,h3⟩,h4⟩:=hc
  refine NW hm (Nat.eq_of_beq_eq_true h3) λa w ha hw=>KA h4 hQ es [] none _ a w F L h1 H7 (λi hi=>?_) (Wk.of hro) ha hw h
  have:=List.all_eq_true.1 h2 i (List.mem_range.2 hi)
  simpa using this
variable {r e2:List (Nat×Bool)} {i j d:Nat} {o:Oper} {v:Value}
theorem OkE.nil (h:OkQ Q .normal n F w0 L):OkE P ops Q n w0 Lro [] F L:=h
theorem OkE.pas (ho:ops[i]?=some o) (hw:Wt ops n F o) (he:Ex P n F w0 Lro o v) (hd:o.dst=some d) (hn:Nat.ble (d+1) n=true) (next:OkE P ops Q n w0 Lro r ((d,v)::F) L):OkE P ops Q n w0 Lro ((i,true)::r) F L:=⟨o,d,v,ho,hd,Nat.le_of_ble_eq_true hn,.inl ⟨hw,he⟩,next⟩
theorem OkE.skp (ho:ops[i]?=some o) (hw:∀a,Cp n a F->Region.wanted o (yielded ops a.tmps)=false) (hd:o.dst=some d) (hn:Nat.ble (d+1) n=true) (next:OkE P ops Q n w0 Lro r ((d,undef)::F) L):OkE P ops Q n w0 Lro ((i,true)::r) F L:=⟨o,d,undef,ho,hd,Nat.le_of_ble_eq_true hn,.inr ⟨hw,rfl⟩,next⟩
theorem OkE.imp (ho:ops[i]?=some o) (h:AC P ops [o] (PE Q n w0 Lro λF' L'=>OkE P ops Q n w0 Lro r F' L') n F w0 L):OkE P ops Q n w0 Lro ((i,false)::r) F L:=⟨o,ho,h⟩
theorem OkE.back (hro:Lro.Sublist L') (h:OkE P ops Q n w0 Lro r F' L'):AC P ops [] (PE Q n w0 Lro λF' L'=>OkE P ops Q n w0 Lro r F' L') n F' w0 L':=AC.nil λa w ha hw=>⟨F',L',ha,hw,Wk.of hro,h⟩
end
end
section
def RD (f:Nat) (v:Nat):List Nat :=
  match f with
  | 0=>[]
  | f+1=>if v=0 then [] else v%4294967296::RD f (v/4294967296)
def AQ (v:Nat):List Nat:=RD v v
def UJ (x:Nat):List UInt8:=[(x%256).toUInt8,(x/256%256).toUInt8,(x/65536%256).toUInt8,(x/16777216%256).toUInt8]
def Jb (v:Nat):Bool:=decide (v<18446744073709551616)
def B2 (v:Nat):Nat:=if Jb v then v else 0
def Bi (v:Nat):ByteArray:=if Jb v then ByteArray.empty else ⟨((AQ v).flatMap UJ).toArray⟩
def Ae (v:Nat):List Value:=[.int .u64 (B2 v:Nat),.string (Bi v)]
def Be (z:Int):List Value:=[.int .u64 (B2 z.natAbs:Nat),.string (Bi z.natAbs),.bool (decide (z<0))]
def BB (q:Rat):List Value:=[.int .u64 (B2 q.num.natAbs:Nat),.string (Bi q.num.natAbs),.bool (decide (q.num<0)),.int .u64 (B2 (q.den-1):Nat),.string (Bi (q.den-1))]
@[ext] structure Pt where
  x:Rat
  y:Rat
def CG (p:Pt):List Value:=BB p.x++BB p.y
theorem BJ {z:Int} (h:-9223372036854775808<=z) (h':z<9223372036854775808):IntKind.i64.wrap z=z:=by
  simp only [IntKind.wrap,IntKind.bits,IntKind.signed];simp;split<;>omega
theorem C0 {z:Int} (h:0<=z) (h':z<18446744073709551616):IntKind.u64.wrap z=z:=by
  simp only [IntKind.wrap,IntKind.bits,IntKind.signed];simp;omega
theorem Fo {z:Int} (h:0<=z) (h':z<4294967296):IntKind.u32.wrap z=z:=by
  simp only [IntKind.wrap,IntKind.bits,IntKind.signed];simp;omega
theorem V2 {z:Int} (h:0<=z) (h':z<256):IntKind.u8.wrap z=z:=by
  simp only [IntKind.wrap,IntKind.bits,IntKind.signed];simp;omega
theorem AU {a b:Nat} (h:a+b<9223372036854775808):IntKind.i64.wrap ((a:Int)+(b:Int))=((a+b:Nat):Int):=by rw [BJ Z Z];omega
theorem Br {a b:Nat} (h:b<=a) (h':a<9223372036854775808):IntKind.i64.wrap ((a:Int)-(b:Int))=((a-b:Nat):Int):=by rw [BJ Z Z];omega
theorem FD {a b:Nat} (h:a*b<9223372036854775808):IntKind.i64.wrap ((a:Int)*(b:Int))=((a*b:Nat):Int):=by
  rw [<-Int.natCast_mul,BJ Z Z]
theorem C9 {a b:Nat} (h:a+b<18446744073709551616):IntKind.u64.wrap ((a:Int)+(b:Int))=((a+b:Nat):Int):=by rw [C0 Z Z];omega
theorem HN {a b:Nat} (h:b<=a) (h':a<18446744073709551616):IntKind.u64.wrap ((a:Int)-(b:Int))=((a-b:Nat):Int):=by rw [C0 Z Z];omega
theorem EY {a b:Nat} (h:a*b<18446744073709551616):IntKind.u64.wrap ((a:Int)*(b:Int))=((a*b:Nat):Int):=by
  rw [<-Int.natCast_mul,C0 Z Z]
theorem E2 {a:Nat} (h:a<9223372036854775808):IntKind.i64.wrap (a:Int)=(a:Int):=BJ Z Z
theorem BT {a:Nat} (h:a<18446744073709551616):IntKind.u64.wrap (a:Int)=(a:Int):=C0 Z Z
theorem Ca {a:Nat} (h:a<4294967296):IntKind.u32.wrap (a:Int)=(a:Int):=Fo Z Z
theorem U7 {a:Nat} (h:a<256):IntKind.u8.wrap (a:Int)=(a:Int):=V2 Z Z
theorem Dw {a:Nat}:IntKind.u32.wrap (a:Int)=((a%4294967296:Nat):Int):=by
  simp only [IntKind.wrap,IntKind.bits,IntKind.signed];simp
theorem I9 {a:Nat}:IntKind.u8.wrap (a:Int)=((a%256:Nat):Int):=by
  simp only [IntKind.wrap,IntKind.bits,IntKind.signed];simp
theorem B7 {a b:Nat}:decide ((a:Int)<(b:Int))=decide (a<b):=decide_eq_decide.2 Z
theorem SW {a b:Nat}:decide ((a:Int)<=(b:Int))=decide (a<=b):=decide_eq_decide.2 Z
theorem KW {a b:Nat}:decide ((a:Int)=(b:Int))=decide (a=b):=decide_eq_decide.2 Z
theorem ZB {a b:Nat}:decide ((a:Int)≠(b:Int))=decide (a≠b):=decide_eq_decide.2 Z
theorem FA {a b:Nat} (h:a<9223372036854775808):IntKind.i64.wrap ((a:Int).tdiv (b:Int))=((a/b:Nat):Int):=by
  have:a/b<=a:=Nat.div_le_self _ _
  rw [<-Int.ofNat_tdiv]
  generalize a/b=q at *
  exact BJ Z Z
theorem Ho {a b:Nat} (h:a<18446744073709551616):IntKind.u64.wrap ((a:Int).tdiv (b:Int))=((a/b:Nat):Int):=by
  have:a/b<=a:=Nat.div_le_self _ _
  rw [<-Int.ofNat_tdiv]
  generalize a/b=q at *
  exact C0 Z Z
theorem NQ {a b:Nat}:((a:Int).tmod (b:Int))=((a%b:Nat):Int):=(Int.ofNat_tmod a b).symm
theorem Fc {a s:Nat}:(a:Int)/2^s=((a/2^s:Nat):Int):=by simp
theorem Ev:prog.follows .mixedOrders=true:=by kernel_rfl
theorem AC.store' {P:Program} {ops:Array Oper} {rest:List Oper} {Q:Exit->Act->World->Prop} {n:Nat} {F:List (Nat×Value)} {w0:BE} {L L':List As} {v:Value} {x y:Operand} {d:Option Tmp} {t:TypeId} {p:String} {af:Array Edge} {g:Option (Nat×Bool)}
    {i b off:Nat} {ty T:TypeId} {cs vs cs':List Value} (hw:Wt ops n F ⟨d,.store ty x y,t,p,af,g⟩) (ho:d=none) (hx:evF F x=some (.pointer (some ⟨b,off,none⟩))) (hy:evF F y=some v) (hi:L[i]?=some (Ah b T cs))
    (hv:v.cells=vs.toArray) (hs:∀w,(sizeOf ty).run P w=.ok vs.length w) (h1:(vs.all λu=>u.oneCell')=true) (hl:Nat.ble (off+vs.length) cs.length=true)
    (hc:Hw cs off vs=cs') (hL:L.set i (Ah b T cs')=L') (next:AC P ops rest Q n F w0 L'):AC P ops (⟨d,.store ty x y,t,p,af,g⟩::rest) Q n F w0 L:=by
  subst hc;subst hL
  exact AC.store hw (UI hx hy hi hv hs h1 hl) ho hi next
theorem AC.callB {P:Program} {ops:Array Oper} {rest:List Oper} {Q:Exit->Act->World->Prop} {n:Nat} {F:List (Nat×Value)} {w0:BE} {L:List As} {o:Oper} {d:Nat} {f:FuncId} {args:Array Value} {V:Nat->Value} {T:TypeId} {cs:List Value} (hw:Wt ops n F o)
    (he:∀a w,Cp n a F->BM w0 w L->(execOp a.eval o).run P w=.ok (.enter f args) w)
    (hc:∀w,BM w0 w L->Calls P f args w λe w'=>∃b,e=.returned (V b)/\F0 w.heap.size w w'/\w.heap.size<=b/\w'.heap[b]?=some (.cells cs.toArray T (0,0)))
    (ho:o.dst=some d) (hd:d<n) (next:∀b,AC P ops rest Q n ((d,V b)::F) w0 (Ah b T cs::L)):AC P ops (o::rest) Q n F w0 L:=λa w ha hW=>by
  unfold wpList
  rw [if_pos (hw a ha)]
  left
  unfold Oper.wp
  rw [he a w ha hW,Oper.upon_enter]
  refine (hc w hW).mono ?_
  rintro e w' ⟨b,rfl,hb,hlt,hcell⟩
  rw [ho]
  exact next b _ _ (ha.put hd) (hW.add O hb hlt ⟨_,hcell,rfl⟩)
theorem AC.callM {P:Program} {ops:Array Oper} {rest:List Oper} {Q:Exit->Act->World->Prop} {n:Nat} {F:List (Nat×Value)} {w0:BE} {L L':List As} {o:Oper} {f:FuncId} {args:Array Value} {v:Value} {i b:Nat} {T:TypeId} {cs cs':List Value} (hw:Wt ops n F o)
    (he:∀a w,Cp n a F->BM w0 w L->(execOp a.eval o).run P w=.ok (.enter f args) w) (hi:L[i]?=some (Ah b T cs))
    (hc:∀w,BM w0 w L->Calls P f args w λe w'=>e=.returned v/\K0 w w' (some b)/\w'.heap[b]?=some (.cells cs'.toArray T (0,0)))
    (hd:∀d,o.dst=some d->d<n) (hL:L.set i (Ah b T cs')=L') (next:AC P ops rest Q n (match o.dst with|some d=>(d,v)::F|none=>F) w0 L'):AC P ops (o::rest) Q n F w0 L:=λa w ha hW=>by
  subst hL
  unfold wpList
  rw [if_pos (hw a ha)]
  left
  unfold Oper.wp
  rw [he a w ha hW,Oper.upon_enter]
  refine (hc w hW).mono ?_
  rintro e w' ⟨rfl,hg,hcell⟩
  have hW':=hW.turn hi rfl rfl hg ⟨_,hcell,rfl⟩ (y:=Ah b T cs')
  cases hdst:o.dst with
  | none=>rw [hdst] at next;exact next _ _ ha.put_none hW'
  | some d=>rw [hdst] at next;exact next _ _ (ha.put (hd d hdst)) hW'
abbrev pP (b o:Nat):Value:=.pointer (some ⟨b,o,none⟩)
abbrev aG (l:List Value):Value:=.agg l.toArray
abbrev vI (z:Int):Value:=.int .i64 z
abbrev vN (n:Nat):Value:=.int .i64 (n:Int)
abbrev vK (k:IntKind) (n:Nat):Value:=.int k (n:Int)
theorem AV {a b:Nat} (h:Nat.ble a b=true):a<=b:=Nat.le_of_ble_eq_true h
theorem sN {F:List (Nat×Value)}:C_ [] F:=trivial
theorem sS {k:Nat} {v:Value} {r F:List (Nat×Value)} (h:F.lookup k=some v) (t:C_ r F):C_ ((k,v)::r) F:=⟨h,t⟩
def bK (F:List (Nat×Value)):List (Nat×Value)->List (Option Value)
  | []=>[]
  | p::r=>F.lookup p.1::bK F r
def aZ:List (Nat×Value)->List (Option Value)
  | []=>[]
  | p::r=>some p.2::aZ r
theorem sF:∀{F' F:List (Nat×Value)},bK F F'=aZ F'->C_ F' F
  | [],_,_=>trivial
  | _::_,_,h=>by
    simp only [bK,aZ,List.cons.injEq] at h
    exact ⟨h.1,sF h.2⟩
section
variable {P:Program} {ops:Array Oper} {rest:List Oper} {Q:Exit->Act->World->Prop} {n d:Nat} {F F':List (Nat×Value)} {w0:BE} {L Lro:List As} {op:Op} {t:TypeId} {p:String} {af:Array Edge} {v:Value} {l:List Oper} {specs:List Sp}
theorem AE.subF {c:Code} (hs:C_ F' F) (h:AE P c Q n F' w0 L):AE P c Q n F w0 L:=AE.sub hs (List.Sublist.refl _) h
theorem OkQ.subF {e:Exit} (hs:C_ F' F) (h:OkQ Q e n F' w0 L):OkQ Q e n F w0 L:=OkQ.sub hs (List.Sublist.refl _) h
theorem st (he:Ex P n F w0 L ⟨some d,op,t,p,af,none⟩ v) (hd:d<n) (next:AC P ops rest Q n ((d,v)::F) w0 L):AC P ops (⟨some d,op,t,p,af,none⟩::rest) Q n F w0 L:=AC.step (AT rfl) he rfl hd next
theorem q1 {x y:Code} (h:AE P x (Exit.then (y.wp P Q) Q) n F w0 L):OkQ (Exit.then ((Code.seq x y).wp P Q) Q) .normal n F w0 L:=OkQ.then_ (AE.seq h)
theorem q2 {id:Nat} {y:Code} (h:AC P l.toArray l (Exit.then (y.wp P Q) Q) n F w0 L):OkQ (Exit.then ((Code.seq (.region id l.toArray false) y).wp P Q) Q) .normal n F w0 L:=q1 (AE.region h)
theorem q3 {id:Nat} {y:Code} (hs:C_ F' F) (h:AC P l.toArray l (Exit.then (y.wp P Q) Q) n F' w0 L):AC P ops [] (Exit.then ((Code.seq (.region id l.toArray false) y).wp P Q) Q) n F w0 L:=AC.nil (OkQ.subF hs (q2 h))
theorem q4 {id:Nat} {y:Code} (h:AC P l.toArray l (Exit.then (y.wp P Q) Q) n F w0 L):AE P (Code.seq (.region id l.toArray false) y) Q n F w0 L:=AE.seq (AE.region h)
theorem q6 {x y:Code} (hs:C_ F' F) (h:AE P x (Exit.then (y.wp P Q) Q) n F' w0 L):AC P ops [] (Exit.then ((Code.seq x y).wp P Q) Q) n F w0 L:=AC.nil (OkQ.subF hs (q1 h))
theorem Aw {x:Operand} {f:FuncId} {xs:List Operand} {args:List Value} {ts:Array TypeId} {dd:Option Tmp} {g:Option (Nat×Bool)} (hf:evF F x=some (.func (.func f) #[] #[])) (hargs:xs.map (evF F)=args.map some)
    (hc:∀args w,(callFunc f args).run P w=.ok (.enter f args) w) :
    ∀a w,Cp n a F->BM w0 w L->(execOp a.eval ⟨dd,.call { callee:=.value x,args:=xs.toArray,argTypes:=ts },t,p,af,g⟩).run P w=.ok (.enter f args.toArray) w :=
  MJ (caps:=[]) hf hargs (List.append_nil _) hc
end
end
section
structure DC (P:Program) (t:TypeId) (k:Nat):Prop where
  a:∀w,(isAgg t).run P w=.ok true w
  s:∀w,(sizeOf t).run P w=.ok k w
structure Eb (P:Program) (t:TypeId):Prop where
  a:∀w,(isAgg t).run P w=.ok false w
def DH (P:Program) (t:TypeId) (cs:List Value):Prop:=∃u:Value,(∀w,(zeroValue t).run P w=.ok u w)/\u.cells=cs.toArray
section
variable {P:Program} {ops:Array Oper} {rest:List Oper} {Q:Exit->Act->World->Prop} {n d i b off k:Nat} {F F':List (Nat×Value)} {w0:BE} {L Lro:List As} {op:Op} {t ty T:TypeId} {p:String} {af:Array Edge} {u v:Value} {x y:Operand} {l:List Oper} {specs:List Sp} {cs vs:List Value}
theorem Bq {a b:Nat} (h:Nat.ble (a+1) b=true):a<b:=Nat.le_of_ble_eq_true h
theorem mv (hx:evF F x=some v) (hd:Nat.ble (d+1) n=true) (next:AC P ops rest Q n ((d,v)::F) w0 L):AC P ops (⟨some d,.move x,t,p,af,none⟩::rest) Q n F w0 L:=AC.step (AT rfl) (AW hx) rfl (Bq hd) next
theorem cM (hx:evF F x=some v) (hd:Nat.ble (d+1) n=true) (next:AC P ops rest Q n ((d,v)::F) w0 L):AC P ops (⟨some d,.assign x,t,p,af,none⟩::rest) Q n F w0 L:=AC.step (AT rfl) (LN hx) rfl (Bq hd) next
theorem Jd {cs:List Value} {k:Nat} (h:cs.length=k):(cs.drop 0).take k=cs:=by rw [List.drop_zero,List.take_of_length_le Z]
theorem cT (i:Nat) (ht:DC P ty k) (hx:evF F x=some (pP b 0)) (hi:L[i]?=some (Ah b T cs)) (hl:cs.length=k) (hd:Nat.ble (d+1) n=true) (next:AC P ops rest Q n ((d,aG cs)::F) w0 L) :
    AC P ops (⟨some d,.load ty x,t,p,af,none⟩::rest) Q n F w0 L:=AC.step (AT rfl) (BK hx hi ht.a ht.s (Jd hl) hl) rfl (Bq hd) next
theorem cU (i:Nat) (vs:List Value) (ht:DC P ty k) (hx:evF F x=some (pP b off)) (hi:L[i]?=some (Ah b T cs)) (hv:(cs.drop off).take k=vs) (hl:vs.length=k) (hd:Nat.ble (d+1) n=true) (next:AC P ops rest Q n ((d,aG vs)::F) w0 L) :
    AC P ops (⟨some d,.load ty x,t,p,af,none⟩::rest) Q n F w0 L:=AC.step (AT rfl) (BK hx hi ht.a ht.s hv hl) rfl (Bq hd) next
theorem cK (i:Nat) (v:Value) (ht:Eb P ty) (hx:evF F x=some (pP b off)) (hi:L[i]?=some (Ah b T cs)) (hv:cs[off]?=some v) (hd:Nat.ble (d+1) n=true) (next:AC P ops rest Q n ((d,v)::F) w0 L) :
    AC P ops (⟨some d,.load ty x,t,p,af,none⟩::rest) Q n F w0 L:=AC.step (AT rfl) (AN hx hi ht.a hv) rfl (Bq hd) next
theorem bx (hx:evF F x=some v) (hv:v.cells=cs.toArray) (hd:Nat.ble (d+1) n=true) (next:∀b,AC P ops rest Q n ((d,pP b 0)::F) w0 (Ah b T cs::L)):AC P ops (⟨some d,.box T x,t,p,af,none⟩::rest) Q n F w0 L :=
  AC.open_ (AT rfl) (Xq hx hv) rfl (Bq hd) next
theorem al (hz:DH P T cs) (hd:Nat.ble (d+1) n=true) (next:∀b,AC P ops rest Q n ((d,pP b 0)::F) w0 (Ah b T cs::L)):AC P ops (⟨some d,.alloc T,t,p,af,none⟩::rest) Q n F w0 L :=
  have ⟨_,h1,h2⟩:=hz
  AC.open_ (AT rfl) (NE h1 h2) rfl (Bq hd) next
theorem cl {f:FuncId} {xs:List Operand} {args:List Value} {ts:Array TypeId} (hc:∀args w,(callFunc f args).run P w=.ok (.enter f args) w) (h:∀w,BM w0 w L->Calls P f args.toArray w (Ak w v))
    (hf:evF F x=some (.func (.func f) #[] #[])) (hargs:xs.map (evF F)=args.map some) (hd:Nat.ble (d+1) n=true) (next:AC P ops rest Q n ((d,v)::F) w0 L) :
    AC P ops (⟨some d,.call { callee:=.value x,args:=xs.toArray,argTypes:=ts },t,p,af,none⟩::rest) Q n F w0 L:=AC.call (AT rfl) (Aw hf hargs hc) h rfl (Bq hd) next
theorem XL {cs vs:List Value} (h:vs.length=cs.length):Hw cs 0 vs=vs:=by simp [Hw,h]
theorem Mh {L':List As} (hx:evF F x=some (pP b 0)) (hy:evF F y=some v) (hi:L[i]?=some (Ah b T cs)) (hv:v.cells=vs.toArray) (hs:∀w,(sizeOf ty).run P w=.ok vs.length w) (h1:(vs.all λu=>u.oneCell')=true) (hl:vs.length=cs.length)
    (hL:L.set i (Ah b T vs)=L') (next:AC P ops rest Q n F w0 L'):AC P ops (⟨none,.store ty x y,t,p,af,none⟩::rest) Q n F w0 L:=AC.store' (AT rfl) rfl hx hy hi hv hs h1 (Nat.ble_eq_true_of_le Z) (XL hl) hL next
variable {A0 A1 A2 A3 A4 A5:As}
theorem am (hx:evF F x=some (pP b 0)) (hy:evF F y=some v) (hv:v.cells=vs.toArray) (hs:∀w,(sizeOf ty).run P w=.ok vs.length w) (h1:(vs.all λu=>u.oneCell')=true) (hl:vs.length=cs.length)
    (next:AC P ops rest Q n F w0 (Ah b T vs::L)):AC P ops (⟨none,.store ty x y,t,p,af,none⟩::rest) Q n F w0 (Ah b T cs::L):=Mh (i:=0) hx hy rfl hv hs h1 hl rfl next
theorem bN (hx:evF F x=some (pP b 0)) (hy:evF F y=some v) (hv:v.cells=vs.toArray) (hs:∀w,(sizeOf ty).run P w=.ok vs.length w) (h1:(vs.all λu=>u.oneCell')=true) (hl:vs.length=cs.length)
    (next:AC P ops rest Q n F w0 (A0::Ah b T vs::L)):AC P ops (⟨none,.store ty x y,t,p,af,none⟩::rest) Q n F w0 (A0::Ah b T cs::L):=Mh (i:=1) hx hy rfl hv hs h1 hl rfl next
theorem aw (hx:evF F x=some (pP b 0)) (hy:evF F y=some v) (hv:v.cells=vs.toArray) (hs:∀w,(sizeOf ty).run P w=.ok vs.length w) (h1:(vs.all λu=>u.oneCell')=true) (hl:vs.length=cs.length)
    (next:AC P ops rest Q n F w0 (A0::A1::Ah b T vs::L)):AC P ops (⟨none,.store ty x y,t,p,af,none⟩::rest) Q n F w0 (A0::A1::Ah b T cs::L):=Mh (i:=2) hx hy rfl hv hs h1 hl rfl next
theorem a9 (hx:evF F x=some (pP b 0)) (hy:evF F y=some v) (hv:v.cells=vs.toArray) (hs:∀w,(sizeOf ty).run P w=.ok vs.length w) (h1:(vs.all λu=>u.oneCell')=true) (hl:vs.length=cs.length)
    (next:AC P ops rest Q n F w0 (A0::A1::A2::Ah b T vs::L)):AC P ops (⟨none,.store ty x y,t,p,af,none⟩::rest) Q n F w0 (A0::A1::A2::Ah b T cs::L):=Mh (i:=3) hx hy rfl hv hs h1 hl rfl next
theorem sr {L:List As}:L.Sublist L:=List.Sublist.refl _
theorem sl {a:As} {l1 l2:List As} (h:l1.Sublist l2):l1.Sublist (a::l2):=List.Sublist.cons _ h
theorem sk {a:As} {l1 l2:List As} (h:l1.Sublist l2):(a::l1).Sublist (a::l2):=List.Sublist.cons_cons _ h
end
section
variable {P:Program} {ops:Array Oper} {rest:List Oper} {Q:Exit->Act->World->Prop} {n:Nat} {F F':List (Nat×Value)} {w0:BE} {L Lro:List As} {specs:List Sp} {β:Nat->Value} {A0 A1 A2 A3:As}
end
def UC (F:List (Nat×Value)):List Nat->Option (List (Nat×Value))
  | []=>some []
  | k::ks=>match F.lookup k with
    | some v=>match UC F ks with
      | some r=>some ((k,v)::r)
      | none=>none
    | none=>none
theorem sL:∀(ks:List Nat) {F F':List (Nat×Value)},UC F ks=some F'->C_ F' F
  | [],_,_,h=>by injection h with h;subst h;trivial
  | k::ks,F,F',h=>by
    unfold UC at h
    split at h
    · rename_i v hv
      split at h
      · rename_i r hr
        injection h with h;subst h
        exact ⟨hv,sL ks hr⟩
      · cases h
    · cases h
def Nb:List As->Nat->As->Option (List As)
  | [],_,_=>none
  | _::r,0,y=>some (y::r)
  | x::r,i+1,y=>match Nb r i y with
    | some r'=>some (x::r')
    | none=>none
theorem GX:∀{L:List As} {i:Nat} {y:As} {L':List As},Nb L i y=some L'->L.set i y=L'
  | [],_,_,_,h=>by cases h
  | _::r,0,y,_,h=>by injection h
  | x::r,i+1,y,L',h=>by
    unfold Nb at h
    split at h
    · rename_i r' hr
      injection h with h;subst h
      rw [List.set_cons_succ,GX hr]
    · cases h
section
variable {α β γ δ ε:Type} {a a':α} {b b':β} {c c':γ} {d d':δ} {e e':ε}
theorem Cm (h:(a,b)=(a',b')):a=a':=congrArg Prod.fst h
theorem BZ (h:(a,b)=(a',b')):b=b':=congrArg Prod.snd h
end
section
variable {P:Program} {ops:Array Oper} {rest:List Oper} {Q:Exit->Act->World->Prop} {n d i b off k:Nat} {F F':List (Nat×Value)} {w0:BE} {L L' Lro:List As} {op:Op} {t ty T:TypeId} {p:String} {af:Array Edge} {u v:Value} {x y:Operand} {l:List Oper} {specs:List Sp} {cs vs:List Value} {o:Oper} {j:Nat} {g:Option (Nat×Bool)}
theorem AA {t:Nat} {b:Bool} (h:(o.guard,(ops[j]?).bind (·.dst),F.lookup t)=(some (j,b),some t,some (.bool b))):Wt ops n F o:=W8 (Cm h) (Cm (BZ h)) (BZ (BZ h))
theorem AD {t:Nat} {b:Bool} (h:(o.guard,(ops[j]?).bind (·.dst),F.lookup t)=(some (j,b),some t,some (.bool (!b)))):∀a,Cp n a F->Region.wanted o (yielded ops a.tmps)=false:=X9 (Cm h) (Cm (BZ h)) (BZ (BZ h))
theorem AK (he:Ex P n F w0 L ⟨some d,op,t,p,af,none⟩ v) (hd:Nat.ble (d+1) n=true) (next:AC P ops rest Q n ((d,v)::F) w0 L):AC P ops (⟨some d,op,t,p,af,none⟩::rest) Q n F w0 L:=st he (Bq hd) next
theorem AM (h:(evF F x,Nat.ble (d+1) n)=(some v,true)) (next:AC P ops rest Q n ((d,v)::F) w0 L):AC P ops (⟨some d,.move x,t,p,af,none⟩::rest) Q n F w0 L:=mv (Cm h) (BZ h) next
theorem AI (h:(evF F x,Nat.ble (d+1) n)=(some v,true)) (next:AC P ops rest Q n ((d,v)::F) w0 L):AC P ops (⟨some d,.assign x,t,p,af,none⟩::rest) Q n F w0 L:=cM (Cm h) (BZ h) next
theorem BC (i:Nat) (ht:DC P ty k) (h:(evF F x,L[i]?,cs.length,Nat.ble (d+1) n)=(some (pP b 0),some (Ah b T cs),k,true)) (next:AC P ops rest Q n ((d,aG cs)::F) w0 L) :
    AC P ops (⟨some d,.load ty x,t,p,af,none⟩::rest) Q n F w0 L:=cT i ht (Cm h) (Cm (BZ h)) (Cm (BZ (BZ h))) (BZ (BZ (BZ h))) next
theorem OZ (i:Nat) (vs:List Value) (ht:DC P ty k) (h:(evF F x,L[i]?,(cs.drop off).take k,vs.length,Nat.ble (d+1) n)=(some (pP b off),some (Ah b T cs),vs,k,true)) (next:AC P ops rest Q n ((d,aG vs)::F) w0 L) :
    AC P ops (⟨some d,.load ty x,t,p,af,none⟩::rest) Q n F w0 L:=cU i vs ht (Cm h) (Cm (BZ h)) (Cm (BZ (BZ h))) (Cm (BZ (BZ (BZ h)))) (BZ (BZ (BZ (BZ h)))) next
theorem BL (i:Nat) (v:Value) (ht:Eb P ty) (h:(evF F x,L[i]?,cs[off]?,Nat.ble (d+1) n)=(some (pP b off),some (Ah b T cs),some v,true)) (next:AC P ops rest Q n ((d,v)::F) w0 L) :
    AC P ops (⟨some d,.load ty x,t,p,af,none⟩::rest) Q n F w0 L:=cK i v ht (Cm h) (Cm (BZ h)) (Cm (BZ (BZ h))) (BZ (BZ (BZ h))) next
theorem B0 (h:(evF F x,v.cells,Nat.ble (d+1) n)=(some v,cs.toArray,true)) (next:∀b,AC P ops rest Q n ((d,pP b 0)::F) w0 (Ah b T cs::L)):AC P ops (⟨some d,.box T x,t,p,af,none⟩::rest) Q n F w0 L :=
  bx (Cm h) (Cm (BZ h)) (BZ (BZ h)) next
theorem Cc {f:FuncId} {xs:List Operand} {args:List Value} {ts:Array TypeId} (hc:∀args w,(callFunc f args).run P w=.ok (.enter f args) w) (h:∀w,BM w0 w L->Calls P f args.toArray w (Ak w v))
    (h2:(evF F x,xs.map (evF F),Nat.ble (d+1) n)=(some (.func (.func f) #[] #[]),args.map some,true)) (next:AC P ops rest Q n ((d,v)::F) w0 L) :
    AC P ops (⟨some d,.call { callee:=.value x,args:=xs.toArray,argTypes:=ts },t,p,af,none⟩::rest) Q n F w0 L:=cl hc h (Cm h2) (Cm (BZ h2)) (BZ (BZ h2)) next
theorem ck' {f:FuncId} {xs:List Operand} {args:List Value} {ts:Array TypeId} (hc:∀args w,(callFunc f args).run P w=.ok (.enter f args) w) (h:∀w,Calls P f args.toArray w (Ak w v))
    (h2:(evF F x,xs.map (evF F),Nat.ble (d+1) n)=(some (.func (.func f) #[] #[]),args.map some,true)) (next:AC P ops rest Q n ((d,v)::F) w0 L) :
    AC P ops (⟨some d,.call { callee:=.value x,args:=xs.toArray,argTypes:=ts },t,p,af,none⟩::rest) Q n F w0 L:=Cc hc (λw _=>h w) h2 next
variable {A0 A1 A2 A3 A4 A5:As}
theorem BP (h:(evF F x,evF F y,v.cells)=(some (pP b 0),some v,vs.toArray)) (hs:∀w,(sizeOf ty).run P w=.ok vs.length w) (h2:(vs.all λu=>u.oneCell',vs.length)=(true,cs.length))
    (next:AC P ops rest Q n F w0 (Ah b T vs::L)):AC P ops (⟨none,.store ty x y,t,p,af,none⟩::rest) Q n F w0 (Ah b T cs::L):=am (Cm h) (Cm (BZ h)) (BZ (BZ h)) hs (Cm h2) (BZ h2) next
theorem Ed (h:(evF F x,evF F y,v.cells)=(some (pP b 0),some v,vs.toArray)) (hs:∀w,(sizeOf ty).run P w=.ok vs.length w) (h2:(vs.all λu=>u.oneCell',vs.length)=(true,cs.length))
    (next:AC P ops rest Q n F w0 (A0::Ah b T vs::L)):AC P ops (⟨none,.store ty x y,t,p,af,none⟩::rest) Q n F w0 (A0::Ah b T cs::L):=bN (Cm h) (Cm (BZ h)) (BZ (BZ h)) hs (Cm h2) (BZ h2) next
theorem Ku (h:(evF F x,evF F y,v.cells)=(some (pP b 0),some v,vs.toArray)) (hs:∀w,(sizeOf ty).run P w=.ok vs.length w) (h2:(vs.all λu=>u.oneCell',vs.length)=(true,cs.length))
    (next:AC P ops rest Q n F w0 (A0::A1::Ah b T vs::L)):AC P ops (⟨none,.store ty x y,t,p,af,none⟩::rest) Q n F w0 (A0::A1::Ah b T cs::L):=aw (Cm h) (Cm (BZ h)) (BZ (BZ h)) hs (Cm h2) (BZ h2) next
theorem N8 (h:(evF F x,evF F y,v.cells)=(some (pP b 0),some v,vs.toArray)) (hs:∀w,(sizeOf ty).run P w=.ok vs.length w) (h2:(vs.all λu=>u.oneCell',vs.length)=(true,cs.length))
    (next:AC P ops rest Q n F w0 (A0::A1::A2::Ah b T vs::L)):AC P ops (⟨none,.store ty x y,t,p,af,none⟩::rest) Q n F w0 (A0::A1::A2::Ah b T cs::L):=a9 (Cm h) (Cm (BZ h)) (BZ (BZ h)) hs (Cm h2) (BZ h2) next
theorem JZ (i:Nat) {v:Value} {cs':List Value} (hw:Wt ops n F ⟨none,.store ty x y,t,p,af,g⟩) (h:(evF F x,evF F y,L[i]?,v.cells)=(some (pP b off),some v,some (Ah b T cs),vs.toArray))
    (hs:∀w,(sizeOf ty).run P w=.ok vs.length w) (h2:(vs.all λu=>u.oneCell',Nat.ble (off+vs.length) cs.length,Hw cs off vs,Nb L i (Ah b T cs'))=(true,true,cs',some L')) (next:AC P ops rest Q n F w0 L'):AC P ops (⟨none,.store ty x y,t,p,af,g⟩::rest) Q n F w0 L :=
  AC.store' hw rfl (Cm h) (Cm (BZ h)) (Cm (BZ (BZ h))) (BZ (BZ (BZ h))) hs (Cm h2) (Cm (BZ h2)) (Cm (BZ (BZ h2))) (GX (BZ (BZ (BZ h2)))) next
end
end
end Go.Proofs.YtpgncndhhhllfaaGreat
