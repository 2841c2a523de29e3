import Derived.Test.YtbfdamnfcmefmaaGreatDoorPend03
import Derived.Test.YtbfdamnfcmefmaaGreatDoorPend04
namespace Go.Proofs.YtbfdamnfcmefmaaGreatDoor
open Go Go.RowKit Go.Proofs.Tryz
open Go.Value renaming slice→qz,bool→qa
set_option linter.unusedVariables false
set_option linter.unusedSimpArgs false
section
theorem I_ {α:Type}:∀{l m:List α},l.Nodup->(∀x∈l,x∈m)->l.length<=m.length
  | [],m,_,_=>by simp
  | a::r,m,h,hs=>by
    obtain ⟨s,t,rfl⟩:=List.append_of_mem (hs a List.mem_cons_self)
    have h':=List.nodup_cons.1 h
    have:=I_ (m:=s++t) h'.2 λx hx=>by
      have h1:=hs x (List.mem_cons_of_mem _ hx)
      simp only [List.mem_append,xN] at h1 ⊢
      rcases h1 with h1|h1|h1
      · exact .inl h1
      · subst h1;exact absurd hx h'.1
      · exact .inr h1
    simp only [xL,List.length_cons] at this ⊢
    omega
theorem H5 {α:Type}:∀{l m:List α},l.Nodup->(∀x∈l,x∈m)->m.length<=l.length->l.Perm m
  | [],m,_,_,hl=>by
    rw [List.eq_nil_of_length_eq_zero (Nat.le_zero.1 hl)]
  | a::r,m,h,hs,hl=>by
    obtain ⟨s,t,rfl⟩:=List.append_of_mem (hs a List.mem_cons_self)
    have h':=List.nodup_cons.1 h
    have:=H5 (m:=s++t) h'.2 (λx hx=>by
      have h1:=hs x (List.mem_cons_of_mem _ hx)
      simp only [List.mem_append,xN] at h1 ⊢
      rcases h1 with h1|h1|h1
      · exact .inl h1
      · subst h1;exact absurd hx h'.1
      · exact .inr h1) (by simp only [xL,List.length_cons] at hl ⊢;omega)
    exact (this.cons a).trans List.perm_middle.symm
theorem If {α:Type} {f:α->Nat}:∀{l:List α},(l.map f).Nodup->l.Nodup
  | [],_=>List.nodup_nil
  | a::r,h=>by
    have h':=List.nodup_cons.1 h
    exact List.nodup_cons.2 ⟨λhm=>h'.1 (List.mem_map_of_mem hm),If h'.2⟩
structure Eg where
  i:Nat
  d:Nat
  T:TypeId
  cs:List Value
def nF (β:Nat->Nat) (N:List Eg):List (Nat×Value):=N.map λx=>(x.d,pP (β x.i) 0)
def nL (β:Nat->Nat) (N:List Eg):List As:=N.map λx=>AY (β x.i) x.T x.cs
def noK (N:List Eg) (F:List (Nat×Value)):Bool:=N.all λx=>(F.lookup x.d).isNone
def HS:List (Nat×Bool)->Option Nat->Option Nat
  | [],p=>p
  | (_,true)::r,p=>HS r p
  | (i,false)::r,_=>HS r (some i)
def Zu (l:List Oper) (e1:List (Nat×Bool)) (N:List Eg) (e2:List (Nat×Bool)):Bool :=
  let E:=N.map (·.i)++e1.map (·.1)
  Dr l [] none e1&&(N.all λx=>Dr l E (some x.i) e2)&&Dr l E (HS e1 none) e2&&NW l (N.map (·.i)) (e1++e2)&&Nat.beq (e1.length+e2.length+N.length) l.length &&
    Region.noSelect l.toArray&&Ld (N.map (·.i))&&Ld (N.map (·.d))&&(e1.all λe=>!(N.map (·.i)).contains e.1)
section
variable {P:Program} {ops:Array Oper} {Q:Exit->Act->World->Prop} {n:Nat} {w0:BD} {Lro L L':List As} {F F':List (Nat×Value)} {l:List Oper} {N:List Eg} {e2:List (Nat×Bool)}
structure Mg (P:Program) (l:List Oper) (n:Nat) (x:Eg):Prop where
  at_:∃ty p af,l[x.i]?=some ⟨some x.d,.alloc x.T,ty,p,af,none⟩/\af.size=0
  z:DF P x.T x.cs
  lt:x.d<n
def PN (Q:Exit->Act->World->Prop) (n:Nat) (w0:BD) (Lro:List As) (N:List Eg) (EF:List (Nat×Value)) (EL:List As) (K:List (Nat×Value)->List As->Prop):Exit->Act->World->Prop
  | .normal,a,w=>∃F' L',Cx n a (F'++EF)/\BH w0 w (L'++EL)/\Lro.Sublist L'/\noK N F'=true/\K F' L'
  | e,a,w=>Q e a w
def Bi (P:Program) (ops:Array Oper) (Q:Exit->Act->World->Prop) (n:Nat) (w0:BD) (Lro:List As) (N:List Eg) (e2:List (Nat×Bool)):List (Nat×Bool)->List (Nat×Value)->List As->Prop
  | [],F,L=>∀β:Nat->Nat,OkE P ops Q n w0 Lro e2 (nF β N++F) (nL β N++L)
  | (i,true)::r,F,L=>∃o d v,ops[i]?=some o/\o.dst=some d/\d<n/\dA P ops n w0 Lro F o v/\noK N ((d,v)::F)=true/\Bi P ops Q n w0 Lro N e2 r ((d,v)::F) L
  | (i,false)::r,F,L=>∃o,ops[i]?=some o/\∀EF EL,AR P ops [o] (PN Q n w0 Lro N EF EL λF' L'=>Bi P ops Q n w0 Lro N e2 r F' L') n (F++EF) w0 (L++EL)
theorem W6 {i:Nat} {o:Oper} {EF:List (Nat×Value)} {EL:List As} {K:List (Nat×Value)->List As->Prop} {K':Act->World->Prop} {a:Act} {w:World} (hi:ops[i]?=some o) (h:wpList P ops (PN Q n w0 Lro N EF EL K) [o] a w)
    (hK:∀F' L' a' w',Cx n a' (F'++EF)->BH w0 w' (L'++EL)->Lro.Sublist L'->noK N F'=true->K F' L'->K' a' w'):wpOp P ops Q i K' a w:=by
  unfold wpOp
  simp only [hi]
  unfold wpList at h
  have go:∀a' w',wpList P ops (PN Q n w0 Lro N EF EL K) [] a' w'->K' a' w':=λa' w' h=>by
    obtain ⟨F',L',h1,h2,h3,h5,h4⟩:=(show PN Q n w0 Lro N EF EL K .normal a' w' from h)
    exact hK F' L' a' w' h1 h2 h3 h5 h4
  split
  · rename_i hw
    rw [if_pos hw] at h
    rcases h with h|h
    · exact .inl (ez go (λ_ _ _ h=>h) (λh=>h) h)
    · exact .inr h
  · rename_i hw
    rw [if_neg hw] at h
    exact go _ _ h
theorem GM {F G:List (Nat×Value)} {k:Nat}:(F++G).lookup k=(F.lookup k).or (G.lookup k):=by
  induction F with
  | nil=>simp
  | cons p r ih =>
    obtain ⟨d,v⟩:=p
    rw [List.cons_append,List.lookup_cons,List.lookup_cons]
    cases h:(k == d)
    · exact ih
    · rfl
theorem Hi {G:List (Nat×Value)} {k:Nat} {v:Value} (h:G.lookup k=some v):(k,v)∈G:=by
  induction G with
  | nil=>cases h
  | cons p r ih =>
    obtain ⟨d,u⟩:=p
    rw [List.lookup_cons] at h
    cases hk:(k == d)
    · rw [hk] at h;exact List.mem_cons_of_mem _ (ih h)
    · rw [hk] at h;injection h with h;subst h
      rw [show k=d by simpa using hk];exact List.mem_cons_self
theorem X9 {a:Act} {G:List (Nat×Value)} (h:Cx n a F) (hg:∀p∈G,a.tmps[p.1]?=some p.2):Cx n a (F++G):=⟨h.1,h.2.1,λk v hk=>by
  rw [GM] at hk
  cases hf:F.lookup k with
  | some u=>rw [hf] at hk;injection hk with hk;subst hk;exact h.2.2 k u hf
  | none=>rw [hf] at hk;exact hg _ (Hi hk)⟩
theorem VF {a:Act} {G:List (Nat×Value)} (h:Cx n a (F++G)):Cx n a F:=⟨h.1,h.2.1,λk v hk=>h.2.2 k v (by rw [GM,hk];rfl)⟩
theorem Lc {x:Eg} (h:noK N F=true) (hx:x∈N):F.lookup x.d=none:=by
  have:=List.all_eq_true.1 h x hx
  simpa using this
theorem BH.perm {w:World} (h:BH w0 w L) (hp:L.Perm L'):BH w0 w L':=⟨h.1,λx hx=>h.2.1 x (hp.mem_iff.2 hx),(hp.pairwise_iff λ{a b} hab=>JT.symm (x:=a) (y:=b) hab).1 h.2.2⟩
theorem Gt:∀(r:List (Nat×Bool)) (p:Option Nat) (q:Nat),HS r p=some q->p=some q\/∃e∈r,e.1=q
  | [],p,q,h=>.inl h
  | (i,true)::r,p,q,h=>(Gt r p q h).imp_right λ⟨e,he,h2⟩=>⟨e,List.mem_cons_of_mem _ he,h2⟩
  | (i,false)::r,p,q,h=>(Gt r (some i) q h).elim (λh2=>.inr ⟨(i,false),List.mem_cons_self,by injection h2⟩) λ⟨e,he,h2⟩=>.inr ⟨e,List.mem_cons_of_mem _ he,h2⟩
theorem GL:∀(r:List (Nat×Bool)) (i:Nat),∃q,HS r (some i)=some q
  | [],i=>⟨i,rfl⟩
  | (_,true)::r,i=>GL r i
  | (j,false)::r,_=>GL r j
structure Zi (P:Program) (l:List Oper) (n:Nat) (w0:BD) (Lro:List As) (N ES:List Eg) (β:Nat->Nat) (D:List Nat) (listed:Array Bool) (a:Act) (w:World) (F:List (Nat×Value)) (L:List As):Prop where
  st:NQ l (ES.map (·.i)++D) listed
  sub:∀x∈ES,x∈N
  nd:ES.Nodup
  frm:Cx n a F
  tm:∀x∈ES,a.tmps[x.d]?=some (pP (β x.i) 0)
  own:BH w0 w (L++nL β ES)
  ro:Lro.Sublist L
  noK:noK N F=true
structure bZ (P:Program) (l:List Oper) (n:Nat) (N:List Eg) (e2:List (Nat×Bool)) (E:List Nat) (p1:Option Nat):Prop where
  ok:∀x∈N,Mg P l n x
  sel:Region.noSelect l.toArray=true
  ni:(N.map (·.i)).Nodup
  nd:(N.map (·.d)).Nodup
  c1:∀x∈N,Dr l E (some x.i) e2=true
  c2:Dr l E p1 e2=true
theorem Hz {α:Type} {f:α->Nat}:∀{l:List α},(l.map f).Nodup->∀x∈l,∀y∈l,f x=f y->x=y
  | [],_,x,hx,_,_,_=>by cases hx
  | a::r,h,x,hx,y,hy,e=>by
    have h':=List.nodup_cons.1 h
    rcases xN.1 hx with h1|h1<;>rcases xN.1 hy with h2|h2
    · rw [h1,h2]
    · exact absurd (List.mem_map_of_mem (f:=f) h2) (by rw [<-e,h1];exact h'.1)
    · exact absurd (List.mem_map_of_mem (f:=f) h1) (by rw [e,h2];exact h'.1)
    · exact Hz h'.2 x h1 y h2 e
theorem Wg {E:List Nat} {p1:Option Nat} (hk:bZ P l n N e2 E p1) {ES:List Eg} {β:Nat->Nat} {D:List Nat} {listed:Array Bool} {a:Act} {w:World} (hI:Zi P l n w0 Lro N ES β D listed a w F L) {x:Eg} (hx:x∈N) (hn:x ∉ ES) (hD:x.i ∉ D) {K:Act->World->Prop}
    (hK:∀β' a' w',Zi P l n w0 Lro N (x::ES) β' D (listed.setIfInBounds x.i true) a' w' F L->K a' w'):wpOp P l.toArray Q x.i K a w:=by
  obtain ⟨⟨ty,p,af,hat,haf⟩,⟨u,hz1,hz2⟩,hlt⟩:=hk.ok x hx
  unfold wpOp
  rw [show l.toArray[x.i]?=some ⟨some x.d,.alloc x.T,ty,p,af,none⟩ by simpa using hat]
  simp only
  have hun:x.i ∉ ES.map (·.i)++D:=λh=>by
    rcases List.mem_append.1 h with h|h
    · obtain ⟨y,hy,e⟩:=List.mem_map.1 h
      exact hn (Hz hk.ni y (hI.sub y hy) x hx e▸hy)
    · exact hD h
  rw [if_pos (AI (n:=n) (F:=F) rfl a hI.frm)]
  left
  unfold Oper.wp
  rw [PL (n:=n) (F:=F) (w0:=⟨w,none⟩) (L:=[]) hz1 hz2 a w hI.frm (BH.start w),Oper.upon_value]
  have hat':l[x.i]?=some ⟨some x.d,.alloc x.T,ty,p,af,none⟩:=hat
  have hsz:x.d<a.tmps.size:=by rw [hI.frm.2.1];exact hlt
  refine hK (λk=>if k=x.i then w.heap.size else β k) _ _ ⟨hI.st.add hat' (λe he=>?_),λy hy=>?_,List.nodup_cons.2 ⟨hn,hI.nd⟩,?_,λy hy=>?_,?_,hI.ro,hI.noK⟩
  · rw [Array.size_eq_zero_iff.1 haf] at he;simp at he
  · rcases xN.1 hy with rfl|hy
    · exact hx
    · exact hI.sub y hy
  · refine ⟨hI.frm.1,by simpa [Act.put] using hI.frm.2.1,λk v hk'=>?_⟩
    have hne:x.d≠k:=λe=>by
      have:=Lc hI.noK hx
      rw [e,hk'] at this;cases this
    simp only [Act.put]
    rw [Array.getElem?_setIfInBounds_ne hne]
    exact hI.frm.2.2 k v hk'
  · rcases xN.1 hy with rfl|hy
    · simp [Act.put,hsz]
    · have hne:y≠x:=λe=>hn (e▸hy)
      have hi:y.i≠x.i:=λe=>hne (Hz hk.ni y (hI.sub y hy) x hx e)
      have hd:x.d≠y.d:=λe=>hne (Hz hk.nd y (hI.sub y hy) x hx e.symm)
      simp only [Act.put,hi,if_false]
      rw [Array.getElem?_setIfInBounds_ne hd]
      exact hI.tm y hy
  · have h1:=hI.own.alloc (.cells x.cs.toArray x.T) (x:=AY w.heap.size x.T x.cs) rfl rfl
    refine h1.perm ?_
    have e:nL (λk=>if k=x.i then w.heap.size else β k) (x::ES)=AY w.heap.size x.T x.cs::nL β ES:=by
      unfold nL
      rw [List.map_cons]
      congr 1
      · simp
      · refine List.map_congr_left λy hy=>?_
        have hi:y.i≠x.i:=λe=>hn (Hz hk.ni y (hI.sub y hy) x hx e▸hy)
        simp [hi]
    rw [e]
    exact List.perm_middle.symm
theorem bH {E:List Nat} {p1:Option Nat} (hk:bZ P l n N e2 E p1) (hQ:∀c a d v w,Q (.panic c) (a.put d v) w->Q (.panic c) a w) :
    ∀(M:Nat) (es:List (Nat×Bool)) (D:List Nat) (p:Option Nat) (ES:List Eg) (β:Nat->Nat) (listed:Array Bool) (a:Act) (w:World) (F:List (Nat×Value)) (L:List As) (m:Nat),
      es.length+m=M->ES.length+m=N.length->Dr l D p es=true->HS es p=p1->(∀x,x∈E↔x∈N.map (·.i)\/x∈D\/es.any (λe=>e.1 == x)=true)->(∀e∈es,e.1 ∉ N.map (·.i))->(∀x∈D,x ∉ N.map (·.i)) ->
      (∀i,i<l.length->i∈N.map (·.i)\/i∈D\/(es++e2).any (λe=>e.1 == i)=true)->Zi P l n w0 Lro N ES β D listed a w F L->Bi P l.toArray Q n w0 Lro N e2 es F L ->
      wpAnyH P .any l.toArray Q (λw=>BH w0 w Lro) (es.length+e2.length+m) listed a w:=by
  intro M
  induction M with
  | zero =>
    intro es D p ES β listed a w F L m hM hm hc hl hE hdis hDis hall hI h
    have h0:es=[]:=List.eq_nil_of_length_eq_zero Z
    have hm0:m=0:=by omega
    subst h0;subst hm0
    have hperm:ES.Perm N:=H5 hI.nd hI.sub Z
    have hst:NQ l E listed:=hI.st.congr λx=>by
      rw [hE,List.mem_append]
      simp only [List.any_nil,Bool.false_eq_true,or_false]
      rw [(hperm.map (λx:Eg=>x.i)).mem_iff]
    have ho:BH w0 w (nL β N++L):=hI.own.perm (List.perm_append_comm.trans ((hperm.map _).append_right _))
    have hf:Cx n a (nF β N++F):=⟨hI.frm.1,hI.frm.2.1,λk v hkv=>by
      rw [GM] at hkv
      cases hg:(nF β N).lookup k with
      | none=>rw [hg] at hkv;exact hI.frm.2.2 k v hkv
      | some u =>
        rw [hg] at hkv;injection hkv with hkv;subst hkv
        obtain ⟨x,hx,e⟩:=List.mem_map.1 (Hi hg)
        injection e with e1 e2
        rw [<-e1,<-e2]
        exact hI.tm x (hperm.mem_iff.2 hx)⟩
    have:=JQ hk.sel hQ e2 E p1 listed a w _ _ hk.c2 hst (λi hi=>by
      rcases hall i hi with h5|h5|h5
      · exact .inl ((hE i).2 (.inl h5))
      · exact .inl ((hE i).2 (.inr (.inl h5)))
      · exact .inr (by simpa using h5)) (Wk.of (hI.ro.trans (List.sublist_append_right _ _))) hf ho (h β)
    simpa using this
  | succ M ih =>
    intro es D p ES β listed a w F L m hM hm hc hl hE hdis hDis hall hI h
    -- an allocation that has not come yet,ahead of all else
    have early:∀x∈N,x ∉ ES->∀(fuel:Nat),es.length+e2.length+m=fuel+1->wpOp P l.toArray Q x.i (λa' w'=>BH w0 w' Lro/\wpAnyH P .any l.toArray Q (λw=>BH w0 w Lro) fuel (listed.setIfInBounds x.i true) a' w') a w:=λx hx hn fuel hf=>by
      have hml:m≠0:=λe=>by
        have hperm:ES.Perm N:=H5 hI.nd hI.sub Z
        exact hn (hperm.mem_iff.2 hx)
      refine Wg hk hI hx hn (λhd=>hDis _ hd (List.mem_map_of_mem (f:=λx:Eg=>x.i) hx)) λβ' a' w' hI'=>⟨hI'.own.weak (hI'.ro.trans (List.sublist_append_left _ _)),?_⟩
      have:=ih es D p (x::ES) β' _ a' w' F L (m-1) Z (by simp only [List.length_cons];omega) hc hl hE hdis hDis hall hI' h
      rw [show es.length+e2.length+(m-1)=fuel by omega] at this
      exact this
    have hnew:∀j,j∈N.map (·.i)->listed.getD j false=false->∃x∈N,x ∉ ES/\x.i=j:=λj hj hu=>by
      obtain ⟨x,hx,rfl⟩:=List.mem_map.1 hj
      refine ⟨x,hx,λhxe=>?_,rfl⟩
      have:=(hI.st.mem x.i).1 (List.mem_append_left _ (List.mem_map_of_mem (f:=λx:Eg=>x.i) hxe))
      rw [hu] at this;cases this
    have hE2:∀e∈e2,listed.getD e.1 false=false:=λe he=>hI.st.no λhd=>by
      refine (Ds hk.c2 e he).1 ((hE _).2 ?_)
      rcases List.mem_append.1 hd with hd|hd
      · obtain ⟨y,hy,e3⟩:=List.mem_map.1 hd
        exact .inl (List.mem_map.2 ⟨y,hI.sub y hy,e3⟩)
      · exact .inr (.inl hd)
    cases es with
    | nil =>
      simp only [List.length_nil,Nat.zero_add] at hM ⊢
      have hex:∃x∈N,x ∉ ES:=Classical.byContradiction λhno=>by
        have hsub:∀x∈N,x∈ES:=λx hx=>Classical.byContradiction λhne=>hno ⟨x,hx,hne⟩
        have:=I_ (If hk.ni) hsub
        omega
      obtain ⟨x0,hx0,hn0⟩:=hex
      have hu0:listed.getD x0.i false=false:=hI.st.no λhd=>by
        rcases List.mem_append.1 hd with hd|hd
        · obtain ⟨y,hy,e3⟩:=List.mem_map.1 hd
          exact hn0 (Hz hk.ni y (hI.sub y hy) x0 hx0 e3▸hy)
        · exact hDis _ hd (List.mem_map_of_mem (f:=λx:Eg=>x.i) hx0)
      have hm1:e2.length+m=(e2.length+m-1)+1:=by omega
      rw [hm1]
      refine ⟨λh0=>?_,λj hj=>?_⟩
      · obtain ⟨⟨ty,pp,af,hat,haf⟩,_,_⟩:=hk.ok x0 hx0
        have hil:x0.i<l.length:=(List.getElem?_eq_some_iff.1 hat).1
        have:x0.i∈Region.ready .any l.toArray listed:=mem_ready.2 ⟨by rw [Cb (by rw [hI.st.size];exact hil)];exact hu0,_,by simpa using hat,λe he=>by rw [Array.size_eq_zero_iff.1 haf] at he;simp at he⟩
        rw [h0] at this;cases this
      · obtain ⟨h0,oj,hoj,_⟩:=mem_ready.1 hj
        have hjl:j<l.length:=by simpa using (Array.getElem?_eq_some_iff.1 hoj).1
        rw [Cb (by rw [hI.st.size];exact hjl)] at h0
        rcases hall j hjl with h1|h1|h1
        · obtain ⟨x,hx,hn,rfl⟩:=hnew j h1 h0
          exact early x hx hn _ (by simp only [List.length_nil];omega)
        · rw [(hI.st.mem j).1 (List.mem_append_right _ h1)] at h0;cases h0
        · obtain ⟨e,he,rfl⟩:=IP (by simpa using h1)
          exact absurd hj (EY hI.st.cl (hk.c1 x0 hx0) hu0 hE2 e he)
    | cons e r =>
      obtain ⟨i,k⟩:=e
      obtain ⟨o,hg⟩:=DG hc
      have hat:l.toArray[i]?=some o:=by simpa using hg.at_
      have hil:i<l.length:=(List.getElem?_eq_some_iff.1 hg.at_).1
      have hiN:i ∉ N.map (·.i):=hdis (i,k) List.mem_cons_self
      have hp:∀e∈o.after,Region.binds .any e=true->listed.getD e.on false=true:=λe he hb=>(hI.st.mem _).1 (List.mem_append_right _ (hg.pre e he hb))
      have hun:listed.getD i false=false:=hI.st.no λhd=>by
        rcases List.mem_append.1 hd with hd|hd
        · obtain ⟨y,hy,e3⟩:=List.mem_map.1 hd
          exact hiN (List.mem_map.2 ⟨y,hI.sub y hy,e3⟩)
        · exact hg.nin hd
      have hrd:i∈Region.ready .any l.toArray listed:=mem_ready.2 ⟨by rw [Cb (by rw [hI.st.size];exact hil)];exact hun,o,hat,hp⟩
      have hst':NQ l (ES.map (·.i)++i::D) (listed.setIfInBounds i true):=(hI.st.add hg.at_ hp).congr λx=>by simp only [xN,List.mem_append];constructor<;>(rintro (h|h|h)<;>simp [h])
      have hE':∀x,x∈E↔x∈N.map (·.i)\/x∈i::D\/r.any (λe=>e.1 == x)=true:=λx=>by
        rw [hE];simp only [List.any_cons,yy,beq_iff_eq,xN]
        constructor
        · rintro (h|h|h|h)
          · exact .inl h
          · exact .inr (.inl (.inr h))
          · exact .inr (.inl (.inl h.symm))
          · exact .inr (.inr h)
        · rintro (h|(h|h)|h)
          · exact .inl h
          · exact .inr (.inr (.inl h.symm))
          · exact .inr (.inl h)
          · exact .inr (.inr (.inr h))
      have hdis':∀e∈r,e.1 ∉ N.map (·.i):=λe he=>hdis e (List.mem_cons_of_mem _ he)
      have hDis':∀x∈i::D,x ∉ N.map (·.i):=λx hx=>(xN.1 hx).elim (λe=>e▸hiN) (hDis x)
      have hall':∀j,j<l.length->j∈N.map (·.i)\/j∈i::D\/(r++e2).any (λe=>e.1 == j)=true:=λj hj=>by
        rcases hall j hj with h1|h1|h1
        · exact .inl h1
        · exact .inr (.inl (List.mem_cons_of_mem _ h1))
        · simp only [List.cons_append,List.any_cons,yy,beq_iff_eq] at h1
          rcases h1 with h1|h1
          · exact .inr (.inl (h1▸List.mem_cons_self))
          · exact .inr (.inr h1)
      have hfu:(( i,k)::r).length+e2.length+m=r.length+e2.length+m+1:=by simp only [List.length_cons];omega
      have hMr:r.length+m=M:=by simp only [List.length_cons] at hM;omega
      cases k with
      | true =>
        obtain ⟨o',d,v,ho',hd,hdn,hy,hnk,hnx⟩:=h
        rw [hat] at ho';injection ho' with ho';subst ho'
        have hyield:YieldsIf P l.toArray (λw=>BH w0 w Lro) o v a:=by
          rcases hy with ⟨h1,h2⟩|⟨h1,h2⟩
          · exact .inl ⟨h1 a hI.frm,λw hW=>h2 a w hI.frm hW⟩
          · exact .inr ⟨h1 a hI.frm,h2⟩
        rw [hfu]
        refine wpAnyH_first hat (Region.noSelect_spec hk.sel) (λc a w=>bP hQ c a o.dst v w) _ listed a w (F0 hI.st hg.at_ (hg.fr O) hp) hrd hyield (hI.own.weak (hI.ro.trans (List.sublist_append_left _ _))) ?_
        refine ih r (i::D) p ES β _ _ w ((d,v)::F) L m hMr hm hg.tl hl hE' hdis' hDis' hall' ⟨hst',hI.sub,hI.nd,by rw [hd];exact hI.frm.put hdn,λx hx=>?_,hI.own,hI.ro,hnk⟩ hnx
        have hne:d≠x.d:=λe=>by
          have:=Lc hnk (hI.sub x hx)
          rw [<-e,List.lookup_cons,show (d == d)=true by simp] at this;cases this
        rw [hd]
        simp only [Act.put]
        rw [Array.getElem?_setIfInBounds_ne hne]
        exact hI.tm x hx
      | false =>
        obtain ⟨o',ho',h⟩:=h
        rw [hat] at ho';injection ho' with ho';subst ho'
        rw [hfu]
        refine ⟨λh0=>absurd hrd (by rw [h0];exact List.not_mem_nil),λj hj=>?_⟩
        obtain ⟨h0,oj,hoj,_⟩:=mem_ready.1 hj
        have hjl:j<l.length:=by simpa using (Array.getElem?_eq_some_iff.1 hoj).1
        rw [Cb (by rw [hI.st.size];exact hjl)] at h0
        have hru:∀e∈r,listed.getD e.1 false=false:=λe he=>hI.st.no λhd=>by
          rcases List.mem_append.1 hd with hd|hd
          · obtain ⟨y,hy,e3⟩:=List.mem_map.1 hd
            exact hdis' e he (List.mem_map.2 ⟨y,hI.sub y hy,e3⟩)
          · exact (Ds hg.tl e he).1 (List.mem_cons_of_mem _ hd)
        rcases hall j hjl with h1|h1|h1
        · obtain ⟨x,hx,hn,rfl⟩:=hnew j h1 h0
          exact early x hx hn _ hfu
        · rw [(hI.st.mem j).1 (List.mem_append_right _ h1)] at h0;cases h0
        · obtain ⟨e,he,rfl⟩:=IP h1
          rcases xN.1 (by simpa using he:e∈(i,false)::(r++e2)) with rfl|he2
          · have hfrm:Cx n a (F++nF β ES):=X9 hI.frm λq hq=>by
              obtain ⟨x,hx,rfl⟩:=List.mem_map.1 hq
              exact hI.tm x hx
            refine W6 hat (h (nF β ES) (nL β ES) a w hfrm hI.own) λF' L' a' w' h1 h2 h3 h5 h4=>⟨h2.weak (h3.trans (List.sublist_append_left _ _)),?_⟩
            refine ih r (i::D) (some i) ES β _ a' w' F' L' m hMr hm hg.tl hl hE' hdis' hDis' hall' ⟨hst',hI.sub,hI.nd,VF h1,λx hx=>?_,h2,h3,h5⟩ h4
            refine h1.2.2 x.d _ ?_
            rw [GM,Lc h5 (hI.sub x hx)]
            show (nF β ES).lookup x.d=some (pP (β x.i) 0)
            have hnd:∀(ES:List Eg),(∀y∈ES,y∈N)->x∈ES->(nF β ES).lookup x.d=some (pP (β x.i) 0):=by
              intro ES
              induction ES with
              | nil=>intro _ hx;cases hx
              | cons y t ih2 =>
                intro hs hx
                unfold nF
                rw [List.map_cons,List.lookup_cons]
                by_cases e:x.d=y.d
                · have:x=y:=Hz hk.nd x (hs x hx) y (hs y List.mem_cons_self) e
                  subst this;simp
                · rw [show (x.d == y.d)=false by simpa using e]
                  exact ih2 (λz hz=>hs z (List.mem_cons_of_mem _ hz)) ((xN.1 hx).resolve_left λe2=>e (by rw [e2]))
            exact hnd ES hI.sub hx
          · rcases List.mem_append.1 he2 with he2|he2
            · exact absurd hj (EY hI.st.cl hg.tl hun hru e he2)
            · exfalso
              obtain ⟨q,hq⟩:=GL r i
              have hq1:p1=some q:=by rw [<-hl];exact hq
              have hqu:listed.getD q false=false:=by
                rcases Gt r (some i) q hq with h6|⟨e6,he6,rfl⟩
                · injection h6 with h6;rw [<-h6];exact hun
                · exact hru e6 he6
              have hc2:=hk.c2
              rw [hq1] at hc2
              exact EY hI.st.cl hc2 hqu hE2 e he2 hj
theorem OkC.chainN {id:Nat} (e1:List (Nat×Bool)) (N:List Eg) (e2:List (Nat×Bool)) (hro:Lro.Sublist L) (hm:P.follows .mixedOrders=true) (hc:Zu l e1 N e2=true) (hN:∀x∈N,Mg P l n x) (hk0:noK N F=true) (hQ:∀c a d v w,Q (.panic c) (a.put d v) w->Q (.panic c) a w)
    (h:Bi P l.toArray Q n w0 Lro N e2 e1 F L):OkC P (.region id l.toArray true) Q n F w0 L:=by
  simp only [Zu,yz] at hc
  obtain ⟨⟨⟨⟨⟨⟨⟨⟨h1,h2⟩,h3⟩,h4⟩,h5⟩,h6⟩,h7⟩,h8⟩,h9⟩:=hc
  have hlen:=Nat.eq_of_beq_eq_true h5
  have hdis:∀e∈e1,e.1 ∉ N.map (·.i):=λe he=>by
    have:=List.all_eq_true.1 h9 e he
    simpa using this
  refine Pm (Lro:=Lro) hm (k:=e1.length+e2.length+N.length) hlen λa w ha hw=>?_
  refine bH ⟨hN,h6,Gv h7,Gv h8,λx hx=>List.all_eq_true.1 h2 x hx,h3⟩ hQ (e1.length+N.length) e1 [] none [] (λ_=>0) _ a w F L N.length O jX h1 O (λx=>?_) hdis jX (λi hi=>?_) ⟨HV,by simp,List.nodup_nil,ha,by simp,by simpa [nL] using hw,hro,hk0⟩ h
  · rw [List.mem_append]
    refine or_congr Iff.rfl ⟨λhx=>.inr ?_,λhx=>?_⟩
    · obtain ⟨e,he,rfl⟩:=List.mem_map.1 hx
      exact List.any_eq_true.2 ⟨e,he,by simp⟩
    · rcases hx with hx|hx
      · cases hx
      · obtain ⟨e,he,rfl⟩:=IP hx
        exact List.mem_map_of_mem he
  · have:=List.all_eq_true.1 h4 i (List.mem_range.2 hi)
    rw [yy] at this
    rcases this with h|h
    · exact .inl (by simpa using h)
    · exact .inr (.inr h)
theorem Hg:∀x∈([]:List Eg),Mg P l n x:=λx hx=>by cases hx
theorem FL {i d T:Nat} {cs:List Value} {ty:TypeId} {p:String} {af:Array Edge} (h:l[i]?=some ⟨some d,.alloc T,ty,p,af,none⟩) (ha:af.size=0) (hz:DF P T cs) (hd:Nat.ble (d+1) n=true) (t:∀x∈N,Mg P l n x):∀x∈(⟨i,d,T,cs⟩::N:List Eg),Mg P l n x:=λx hx=>by
  rcases xN.1 hx with rfl|hx
  · exact ⟨⟨ty,p,af,h,ha⟩,hz,Nat.le_of_ble_eq_true hd⟩
  · exact t x hx
variable {r:List (Nat×Bool)} {i d:Nat} {o:Oper} {v:Value} {EF:List (Nat×Value)} {EL:List As}
theorem Bi.pas (ho:ops[i]?=some o) (hw:Wt ops n F o) (he:Ex P n F w0 Lro o v) (hd:o.dst=some d) (hn:Nat.ble (d+1) n=true) (hk:noK N ((d,v)::F)=true) (next:Bi P ops Q n w0 Lro N e2 r ((d,v)::F) L):Bi P ops Q n w0 Lro N e2 ((i,true)::r) F L:=⟨o,d,v,ho,hd,Nat.le_of_ble_eq_true hn,.inl ⟨hw,he⟩,hk,next⟩
theorem zj (ho:ops[i]?=some o) (h:∀EF EL,AR P ops [o] (PN Q n w0 Lro N EF EL λF' L'=>Bi P ops Q n w0 Lro N e2 r F' L') n (F++EF) w0 (L++EL)):Bi P ops Q n w0 Lro N e2 ((i,false)::r) F L:=⟨o,ho,h⟩
theorem yx (hro:Lro.Sublist L') (hk:noK N F'=true) (h:Bi P ops Q n w0 Lro N e2 r F' L'):AR P ops [] (PN Q n w0 Lro N EF EL λF' L'=>Bi P ops Q n w0 Lro N e2 r F' L') n (F'++EF) w0 (L'++EL):=AR.nil λa w ha hw=>⟨F',L',ha,hw,hro,hk,h⟩
variable {x1 x2 x3 x4 x5 x6 x7:As}
theorem zf (hro:Lro.Sublist L) (hk:noK N ((d,v)::F)=true) (h:Bi P ops Q n w0 Lro N e2 r ((d,v)::F) L):AR P ops [] (PN Q n w0 Lro N EF EL λF' L'=>Bi P ops Q n w0 Lro N e2 r F' L') n ((d,v)::(F++EF)) w0 (L++EL):=yx hro hk h
theorem yw (hro:Lro.Sublist (x1::L)) (hk:noK N ((d,v)::F)=true) (h:Bi P ops Q n w0 Lro N e2 r ((d,v)::F) (x1::L)):AR P ops [] (PN Q n w0 Lro N EF EL λF' L'=>Bi P ops Q n w0 Lro N e2 r F' L') n ((d,v)::(F++EF)) w0 (x1::(L++EL)):=yx hro hk h
variable {i1 d1 T1 i2 d2 T2 i3 d3 T3 i4 d4 T4 i5 d5 T5 i6 d6 T6:Nat} {c1 c2 c3 c4 c5 c6:List Value}
theorem yJ (h:∀b1,OkE P ops Q n w0 Lro e2 ((d1,pP b1 0)::F) (AY b1 T1 c1::L)):Bi P ops Q n w0 Lro [⟨i1,d1,T1,c1⟩] e2 [] F L:=λβ=>h (β i1)
theorem yW (h:∀b1 b2,OkE P ops Q n w0 Lro e2 ((d1,pP b1 0)::(d2,pP b2 0)::F) (AY b1 T1 c1::AY b2 T2 c2::L)):Bi P ops Q n w0 Lro [⟨i1,d1,T1,c1⟩,⟨i2,d2,T2,c2⟩] e2 [] F L:=λβ=>h (β i1) (β i2)
theorem Bi.news3 (h:∀b1 b2 b3,OkE P ops Q n w0 Lro e2 ((d1,pP b1 0)::(d2,pP b2 0)::(d3,pP b3 0)::F) (AY b1 T1 c1::AY b2 T2 c2::AY b3 T3 c3::L)):Bi P ops Q n w0 Lro [⟨i1,d1,T1,c1⟩,⟨i2,d2,T2,c2⟩,⟨i3,d3,T3,c3⟩] e2 [] F L:=λβ=>h (β i1) (β i2) (β i3)
theorem rN {id:Nat} (e1:List (Nat×Bool)) (N:List Eg) (e2:List (Nat×Bool)) (hro:Lro.Sublist L) (hc:Zu l e1 N e2=true) (hQ:∀c a d v w,Q (.panic c) (a.put d v) w->Q (.panic c) a w) (hN:∀x∈N,Mg prog l n x) (hk0:noK N F=true) (h:Bi prog l.toArray Q n w0 Lro N e2 e1 F L):OkC prog (.region id l.toArray true) Q n F w0 L:=OkC.chainN e1 N e2 hro EP hc hN hk0 hQ h
end
section
variable {P:Program} {ops:Array Oper} {Q:Exit->Act->World->Prop} {n d i k s b off:Nat} {F F':List (Nat×Value)} {w0:BD} {Lro L L':List As} {op:Op} {t ty T:TypeId} {p:String} {af:Array Edge} {u v:Value} {x y:Operand} {r e2:List (Nat×Bool)} {cs vs:List Value} {o:Oper} {l:List Oper} {id:Nat}
theorem rG (es:List (Nat×Bool)) (hro:Lro.Sublist L) (hc:Xg l es=true) (hQ:∀c a d v w,Q (.panic c) (a.put d v) w->Q (.panic c) a w) (h:OkE prog l.toArray Q n w0 Lro es F L):OkC prog (.region id l.toArray true) Q n F w0 L:=OkC.chainE es hro EP hc hQ h
theorem pE (ho:ops[i]?=some ⟨some d,op,t,p,af,none⟩) (he:Ex P n F w0 Lro ⟨some d,op,t,p,af,none⟩ v) (hn:Nat.ble (d+1) n=true) (next:OkE P ops Q n w0 Lro r ((d,v)::F) L):OkE P ops Q n w0 Lro ((i,true)::r) F L:=zW ho (AI rfl) he rfl hn next
theorem pM (ho:ops[i]?=some ⟨some d,.move x,t,p,af,none⟩) (hx:evF F x=some v) (hn:Nat.ble (d+1) n=true) (next:OkE P ops Q n w0 Lro r ((d,v)::F) L):OkE P ops Q n w0 Lro ((i,true)::r) F L:=pE ho (Cn hx) hn next
theorem pS (ho:ops[i]?=some ⟨some d,.assign x,t,p,af,none⟩) (hx:evF F x=some v) (hn:Nat.ble (d+1) n=true) (next:OkE P ops Q n w0 Lro r ((d,v)::F) L):OkE P ops Q n w0 Lro ((i,true)::r) F L:=pE ho (Mz hx) hn next
theorem pW (j:Nat) (ht:Dd P ty k) (ho:ops[i]?=some ⟨some d,.load ty x,t,p,af,none⟩) (hx:evF F x=some (pP b 0)) (hi:Lro[j]?=some (AY b T cs)) (hl:cs.length=k) (hn:Nat.ble (d+1) n=true) (next:OkE P ops Q n w0 Lro r ((d,aG cs)::F) L):OkE P ops Q n w0 Lro ((i,true)::r) F L :=
  pE ho (Ad hx hi ht.a ht.s (Lw hl) hl) hn next
theorem pA (j:Nat) (vs:List Value) (ht:Dd P ty k) (ho:ops[i]?=some ⟨some d,.load ty x,t,p,af,none⟩) (hx:evF F x=some (pP b off)) (hi:Lro[j]?=some (AY b T cs)) (hv:(cs.drop off).take k=vs) (hl:vs.length=k) (hn:Nat.ble (d+1) n=true) (next:OkE P ops Q n w0 Lro r ((d,aG vs)::F) L):OkE P ops Q n w0 Lro ((i,true)::r) F L :=
  pE ho (Ad hx hi ht.a ht.s hv hl) hn next
theorem fU (j:Nat) (v:Value) (ht:Fu P ty) (ho:ops[i]?=some ⟨some d,.load ty x,t,p,af,none⟩) (hx:evF F x=some (pP b off)) (hi:Lro[j]?=some (AY b T cs)) (hv:cs[off]?=some v) (hn:Nat.ble (d+1) n=true) (next:OkE P ops Q n w0 Lro r ((d,v)::F) L):OkE P ops Q n w0 Lro ((i,true)::r) F L :=
  pE ho (AH hx hi ht.a hv) hn next
variable {N:List Eg}
theorem uE (ho:ops[i]?=some ⟨some d,op,t,p,af,none⟩) (he:Ex P n F w0 Lro ⟨some d,op,t,p,af,none⟩ v) (hn:Nat.ble (d+1) n=true) (hk:noK N ((d,v)::F)=true) (next:Bi P ops Q n w0 Lro N e2 r ((d,v)::F) L):Bi P ops Q n w0 Lro N e2 ((i,true)::r) F L:=Bi.pas ho (AI rfl) he rfl hn hk next
theorem uM (ho:ops[i]?=some ⟨some d,.move x,t,p,af,none⟩) (hx:evF F x=some v) (hn:Nat.ble (d+1) n=true) (hk:noK N ((d,v)::F)=true) (next:Bi P ops Q n w0 Lro N e2 r ((d,v)::F) L):Bi P ops Q n w0 Lro N e2 ((i,true)::r) F L:=uE ho (Cn hx) hn hk next
theorem uW (j:Nat) (ht:Dd P ty k) (ho:ops[i]?=some ⟨some d,.load ty x,t,p,af,none⟩) (hx:evF F x=some (pP b 0)) (hi:Lro[j]?=some (AY b T cs)) (hl:cs.length=k) (hn:Nat.ble (d+1) n=true) (hk:noK N ((d,aG cs)::F)=true) (next:Bi P ops Q n w0 Lro N e2 r ((d,aG cs)::F) L):Bi P ops Q n w0 Lro N e2 ((i,true)::r) F L :=
  uE ho (Ad hx hi ht.a ht.s (Lw hl) hl) hn hk next
theorem uA (j:Nat) (vs:List Value) (ht:Dd P ty k) (ho:ops[i]?=some ⟨some d,.load ty x,t,p,af,none⟩) (hx:evF F x=some (pP b off)) (hi:Lro[j]?=some (AY b T cs)) (hv:(cs.drop off).take k=vs) (hl:vs.length=k) (hn:Nat.ble (d+1) n=true) (hk:noK N ((d,aG vs)::F)=true) (next:Bi P ops Q n w0 Lro N e2 r ((d,aG vs)::F) L):Bi P ops Q n w0 Lro N e2 ((i,true)::r) F L :=
  uE ho (Ad hx hi ht.a ht.s hv hl) hn hk next
theorem fe (j:Nat) (v:Value) (ht:Fu P ty) (ho:ops[i]?=some ⟨some d,.load ty x,t,p,af,none⟩) (hx:evF F x=some (pP b off)) (hi:Lro[j]?=some (AY b T cs)) (hv:cs[off]?=some v) (hn:Nat.ble (d+1) n=true) (hk:noK N ((d,v)::F)=true) (next:Bi P ops Q n w0 Lro N e2 r ((d,v)::F) L):Bi P ops Q n w0 Lro N e2 ((i,true)::r) F L :=
  uE ho (AH hx hi ht.a hv) hn hk next
end
section
variable {P:Program} {ops:Array Oper} {Q:Exit->Act->World->Prop} {n d i k s b off:Nat} {F F':List (Nat×Value)} {w0:BD} {Lro L L':List As} {op:Op} {t ty T:TypeId} {p:String} {af:Array Edge} {u v:Value} {x y:Operand} {r e2:List (Nat×Bool)} {cs vs:List Value} {o:Oper} {l:List Oper} {id:Nat}
abbrev El (n:Nat):List (Nat×Bool):=(List.range n).map λk=>(k,true)
theorem C8 (es:List (Nat×Bool)) (hro:Lro.Sublist L) (h:OkE prog l.toArray Q n w0 Lro es F L) (hc:Xg l es=true:=by kernel_rfl) (hQ:∀c a d v w,Q (.panic c) (a.put d v) w->Q (.panic c) a w:=by intro _ _ d _ _ h;cases d<;>exact h):OkC prog (.region id l.toArray true) Q n F w0 L:=rG es hro hc hQ h
theorem Al (h:(ops[i]?,Nat.ble (d+1) n)=(some ⟨some d,op,t,p,af,none⟩,true)) (he:Ex P n F w0 Lro ⟨some d,op,t,p,af,none⟩ v) (next:OkE P ops Q n w0 Lro r ((d,v)::F) L):OkE P ops Q n w0 Lro ((i,true)::r) F L:=pE (CV h) he (BN h) next
theorem Bp (h:(ops[i]?,evF F x,Nat.ble (d+1) n)=(some ⟨some d,.move x,t,p,af,none⟩,some v,true)) (next:OkE P ops Q n w0 Lro r ((d,v)::F) L):OkE P ops Q n w0 Lro ((i,true)::r) F L:=pM (CV h) (CV (BN h)) (BN (BN h)) next
theorem pS' (h:(ops[i]?,evF F x,Nat.ble (d+1) n)=(some ⟨some d,.assign x,t,p,af,none⟩,some v,true)) (next:OkE P ops Q n w0 Lro r ((d,v)::F) L):OkE P ops Q n w0 Lro ((i,true)::r) F L:=pS (CV h) (CV (BN h)) (BN (BN h)) next
theorem Ej (j:Nat) (ht:Dd P ty k) (h:(ops[i]?,evF F x,Lro[j]?,cs.length,Nat.ble (d+1) n)=(some ⟨some d,.load ty x,t,p,af,none⟩,some (pP b 0),some (AY b T cs),k,true)) (next:OkE P ops Q n w0 Lro r ((d,aG cs)::F) L):OkE P ops Q n w0 Lro ((i,true)::r) F L :=
  pW j ht (CV h) (CV (BN h)) (CV (BN (BN h))) (CV (BN (BN (BN h)))) (BN (BN (BN (BN h)))) next
theorem IK (j:Nat) (vs:List Value) (ht:Dd P ty k) (h:(ops[i]?,evF F x,Lro[j]?,(cs.drop off).take k,vs.length,Nat.ble (d+1) n)=(some ⟨some d,.load ty x,t,p,af,none⟩,some (pP b off),some (AY b T cs),vs,k,true)) (next:OkE P ops Q n w0 Lro r ((d,aG vs)::F) L):OkE P ops Q n w0 Lro ((i,true)::r) F L :=
  pA j vs ht (CV h) (CV (BN h)) (CV (BN (BN h))) (CV (BN (BN (BN h)))) (CV (BN (BN (BN (BN h))))) (BN (BN (BN (BN (BN h))))) next
theorem BQ (j:Nat) (v:Value) (ht:Fu P ty) (h:(ops[i]?,evF F x,Lro[j]?,cs[off]?,Nat.ble (d+1) n)=(some ⟨some d,.load ty x,t,p,af,none⟩,some (pP b off),some (AY b T cs),some v,true)) (next:OkE P ops Q n w0 Lro r ((d,v)::F) L):OkE P ops Q n w0 Lro ((i,true)::r) F L :=
  fU j v ht (CV h) (CV (BN h)) (CV (BN (BN h))) (CV (BN (BN (BN h)))) (BN (BN (BN (BN h)))) next
variable {N:List Eg}
theorem F9 (h:(ops[i]?,Nat.ble (d+1) n)=(some ⟨some d,op,t,p,af,none⟩,true)) (he:Ex P n F w0 Lro ⟨some d,op,t,p,af,none⟩ v) (hk:noK N ((d,v)::F)=true) (next:Bi P ops Q n w0 Lro N e2 r ((d,v)::F) L):Bi P ops Q n w0 Lro N e2 ((i,true)::r) F L:=uE (CV h) he (BN h) hk next
theorem Q0 (h:(ops[i]?,evF F x,Nat.ble (d+1) n,noK N ((d,v)::F))=(some ⟨some d,.move x,t,p,af,none⟩,some v,true,true)) (next:Bi P ops Q n w0 Lro N e2 r ((d,v)::F) L):Bi P ops Q n w0 Lro N e2 ((i,true)::r) F L:=uM (CV h) (CV (BN h)) (CV (BN (BN h))) (BN (BN (BN h))) next
theorem Ee (j:Nat) (ht:Dd P ty k) (h:(ops[i]?,evF F x,Lro[j]?,cs.length,Nat.ble (d+1) n,noK N ((d,aG cs)::F))=(some ⟨some d,.load ty x,t,p,af,none⟩,some (pP b 0),some (AY b T cs),k,true,true)) (next:Bi P ops Q n w0 Lro N e2 r ((d,aG cs)::F) L):Bi P ops Q n w0 Lro N e2 ((i,true)::r) F L :=
  uW j ht (CV h) (CV (BN h)) (CV (BN (BN h))) (CV (BN (BN (BN h)))) (CV (BN (BN (BN (BN h))))) (BN (BN (BN (BN (BN h))))) next
theorem Wy (j:Nat) (vs:List Value) (ht:Dd P ty k) (h:(ops[i]?,evF F x,Lro[j]?,(cs.drop off).take k,vs.length,Nat.ble (d+1) n,noK N ((d,aG vs)::F))=(some ⟨some d,.load ty x,t,p,af,none⟩,some (pP b off),some (AY b T cs),vs,k,true,true)) (next:Bi P ops Q n w0 Lro N e2 r ((d,aG vs)::F) L):Bi P ops Q n w0 Lro N e2 ((i,true)::r) F L :=
  uA j vs ht (CV h) (CV (BN h)) (CV (BN (BN h))) (CV (BN (BN (BN h)))) (CV (BN (BN (BN (BN h))))) (CV (BN (BN (BN (BN (BN h)))))) (BN (BN (BN (BN (BN (BN h)))))) next
theorem TT (j:Nat) (v:Value) (ht:Fu P ty) (h:(ops[i]?,evF F x,Lro[j]?,cs[off]?,Nat.ble (d+1) n,noK N ((d,v)::F))=(some ⟨some d,.load ty x,t,p,af,none⟩,some (pP b off),some (AY b T cs),some v,true,true)) (next:Bi P ops Q n w0 Lro N e2 r ((d,v)::F) L):Bi P ops Q n w0 Lro N e2 ((i,true)::r) F L :=
  fe j v ht (CV h) (CV (BN h)) (CV (BN (BN h))) (CV (BN (BN (BN h)))) (CV (BN (BN (BN (BN h))))) (BN (BN (BN (BN (BN h))))) next
end
end
end Go.Proofs.YtbfdamnfcmefmaaGreatDoor
