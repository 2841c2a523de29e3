import Derived.Laws.StructEq
import Derived.Test.YtpolhpjiahbidaaGreatDoorPrt01
import Derived.Test.YtpolhpjiahbidaaGreatDoorPrt02
namespace Go.Proofs.YtpolhpjiahbidaaGreatDoor
open Go Go.RowKit Go.Proofs.Tryz
open Go.Value renaming slice→qz,bool→qa
set_option linter.unusedVariables false
set_option linter.unusedSimpArgs false
section
theorem M_ {α:Type}:∀{l m:List α},l.Nodup->(∀x∈l,x∈m)->l.length<=m.length
  | [],m,_,_=>by simp
  | a::r,m,h,hs=>by
    obtain ⟨s,t,rfl⟩:=List.append_of_mem (hs a List.mem_cons_self)
    have h':=List.nodup_cons.1 h
    have:=M_ (m:=s++t) h'.2 λx hx=>by
      have h1:=hs x (List.mem_cons_of_mem _ hx)
      simp only [List.mem_append,xy] at h1 ⊢
      rcases h1 with h1|h1|h1
      · exact .inl h1
      · subst h1;exact absurd hx h'.1
      · exact .inr h1
    simp only [xw,List.length_cons] at this ⊢
    omega
theorem IE {α:Type}:∀{l m:List α},l.Nodup->(∀x∈l,x∈m)->m.length<=l.length->l.Perm m
  | [],m,_,_,hl=>by
    rw [List.eq_nil_of_length_eq_zero (Nat.le_zero.1 hl)]
  | a::r,m,h,hs,hl=>by
    obtain ⟨s,t,rfl⟩:=List.append_of_mem (hs a List.mem_cons_self)
    have h':=List.nodup_cons.1 h
    have:=IE (m:=s++t) h'.2 (λx hx=>by
      have h1:=hs x (List.mem_cons_of_mem _ hx)
      simp only [List.mem_append,xy] at h1 ⊢
      rcases h1 with h1|h1|h1
      · exact .inl h1
      · subst h1;exact absurd hx h'.1
      · exact .inr h1) (by simp only [xw,List.length_cons] at hl ⊢;omega)
    exact (this.cons a).trans List.perm_middle.symm
theorem Ik {α:Type} {f:α->Nat}:∀{l:List α},(l.map f).Nodup->l.Nodup
  | [],_=>List.nodup_nil
  | a::r,h=>by
    have h':=List.nodup_cons.1 h
    exact List.nodup_cons.2 ⟨λhm=>h'.1 (List.mem_map_of_mem hm),Ik h'.2⟩
structure E3 where
  i:Nat
  d:Nat
  T:TypeId
  cs:List Value
def nF (β:Nat->Nat) (N:List E3):List (Nat×Value):=N.map λx=>(x.d,pP (β x.i) 0)
def nL (β:Nat->Nat) (N:List E3):List As:=N.map λx=>AU (β x.i) x.T x.cs
def noK (N:List E3) (F:List (Nat×Value)):Bool:=N.all λx=>(F.lookup x.d).isNone
def Hf:List (Nat×Bool)->Option Nat->Option Nat
  | [],p=>p
  | (_,true)::r,p=>Hf r p
  | (i,false)::r,_=>Hf r (some i)
def ay (l:List Oper) (e1:List (Nat×Bool)) (N:List E3) (e2:List (Nat×Bool)):Bool :=
  let E:=N.map (·.i)++e1.map (·.1)
  EB l [] none e1&&(N.all λx=>EB l E (some x.i) e2)&&EB l E (Hf e1 none) e2&&Ng l (N.map (·.i)) (e1++e2)&&Nat.beq (e1.length+e2.length+N.length) l.length &&
    Region.noSelect l.toArray&&La (N.map (·.i))&&La (N.map (·.d))&&(e1.all λe=>!(N.map (·.i)).contains e.1)
section
variable {P:Program} {ops:Array Oper} {Q:Exit->Act->World->Prop} {n:Nat} {w0:BA} {Lro L L':List As} {F F':List (Nat×Value)} {l:List Oper} {N:List E3} {e2:List (Nat×Bool)}
structure Mg (P:Program) (l:List Oper) (n:Nat) (x:E3):Prop where
  at_:∃ty p af,l[x.i]?=some ⟨some x.d,.alloc x.T,ty,p,af,none⟩/\af.size=0
  z:DU P x.T x.cs
  lt:x.d<n
def PN (Q:Exit->Act->World->Prop) (n:Nat) (w0:BA) (Lro:List As) (N:List E3) (EF:List (Nat×Value)) (EL:List As) (K:List (Nat×Value)->List As->Prop):Exit->Act->World->Prop
  | .normal,a,w=>∃F' L',C8 n a (F'++EF)/\BE w0 w (L'++EL)/\Lro.Sublist L'/\noK N F'=true/\K F' L'
  | e,a,w=>Q e a w
def BP (P:Program) (ops:Array Oper) (Q:Exit->Act->World->Prop) (n:Nat) (w0:BA) (Lro:List As) (N:List E3) (e2:List (Nat×Bool)):List (Nat×Bool)->List (Nat×Value)->List As->Prop
  | [],F,L=>∀β:Nat->Nat,OkE P ops Q n w0 Lro e2 (nF β N++F) (nL β N++L)
  | (i,true)::r,F,L=>∃o d v,ops[i]?=some o/\o.dst=some d/\d<n/\dO P ops n w0 Lro F o v/\noK N ((d,v)::F)=true/\BP P ops Q n w0 Lro N e2 r ((d,v)::F) L
  | (i,false)::r,F,L=>∃o,ops[i]?=some o/\∀EF EL,AQ P ops [o] (PN Q n w0 Lro N EF EL λF' L'=>BP P ops Q n w0 Lro N e2 r F' L') n (F++EF) w0 (L++EL)
theorem X4 {i:Nat} {o:Oper} {EF:List (Nat×Value)} {EL:List As} {K:List (Nat×Value)->List As->Prop} {K':Act->World->Prop} {a:Act} {w:World} (hi:ops[i]?=some o) (h:wpList P ops (PN Q n w0 Lro N EF EL K) [o] a w)
    (hK:∀F' L' a' w',C8 n a' (F'++EF)->BE w0 w' (L'++EL)->Lro.Sublist L'->noK N F'=true->K F' L'->K' a' w'):wpOp P ops Q i K' a w:=by
  unfold wpOp
  simp only [hi]
  unfold wpList at h
  have go:∀a' w',wpList P ops (PN Q n w0 Lro N EF EL K) [] a' w'->K' a' w':=λa' w' h=>by
    obtain ⟨F',L',h1,h2,h3,h5,h4⟩:=(show PN Q n w0 Lro N EF EL K .normal a' w' from h)
    exact hK F' L' a' w' h1 h2 h3 h5 h4
  split
  · rename_i hw
    rw [if_pos hw] at h
    rcases h with h|h
    · exact .inl (gi go (λ_ _ _ h=>h) (λh=>h) h)
    · exact .inr h
  · rename_i hw
    rw [if_neg hw] at h
    exact go _ _ h
theorem Gf {F G:List (Nat×Value)} {k:Nat}:(F++G).lookup k=(F.lookup k).or (G.lookup k):=by
  induction F with
  | nil=>simp
  | cons p r ih =>
    obtain ⟨d,v⟩:=p
    rw [List.cons_append,List.lookup_cons,List.lookup_cons]
    cases h:(k == d)
    · exact ih
    · rfl
theorem H1 {G:List (Nat×Value)} {k:Nat} {v:Value} (h:G.lookup k=some v):(k,v)∈G:=by
  induction G with
  | nil=>cases h
  | cons p r ih =>
    obtain ⟨d,u⟩:=p
    rw [List.lookup_cons] at h
    cases hk:(k == d)
    · rw [hk] at h;exact List.mem_cons_of_mem _ (ih h)
    · rw [hk] at h;injection h with h;subst h
      rw [show k=d by simpa using hk];exact List.mem_cons_self
theorem Yr {a:Act} {G:List (Nat×Value)} (h:C8 n a F) (hg:∀p∈G,a.tmps[p.1]?=some p.2):C8 n a (F++G):=⟨h.1,h.2.1,λk v hk=>by
  rw [Gf] at hk
  cases hf:F.lookup k with
  | some u=>rw [hf] at hk;injection hk with hk;subst hk;exact h.2.2 k u hf
  | none=>rw [hf] at hk;exact hg _ (H1 hk)⟩
theorem V3 {a:Act} {G:List (Nat×Value)} (h:C8 n a (F++G)):C8 n a F:=⟨h.1,h.2.1,λk v hk=>h.2.2 k v (by rw [Gf,hk];rfl)⟩
theorem LZ {x:E3} (h:noK N F=true) (hx:x∈N):F.lookup x.d=none:=by
  have:=List.all_eq_true.1 h x hx
  simpa using this
theorem BE.perm {w:World} (h:BE w0 w L) (hp:L.Perm L'):BE w0 w L':=⟨h.1,λx hx=>h.2.1 x (hp.mem_iff.2 hx),(hp.pairwise_iff λ{a b} hab=>Jd.symm (x:=a) (y:=b) hab).1 h.2.2⟩
theorem G_:∀(r:List (Nat×Bool)) (p:Option Nat) (q:Nat),Hf r p=some q->p=some q\/∃e∈r,e.1=q
  | [],p,q,h=>.inl h
  | (i,true)::r,p,q,h=>(G_ r p q h).imp_right λ⟨e,he,h2⟩=>⟨e,List.mem_cons_of_mem _ he,h2⟩
  | (i,false)::r,p,q,h=>(G_ r (some i) q h).elim (λh2=>.inr ⟨(i,false),List.mem_cons_self,by injection h2⟩) λ⟨e,he,h2⟩=>.inr ⟨e,List.mem_cons_of_mem _ he,h2⟩
theorem Ge:∀(r:List (Nat×Bool)) (i:Nat),∃q,Hf r (some i)=some q
  | [],i=>⟨i,rfl⟩
  | (_,true)::r,i=>Ge r i
  | (j,false)::r,_=>Ge r j
structure ak (P:Program) (l:List Oper) (n:Nat) (w0:BA) (Lro:List As) (N ES:List E3) (β:Nat->Nat) (D:List Nat) (listed:Array Bool) (a:Act) (w:World) (F:List (Nat×Value)) (L:List As):Prop where
  st:NZ l (ES.map (·.i)++D) listed
  sub:∀x∈ES,x∈N
  nd:ES.Nodup
  frm:C8 n a F
  tm:∀x∈ES,a.tmps[x.d]?=some (pP (β x.i) 0)
  own:BE w0 w (L++nL β ES)
  ro:Lro.Sublist L
  noK:noK N F=true
structure dL (P:Program) (l:List Oper) (n:Nat) (N:List E3) (e2:List (Nat×Bool)) (E:List Nat) (p1:Option Nat):Prop where
  ok:∀x∈N,Mg P l n x
  sel:Region.noSelect l.toArray=true
  ni:(N.map (·.i)).Nodup
  nd:(N.map (·.d)).Nodup
  c1:∀x∈N,EB l E (some x.i) e2=true
  c2:EB l E p1 e2=true
theorem IC {α:Type} {f:α->Nat}:∀{l:List α},(l.map f).Nodup->∀x∈l,∀y∈l,f x=f y->x=y
  | [],_,x,hx,_,_,_=>by cases hx
  | a::r,h,x,hx,y,hy,e=>by
    have h':=List.nodup_cons.1 h
    rcases xy.1 hx with h1|h1<;>rcases xy.1 hy with h2|h2
    · rw [h1,h2]
    · exact absurd (List.mem_map_of_mem (f:=f) h2) (by rw [<-e,h1];exact h'.1)
    · exact absurd (List.mem_map_of_mem (f:=f) h1) (by rw [e,h2];exact h'.1)
    · exact IC h'.2 x h1 y h2 e
theorem Xg {E:List Nat} {p1:Option Nat} (hk:dL P l n N e2 E p1) {ES:List E3} {β:Nat->Nat} {D:List Nat} {listed:Array Bool} {a:Act} {w:World} (hI:ak P l n w0 Lro N ES β D listed a w F L) {x:E3} (hx:x∈N) (hn:x ∉ ES) (hD:x.i ∉ D) {K:Act->World->Prop}
    (hK:∀β' a' w',ak P l n w0 Lro N (x::ES) β' D (listed.setIfInBounds x.i true) a' w' F L->K a' w'):wpOp P l.toArray Q x.i K a w:=by
  obtain ⟨⟨ty,p,af,hat,haf⟩,⟨u,hz1,hz2⟩,hlt⟩:=hk.ok x hx
  unfold wpOp
  rw [show l.toArray[x.i]?=some ⟨some x.d,.alloc x.T,ty,p,af,none⟩ by simpa using hat]
  simp only
  have hun:x.i ∉ ES.map (·.i)++D:=λh=>by
    rcases List.mem_append.1 h with h|h
    · obtain ⟨y,hy,e⟩:=List.mem_map.1 h
      exact hn (IC hk.ni y (hI.sub y hy) x hx e▸hy)
    · exact hD h
  rw [if_pos (AM (n:=n) (F:=F) rfl a hI.frm)]
  left
  unfold Oper.wp
  rw [Pb (n:=n) (F:=F) (w0:=⟨w,none⟩) (L:=[]) hz1 hz2 a w hI.frm (BE.start w),Oper.upon_value]
  have hat':l[x.i]?=some ⟨some x.d,.alloc x.T,ty,p,af,none⟩:=hat
  have hsz:x.d<a.tmps.size:=by rw [hI.frm.2.1];exact hlt
  refine hK (λk=>if k=x.i then w.heap.size else β k) _ _ ⟨hI.st.add hat' (λe he=>?_),λy hy=>?_,List.nodup_cons.2 ⟨hn,hI.nd⟩,?_,λy hy=>?_,?_,hI.ro,hI.noK⟩
  · rw [Array.size_eq_zero_iff.1 haf] at he;simp at he
  · rcases xy.1 hy with rfl|hy
    · exact hx
    · exact hI.sub y hy
  · refine ⟨hI.frm.1,by simpa [Act.put] using hI.frm.2.1,λk v hk'=>?_⟩
    have hne:x.d≠k:=λe=>by
      have:=LZ hI.noK hx
      rw [e,hk'] at this;cases this
    simp only [Act.put]
    rw [Array.getElem?_setIfInBounds_ne hne]
    exact hI.frm.2.2 k v hk'
  · rcases xy.1 hy with rfl|hy
    · simp [Act.put,hsz]
    · have hne:y≠x:=λe=>hn (e▸hy)
      have hi:y.i≠x.i:=λe=>hne (IC hk.ni y (hI.sub y hy) x hx e)
      have hd:x.d≠y.d:=λe=>hne (IC hk.nd y (hI.sub y hy) x hx e.symm)
      simp only [Act.put,hi,if_false]
      rw [Array.getElem?_setIfInBounds_ne hd]
      exact hI.tm y hy
  · have h1:=hI.own.alloc (.cells x.cs.toArray x.T) (x:=AU w.heap.size x.T x.cs) rfl rfl
    refine h1.perm ?_
    have e:nL (λk=>if k=x.i then w.heap.size else β k) (x::ES)=AU w.heap.size x.T x.cs::nL β ES:=by
      unfold nL
      rw [List.map_cons]
      congr 1
      · simp
      · refine List.map_congr_left λy hy=>?_
        have hi:y.i≠x.i:=λe=>hn (IC hk.ni y (hI.sub y hy) x hx e▸hy)
        simp [hi]
    rw [e]
    exact List.perm_middle.symm
theorem cn {E:List Nat} {p1:Option Nat} (hk:dL P l n N e2 E p1) (hQ:∀c a d v w,Q (.panic c) (a.put d v) w->Q (.panic c) a w) :
    ∀(M:Nat) (es:List (Nat×Bool)) (D:List Nat) (p:Option Nat) (ES:List E3) (β:Nat->Nat) (listed:Array Bool) (a:Act) (w:World) (F:List (Nat×Value)) (L:List As) (m:Nat),
      es.length+m=M->ES.length+m=N.length->EB l D p es=true->Hf es p=p1->(∀x,x∈E↔x∈N.map (·.i)\/x∈D\/es.any (λe=>e.1 == x)=true)->(∀e∈es,e.1 ∉ N.map (·.i))->(∀x∈D,x ∉ N.map (·.i)) ->
      (∀i,i<l.length->i∈N.map (·.i)\/i∈D\/(es++e2).any (λe=>e.1 == i)=true)->ak P l n w0 Lro N ES β D listed a w F L->BP P l.toArray Q n w0 Lro N e2 es F L ->
      wpAnyH P .any l.toArray Q (λw=>BE w0 w Lro) (es.length+e2.length+m) listed a w:=by
  intro M
  induction M with
  | zero =>
    intro es D p ES β listed a w F L m hM hm hc hl hE hdis hDis hall hI h
    have h0:es=[]:=List.eq_nil_of_length_eq_zero Z
    have hm0:m=0:=by omega
    subst h0;subst hm0
    have hperm:ES.Perm N:=IE hI.nd hI.sub Z
    have hst:NZ l E listed:=hI.st.congr λx=>by
      rw [hE,List.mem_append]
      simp only [List.any_nil,Bool.false_eq_true,or_false]
      rw [(hperm.map (λx:E3=>x.i)).mem_iff]
    have ho:BE w0 w (nL β N++L):=hI.own.perm (List.perm_append_comm.trans ((hperm.map _).append_right _))
    have hf:C8 n a (nF β N++F):=⟨hI.frm.1,hI.frm.2.1,λk v hkv=>by
      rw [Gf] at hkv
      cases hg:(nF β N).lookup k with
      | none=>rw [hg] at hkv;exact hI.frm.2.2 k v hkv
      | some u =>
        rw [hg] at hkv;injection hkv with hkv;subst hkv
        obtain ⟨x,hx,e⟩:=List.mem_map.1 (H1 hg)
        injection e with e1 e2
        rw [<-e1,<-e2]
        exact hI.tm x (hperm.mem_iff.2 hx)⟩
    have:=Ja hk.sel hQ e2 E p1 listed a w _ _ hk.c2 hst (λi hi=>by
      rcases hall i hi with h5|h5|h5
      · exact .inl ((hE i).2 (.inl h5))
      · exact .inl ((hE i).2 (.inr (.inl h5)))
      · exact .inr (by simpa using h5)) (Wk.of (hI.ro.trans (List.sublist_append_right _ _))) hf ho (h β)
    simpa using this
  | succ M ih =>
    intro es D p ES β listed a w F L m hM hm hc hl hE hdis hDis hall hI h
    -- an allocation that has not come yet,ahead of all else
    have early:∀x∈N,x ∉ ES->∀(fuel:Nat),es.length+e2.length+m=fuel+1->wpOp P l.toArray Q x.i (λa' w'=>BE w0 w' Lro/\wpAnyH P .any l.toArray Q (λw=>BE w0 w Lro) fuel (listed.setIfInBounds x.i true) a' w') a w:=λx hx hn fuel hf=>by
      have hml:m≠0:=λe=>by
        have hperm:ES.Perm N:=IE hI.nd hI.sub Z
        exact hn (hperm.mem_iff.2 hx)
      refine Xg hk hI hx hn (λhd=>hDis _ hd (List.mem_map_of_mem (f:=λx:E3=>x.i) hx)) λβ' a' w' hI'=>⟨hI'.own.weak (hI'.ro.trans (List.sublist_append_left _ _)),?_⟩
      have:=ih es D p (x::ES) β' _ a' w' F L (m-1) Z (by simp only [List.length_cons];omega) hc hl hE hdis hDis hall hI' h
      rw [show es.length+e2.length+(m-1)=fuel by omega] at this
      exact this
    have hnew:∀j,j∈N.map (·.i)->listed.getD j false=false->∃x∈N,x ∉ ES/\x.i=j:=λj hj hu=>by
      obtain ⟨x,hx,rfl⟩:=List.mem_map.1 hj
      refine ⟨x,hx,λhxe=>?_,rfl⟩
      have:=(hI.st.mem x.i).1 (List.mem_append_left _ (List.mem_map_of_mem (f:=λx:E3=>x.i) hxe))
      rw [hu] at this;cases this
    have hE2:∀e∈e2,listed.getD e.1 false=false:=λe he=>hI.st.no λhd=>by
      refine (EC hk.c2 e he).1 ((hE _).2 ?_)
      rcases List.mem_append.1 hd with hd|hd
      · obtain ⟨y,hy,e3⟩:=List.mem_map.1 hd
        exact .inl (List.mem_map.2 ⟨y,hI.sub y hy,e3⟩)
      · exact .inr (.inl hd)
    cases es with
    | nil =>
      simp only [List.length_nil,Nat.zero_add] at hM ⊢
      have hex:∃x∈N,x ∉ ES:=Classical.byContradiction λhno=>by
        have hsub:∀x∈N,x∈ES:=λx hx=>Classical.byContradiction λhne=>hno ⟨x,hx,hne⟩
        have:=M_ (Ik hk.ni) hsub
        omega
      obtain ⟨x0,hx0,hn0⟩:=hex
      have hu0:listed.getD x0.i false=false:=hI.st.no λhd=>by
        rcases List.mem_append.1 hd with hd|hd
        · obtain ⟨y,hy,e3⟩:=List.mem_map.1 hd
          exact hn0 (IC hk.ni y (hI.sub y hy) x0 hx0 e3▸hy)
        · exact hDis _ hd (List.mem_map_of_mem (f:=λx:E3=>x.i) hx0)
      have hm1:e2.length+m=(e2.length+m-1)+1:=by omega
      rw [hm1]
      refine ⟨λh0=>?_,λj hj=>?_⟩
      · obtain ⟨⟨ty,pp,af,hat,haf⟩,_,_⟩:=hk.ok x0 hx0
        have hil:x0.i<l.length:=(List.getElem?_eq_some_iff.1 hat).1
        have:x0.i∈Region.ready .any l.toArray listed:=mem_ready.2 ⟨by rw [Cr (by rw [hI.st.size];exact hil)];exact hu0,_,by simpa using hat,λe he=>by rw [Array.size_eq_zero_iff.1 haf] at he;simp at he⟩
        rw [h0] at this;cases this
      · obtain ⟨h0,oj,hoj,_⟩:=mem_ready.1 hj
        have hjl:j<l.length:=by simpa using (Array.getElem?_eq_some_iff.1 hoj).1
        rw [Cr (by rw [hI.st.size];exact hjl)] at h0
        rcases hall j hjl with h1|h1|h1
        · obtain ⟨x,hx,hn,rfl⟩:=hnew j h1 h0
          exact early x hx hn _ (by simp only [List.length_nil];omega)
        · rw [(hI.st.mem j).1 (xt _ h1)] at h0;cases h0
        · obtain ⟨e,he,rfl⟩:=IU (by simpa using h1)
          exact absurd hj (E1 hI.st.cl (hk.c1 x0 hx0) hu0 hE2 e he)
    | cons e r =>
      obtain ⟨i,k⟩:=e
      obtain ⟨o,hg⟩:=DV hc
      have hat:l.toArray[i]?=some o:=by simpa using hg.at_
      have hil:i<l.length:=(List.getElem?_eq_some_iff.1 hg.at_).1
      have hiN:i ∉ N.map (·.i):=hdis (i,k) List.mem_cons_self
      have hp:∀e∈o.after,Region.binds .any e=true->listed.getD e.on false=true:=λe he hb=>(hI.st.mem _).1 (xt _ (hg.pre e he hb))
      have hun:listed.getD i false=false:=hI.st.no λhd=>by
        rcases List.mem_append.1 hd with hd|hd
        · obtain ⟨y,hy,e3⟩:=List.mem_map.1 hd
          exact hiN (List.mem_map.2 ⟨y,hI.sub y hy,e3⟩)
        · exact hg.nin hd
      have hrd:i∈Region.ready .any l.toArray listed:=mem_ready.2 ⟨by rw [Cr (by rw [hI.st.size];exact hil)];exact hun,o,hat,hp⟩
      have hst':NZ l (ES.map (·.i)++i::D) (listed.setIfInBounds i true):=(hI.st.add hg.at_ hp).congr λx=>by simp only [xy,List.mem_append];constructor<;>(rintro (h|h|h)<;>simp [h])
      have hE':∀x,x∈E↔x∈N.map (·.i)\/x∈i::D\/r.any (λe=>e.1 == x)=true:=λx=>by
        rw [hE];simp only [List.any_cons,xY,beq_iff_eq,xy]
        constructor
        · rintro (h|h|h|h)
          · exact .inl h
          · exact .inr (.inl (.inr h))
          · exact .inr (.inl (.inl h.symm))
          · exact .inr (.inr h)
        · rintro (h|(h|h)|h)
          · exact .inl h
          · exact .inr (.inr (.inl h.symm))
          · exact .inr (.inl h)
          · exact .inr (.inr (.inr h))
      have hdis':∀e∈r,e.1 ∉ N.map (·.i):=λe he=>hdis e (List.mem_cons_of_mem _ he)
      have hDis':∀x∈i::D,x ∉ N.map (·.i):=λx hx=>(xy.1 hx).elim (λe=>e▸hiN) (hDis x)
      have hall':∀j,j<l.length->j∈N.map (·.i)\/j∈i::D\/(r++e2).any (λe=>e.1 == j)=true:=λj hj=>by
        rcases hall j hj with h1|h1|h1
        · exact .inl h1
        · exact .inr (.inl (List.mem_cons_of_mem _ h1))
        · simp only [List.cons_append,List.any_cons,xY,beq_iff_eq] at h1
          rcases h1 with h1|h1
          · exact .inr (.inl (h1▸List.mem_cons_self))
          · exact .inr (.inr h1)
      have hfu:(( i,k)::r).length+e2.length+m=r.length+e2.length+m+1:=by simp only [List.length_cons];omega
      have hMr:r.length+m=M:=by simp only [List.length_cons] at hM;omega
      cases k with
      | true =>
        obtain ⟨o',d,v,ho',hd,hdn,hy,hnk,hnx⟩:=h
        rw [hat] at ho';injection ho' with ho';subst ho'
        have hyield:YieldsIf P l.toArray (λw=>BE w0 w Lro) o v a:=by
          rcases hy with ⟨h1,h2⟩|⟨h1,h2⟩
          · exact .inl ⟨h1 a hI.frm,λw hW=>h2 a w hI.frm hW⟩
          · exact .inr ⟨h1 a hI.frm,h2⟩
        rw [hfu]
        refine wpAnyH_first hat (Region.noSelect_spec hk.sel) (λc a w=>dA hQ c a o.dst v w) _ listed a w (GK hI.st hg.at_ (hg.fr O) hp) hrd hyield (hI.own.weak (hI.ro.trans (List.sublist_append_left _ _))) ?_
        refine ih r (i::D) p ES β _ _ w ((d,v)::F) L m hMr hm hg.tl hl hE' hdis' hDis' hall' ⟨hst',hI.sub,hI.nd,by rw [hd];exact hI.frm.put hdn,λx hx=>?_,hI.own,hI.ro,hnk⟩ hnx
        have hne:d≠x.d:=λe=>by
          have:=LZ hnk (hI.sub x hx)
          rw [<-e,List.lookup_cons,show (d == d)=true by simp] at this;cases this
        rw [hd]
        simp only [Act.put]
        rw [Array.getElem?_setIfInBounds_ne hne]
        exact hI.tm x hx
      | false =>
        obtain ⟨o',ho',h⟩:=h
        rw [hat] at ho';injection ho' with ho';subst ho'
        rw [hfu]
        refine ⟨λh0=>absurd hrd (by rw [h0];exact List.not_mem_nil),λj hj=>?_⟩
        obtain ⟨h0,oj,hoj,_⟩:=mem_ready.1 hj
        have hjl:j<l.length:=by simpa using (Array.getElem?_eq_some_iff.1 hoj).1
        rw [Cr (by rw [hI.st.size];exact hjl)] at h0
        have hru:∀e∈r,listed.getD e.1 false=false:=λe he=>hI.st.no λhd=>by
          rcases List.mem_append.1 hd with hd|hd
          · obtain ⟨y,hy,e3⟩:=List.mem_map.1 hd
            exact hdis' e he (List.mem_map.2 ⟨y,hI.sub y hy,e3⟩)
          · exact (EC hg.tl e he).1 (List.mem_cons_of_mem _ hd)
        rcases hall j hjl with h1|h1|h1
        · obtain ⟨x,hx,hn,rfl⟩:=hnew j h1 h0
          exact early x hx hn _ hfu
        · rw [(hI.st.mem j).1 (xt _ h1)] at h0;cases h0
        · obtain ⟨e,he,rfl⟩:=IU h1
          rcases xy.1 (by simpa using he:e∈(i,false)::(r++e2)) with rfl|he2
          · have hfrm:C8 n a (F++nF β ES):=Yr hI.frm λq hq=>by
              obtain ⟨x,hx,rfl⟩:=List.mem_map.1 hq
              exact hI.tm x hx
            refine X4 hat (h (nF β ES) (nL β ES) a w hfrm hI.own) λF' L' a' w' h1 h2 h3 h5 h4=>⟨h2.weak (h3.trans (List.sublist_append_left _ _)),?_⟩
            refine ih r (i::D) (some i) ES β _ a' w' F' L' m hMr hm hg.tl hl hE' hdis' hDis' hall' ⟨hst',hI.sub,hI.nd,V3 h1,λx hx=>?_,h2,h3,h5⟩ h4
            refine h1.2.2 x.d _ ?_
            rw [Gf,LZ h5 (hI.sub x hx)]
            show (nF β ES).lookup x.d=some (pP (β x.i) 0)
            have hnd:∀(ES:List E3),(∀y∈ES,y∈N)->x∈ES->(nF β ES).lookup x.d=some (pP (β x.i) 0):=by
              intro ES
              induction ES with
              | nil=>intro _ hx;cases hx
              | cons y t ih2 =>
                intro hs hx
                unfold nF
                rw [List.map_cons,List.lookup_cons]
                by_cases e:x.d=y.d
                · have:x=y:=IC hk.nd x (hs x hx) y (hs y List.mem_cons_self) e
                  subst this;simp
                · rw [show (x.d == y.d)=false by simpa using e]
                  exact ih2 (λz hz=>hs z (List.mem_cons_of_mem _ hz)) ((xy.1 hx).resolve_left λe2=>e (by rw [e2]))
            exact hnd ES hI.sub hx
          · rcases List.mem_append.1 he2 with he2|he2
            · exact absurd hj (E1 hI.st.cl hg.tl hun hru e he2)
            · exfalso
              obtain ⟨q,hq⟩:=Ge r i
              have hq1:p1=some q:=by rw [<-hl];exact hq
              have hqu:listed.getD q false=false:=by
                rcases G_ r (some i) q hq with h6|⟨e6,he6,rfl⟩
                · injection h6 with h6;rw [<-h6];exact hun
                · exact hru e6 he6
              have hc2:=hk.c2
              rw [hq1] at hc2
              exact E1 hI.st.cl hc2 hqu hE2 e he2 hj
theorem OkC.chainN {id:Nat} (e1:List (Nat×Bool)) (N:List E3) (e2:List (Nat×Bool)) (hro:Lro.Sublist L) (hm:P.follows .mixedOrders=true) (hc:ay l e1 N e2=true) (hN:∀x∈N,Mg P l n x) (hk0:noK N F=true) (hQ:∀c a d v w,Q (.panic c) (a.put d v) w->Q (.panic c) a w)
    (h:BP P l.toArray Q n w0 Lro N e2 e1 F L):OkC P (.region id l.toArray true) Q n F w0 L:=by
  simp only [ay,xZ] at hc
  obtain ⟨⟨⟨⟨⟨⟨⟨⟨h1,h2⟩,h3⟩,h4⟩,h5⟩,h6⟩,h7⟩,h8⟩,h9⟩:=hc
  have hlen:=Nat.eq_of_beq_eq_true h5
  have hdis:∀e∈e1,e.1 ∉ N.map (·.i):=λe he=>by
    have:=List.all_eq_true.1 h9 e he
    simpa using this
  refine QA (Lro:=Lro) hm (k:=e1.length+e2.length+N.length) hlen λa w ha hw=>?_
  refine cn ⟨hN,h6,HE h7,HE h8,λx hx=>List.all_eq_true.1 h2 x hx,h3⟩ hQ (e1.length+N.length) e1 [] none [] (λ_=>0) _ a w F L N.length O jX h1 O (λx=>?_) hdis jX (λi hi=>?_) ⟨Hi,by simp,List.nodup_nil,ha,by simp,by simpa [nL] using hw,hro,hk0⟩ h
  · rw [List.mem_append]
    refine or_congr Iff.rfl ⟨λhx=>.inr ?_,λhx=>?_⟩
    · obtain ⟨e,he,rfl⟩:=List.mem_map.1 hx
      exact List.any_eq_true.2 ⟨e,he,by simp⟩
    · rcases hx with hx|hx
      · cases hx
      · obtain ⟨e,he,rfl⟩:=IU hx
        exact List.mem_map_of_mem he
  · have:=List.all_eq_true.1 h4 i (List.mem_range.2 hi)
    rw [xY] at this
    rcases this with h|h
    · exact .inl (by simpa using h)
    · exact .inr (.inr h)
theorem Fk:∀x∈([]:List E3),Mg P l n x:=λx hx=>by cases hx
theorem EP {i d T:Nat} {cs:List Value} {ty:TypeId} {p:String} {af:Array Edge} (h:l[i]?=some ⟨some d,.alloc T,ty,p,af,none⟩) (ha:af.size=0) (hz:DU P T cs) (hd:Nat.ble (d+1) n=true) (t:∀x∈N,Mg P l n x):∀x∈(⟨i,d,T,cs⟩::N:List E3),Mg P l n x:=λx hx=>by
  rcases xy.1 hx with rfl|hx
  · exact ⟨⟨ty,p,af,h,ha⟩,hz,Nat.le_of_ble_eq_true hd⟩
  · exact t x hx
variable {r:List (Nat×Bool)} {i d:Nat} {o:Oper} {v:Value} {EF:List (Nat×Value)} {EL:List As}
theorem BP.pas (ho:ops[i]?=some o) (hw:Wt ops n F o) (he:Ex P n F w0 Lro o v) (hd:o.dst=some d) (hn:Nat.ble (d+1) n=true) (hk:noK N ((d,v)::F)=true) (next:BP P ops Q n w0 Lro N e2 r ((d,v)::F) L):BP P ops Q n w0 Lro N e2 ((i,true)::r) F L:=⟨o,d,v,ho,hd,Nat.le_of_ble_eq_true hn,.inl ⟨hw,he⟩,hk,next⟩
theorem zi (ho:ops[i]?=some o) (h:∀EF EL,AQ P ops [o] (PN Q n w0 Lro N EF EL λF' L'=>BP P ops Q n w0 Lro N e2 r F' L') n (F++EF) w0 (L++EL)):BP P ops Q n w0 Lro N e2 ((i,false)::r) F L:=⟨o,ho,h⟩
theorem xH (hro:Lro.Sublist L') (hk:noK N F'=true) (h:BP P ops Q n w0 Lro N e2 r F' L'):AQ P ops [] (PN Q n w0 Lro N EF EL λF' L'=>BP P ops Q n w0 Lro N e2 r F' L') n (F'++EF) w0 (L'++EL):=AQ.nil λa w ha hw=>⟨F',L',ha,hw,hro,hk,h⟩
variable {x1 x2 x3 x4 x5 x6 x7:As}
theorem zl (hro:Lro.Sublist L) (hk:noK N ((d,v)::F)=true) (h:BP P ops Q n w0 Lro N e2 r ((d,v)::F) L):AQ P ops [] (PN Q n w0 Lro N EF EL λF' L'=>BP P ops Q n w0 Lro N e2 r F' L') n ((d,v)::(F++EF)) w0 (L++EL):=xH hro hk h
theorem y6 (hro:Lro.Sublist (x1::L)) (hk:noK N ((d,v)::F)=true) (h:BP P ops Q n w0 Lro N e2 r ((d,v)::F) (x1::L)):AQ P ops [] (PN Q n w0 Lro N EF EL λF' L'=>BP P ops Q n w0 Lro N e2 r F' L') n ((d,v)::(F++EF)) w0 (x1::(L++EL)):=xH hro hk h
theorem zy (hro:Lro.Sublist (x1::x2::L)) (hk:noK N ((d,v)::F)=true) (h:BP P ops Q n w0 Lro N e2 r ((d,v)::F) (x1::x2::L)):AQ P ops [] (PN Q n w0 Lro N EF EL λF' L'=>BP P ops Q n w0 Lro N e2 r F' L') n ((d,v)::(F++EF)) w0 (x1::x2::(L++EL)):=xH hro hk h
variable {i1 d1 T1 i2 d2 T2 i3 d3 T3 i4 d4 T4 i5 d5 T5 i6 d6 T6:Nat} {c1 c2 c3 c4 c5 c6:List Value}
theorem yI (h:∀b1,OkE P ops Q n w0 Lro e2 ((d1,pP b1 0)::F) (AU b1 T1 c1::L)):BP P ops Q n w0 Lro [⟨i1,d1,T1,c1⟩] e2 [] F L:=λβ=>h (β i1)
theorem yr (h:∀b1 b2,OkE P ops Q n w0 Lro e2 ((d1,pP b1 0)::(d2,pP b2 0)::F) (AU b1 T1 c1::AU b2 T2 c2::L)):BP P ops Q n w0 Lro [⟨i1,d1,T1,c1⟩,⟨i2,d2,T2,c2⟩] e2 [] F L:=λβ=>h (β i1) (β i2)
theorem BP.news3 (h:∀b1 b2 b3,OkE P ops Q n w0 Lro e2 ((d1,pP b1 0)::(d2,pP b2 0)::(d3,pP b3 0)::F) (AU b1 T1 c1::AU b2 T2 c2::AU b3 T3 c3::L)):BP P ops Q n w0 Lro [⟨i1,d1,T1,c1⟩,⟨i2,d2,T2,c2⟩,⟨i3,d3,T3,c3⟩] e2 [] F L:=λβ=>h (β i1) (β i2) (β i3)
theorem rN {id:Nat} (e1:List (Nat×Bool)) (N:List E3) (e2:List (Nat×Bool)) (hro:Lro.Sublist L) (hc:ay l e1 N e2=true) (hQ:∀c a d v w,Q (.panic c) (a.put d v) w->Q (.panic c) a w) (hN:∀x∈N,Mg prog l n x) (hk0:noK N F=true) (h:BP prog l.toArray Q n w0 Lro N e2 e1 F L):OkC prog (.region id l.toArray true) Q n F w0 L:=OkC.chainN e1 N e2 hro Em hc hN hk0 hQ h
end
section
variable {P:Program} {ops:Array Oper} {Q:Exit->Act->World->Prop} {n d i k s b off:Nat} {F F':List (Nat×Value)} {w0:BA} {Lro L L':List As} {op:Op} {t ty T:TypeId} {p:String} {af:Array Edge} {u v:Value} {x y:Operand} {r e2:List (Nat×Bool)} {cs vs:List Value} {o:Oper} {l:List Oper} {id:Nat}
theorem rG (es:List (Nat×Bool)) (hro:Lro.Sublist L) (hc:YW l es=true) (hQ:∀c a d v w,Q (.panic c) (a.put d v) w->Q (.panic c) a w) (h:OkE prog l.toArray Q n w0 Lro es F L):OkC prog (.region id l.toArray true) Q n F w0 L:=OkC.chainE es hro Em hc hQ h
theorem pE (ho:ops[i]?=some ⟨some d,op,t,p,af,none⟩) (he:Ex P n F w0 Lro ⟨some d,op,t,p,af,none⟩ v) (hn:Nat.ble (d+1) n=true) (next:OkE P ops Q n w0 Lro r ((d,v)::F) L):OkE P ops Q n w0 Lro ((i,true)::r) F L:=zW ho (AM rfl) he rfl hn next
theorem pM (ho:ops[i]?=some ⟨some d,.move x,t,p,af,none⟩) (hx:evF F x=some v) (hn:Nat.ble (d+1) n=true) (next:OkE P ops Q n w0 Lro r ((d,v)::F) L):OkE P ops Q n w0 Lro ((i,true)::r) F L:=pE ho (Bv hx) hn next
theorem pS (ho:ops[i]?=some ⟨some d,.assign x,t,p,af,none⟩) (hx:evF F x=some v) (hn:Nat.ble (d+1) n=true) (next:OkE P ops Q n w0 Lro r ((d,v)::F) L):OkE P ops Q n w0 Lro ((i,true)::r) F L:=pE ho (Mw hx) hn next
theorem pW (j:Nat) (ht:Dk P ty k) (ho:ops[i]?=some ⟨some d,.load ty x,t,p,af,none⟩) (hx:evF F x=some (pP b 0)) (hi:Lro[j]?=some (AU b T cs)) (hl:cs.length=k) (hn:Nat.ble (d+1) n=true) (next:OkE P ops Q n w0 Lro r ((d,aG cs)::F) L):OkE P ops Q n w0 Lro ((i,true)::r) F L :=
  pE ho (Ac hx hi ht.a ht.s (Lv hl) hl) hn next
theorem pA (j:Nat) (vs:List Value) (ht:Dk P ty k) (ho:ops[i]?=some ⟨some d,.load ty x,t,p,af,none⟩) (hx:evF F x=some (pP b off)) (hi:Lro[j]?=some (AU b T cs)) (hv:(cs.drop off).take k=vs) (hl:vs.length=k) (hn:Nat.ble (d+1) n=true) (next:OkE P ops Q n w0 Lro r ((d,aG vs)::F) L):OkE P ops Q n w0 Lro ((i,true)::r) F L :=
  pE ho (Ac hx hi ht.a ht.s hv hl) hn next
theorem iF (j:Nat) (v:Value) (ht:F4 P ty) (ho:ops[i]?=some ⟨some d,.load ty x,t,p,af,none⟩) (hx:evF F x=some (pP b off)) (hi:Lro[j]?=some (AU b T cs)) (hv:cs[off]?=some v) (hn:Nat.ble (d+1) n=true) (next:OkE P ops Q n w0 Lro r ((d,v)::F) L):OkE P ops Q n w0 Lro ((i,true)::r) F L :=
  pE ho (AE hx hi ht.a hv) hn next
variable {N:List E3}
theorem uE (ho:ops[i]?=some ⟨some d,op,t,p,af,none⟩) (he:Ex P n F w0 Lro ⟨some d,op,t,p,af,none⟩ v) (hn:Nat.ble (d+1) n=true) (hk:noK N ((d,v)::F)=true) (next:BP P ops Q n w0 Lro N e2 r ((d,v)::F) L):BP P ops Q n w0 Lro N e2 ((i,true)::r) F L:=BP.pas ho (AM rfl) he rfl hn hk next
theorem uM (ho:ops[i]?=some ⟨some d,.move x,t,p,af,none⟩) (hx:evF F x=some v) (hn:Nat.ble (d+1) n=true) (hk:noK N ((d,v)::F)=true) (next:BP P ops Q n w0 Lro N e2 r ((d,v)::F) L):BP P ops Q n w0 Lro N e2 ((i,true)::r) F L:=uE ho (Bv hx) hn hk next
theorem uW (j:Nat) (ht:Dk P ty k) (ho:ops[i]?=some ⟨some d,.load ty x,t,p,af,none⟩) (hx:evF F x=some (pP b 0)) (hi:Lro[j]?=some (AU b T cs)) (hl:cs.length=k) (hn:Nat.ble (d+1) n=true) (hk:noK N ((d,aG cs)::F)=true) (next:BP P ops Q n w0 Lro N e2 r ((d,aG cs)::F) L):BP P ops Q n w0 Lro N e2 ((i,true)::r) F L :=
  uE ho (Ac hx hi ht.a ht.s (Lv hl) hl) hn hk next
theorem uA (j:Nat) (vs:List Value) (ht:Dk P ty k) (ho:ops[i]?=some ⟨some d,.load ty x,t,p,af,none⟩) (hx:evF F x=some (pP b off)) (hi:Lro[j]?=some (AU b T cs)) (hv:(cs.drop off).take k=vs) (hl:vs.length=k) (hn:Nat.ble (d+1) n=true) (hk:noK N ((d,aG vs)::F)=true) (next:BP P ops Q n w0 Lro N e2 r ((d,aG vs)::F) L):BP P ops Q n w0 Lro N e2 ((i,true)::r) F L :=
  uE ho (Ac hx hi ht.a ht.s hv hl) hn hk next
theorem iO (j:Nat) (v:Value) (ht:F4 P ty) (ho:ops[i]?=some ⟨some d,.load ty x,t,p,af,none⟩) (hx:evF F x=some (pP b off)) (hi:Lro[j]?=some (AU b T cs)) (hv:cs[off]?=some v) (hn:Nat.ble (d+1) n=true) (hk:noK N ((d,v)::F)=true) (next:BP P ops Q n w0 Lro N e2 r ((d,v)::F) L):BP P ops Q n w0 Lro N e2 ((i,true)::r) F L :=
  uE ho (AE hx hi ht.a hv) hn hk next
end
section
variable {P:Program} {ops:Array Oper} {Q:Exit->Act->World->Prop} {n d i k s b off:Nat} {F F':List (Nat×Value)} {w0:BA} {Lro L L':List As} {op:Op} {t ty T:TypeId} {p:String} {af:Array Edge} {u v:Value} {x y:Operand} {r e2:List (Nat×Bool)} {cs vs:List Value} {o:Oper} {l:List Oper} {id:Nat}
abbrev Dm (n:Nat):List (Nat×Bool):=(List.range n).map λk=>(k,true)
theorem CE (es:List (Nat×Bool)) (hro:Lro.Sublist L) (h:OkE prog l.toArray Q n w0 Lro es F L) (hc:YW l es=true:=by kernel_rfl) (hQ:∀c a d v w,Q (.panic c) (a.put d v) w->Q (.panic c) a w:=by intro _ _ d _ _ h;cases d<;>exact h):OkC prog (.region id l.toArray true) Q n F w0 L:=rG es hro hc hQ h
theorem Ag (h:(ops[i]?,Nat.ble (d+1) n)=(some ⟨some d,op,t,p,af,none⟩,true)) (he:Ex P n F w0 Lro ⟨some d,op,t,p,af,none⟩ v) (next:OkE P ops Q n w0 Lro r ((d,v)::F) L):OkE P ops Q n w0 Lro ((i,true)::r) F L:=pE (Ck h) he (BS h) next
theorem Bl (h:(ops[i]?,evF F x,Nat.ble (d+1) n)=(some ⟨some d,.move x,t,p,af,none⟩,some v,true)) (next:OkE P ops Q n w0 Lro r ((d,v)::F) L):OkE P ops Q n w0 Lro ((i,true)::r) F L:=pM (Ck h) (Ck (BS h)) (BS (BS h)) next
theorem pS' (h:(ops[i]?,evF F x,Nat.ble (d+1) n)=(some ⟨some d,.assign x,t,p,af,none⟩,some v,true)) (next:OkE P ops Q n w0 Lro r ((d,v)::F) L):OkE P ops Q n w0 Lro ((i,true)::r) F L:=pS (Ck h) (Ck (BS h)) (BS (BS h)) next
theorem C3 (j:Nat) (ht:Dk P ty k) (h:(ops[i]?,evF F x,Lro[j]?,cs.length,Nat.ble (d+1) n)=(some ⟨some d,.load ty x,t,p,af,none⟩,some (pP b 0),some (AU b T cs),k,true)) (next:OkE P ops Q n w0 Lro r ((d,aG cs)::F) L):OkE P ops Q n w0 Lro ((i,true)::r) F L :=
  pW j ht (Ck h) (Ck (BS h)) (Ck (BS (BS h))) (Ck (BS (BS (BS h)))) (BS (BS (BS (BS h)))) next
theorem Ef (j:Nat) (vs:List Value) (ht:Dk P ty k) (h:(ops[i]?,evF F x,Lro[j]?,(cs.drop off).take k,vs.length,Nat.ble (d+1) n)=(some ⟨some d,.load ty x,t,p,af,none⟩,some (pP b off),some (AU b T cs),vs,k,true)) (next:OkE P ops Q n w0 Lro r ((d,aG vs)::F) L):OkE P ops Q n w0 Lro ((i,true)::r) F L :=
  pA j vs ht (Ck h) (Ck (BS h)) (Ck (BS (BS h))) (Ck (BS (BS (BS h)))) (Ck (BS (BS (BS (BS h))))) (BS (BS (BS (BS (BS h))))) next
theorem BC (j:Nat) (v:Value) (ht:F4 P ty) (h:(ops[i]?,evF F x,Lro[j]?,cs[off]?,Nat.ble (d+1) n)=(some ⟨some d,.load ty x,t,p,af,none⟩,some (pP b off),some (AU b T cs),some v,true)) (next:OkE P ops Q n w0 Lro r ((d,v)::F) L):OkE P ops Q n w0 Lro ((i,true)::r) F L :=
  iF j v ht (Ck h) (Ck (BS h)) (Ck (BS (BS h))) (Ck (BS (BS (BS h)))) (BS (BS (BS (BS h)))) next
variable {N:List E3}
theorem FP (h:(ops[i]?,Nat.ble (d+1) n)=(some ⟨some d,op,t,p,af,none⟩,true)) (he:Ex P n F w0 Lro ⟨some d,op,t,p,af,none⟩ v) (hk:noK N ((d,v)::F)=true) (next:BP P ops Q n w0 Lro N e2 r ((d,v)::F) L):BP P ops Q n w0 Lro N e2 ((i,true)::r) F L:=uE (Ck h) he (BS h) hk next
theorem Rj (h:(ops[i]?,evF F x,Nat.ble (d+1) n,noK N ((d,v)::F))=(some ⟨some d,.move x,t,p,af,none⟩,some v,true,true)) (next:BP P ops Q n w0 Lro N e2 r ((d,v)::F) L):BP P ops Q n w0 Lro N e2 ((i,true)::r) F L:=uM (Ck h) (Ck (BS h)) (Ck (BS (BS h))) (BS (BS (BS h))) next
theorem DN (j:Nat) (ht:Dk P ty k) (h:(ops[i]?,evF F x,Lro[j]?,cs.length,Nat.ble (d+1) n,noK N ((d,aG cs)::F))=(some ⟨some d,.load ty x,t,p,af,none⟩,some (pP b 0),some (AU b T cs),k,true,true)) (next:BP P ops Q n w0 Lro N e2 r ((d,aG cs)::F) L):BP P ops Q n w0 Lro N e2 ((i,true)::r) F L :=
  uW j ht (Ck h) (Ck (BS h)) (Ck (BS (BS h))) (Ck (BS (BS (BS h)))) (Ck (BS (BS (BS (BS h))))) (BS (BS (BS (BS (BS h))))) next
theorem Ri (j:Nat) (vs:List Value) (ht:Dk P ty k) (h:(ops[i]?,evF F x,Lro[j]?,(cs.drop off).take k,vs.length,Nat.ble (d+1) n,noK N ((d,aG vs)::F))=(some ⟨some d,.load ty x,t,p,af,none⟩,some (pP b off),some (AU b T cs),vs,k,true,true)) (next:BP P ops Q n w0 Lro N e2 r ((d,aG vs)::F) L):BP P ops Q n w0 Lro N e2 ((i,true)::r) F L :=
  uA j vs ht (Ck h) (Ck (BS h)) (Ck (BS (BS h))) (Ck (BS (BS (BS h)))) (Ck (BS (BS (BS (BS h))))) (Ck (BS (BS (BS (BS (BS h)))))) (BS (BS (BS (BS (BS (BS h)))))) next
theorem P7 (j:Nat) (v:Value) (ht:F4 P ty) (h:(ops[i]?,evF F x,Lro[j]?,cs[off]?,Nat.ble (d+1) n,noK N ((d,v)::F))=(some ⟨some d,.load ty x,t,p,af,none⟩,some (pP b off),some (AU b T cs),some v,true,true)) (next:BP P ops Q n w0 Lro N e2 r ((d,v)::F) L):BP P ops Q n w0 Lro N e2 ((i,true)::r) F L :=
  iO j v ht (Ck h) (Ck (BS h)) (Ck (BS (BS h))) (Ck (BS (BS (BS h)))) (Ck (BS (BS (BS (BS h))))) (BS (BS (BS (BS (BS h))))) next
end
end
section
set_option maxRecDepth 100000
theorem Qg (b m c:Nat) (bs:List Nat) (hbs:W32 bs) (hm:m<=bs.length) (hc:m<=c) (hL:c<4611686018427387904) (w:World) (hb:w.heap[b]?=some (.cells (Aq bs).toArray 92 (0,0))):Calls prog 189 #[(qz (jk b) m c)] w (AX w (qz (jk b) (EI bs m) c)):=by
 refine AS (args:=[(qz (jk b) m c)]) func189 O O (leB O) (zM (sL [0] O) (q4 (asg' O (oNl' (q1 (zN ?_))))))
 refine zw (tg λ(k:Nat)=>k<=m/\EI bs k=EI bs m) (tg λ(k:Nat)=>[(2,jj),(0,(qz (jk b) k c))]) (tg λ(k:Nat)=>[]) (tg λ(k:Nat)=>k) m (⟨Nat.le_refl _,rfl⟩) (sF O) sr (λk hJ=>?_)
 obtain ⟨hk,hv⟩:=hJ
 refine zf (q4 (AJ O (st' (v:=(vN k)) (AD O underlying255) O (st' (B2 (c:=(decide (0<k))) O O (B_ (a:=0) (b:=k))) O (AJ O ?_)))))
 refine zg (FM:=[(2,jj),(0,(qz (jk b) k c)),(3,(qz (jk b) k c)),(4,(vN k)),(5,(qa (decide (0<k)))),(6,(qa (decide (0<k)))),(14,(qa ((decide (0<k))&&(decide ((bs.getD (k-1) 0)=0)))))]) (LM:=[]) 8 ?_ ?_
 ·rcases xO (decide (0<k)) with hg1|hg1
  ·refine zK (k:=6) (u:=qa true) O (by rw [hg1]) ?_
   have hg1':=xR hg1
   refine EV O (EV O (Au (v:=(vN k)) O (AD O underlying255) (Au (v:=(vN (k-1))) O (Bc (c:=((k-1:Nat):Int)) O O (B8 (a:=k) (b:=1) Z Z)) (Au (v:=(pP b (k-1))) O (AL (j:=k-1) O O underlying255 sizeOf92 O Z jX) ?_))))
   have hx1:bs.getD (k-1) 0<4294967296:=W32.getD hbs (k-1)
   exact Au (v:=(vK .u32 (bs.getD (k-1) 0))) O (Be (v:=(vK .u32 (bs.getD (k-1) 0))) O (λw' hw=>CA.at0 (hw.oldCA jX (FT hb)) (BJ (xs:=bs) (j:=(k-1)) Z)) isAgg92) (Au (v:=(qa (decide ((bs.getD (k-1) 0)=0)))) O (A9 (c:=(decide ((bs.getD (k-1) 0)=0))) O O (MA (a:=bs.getD (k-1) 0) (b:=0))) (st' (v:=(qa (decide ((bs.getD (k-1) 0)=0)))) (ex_pick_true O O) O (oNl' (zS Bi (xP _)))))
  ·refine zK (k:=6) (u:=qa false) O (by rw [hg1]) ?_
   have hg1':=xQ hg1
   exact Aw O (Aw O (Aw O (Aw O (Aw O (Aw O (Aw O (st' (v:=(qa false)) (AI O O) O (oNl' (zS Bi (xP _))))))))))
 refine oNl' (zF (sL [2,0,14] O) (zC ?_))
 refine zO O (λhc0=>?_) (λhc0=>?_)
 ·simp only [jK] at hc0
  refine zJ (zC (zN (zQ (AJ O (AJ O (st' (v:=(vN k)) (AD O underlying255) O (st' (Bc (c:=((k-1:Nat):Int)) O O (B8 (a:=k) (b:=1) Z Z)) O (st' (v:=(qz (jk b) (k-1) c)) (G5 (m:=k-1) O O underlying255 sizeOf92 Z) O (asg' O (oNl' (zF (sL [2,0] O) ?_)))))))))))
  exact zP (zm (k-1) (⟨Z,by rw [<-Mn hc0.1 hc0.2];exact hv⟩) Z (sF O) sr)
 ·simp only [jK] at hc0
  have hstop:EI bs k=k:=Mo Z
  exact zY (zR (zh (zV (q2 (AJ O (asg' O (oNl' (zF (sL [2,0] O) (zC (zH (ret_one O (rd_tmp (v:=(qz (jk b) k c)) O) (λw hw=>⟨by rw [<-hv,hstop],hw.out⟩))))))))))))
theorem Ki (x y c:Nat) (hx:x<4294967296) (hy:y<4294967296) (hc:c<=1) (w:World)  :Calls prog 240 #[(vK .u32 x),(vK .u32 y),(vK .u32 c)] w (AX w (Value.tuple #[(vK .u32 ((x+y+c)%4294967296)),(vK .u32 ((x+y+c)/4294967296))])):=by
 refine AS (args:=[(vK .u32 x),(vK .u32 y),(vK .u32 c)]) func240 O O (leB O) (zM (sL [0,1,2] O) (q4 (asg' O (asg' O (oNl' (q2 (AJ O (st' (A6 (c:=((x:Nat):Int)) O underlying92 underlying69 (BT Z)) O (AJ O (st' (A6 (c:=((y:Nat):Int)) O underlying92 underlying69 (BT Z)) O (st' (AV (c:=((x+y:Nat):Int)) O O (Dq (a:=x) (b:=y) Z)) O ?_)))))))))))
 refine AJ O (st' (A6 (c:=((c:Nat):Int)) O underlying92 underlying69 (BT Z)) O (st' (AV (c:=(((x+y)+c:Nat):Int)) O O (Dq (a:=x+y) (b:=c) Z)) O (asg' O (q3 (sL [6,7,8] O) (AJ O (st' (A6 (c:=((((x+y)+c)%4294967296:Nat):Int)) O underlying69 underlying92 Ez) O (asg' O (q3 (sL [6,7,8] O) (AJ O (st' (DD (s:=32) (c:=((((x+y)+c)/4294967296:Nat):Int)) O O O jY (Gk (a:=(x+y)+c) (s:=32))) O (st' (A6 (c:=((((x+y)+c)/4294967296:Nat):Int)) O underlying69 underlying92 (C4 Z)) O ?_)))))))))))
 exact asg' O (oNl' (zF (sL [6,7,8] O) (zC (zH (BR O (rd_tmp (v:=(vK .u32 (((x+y)+c)%4294967296))) O) (rd_tmp (v:=(vK .u32 (((x+y)+c)/4294967296))) O) (λw hw=>⟨rfl,hw.out⟩))))))
theorem Lr (x y c d:Nat) (hx:x<4294967296) (hy:y<4294967296) (hc:c<=1) (hd:d=(x+(4294967296-y)+(4294967296-c))%4294967296) (w:World)  :Calls prog 244 #[(vK .u32 x),(vK .u32 y),(vK .u32 c)] w (AX w (Value.tuple #[(vK .u32 d),(vK .u32 (Jh x (y+c)))])):=by
 have hd2:d<4294967296:=by omega
 have hb:=VS hx hy hc hd
 have hx1:4294967295 ^^^ x<4294967296:=Nat.xor_lt_two_pow (n:=32) Z hx
 have hx2:x ^^^ y<4294967296:=Nat.xor_lt_two_pow (n:=32) hx hy
 have hx3:4294967295 ^^^ (x ^^^ y)<4294967296:=Nat.xor_lt_two_pow (n:=32) Z hx2
 have hx4:(4294967295 ^^^ x) &&& y<4294967296:=Nat.lt_of_le_of_lt Nat.and_le_right hy
 have hx5:(4294967295 ^^^ (x ^^^ y)) &&& d<4294967296:=Nat.lt_of_le_of_lt Nat.and_le_right hd2
 refine AS (args:=[(vK .u32 x),(vK .u32 y),(vK .u32 c)]) func244 O O (leB O) (zM (sL [0,1,2] O) (q4 (asg' O (asg' O (oNl' (q2 (AJ O (AJ O (st' (Bc (c:=(((x+(4294967296-y))%4294967296:Nat):Int)) O O (Pu Z)) O (AJ O (st' (Bc (c:=((d:Nat):Int)) O O (by rw [Pu Z,hd];exact congrArg Int.ofNat Z)) O ?_)))))))))))
 refine asg' O (q3 (sL [0,1,6,7] O) (AJ O (st' (Vv (c:=((4294967295 ^^^ x:Nat):Int)) O (Oq hx)) O (AJ O (st' (K0 (c:=(((4294967295 ^^^ x) &&& y:Nat):Int)) O O (Ok hx1 hy)) O (AJ O (AJ O (st' (bI (c:=((x ^^^ y:Nat):Int)) O O (QB hx hy)) O (st' (Vv (c:=((4294967295 ^^^ (x ^^^ y):Nat):Int)) O (Oq hx2)) O (AJ O (st' (K0 (c:=(((4294967295 ^^^ (x ^^^ y)) &&& d:Nat):Int)) O O (Ok hx3 hd2)) O ?_)))))))))))
 exact st' (Jk (c:=(((4294967295 ^^^ x) &&& y ||| (4294967295 ^^^ (x ^^^ y)) &&& d:Nat):Int)) O O (KW hx4 hx5 O)) O (st' (DD (s:=31) (c:=((((4294967295 ^^^ x) &&& y ||| (4294967295 ^^^ (x ^^^ y)) &&& d)/2147483648:Nat):Int)) O O O jY (Gk (a:=(4294967295 ^^^ x) &&& y ||| (4294967295 ^^^ (x ^^^ y)) &&& d) (s:=31))) O (asg' O (oNl' (zF (sL [0,1,6,7] O) (zC (zH (BR O (rd_tmp (v:=(vK .u32 d)) O) (rd_tmp (v:=(vK .u32 (((4294967295 ^^^ x) &&& y ||| (4294967295 ^^^ (x ^^^ y)) &&& d)/2147483648))) O) (λw hw=>⟨by rw [<-hb],hw.out⟩))))))))
theorem PZ (x y:Nat) (hx:x<18446744073709551616) (hy:y<18446744073709551616) (w:World)  :Calls prog 205 #[(vK .u64 x),(vK .u64 y)] w (AX w (Value.tuple #[(vK .u64 (x*y/18446744073709551616)),(vK .u64 (x*y%18446744073709551616))])):=by
 have h1:=LX (a:=x%4294967296) (b:=y%4294967296) Z Z
 have h2:=LX (a:=x/4294967296) (b:=y%4294967296) Z Z
 have h3:=LX (a:=x%4294967296) (b:=y/4294967296) Z Z
 have h4:=LX (a:=x/4294967296) (b:=y/4294967296) Z Z
 have hh:=Wd x y
 have hh2:x*y/18446744073709551616<18446744073709551616:=Nat.div_lt_of_lt_mul (Nat.mul_lt_mul'' hx hy)
 refine AS (args:=[(vK .u64 x),(vK .u64 y)]) func205 O O (leB O) (zM (sL [0,1] O) (q4 (asg' O (asg' O (oNl' (q2 (AJ O (st' (K0 (c:=((x%4294967296:Nat):Int)) O O (JK (a:=x) Z)) O (asg' O (q3 (sL [0,1,4,5,6] O) (AJ O ?_)))))))))))
 refine st' (DD (s:=32) (c:=((x/4294967296:Nat):Int)) O O O jY (Gk (a:=x) (s:=32))) O (asg' O (q3 (sL [0,1,4,5,6,7] O) (AJ O (st' (K0 (c:=((y%4294967296:Nat):Int)) O O (JK (a:=y) Z)) O (asg' O (q3 (sL [0,1,4,5,6,7,8] O) (AJ O (st' (DD (s:=32) (c:=((y/4294967296:Nat):Int)) O O O jY (Gk (a:=y) (s:=32))) O (asg' O (q3 (sL [0,1,4,5,6,7,8,9] O) (AJ O ?_)))))))))))
 refine AJ O (st' (D7 (c:=(((x%4294967296)*(y%4294967296):Nat):Int)) O O (Fe (a:=x%4294967296) (b:=y%4294967296) Z)) O (asg' O (q3 (sL [0,1,4,5,6,7,8,9,10] O) (AJ O (AJ O (st' (D7 (c:=(((x/4294967296)*(y%4294967296):Nat):Int)) O O (Fe (a:=x/4294967296) (b:=y%4294967296) Z)) O (AJ O (st' (DD (s:=32) (c:=((((x%4294967296)*(y%4294967296))/4294967296:Nat):Int)) O O O jY (Gk (a:=(x%4294967296)*(y%4294967296)) (s:=32))) O (st' (AV (c:=((((x/4294967296)*(y%4294967296))+(((x%4294967296)*(y%4294967296))/4294967296):Nat):Int)) O O (Dq (a:=(x/4294967296)*(y%4294967296)) (b:=((x%4294967296)*(y%4294967296))/4294967296) Z)) O (asg' O (q3 (sL [0,1,4,5,6,7,8,9,11] O) ?_)))))))))))
 refine AJ O (st' (K0 (c:=(((((x/4294967296)*(y%4294967296))+(((x%4294967296)*(y%4294967296))/4294967296))%4294967296:Nat):Int)) O O (JK (a:=((x/4294967296)*(y%4294967296))+(((x%4294967296)*(y%4294967296))/4294967296)) Z)) O (asg' O (q3 (sL [0,1,4,5,6,7,8,9,11,12] O) (AJ O (st' (DD (s:=32) (c:=(((((x/4294967296)*(y%4294967296))+(((x%4294967296)*(y%4294967296))/4294967296))/4294967296:Nat):Int)) O O O jY (Gk (a:=((x/4294967296)*(y%4294967296))+(((x%4294967296)*(y%4294967296))/4294967296)) (s:=32))) O (asg' O (q3 (sL [0,1,4,5,6,7,8,9,11,12,13] O) (AJ O (AJ O (AJ O (st' (D7 (c:=(((x%4294967296)*(y/4294967296):Nat):Int)) O O (Fe (a:=x%4294967296) (b:=y/4294967296) Z)) O ?_)))))))))))
 refine st' (AV (c:=((((((x/4294967296)*(y%4294967296))+(((x%4294967296)*(y%4294967296))/4294967296))%4294967296)+((x%4294967296)*(y/4294967296)):Nat):Int)) O O (Dq (a:=(((x/4294967296)*(y%4294967296))+(((x%4294967296)*(y%4294967296))/4294967296))%4294967296) (b:=(x%4294967296)*(y/4294967296)) Z)) O (asg' O (q3 (sL [0,1,4,5,6,7,8,9,11,12,13] O) (AJ O (AJ O (st' (D7 (c:=(((x/4294967296)*(y/4294967296):Nat):Int)) O O (Fe (a:=x/4294967296) (b:=y/4294967296) Z)) O (AJ O (st' (AV (c:=((((x/4294967296)*(y/4294967296))+((((x/4294967296)*(y%4294967296))+(((x%4294967296)*(y%4294967296))/4294967296))/4294967296):Nat):Int)) O O (Dq (a:=(x/4294967296)*(y/4294967296)) (b:=(((x/4294967296)*(y%4294967296))+(((x%4294967296)*(y%4294967296))/4294967296))/4294967296) Z)) O (AJ O (st' (DD (s:=32) (c:=(((((((x/4294967296)*(y%4294967296))+(((x%4294967296)*(y%4294967296))/4294967296))%4294967296)+((x%4294967296)*(y/4294967296)))/4294967296:Nat):Int)) O O O jY (Gk (a:=((((x/4294967296)*(y%4294967296))+(((x%4294967296)*(y%4294967296))/4294967296))%4294967296)+((x%4294967296)*(y/4294967296))) (s:=32))) O (st' (AV (c:=((x*y/18446744073709551616:Nat):Int)) O O (by rw [<-Int.natCast_add,hh];exact BT hh2)) O (asg' O ?_)))))))))))
 exact q3 (sL [0,1,4,5,6,7,8,9,11,12] O) (AJ O (AJ O (st' (D7 (c:=((x*y%18446744073709551616:Nat):Int)) O O We) O (asg' O (oNl' (zF (sL [0,1,4,5,6,7,8,9,11,12] O) (zC (zH (BR O (rd_tmp (v:=(vK .u64 (x*y/18446744073709551616))) O) (rd_tmp (v:=(vK .u64 (x*y%18446744073709551616))) O) (λw hw=>⟨rfl,hw.out⟩))))))))))
theorem Vm (hi lo y:Nat) (hh:hi<y) (hl:lo<4294967296) (hy:y<4294967296) (w:World)  :Calls prog 231 #[(vK .u32 hi),(vK .u32 lo),(vK .u32 y)] w (AX w (Value.tuple #[(vK .u32 ((hi*4294967296+lo)/y)),(vK .u32 ((hi*4294967296+lo)%y))])):=by
 refine AS (args:=[(vK .u32 hi),(vK .u32 lo),(vK .u32 y)]) func231 O O (leB O) (zM (sL [0,1,2] O) (q4 (asg' O (asg' O (oNl' (q1 (q4 (AJ O (st' (Bf (c:=(decide (y≠0))) O O (Q8 (a:=y) (b:=0))) O (AJ O ?_))))))))))
 refine zg (FM:=[(0,(vK .u32 hi)),(1,(vK .u32 lo)),(2,(vK .u32 y)),(6,(Value.int .u32 (0:Int))),(7,(Value.int .u32 (0:Int))),(9,(vK .u32 y)),(10,(qa (decide (y≠0)))),(11,(qa (decide (y≠0)))),(15,(qa ((decide (y≠0))&&(decide (y<=hi)))))]) (LM:=[]) 4 ?_ ?_
 ·rcases xO (decide (y≠0)) with hg1|hg1
  ·refine zK (k:=11) (u:=qa true) O (by rw [hg1]) ?_
   have hg1':=xR hg1
   exact EV O (EV O (Au (v:=(qa (decide (y<=hi)))) O (Ee (c:=(decide (y<=hi))) O O (Qz (a:=y) (b:=hi))) (st' (v:=(qa (decide (y<=hi)))) (ex_pick_true O O) O (oNl' (zS Bi (xP _))))))
  ·refine zK (k:=11) (u:=qa false) O (by rw [hg1]) ?_
   have hg1':=xQ hg1
   exact Aw O (Aw O (Aw O (st' (v:=(qa false)) (AI O O) O (oNl' (zS Bi (xP _))))))
 refine oNl' (zF (sL [0,1,2,6,7,15] O) (zC ?_))
 refine zO O (λhc0=>?_) (λhc0=>?_)
 ·simp only [jK] at hc0
  exfalso;omega
 ·simp only [jK] at hc0
  refine zJ (q2 (AJ O (st' (A6 (c:=((hi:Nat):Int)) O underlying92 underlying69 (BT Z)) O (st' (v:=(vK .u64 (hi*4294967296))) (G4 (s:=32) O O O jY (HO (s:=32) Z)) O (AJ O (st' (A6 (c:=((lo:Nat):Int)) O underlying92 underlying69 (BT Z)) O (st' (Jk (c:=((hi*4294967296+lo:Nat):Int)) O O (KX Z Z (by rw [Nat.or_comm,Nat.add_comm];exact IF (s:=32) Z))) O ?_)))))))
  have hq:(hi*4294967296+lo)/y<4294967296:=Nat.div_lt_of_lt_mul (by have h9:(hi+1)*4294967296<=y*4294967296:=Nat.mul_le_mul_right _ hh;omega)
  have hr:(hi*4294967296+lo)%y<y:=Nat.mod_lt _ Z
  refine asg' O (q6 (sL [0,2,6,7,8] O) (CE (Dm 12) sr (Bl O (Bl O (Ag O (A6 (c:=((y:Nat):Int)) O underlying92 underlying69 (BT Z)) (Ag O (FV (c:=(((hi*4294967296+lo)/y:Nat):Int)) O O Z (Is (a:=hi*4294967296+lo) (b:=y) Z)) (Ag O (A6 (c:=(((hi*4294967296+lo)/y:Nat):Int)) O underlying69 underlying92 (C4 Z)) (Bl O (Bl O (Ag O (A6 (c:=((y:Nat):Int)) O underlying92 underlying69 (BT Z)) (Ag O (Dn (c:=(((hi*4294967296+lo)%y:Nat):Int)) O O Z (RL (a:=hi*4294967296+lo) (b:=y))) ?_)))))))))))
  exact Ag O (A6 (c:=(((hi*4294967296+lo)%y:Nat):Int)) O underlying69 underlying92 (C4 Z)) (pS' O (pS' O (zT (zF (sL [0,2,6,7] O) (zC (zH (BR O (rd_tmp (v:=(vK .u32 ((hi*4294967296+lo)/y))) O) (rd_tmp (v:=(vK .u32 ((hi*4294967296+lo)%y))) O) (λw hw=>⟨rfl,hw.out⟩))))))))
theorem WT (x:Nat) (hx:x<4294967296) (w:World)  :Calls prog 254 #[(vK .u32 x)] w (AX w (vN (bl x))):=by
 refine AS (args:=[(vK .u32 x)]) func254 O O (leB O) (zM (sL [0] O) (q4 (asg' O (oNl' (q1 (q4 (AJ O (st' (CU (c:=(decide (65536<=x))) O O (Qz (a:=65536) (b:=x))) O (oNl' (zF (sL [0,2,4] O) (zC ?_)))))))))))
 refine xI (tg λ(u:Nat) (n:Nat)=>u<65536/\n<=16/\bl x=bl u+n) (tg λ(u:Nat) (n:Nat)=>[(0,(vK .u32 u)),(2,(vN n))]) (tg λ(u:Nat) (n:Nat)=>[]) ?_ ?_
 ·refine zO O (λhc0=>?_) (λhc0=>?_)
  ·replace hc0:=xR hc0
   exact q4 (AJ O (st' (DD (s:=16) (c:=((x/65536:Nat):Int)) O O O jY (Gk (a:=x) (s:=16))) O (asg' O (oNl' (zF (sL [0,2] O) (zC (zQ (asg' O (oNl' (yd (x/65536) 16 (⟨Z,Z,Ol (k:=16) hc0⟩) (sF O) sr))))))))))
  ·replace hc0:=xQ hc0
   exact zJ (yd x 0 (⟨Z,Z,rfl⟩) (sF O) sr)
 ·intro u n hJ
  obtain ⟨hu,hn,hv⟩:=hJ
  refine q1 (q4 (AJ O (st' (CU (c:=(decide (256<=u))) O O (Qz (a:=256) (b:=u))) O (oNl' (zF (sL [0,2,8] O) (zC ?_))))))
  refine xI (tg λ(u2:Nat) (n2:Nat)=>u2<256/\n2<=24/\bl x=bl u2+n2) (tg λ(u2:Nat) (n2:Nat)=>[(0,(vK .u32 u2)),(2,(vN n2))]) (tg λ(u2:Nat) (n2:Nat)=>[]) ?_ ?_
  ·refine zO O (λhc1=>?_) (λhc1=>?_)
   ·replace hc1:=xR hc1
    refine q4 (AJ O (st' (DD (s:=8) (c:=((u/256:Nat):Int)) O O O jY (Gk (a:=u) (s:=8))) O (asg' O (oNl' (zF (sL [0,2] O) (zC (zQ (AJ O (st' (AV (c:=((n+8:Nat):Int)) O O (AY (a:=n) (b:=8) Z)) O (asg' O (oNl' ?_)))))))))))
    exact zF (sL [0,2] O) (yd (u/256) (n+8) (⟨Z,Z,by rw [hv,ax hc1];omega⟩) (sF O) sr)
   ·replace hc1:=xQ hc1
    exact zJ (yd u n (⟨Z,Z,hv⟩) (sF O) sr)
  ·intro u2 n2 hJ
   obtain ⟨hu2,hn2,hv2⟩:=hJ
   refine q2 (AJ O (AJ O (st' (A6 (c:=((u2:Nat):Int)) O underlying92 underlying5 (Ot Z)) O ?_)))
   have hb8:bl u2<=8:=VR (k:=8) hu2
   exact st' (v:=(vK .u8 (bl u2))) (IX (j:=u2) (m:=bl u2) O O underlying9 (cm jV hu2) Z) O (st' (A6 (c:=((bl u2:Nat):Int)) O underlying5 underlying3 (Ec Z)) O (st' (AV (c:=((bl x:Nat):Int)) O O (by rw [hv2,Int.add_comm,<-Int.natCast_add];exact Ec Z)) O (asg' O (oNl' (zF (sL [0,2] O) (zC (zH (ret_one O (rd_tmp (v:=(vN (bl x))) O) (λw hw=>⟨rfl,hw.out⟩)))))))))
theorem ZD (x:Nat) (hx:x<4294967296) (w:World)  :Calls prog 272 #[(vK .u32 x)] w (AX w (vN (32-bl x))):=by
 have hb:=VR (k:=32) hx
 refine AS (args:=[(vK .u32 x)]) func272 O O (leB O) (zM (sL [0] O) (q4 (asg' O (oNl' (q2 (AJ O (ck' call254 (WT _ Z) O (st' (Bc (c:=((32-(bl x):Nat):Int)) O O (B8 (a:=32) (b:=bl x) Z Z)) O (asg' O (oNl' (zF (sL [2] O) ?_)))))))))))
 exact zC (zH (ret_one O (rd_tmp (v:=(vN (32-(bl x)))) O) (λw hw=>⟨rfl,hw.out⟩)))
theorem Zp (z:Int) (hz:-9223372036854775808<=z) (hz2:z<9223372036854775808) (w:World)  :Calls prog 296 #[(vI z)] w (AX w (vI z.sign)):=by
 refine AS (args:=[(vI z)]) func296 O O (leB O) (zM (sL [0] O) (q4 (asg' O (oNl' (q2 (AJ O (st' (F7 (c:=(if z<1 then z else 1)) O O O) O (st' (E6 (c:=z.sign) O O (Xc z)) O (asg' O (oNl' (zF (sL [2] O) ?_)))))))))))
 exact zC (zH (ret_one O (rd_tmp (v:=(vI z.sign)) O) (λw hw=>⟨rfl,hw.out⟩)))
end
section
section
variable {P:Program} {n:Nat} {F:List (Nat×Value)} {w0:BA} {L:List As} {x y:Operand} {d:Option Tmp} {t:TypeId} {p:String} {af:Array Edge} {g:Option (Nat×Bool)}
def Fj (P:Program) (D:Nat) (T:TypeId) (u v:Value) (b:Bool):Prop:=∀w,(Op.equalIn D T u v).run P w=.ok b w
def I6 (P:Program) (D:Nat) (xs ys:List Value) (fs:List Field) (b:Bool):Prop:=∀w,(Op.eqFields D xs.toArray ys.toArray fs).run P w=.ok b w
theorem Fj.int {D:Nat} {T:TypeId} {k k':IntKind} {a b:Int} (h:P.underlying T=some (.int k')):Fj P (D+1) T (.int k a) (.int k b) (a == b):=λw=>run_equalIn_int w D T k k' a b h
theorem Fj.bool {D:Nat} {T:TypeId} {a b:Bool} (h:P.underlying T=some .bool):Fj P (D+1) T (.bool a) (.bool b) (a == b):=λw=>run_equalIn_bool' w D T a b h
theorem Fj.str {D:Nat} {T:TypeId} {a b:ByteArray} (h:P.underlying T=some .string):Fj P (D+1) T (.string a) (.string b) (a.toList == b.toList):=λw=>run_equalIn_string w D T a b h
theorem Fj.struct {D:Nat} {T:TypeId} {xs ys:List Value} {b:Bool} {fs:Array Field} (hu:P.underlying T=some (.struct fs)) (hp:P.stoodInHeld T=false) (h:I6 P D xs ys fs.toList b):Fj P (D+1) T (.agg xs.toArray) (.agg ys.toArray) b:=λw=>by
  have e:P.fieldsOf T=fs:=by simp [Program.fieldsOf,hu]
  rw [run_equalIn_struct w D T _ _ (by rw [e];exact hu) hp,e];exact h w
theorem I6.nil {D:Nat} {xs ys:List Value}:I6 P D xs ys [] true:=λw=>rfl
theorem I6.one {D : Nat} {xs ys : List Value} {f : Field} {fs : List Field} {a b : Value} {r s : Bool} (hn : f.name ≠ "_") (hg : ∀ w, (isAgg f.type).run P w = .ok false w) (ha : xs[f.offset]? = some a) (hb : ys[f.offset]? = some b)
    (h:Fj P D f.type a b r) (h2:I6 P D xs ys fs s):I6 P D xs ys (f::fs) (r&&s):=λw=>by
  have e1:(part f.type xs.toArray f.offset).run P w=.ok a w:=by simp [part,hg,ha]
  have e2:(part f.type ys.toArray f.offset).run P w=.ok b w:=by simp [part,hg,hb]
  simp only [Op.eqFields,Sem.run_ite,if_pos hn,Sem.run_bind,e1,e2,Result.andThen_ok,h w]
  cases r
  · simp
  · simp [h2 w]
theorem I6.agg {D k : Nat} {xs ys us bs : List Value} {f : Field} {fs : List Field} {r s : Bool} (hn : f.name ≠ "_") (hg : ∀ w, (isAgg f.type).run P w = .ok true w) (hs : ∀ w, (sizeOf f.type).run P w = .ok k w)
    (ha:(xs.drop f.offset).take k=us) (hb:(ys.drop f.offset).take k=bs)
    (h:Fj P D f.type (.agg us.toArray) (.agg bs.toArray) r) (h2:I6 P D xs ys fs s):I6 P D xs ys (f::fs) (r&&s):=λw=>by
  have ex:∀l:List Value,l.toArray.extract f.offset (f.offset+k)=((l.drop f.offset).take k).toArray:=λl=>by simp [List.extract_eq_take_drop]
  have e1:(part f.type xs.toArray f.offset).run P w=.ok (.agg us.toArray) w:=by simp [part,hg,hs,ex,ha]
  have e2:(part f.type ys.toArray f.offset).run P w=.ok (.agg bs.toArray) w:=by simp [part,hg,hs,ex,hb]
  simp only [Op.eqFields,Sem.run_ite,if_pos hn,Sem.run_bind,e1,e2,Result.andThen_ok,h w]
  cases r
  · simp
  · simp [h2 w]
theorem Cf {xs ys:List Value} {c:Bool} {tx ty:TypeId} (hx:evF F x=some (.agg xs.toArray)) (hy:evF F y=some (.agg ys.toArray)) (hg:P.eqGuardType P.depth tx=false) (hc:Fj P 10000 tx (.agg xs.toArray) (.agg ys.toArray) c) :
    Ex P n F w0 L ⟨d,.binOp .eql tx x y ty,t,p,af,g⟩ (.bool c):=λA w ha _=>by
  simp only [execOp,ha.ev hx,ha.ev hy,Sem.run_bind,run_eqGuard_agg w .eql tx x y _ _ hg,Result.andThen_ok,run_eql_struct,hc w,Sem.run_pure]
theorem Qn {xs ys:List Value} {c:Bool} {tx ty:TypeId} (hx:evF F x=some (.agg xs.toArray)) (hy:evF F y=some (.agg ys.toArray)) (hg:P.eqGuardType P.depth tx=false) (hc:Fj P 10000 tx (.agg xs.toArray) (.agg ys.toArray) c) :
    Ex P n F w0 L ⟨d,.binOp .neq tx x y ty,t,p,af,g⟩ (.bool (!c)):=λA w ha _=>by
  simp only [execOp,ha.ev hx,ha.ev hy,Sem.run_bind,run_eqGuard_agg w .neq tx x y _ _ hg,Result.andThen_ok,run_neq_struct,hc w,Sem.run_pure]
end
theorem VQ {a b:Nat} (ha:¬a<18446744073709551616) (hb:¬b<18446744073709551616) (h:Bs a=Bs b):a=b:=by
  rw [FR ha,FR hb] at h
  have h1:bytesN (AP a)=bytesN (AP b):=by
    have lt:∀(xs:List Nat),∀x∈bytesN xs,x<256:=λxs x hx=>by
      simp only [bytesN,List.mem_flatMap,xy,List.not_mem_nil,or_false] at hx
      obtain ⟨y,_,hy⟩:=hx
      omega
    have inj:∀(l r:List Nat),(∀x∈l,x<256)->(∀x∈r,x<256)->l.map UInt8.ofNat=r.map UInt8.ofNat->l=r:=by
      intro l
      induction l with
      | nil=>intro r _ _ h;cases r<;>simp_all
      | cons x l ih =>
        intro r hl hr h
        cases r with
        | nil=>simp at h
        | cons y r =>
          simp only [List.map_cons,List.cons.injEq] at h
          have e:x=y:=by
            have h3:=congrArg UInt8.toNat h.1
            have h4:=hl x jX
            have h5:=hr y jX
            simp at h3
            omega
          rw [e,ih r (λz hz=>hl z (by simp [hz])) (λz hz=>hr z (by simp [hz])) h.2]
    refine inj _ _ (lt _) (lt _) ?_
    have:=congrArg (λs:ByteArray=>s.data.toList) h
    simpa [Df] using this
  have h2:AP a=AP b:=by
    have hl:(AP a).length=(AP b).length:=by
      have:=congrArg List.length h1
      simp only [CC] at this
      omega
    apply List.ext_getElem hl
    intro i hi hi'
    have g:∀k,k<4->(AP a).getD i 0/256^k%256=(AP b).getD i 0/256^k%256:=λk hk=>by rw [<-GX _ _ _ hi hk,<-GX _ _ _ hi' hk,h1]
    have wa:=(Bz a).getD i
    have wb:=(Bz b).getD i
    have ea:(AP a).getD i 0=(AP a)[i]:=by simp [hi]
    have eb:(AP b).getD i 0=(AP b)[i]:=by simp [hi']
    rw [ea,eb] at g
    rw [ea] at wa
    rw [eb] at wb
    have g0:=g 0 Z
    have g1:=g 1 Z
    have g2:=g 2 Z
    have g3:=g 3 Z
    simp only [Nat.pow_zero,Nat.div_one,Nat.pow_one,show (256:Nat)^2=65536 from rfl,show (256:Nat)^3=16777216 from rfl] at g0 g1 g2 g3
    omega
  rw [<-Co a,<-Co b,h2]
theorem Yl (a b:Nat):((((B7 a:Nat):Int) == ((B7 b:Nat):Int))&&(((Bs a).toList == (Bs b).toList)&&true))=decide (a=b):=by
  by_cases e:a=b
  · subst e;simp
  · rw [xq e]
    by_cases ha:a<18446744073709551616
    · by_cases hb:b<18446744073709551616
      · rw [Bm ha,Bm hb]
        have:((a:Int) == (b:Int))=false:=by simp;omega
        rw [this];rfl
      · have h1:=Q_ hb
        rw [H5 ha,<-beq_toListBytes]
        have:(ByteArray.empty == Bs b)=false:=by
          rw [beq_toListBytes,ByteArray.toList_eq,ByteArray.toList_eq,FR hb]
          cases hl:(Df (bytesN (AP b))).data.toList with
          | nil =>
            have h3:=congrArg List.length hl
            simp [Df,CC] at h3
            unfold nw at h1
            omega
          | cons=>rfl
        rw [this];simp
    · by_cases hb:b<18446744073709551616
      · have h1:=Q_ ha
        rw [H5 hb,<-beq_toListBytes]
        have:(Bs a == ByteArray.empty)=false:=by
          rw [beq_toListBytes,ByteArray.toList_eq,ByteArray.toList_eq,FR ha]
          cases hl:(Df (bytesN (AP a))).data.toList with
          | nil =>
            have h3:=congrArg List.length hl
            simp [Df,CC] at h3
            unfold nw at h1
            omega
          | cons=>rfl
        rw [this];simp
      · rw [<-beq_toListBytes]
        have:(Bs a == Bs b)=false:=by
          cases hbb:Bs a == Bs b with
          | false=>rfl
          | true =>
            rw [beq_toListBytes] at hbb
            have h2:(Bs a).toList=(Bs b).toList:=by simpa using hbb
            rw [ByteArray.toList_eq,ByteArray.toList_eq] at h2
            have h3:Bs a=Bs b:=by
              cases hA:Bs a with|mk da=>cases hB:Bs b with|mk db =>
                rw [hA,hB] at h2
                congr 1
                exact Array.toList_inj.1 h2
            exact absurd (VQ ha hb h3) e
        rw [this];simp
theorem Ha (D a b:Nat):Fj prog (D+2) 71 (.agg (AT a).toArray) (.agg (AT b).toArray) (decide (a=b)):=by
  rw [<-Yl]
  exact Fj.struct underlying71 Tryz.stoodInHeld71 (I6.one jY isAgg69 O O (Fj.int underlying69) (I6.one jY isAgg9 O O (Fj.str underlying9) I6.nil))
end
end Go.Proofs.YtpolhpjiahbidaaGreatDoor
