import Derived.Test.YtpgncndhhhllfaaGreatDoorPart41
import Derived.Test.YtpgncndhhhllfaaGreatDoorPart42
namespace Go.Proofs.YtpgncndhhhllfaaGreatDoor
open Go Go.RowKit Go.Proofs.Tryz
set_option linter.unusedVariables false
set_option linter.unusedSimpArgs false
section
structure RO where
  p:Option Addr
  c:Nat
  l:List Nat
  ok:OwnOk p l.length c
abbrev LD:RO:=⟨none,0,[],OwnOk.none⟩
@[reducible] def Ha (x:RO):Value:=.slice x.p x.l.length x.c
def RD (T:Nat) (x:RO):As:=rowW x.p T 1 x.l.length x.c (inL x.l)
def Yx (x:RO):As:=AI x.p (inL x.l)
def Oh (T:Nat) (kvs:List (Nat×RO)):List As:=kvs.map λkv=>RD T kv.2
def Sv (T:Nat) (kvs:List (Nat×RO)) (k:Nat):List As:=Oh T (kvs.filter λkv=>decide (kv.1≠k))
def RE (kvs:List (Nat×RO)):List As:=kvs.map λkv=>Yx kv.2
def RH (kvs:List (Nat×RO)):List (Nat×List Nat):=kvs.map λkv=>(kv.1,kv.2.l)
section
variable {kvs:List (Nat×RO)} {k T:Nat} {s:RO}
theorem Qr {β:Type} {kvs:List (Nat×β)} {k:Nat} {s:β} (h:Ac kvs k=some s):(k,s)∈kvs:=by
  induction kvs with
  | nil=>cases h
  | cons x r ih =>
    obtain ⟨a,b⟩:=x
    unfold Ac at h
    split at h
    · rename_i e
      injection h with h
      subst e h
      exact List.mem_cons_self
    · exact List.mem_cons_of_mem _ (ih h)
theorem Ru:Ac (RH kvs) k=(Ac kvs k).map (·.l):=by
  induction kvs with
  | nil=>rfl
  | cons x r ih =>
    obtain ⟨a,b⟩:=x
    show Ac ((a,b.l)::RH r) k=(Ac ((a,b)::r) k).map (·.l)
    unfold Ac
    split
    · rfl
    · exact ih
theorem Ip {kvs:List (Nat×RO)} {k:Nat}:(Ac (RH kvs) k).getD []=((Ac kvs k).getD LD).l:=by
  rw [Ru]
  cases Ac kvs k<;>rfl
theorem Ja:RH (Az kvs k s)=Az (RH kvs) k s.l:=by
  induction kvs with
  | nil=>rfl
  | cons x r ih =>
    obtain ⟨a,b⟩:=x
    show RH (Az ((a,b)::r) k s)=Az ((a,b.l)::RH r) k s.l
    unfold Az
    split
    · rfl
    · show (a,b.l)::RH (Az r k s)=_
      rw [ih]
theorem R2 (h:Ac kvs k=none):Sv T kvs k=Oh T kvs:=by
  unfold Sv
  congr 1
  induction kvs with
  | nil=>rfl
  | cons x r ih =>
    obtain ⟨a,b⟩:=x
    unfold Ac at h
    split at h
    · cases h
    · rename_i e
      rw [List.filter_cons,if_pos (by simpa using λe2=>e e2.symm),ih h]
theorem roO_some (hm:F_ TK kvs) (h:Ac kvs k=some s):(Oh T kvs).Perm (RD T s::Sv T kvs k):=by
  have ho:=hm.once
  clear hm
  induction kvs with
  | nil=>cases h
  | cons x r ih =>
    obtain ⟨a,b⟩:=x
    obtain ⟨h1,h2⟩:=List.pairwise_cons.1 ho
    unfold Ac at h
    unfold Sv at ih ⊢
    rw [List.filter_cons]
    split at h
    · rename_i e
      subst e
      injection h with h
      subst h
      rw [if_neg (by simp)]
      have e:(r.filter λkv=>decide (kv.1≠k))=r:=List.filter_eq_self.2 λy hy=>decide_eq_true λe=>h1 y hy e.symm
      rw [e];exact List.Perm.refl _
    · rename_i e
      rw [if_pos (by simpa using λe2=>e e2.symm)]
      exact ((ih h h2).cons (RD T b)).trans (List.Perm.swap _ _ _)
theorem put_perm (hm:F_ TK kvs):(Oh T (Az kvs k s)).Perm (RD T s::Sv T kvs k):=by
  have ho:=hm.once
  clear hm
  induction kvs with
  | nil=>exact List.Perm.refl _
  | cons x r ih =>
    obtain ⟨a,b⟩:=x
    obtain ⟨h1,h2⟩:=List.pairwise_cons.1 ho
    unfold Az
    unfold Sv at ih ⊢
    rw [List.filter_cons]
    split
    · rename_i e
      subst e
      rw [if_neg (by simp)]
      have e:(r.filter λkv=>decide (kv.1≠k))=r:=List.filter_eq_self.2 λy hy=>decide_eq_true λe=>h1 y hy e.symm
      rw [e];exact List.Perm.refl _
    · rename_i e
      rw [if_pos (by simpa using λe2=>e e2.symm)]
      exact ((ih h2).cons (RD T b)).trans (List.Perm.swap _ _ _)
theorem LY {A1 A2:List As} (hm:F_ TK kvs):(A1++RD T s::(A2++Sv T kvs k)).Perm (A1++(A2++Oh T (Az kvs k s))):=by
  refine (List.Perm.refl A1).append ?_
  have h1:(RD T s::(A2++Sv T kvs k)).Perm (A2++RD T s::Sv T kvs k):=List.perm_middle.symm
  exact h1.trans ((List.Perm.refl A2).append (put_perm hm).symm)
end
section
variable {P:Program} {ops:Array Oper} {rest:List Oper} {Q:Exit->Act->World->Prop} {n:Nat} {F:List (Nat×Value)} {w0:A7} {L A:List As} {kvs:List (Nat×RO)} {k T:Nat}
theorem AD.pullRO (hm:F_ TK kvs) {sq:RO} (hs:sq=(Ac kvs k).getD LD) (next:AD P ops rest Q n F w0 (RD T sq::(A++Sv T kvs k))):AD P ops rest Q n F w0 (A++Oh T kvs):=by
  cases hg:Ac kvs k with
  | none =>
    rw [hg] at hs
    rw [R2 hg] at next
    subst hs
    exact AD.nilRow T 1 next
  | some s =>
    have hs:sq=s:=by rw [hg] at hs;exact hs
    subst hs
    refine AD.permL ?_ next
    have h1:(A++Oh T kvs).Perm (A++RD T sq::Sv T kvs k):=(List.Perm.refl A).append (roO_some hm hg)
    exact h1.trans List.perm_middle
theorem A_.frzRO {w:World} (h:A_ w0 w (A++Oh T kvs)):A_ w0 w (A++RE kvs):=by
  obtain ⟨h1,h2,h3⟩:=h
  refine ⟨h1,λx hx b e=>?_,?_⟩
  · rcases List.mem_append.1 hx with hx|hx
    · exact h2 x (List.mem_append_left _ hx) b e
    · obtain ⟨kv,hkv,rfl⟩:=List.mem_map.1 hx
      obtain ⟨_,o,ho,hp⟩:=h2 (RD T kv.2) (List.mem_append_right _ (List.mem_map.2 ⟨kv,hkv,rfl⟩)) b e
      exact ⟨.inl rfl,o,ho,Bu kv.2.ok (by rw [Bh,Nat.mul_one]) hp⟩
  · obtain ⟨p1,p2,p3⟩:=List.pairwise_append.1 h3
    refine List.pairwise_append.2 ⟨p1,?_,λx hx y hy=>?_⟩
    · unfold RE
      unfold Oh at p2
      rw [List.pairwise_map] at p2 ⊢
      exact p2.imp λ{a b} h=>h.elim (λk=>by cases k.1) (λk=>.inr k)
    · obtain ⟨kv,hkv,rfl⟩:=List.mem_map.1 hy
      rcases p3 x hx (RD T kv.2) (List.mem_map.2 ⟨kv,hkv,rfl⟩) with k|k
      · cases k.2
      · exact .inr k
theorem AD.frzRO (next:AD P ops rest Q n F w0 (A++RE kvs)):AD P ops rest Q n F w0 (A++Oh T kvs):=λa w ha hW=>next a w ha (A_.frzRO hW)
theorem AD.dupRO {sq:RO} (hs:sq=(Ac kvs k).getD LD) (next:AD P ops rest Q n F w0 (Yx sq::(A++RE kvs))):AD P ops rest Q n F w0 (A++RE kvs):=λa w ha hW=>by
  refine next a w ha ?_
  cases hg:Ac kvs k with
  | none=>rw [hg] at hs;subst hs;exact hW.addRo (Dk.refl _ _) rfl (λb e=>by cases e) (λb e=>by cases e)
  | some s =>
    have hs:sq=s:=by rw [hg] at hs;exact hs
    subst hs
    have hmm:(k,sq)∈kvs:=Qr hg
    have hm:Yx sq∈A++RE kvs:=List.mem_append_right _ (List.mem_map.2 ⟨(k,sq),hmm,rfl⟩)
    exact hW.addRo (Dk.refl _ _) rfl (λb e=>(hW.2.1 _ hm b e).2) (λb e=>.inr ⟨_,hm,rfl,e⟩)
theorem AD.shrink (i:Nat) {q:Option Addr} {z m m' c:Nat} {cs:List Value} (hi:L[i]?=some (rowW q T z m c cs)) (hm:m'<=m) {L':List As} (hs:LE L i (rowW q T z m' c (cs.take (m'*z)))=some L') (next:AD P ops rest Q n F w0 L'):AD P ops rest Q n F w0 L:=λa w ha hW=>by
  refine next a w ha (FN hs▸hW.freeze hi rfl (λo hp=>?_) (λe=>by cases e))
  obtain ⟨cur,rfl,h1,h2⟩:=hp
  refine ⟨cur,rfl,h1,?_⟩
  have hz:m'*z<=m*z:=Nat.mul_le_mul_right _ hm
  rw [<-h2,List.take_take,Nat.min_eq_left hz]
end
section
variable {P:Program} {ops:Array Oper} {rest:List Oper} {Q:Exit->Act->World->Prop} {n d i z m c c2:Nat} {F:List (Nat×Value)} {w0:A7} {L:List As} {t ty T:TypeId} {p:String} {af:Array Edge} {x y:Operand} {cs vs cs':List Value} {q:Option Addr} {v u:Value} {A0 A1 A2 A3 A4:As}
theorem AD.storeRow4 {j n':Nat} (hx:evF F x=some (pP (pB q) (pO q+j*1))) (hy:evF F y=some v) (ho:OwnOk q n' c) (hcl:cs.length=n'*1) (hj:j<n')
    (hv:v.cells=#[v]) (hs:∀w,(sizeOf ty).run P w=.ok 1 w) (h1:v.oneCell'=true) (hc:cs.set j v=cs') (next:AD P ops rest Q n F w0 (A0::A1::A2::A3::rowW q T 1 n' c cs'::L)):AD P ops (⟨none,.store ty x y,t,p,af,none⟩::rest) Q n F w0 (A0::A1::A2::A3::rowW q T 1 n' c cs::L):=by
  subst hc
  rw [<-Gz (by omega)] at next
  exact AD.storeRow 4 (vs:=[v]) hx hy rfl ho hcl (ho.row.ne (by omega)) hv hs (by simp [h1]) (by simp;omega) next
end
theorem OwnOk.less {p:Option Addr} {n n' c:Nat} (h:OwnOk p n c) (hn:n'<=n):OwnOk p n' c:=⟨λe=>⟨by have:=(h.nil e).1;omega,(h.nil e).2⟩,h.at0,Nat.le_trans hn h.le,h.max⟩
def XJ (ts:List T3) (s:Nat):Nat:=CU (ts.getD (s/3) (0,0,0)) (s%3)
def RK (ts:List T3):Nat->List (Nat×List Nat)
  | 0=>[]
  | s+1=>Az (RK ts s) (XJ ts s) ((Ac (RK ts s) (XJ ts s)).getD []++[s/3])
def Ik (ts:List T3) (p:Nat):List Nat:=(Ac (RK ts (3*ts.length)) p).getD []
section
variable {ts:List T3} {N:Nat}
theorem E8 {l:List Nat} {j:Nat} (h:j<l.length):l.getD j 0∈l:=by rw [List.getD,List.getElem?_eq_getElem h];exact List.getElem_mem h
theorem LV {p o:Nat}:∀s,o∈(Ac (RK ts s) p).getD []↔∃u,u<s/\XJ ts u=p/\u/3=o
  | 0=>⟨λh=>(by cases h),λ⟨u,h,_⟩=>absurd h (Nat.not_lt_zero _)⟩
  | s+1=>by
    show o∈(Ac (Az _ _ _) p).getD []↔_
    rw [CR]
    split
    · rename_i e
      rw [Option.getD_some,List.mem_append,List.mem_singleton,<-e,LV s]
      constructor
      · rintro (⟨u,h1,h2,h3⟩|h)
        · exact ⟨u,by omega,h2,h3⟩
        · exact ⟨s,by omega,e.symm,h.symm⟩
      · rintro ⟨u,h1,h2,h3⟩
        rcases Nat.lt_or_ge u s with h4|h4
        · exact .inl ⟨u,h4,h2,h3⟩
        · exact .inr (by rw [<-h3,show u=s by omega])
    · rename_i e
      rw [LV s]
      constructor
      · rintro ⟨u,h1,h2,h3⟩;exact ⟨u,by omega,h2,h3⟩
      · rintro ⟨u,h1,h2,h3⟩
        refine ⟨u,?_,h2,h3⟩
        rcases Nat.lt_or_ge u s with h4|h4
        · exact h4
        · exact absurd (by rw [<-h2,show u=s by omega]) e
theorem FK {p o:Nat}:o∈Ik ts p↔o<ts.length/\∃r,r<3/\CU (ts.getD o (0,0,0)) r=p:=by
  unfold Ik
  rw [LV]
  constructor
  · rintro ⟨u,h1,h2,rfl⟩;exact ⟨by omega,u%3,by omega,h2⟩
  · rintro ⟨h1,r,h2,h3⟩
    refine ⟨3*o+r,by omega,?_,by omega⟩
    unfold XJ
    rw [show (3*o+r)/3=o by omega,show (3*o+r)%3=r by omega];exact h3
theorem F9 {p:Nat}:∀s,((Ac (RK ts s) p).getD []).length<=s
  | 0=>Nat.le_refl _
  | s+1=>by
    show ((Ac (Az _ _ _) p).getD []).length<=_
    rw [CR]
    split
    · rw [Option.getD_some,List.length_append];have:=F9 (p:=XJ ts s) s;show _+1<=_;omega
    · have:=F9 (p:=p) s;omega
theorem Kz (p:Nat):(Ik ts p).length<=3*ts.length:=F9 _
theorem JD {t r:Nat} (hr:r<3):RK ts (3*t+r+1)=Az (RK ts (3*t+r)) (CU (ts.getD t (0,0,0)) r) ((Ac (RK ts (3*t+r)) (CU (ts.getD t (0,0,0)) r)).getD []++[t]):=by
  show Az _ _ _=_
  unfold XJ
  rw [show (3*t+r)/3=t by omega,show (3*t+r)%3=r by omega]
def Se (ts:List T3) (i j:Nat):Prop:=∃r s,r<3/\s<3/\CU (ts.getD i (0,0,0)) r=CU (ts.getD j (0,0,0)) s
theorem Se.symm {i j:Nat} (h:Se ts i j):Se ts j i:=by obtain ⟨r,s,a,b,c⟩:=h;exact ⟨s,r,b,a,c.symm⟩
theorem OW {k u:Nat} (hu:u<ts.length):Se ts k u↔∃r,r<3/\u∈Ik ts (CU (ts.getD k (0,0,0)) r):=by
  constructor
  · rintro ⟨r,s,h1,h2,h3⟩;exact ⟨r,h1,FK.2 ⟨hu,s,h2,h3.symm⟩⟩
  · rintro ⟨r,h1,h2⟩;obtain ⟨_,s,h3,h4⟩:=FK.1 h2;exact ⟨r,s,h1,h3,h4.symm⟩
inductive Jv (ts:List T3) (i:Nat):Nat->Prop
  | refl:Jv ts i i
  | step {j k:Nat}:Jv ts i j->k<ts.length->Se ts j k->Jv ts i k
theorem Jv.trans {i j k:Nat} (h:Jv ts i j) (h2:Jv ts j k):Jv ts i k:=by
  induction h2 with
  | refl=>exact h
  | step _ a b ih=>exact .step ih a b
theorem Jv.symm {i j:Nat} (hi:i<ts.length) (h:Jv ts i j):Jv ts j i:=by
  have key:j<ts.length/\Jv ts j i:=by
    induction h with
    | refl=>exact ⟨hi,.refl⟩
    | step _ a b ih=>exact ⟨a,(Jv.step .refl ih.1 b.symm).trans ih.2⟩
  exact key.2
abbrev gZ (l:List Int) (s:Nat):Int:=l.getD s 0
theorem EM {l:List Int} {o s:Nat} {z:Int} (ho:o<l.length):gZ (l.set o z) s=if s=o then z else gZ l s:=by
  unfold gZ
  rw [List.getD,List.getElem?_set]
  by_cases h:o=s
  · subst h;rw [if_pos rfl,if_pos ho,if_pos rfl];rfl
  · rw [if_neg h,if_neg (λe=>h e.symm)];rfl
structure Ox (ts:List T3) (t n:Nat) (l:List Int):Prop where
  len:l.length=ts.length
  rng:∀s,s<ts.length -> -1<=gZ l s/\gZ l s<n
  done:∀s,s<t->0<=gZ l s
  clo:∀s u,s<ts.length->u<ts.length->Se ts s u->0<=gZ l s->gZ l u=gZ l s
  fst:∀k,k<n->∃f,f<t/\gZ l f=(k:Int)/\∀s,s<f->gZ l s<k
  cnx:∀s u,s<ts.length->u<ts.length->0<=gZ l s->gZ l s=gZ l u->Jv ts s u
  nle:n<=t
structure La (ts:List T3) (t n:Nat) (l0 l:List Int) (td:List Nat) (k r j:Nat):Prop where
  len:l.length=ts.length
  old:∀s,s<ts.length->0<=gZ l0 s->gZ l s=gZ l0 s
  new:∀s,s<ts.length->gZ l0 s<0->gZ l s = -1\/gZ l s=n/\Jv ts t s
  root:gZ l t=n
  tdn:∀s∈td,s<ts.length/\gZ l s=n/\gZ l0 s<0
  nd:td.Nodup
  kk:k<ts.length/\gZ l k=n/\gZ l0 k<0
  prc:∀s,s<ts.length->gZ l0 s<0->gZ l s=n->s ∉ td->s≠k->∀u,u<ts.length->Se ts s u->gZ l u=n
  part:∀r',r'<r->∀u∈Ik ts (CU (ts.getD k (0,0,0)) r'),gZ l u=n
  pj:∀q,q<j->gZ l ((Ik ts (CU (ts.getD k (0,0,0)) r)).getD q 0)=n
structure Tx (ts:List T3) (t n:Nat) (l0 l:List Int) (td:List Nat):Prop where
  len:l.length=ts.length
  old:∀s,s<ts.length->0<=gZ l0 s->gZ l s=gZ l0 s
  new:∀s,s<ts.length->gZ l0 s<0->gZ l s = -1\/gZ l s=n/\Jv ts t s
  root:gZ l t=n
  tdn:∀s∈td,s<ts.length/\gZ l s=n/\gZ l0 s<0
  nd:td.Nodup
  prc:∀s,s<ts.length->gZ l0 s<0->gZ l s=n->s ∉ td->∀u,u<ts.length->Se ts s u->gZ l u=n
def Qq (l:List Int) (td:List Nat):Nat:=2*l.count (-1)+td.length
variable {t n k r j o:Nat} {l0 l:List Int} {td:List Nat}
theorem Ox.start (hl:l.length=ts.length) (h:∀s,s<ts.length->gZ l s = -1):Ox ts 0 0 l:=⟨hl,λs hs=>by rw [h s hs];omega,λs hs=>absurd hs (Nat.not_lt_zero _),λs u hs _ _ h0=>by rw [h s hs] at h0;omega,λk hk=>absurd hk (Nat.not_lt_zero _),λs u hs _ h0=>by rw [h s hs] at h0;omega,Nat.le_refl _⟩
theorem Ox.next (h:Ox ts t n l) (ht:0<=gZ l t):Ox ts (t+1) n l:=⟨h.len,h.rng,λs hs=>by
    rcases Nat.lt_or_ge s t with h1|h1
    · exact h.done s h1
    · rw [show s=t by omega];exact ht,h.clo,λk hk=>by obtain ⟨f,a,b,c⟩:=h.fst k hk;exact ⟨f,by omega,b,c⟩,h.cnx,by have:=h.nle;omega⟩
theorem Tx.start (h:Ox ts t n l0) (ht:t<ts.length) (hn:gZ l0 t<0):Tx ts t n l0 (l0.set t n) [t]:=by
  have hlt:t<l0.length:=by rw [h.len];exact ht
  refine ⟨by rw [List.length_set,h.len],λs hs h0=>?_,λs hs h0=>?_,by rw [EM hlt,if_pos rfl],λs hs=>?_,by simp,λs hs h0 hn' hnt u hu htc=>?_⟩
  · rw [EM hlt,if_neg (λe=>by subst e;omega)]
  · rw [EM hlt]
    split
    · rename_i e;subst e;exact .inr ⟨rfl,.refl⟩
    · exact .inl (by have:=(h.rng s hs).1;omega)
  · rw [List.mem_singleton] at hs
    subst hs
    exact ⟨ht,by rw [EM hlt,if_pos rfl],hn⟩
  · rw [List.mem_singleton] at hnt
    rw [EM hlt,if_neg hnt] at hn'
    have:=(h.rng s hs).2
    omega
theorem Tx.tl (h:Tx ts t n l0 l td):td.length<=ts.length:=Fj h.nd λx hx=>(h.tdn x hx).1
theorem Tx.pop (h:Tx ts t n l0 l td) (h0:0<td.length):La ts t n l0 l (td.take (td.length-1)) (td.getD (td.length-1) 0) 0 0:=by
  have e:td=td.take (td.length-1)++[td.getD (td.length-1) 0]:=by
    have:=F0 (l:=td) (d:=0) (i:=td.length-1) (by omega)
    rw [show td.length-1+1=td.length by omega,List.take_length] at this
    exact this
  have hmem:∀s,s∈td↔s∈td.take (td.length-1)\/s=td.getD (td.length-1) 0:=λs=>by
    conv=>lhs;rw [e]
    rw [List.mem_append,List.mem_singleton]
  refine ⟨h.len,h.old,h.new,h.root,λs hs=>h.tdn s ((hmem s).2 (.inl hs)),h.nd.sublist (List.take_sublist _ _),h.tdn _ ((hmem _).2 (.inr rfl)),λs hs h1 h2 h3 h4=>h.prc s hs h1 h2 (λh5=>((hmem s).1 h5).elim h3 h4),λr' hr=>absurd hr (Nat.not_lt_zero _),λq hq=>absurd hq (Nat.not_lt_zero _)⟩
theorem V7 (h0:0<td.length):Qq l (td.take (td.length-1))<Qq l td:=by unfold Qq;rw [List.length_take];omega
theorem La.keep (h:La ts t n l0 l td k r j) (hP:Ox ts t n l0) (ho:o=(Ik ts (CU (ts.getD k (0,0,0)) r)).getD j 0) (hj:j<(Ik ts (CU (ts.getD k (0,0,0)) r)).length) (hr:r<3) (hl:0<=gZ l o):La ts t n l0 l td k r (j+1):=by
  have hm:o∈Ik ts (CU (ts.getD k (0,0,0)) r):=by rw [ho];exact E8 hj
  have hot:=(FK.1 hm).1
  have htc:Se ts k o:=(OW hot).2 ⟨r,hr,hm⟩
  refine ⟨h.len,h.old,h.new,h.root,h.tdn,h.nd,h.kk,h.prc,h.part,λq hq=>?_⟩
  rcases Nat.lt_or_ge q j with h1|h1
  · exact h.pj q h1
  · rw [show q=j by omega,<-ho]
    rcases Int.lt_or_le (gZ l0 o) 0 with h2|h2
    · rcases h.new o hot h2 with h3|h3
      · omega
      · exact h3.1
    · have:=hP.clo o k hot h.kk.1 htc.symm h2
      have:=h.kk.2.2
      omega
theorem La.push (h:La ts t n l0 l td k r j) (hP:Ox ts t n l0) (ht:t<ts.length) (ho:o=(Ik ts (CU (ts.getD k (0,0,0)) r)).getD j 0) (hj:j<(Ik ts (CU (ts.getD k (0,0,0)) r)).length) (hr:r<3) (hl:gZ l o<0):La ts t n l0 (l.set o n) (td++[o]) k r (j+1):=by
  have hm:o∈Ik ts (CU (ts.getD k (0,0,0)) r):=by rw [ho];exact E8 hj
  have hot:=(FK.1 hm).1
  have htc:Se ts k o:=(OW hot).2 ⟨r,hr,hm⟩
  have hlt:o<l.length:=by rw [h.len];exact hot
  have h0:gZ l0 o<0:=by
    rcases Int.lt_or_le (gZ l0 o) 0 with h2|h2
    · exact h2
    · have:=h.old o hot h2;omega
  have hck:Jv ts t k:=by
    rcases h.new k h.kk.1 h.kk.2.2 with h3|h3
    · have:=h.kk.2.1;omega
    · exact h3.2
  have up:∀s,gZ l s=n->gZ (l.set o n) s=n:=λs hs=>by
    rw [EM hlt];split
    · rfl
    · exact hs
  refine ⟨by rw [List.length_set,h.len],λs hs h1=>?_,λs hs h1=>?_,up _ h.root,λs hs=>?_,?_,⟨h.kk.1,up _ h.kk.2.1,h.kk.2.2⟩,λs hs h1 h2 h3 h4 u hu h5=>?_,λr' hr' u hu=>up _ (h.part r' hr' u hu),λq hq=>?_⟩
  · rw [EM hlt,if_neg (λe=>by subst e;omega)];exact h.old s hs h1
  · rw [EM hlt]
    split
    · rename_i e;subst e;exact .inr ⟨rfl,hck.step hs htc⟩
    · exact h.new s hs h1
  · rcases List.mem_append.1 hs with hs|hs
    · obtain ⟨a,b,c⟩:=h.tdn s hs;exact ⟨a,up _ b,c⟩
    · rw [List.mem_singleton] at hs;subst hs;exact ⟨hot,by rw [EM hlt,if_pos rfl],h0⟩
  · refine List.nodup_append.2 ⟨h.nd,by simp,λa ha b hb e=>?_⟩
    rw [List.mem_singleton] at hb
    subst hb e
    have:=(h.tdn a ha).2.1
    omega
  · have hso:s≠o:=λe=>h3 (List.mem_append_right _ (List.mem_singleton.2 e))
    rw [EM hlt,if_neg hso] at h2
    exact up _ (h.prc s hs h1 h2 (λh6=>h3 (List.mem_append_left _ h6)) h4 u hu h5)
  · rcases Nat.lt_or_ge q j with h1|h1
    · exact up _ (h.pj q h1)
    · rw [show q=j by omega,<-ho,EM hlt,if_pos rfl]
theorem La.tl (h:La ts t n l0 l td k r j):td.length<=ts.length:=Fj h.nd λx hx=>(h.tdn x hx).1
theorem La.isneg (h:La ts t n l0 l td k r j) (ho:o<ts.length) (hl:gZ l o<0):gZ l o = -1:=by
  rcases Int.lt_or_le (gZ l0 o) 0 with h2|h2
  · rcases h.new o ho h2 with h3|h3
    · exact h3
    · omega
  · have:=h.old o ho h2;omega
theorem Ln (ho:o<l.length) (hl:gZ l o = -1):Qq (l.set o (n:Int)) (td++[o])<Qq l td:=by
  have hp:0<l.count (-1):=List.count_pos_iff.2 (by rw [<-hl];unfold gZ;rw [List.getD,List.getElem?_eq_getElem ho];exact List.getElem_mem ho)
  have e:(l.set o (n:Int)).count (-1)=l.count (-1)-1:=by
    rw [List.count_set ho]
    have h1:l[o] = -1:=by unfold gZ at hl;rw [List.getD,List.getElem?_eq_getElem ho] at hl;exact hl
    simp [h1]<;>omega
  unfold Qq
  rw [e,List.length_append]
  show _+(_+1)<_
  omega
theorem La.corner (h:La ts t n l0 l td k r j) (hj:(Ik ts (CU (ts.getD k (0,0,0)) r)).length<=j):La ts t n l0 l td k (r+1) 0 :=
  ⟨h.len,h.old,h.new,h.root,h.tdn,h.nd,h.kk,h.prc,λr' hr u hu=>by
    rcases Nat.lt_or_ge r' r with h1|h1
    · exact h.part r' h1 u hu
    · rw [show r'=r by omega] at hu
      obtain ⟨q,hq,rfl⟩:=List.getElem_of_mem hu
      have:=h.pj q (by omega)
      rw [List.getD,List.getElem?_eq_getElem hq] at this
      exact this,λq hq=>absurd hq (Nat.not_lt_zero _)⟩
theorem La.close (h:La ts t n l0 l td k 3 0):Tx ts t n l0 l td:=⟨h.len,h.old,h.new,h.root,h.tdn,h.nd,λs hs h1 h2 h3 u hu h5=>by
  by_cases e:s=k
  · subst e
    obtain ⟨r,hr,hm⟩:=(OW hu).1 h5
    exact h.part r hr u hm
  · exact h.prc s hs h1 h2 h3 e u hu h5⟩
theorem Tx.finish (h:Tx ts t n l0 l td) (hP:Ox ts t n l0) (ht:t<ts.length) (h0:td.length=0) (hn:gZ l0 t<0):Ox ts (t+1) (n+1) l:=by
  have htd:td=[]:=List.eq_nil_of_length_eq_zero h0
  subst htd
  have cs:∀s,s<ts.length->(0<=gZ l0 s/\gZ l s=gZ l0 s)\/(gZ l0 s<0/\(gZ l s = -1\/gZ l s=n/\Jv ts t s)):=λs hs=>by
    rcases Int.lt_or_le (gZ l0 s) 0 with h2|h2
    · exact .inr ⟨h2,h.new s hs h2⟩
    · exact .inl ⟨h2,h.old s hs h2⟩
  refine ⟨h.len,λs hs=>?_,λs hs=>?_,λs u hs hu htc h1=>?_,λk hk=>?_,λs u hs hu h1 h2=>?_,by have:=hP.nle;omega⟩
  · have:=hP.rng s hs
    rcases cs s hs with ⟨a,b⟩|⟨a,b|b⟩<;>omega
  · rcases Nat.lt_or_ge s t with h1|h1
    · have h2:=hP.done s h1
      rw [h.old s (by omega) h2];exact h2
    · rw [show s=t by omega,h.root];omega
  · rcases cs s hs with ⟨a,b⟩|⟨a,b|b⟩
    · have h3:=hP.clo s u hs hu htc a
      rw [b,h.old u hu (by omega),h3]
    · omega
    · rw [b.1];exact h.prc s hs a b.1 (by simp) u hu htc
  · rcases Nat.lt_or_ge k n with h1|h1
    · obtain ⟨f,a,b,c⟩:=hP.fst k h1
      refine ⟨f,by omega,by rw [h.old f (by omega) (by omega)];exact b,λs hs=>?_⟩
      have:=hP.done s (by omega)
      rw [h.old s (by omega) this];exact c s hs
    · refine ⟨t,by omega,by rw [h.root,show k=n by omega],λs hs=>?_⟩
      have h2:=hP.done s hs
      rw [h.old s (by omega) h2]
      have:=(hP.rng s (by omega)).2
      omega
  · rcases cs s hs with ⟨a,b⟩|⟨a,b|b⟩
    · rcases cs u hu with ⟨a',b'⟩|⟨a',b'|b'⟩
      · exact hP.cnx s u hs hu a (by omega)
      · omega
      · have:=(hP.rng s hs).2;omega
    · omega
    · rcases cs u hu with ⟨a',b'⟩|⟨a',b'|b'⟩
      · have:=(hP.rng u hu).2;omega
      · omega
      · exact (b.2.symm ht).trans b'.2
end
structure Pv (ts:List T3) (l:List Int) (n:Nat):Prop where
  len:l.length=ts.length
  rng:∀s,s<ts.length->0<=gZ l s/\gZ l s<n
  clo:∀s u,s<ts.length->u<ts.length->Se ts s u->gZ l u=gZ l s
  fst:∀k,k<n->∃f,f<ts.length/\gZ l f=(k:Int)/\∀s,s<f->gZ l s<k
  cnx:∀s u,s<ts.length->u<ts.length->gZ l s=gZ l u->Jv ts s u
  nle:n<=ts.length
theorem Ox.fin {ts:List T3} {n:Nat} {l:List Int} (h:Ox ts ts.length n l):Pv ts l n:=⟨h.len,λs hs=>⟨h.done s hs,(h.rng s hs).2⟩,λs u hs hu htc=>h.clo s u hs hu htc (h.done s hs),h.fst,λs u hs hu=>h.cnx s u hs hu (h.done s hs),h.nle⟩
structure XL (ts:List T3) where
  l:List Int
  n:Nat
  pts:Pv ts l n
  r:RX (zL l) l.length
instance {ts:List T3}:Ch (XL ts):=⟨λx=>.tuple #[x.r.val,vN x.n],λx=>[x.r.row],λx y hy=>by rcases List.mem_singleton.1 hy with rfl;rfl⟩
theorem Xp {S:Nat->Prop} {W w:World} {L:List As} {ts:List T3} {l:List Int} {n:Nat} (hw:A_ ⟨W,none⟩ w L) (i:Nat) {q:Option Addr} {T m c:Nat} (hi:L[i]?=some (rowW q T 1 m c (zL l))) (ho:OwnOk q m c) (hl:m=l.length) (h:Pv ts l n) {v:Value} (hv:v=.tuple #[.slice q m c,vN n]):Av (XL ts) S W (.returned v) w:=by
  subst hl
  refine ⟨⟨l,n,h,⟨q,c,ho.row⟩⟩,by rw [hv];rfl,hw.out,λy hy=>?_⟩
  rcases List.mem_singleton.1 hy with rfl
  exact Dx hw i hi ho (by rw [Ce,Nat.mul_one])
def RF (n t:Nat):List Int:=List.replicate t (-1)++List.replicate (n-t) 0
theorem Pi {n t:Nat} (h:t<=n):(RF n t).length=n:=by unfold RF;rw [List.length_append,List.length_replicate,List.length_replicate];omega
theorem VO {n t:Nat} (h:t<n):(RF n t).set t (-1)=RF n (t+1):=by
  unfold RF
  rw [List.set_append_right _ _ (by rw [List.length_replicate];exact Nat.le_refl _),List.length_replicate,Nat.sub_self,show n-t=(n-(t+1))+1 by omega,List.replicate_succ,List.set_cons_zero,List.replicate_succ',List.append_assoc];rfl
theorem UY {n s:Nat} (h:s<n):gZ (RF n n) s = -1:=by
  unfold RF gZ
  rw [Nat.sub_self,List.replicate_zero,List.append_nil,List.getD,List.getElem?_replicate,if_pos h];rfl
section
variable {ts:List T3} {n n':Nat} {l l':List Int}
theorem Pv.iff (h:Pv ts l n) {s u:Nat} (hs:s<ts.length) (hu:u<ts.length):gZ l s=gZ l u↔Jv ts s u:=by
  refine ⟨h.cnx s u hs hu,λc=>?_⟩
  have key:u<ts.length->gZ l s=gZ l u:=by
    clear hu
    induction c with
    | refl=>intro _;rfl
    | step c1 hk htc ih =>
      rename_i j k
      intro _
      have hj:j<ts.length:=by
        cases c1 with
        | refl=>exact hs
        | step _ a _=>exact a
      rw [ih hj,h.clo _ _ hj hk htc]
  exact key hu
theorem Rb (h:Pv ts l n) (h':Pv ts l' n') {k:Nat} (ih:∀j,j<k->∀s,s<ts.length->(gZ l s=(j:Int)↔gZ l' s=(j:Int))) (hk:k<n):k<n'/\∀s,s<ts.length->(gZ l s=(k:Int)↔gZ l' s=(k:Int)):=by
  obtain ⟨f,hf,f1,f2⟩:=h.fst k hk
  have hr:=h'.rng f hf
  have hv:(k:Int)<=gZ l' f:=by
    rcases Int.lt_or_le (gZ l' f) k with h1|h1
    · have h2:=(ih (gZ l' f).toNat (by omega) f hf).2 (by omega)
      omega
    · exact h1
  have hkn:k<n':=by omega
  obtain ⟨g,hg,g1,g2⟩:=h'.fst k hkn
  have hu:(k:Int)<=gZ l g:=by
    have hr2:=h.rng g hg
    rcases Int.lt_or_le (gZ l g) k with h1|h1
    · have h2:=(ih (gZ l g).toNat (by omega) g hg).1 (by omega)
      omega
    · exact h1
  have hfg:f=g:=by
    rcases Nat.lt_trichotomy f g with h1|h1|h1
    · have:=g2 f h1;omega
    · exact h1
    · have:=f2 g h1;omega
  subst hfg
  refine ⟨hkn,λs hs=>?_⟩
  rw [<-f1,h.iff hs hf,f1,<-g1,h'.iff hs hf]
theorem Pg (h:Pv ts l n) (h':Pv ts l' n') (k:Nat):k<n->k<n'/\∀s,s<ts.length->(gZ l s=(k:Int)↔gZ l' s=(k:Int)):=by
  induction k using Nat.strongRecOn with
  | ind k ih=>exact λhk=>Rb h h' (λj hj=>(ih j hj (by omega)).2) hk
theorem Xl (h:Pv ts l n) (h':Pv ts l' n'):n=n':=by
  have h1:n<=n':=by
    rcases Nat.eq_zero_or_pos n with e|e
    · omega
    · have:=(Pg h h' (n-1) (by omega)).1;omega
  have h2:n'<=n:=by
    rcases Nat.eq_zero_or_pos n' with e|e
    · omega
    · have:=(Pg h' h (n'-1) (by omega)).1;omega
  omega
theorem Ou (h:Pv ts l n) (h0:0<ts.length) (hc:∀s,s<ts.length->Jv ts 0 s):n=1:=by
  have hr:=h.rng 0 h0
  rcases Nat.lt_or_ge 1 n with h1|h1
  · obtain ⟨f,hf,f1,_⟩:=h.fst 0 (by omega)
    obtain ⟨g,hg,g1,_⟩:=h.fst 1 h1
    have e1:=(h.iff h0 hf).2 (hc f hf)
    have e2:=(h.iff h0 hg).2 (hc g hg)
    omega
  · omega
end
structure YM (l:List Nat) where
  r:RX (inL l) l.length
  q:RX [Value.slice r.p l.length r.c] 1
instance {l:List Nat}:Ch (YM l):=⟨λx=>x.q.val,λx=>[x.q.row,x.r.row],λx y hy=>by simp only [List.mem_cons,List.not_mem_nil,or_false] at hy;rcases hy with rfl|rfl<;>rfl⟩
theorem WA {S:Nat->Prop} {W w:World} {ls:List (List Nat)} {l:List Nat} {e:Ending} (hl:ls=[l]) (h:Av (X8 ls) S W e w):Av (YM l) S W e w:=by
  subst hl
  obtain ⟨⟨rs,he,q⟩,h1,h2,h3⟩:=h
  cases rs with
  | nil=>simp at he
  | cons r t =>
    cases t with
    | cons _ _=>simp at he
    | nil =>
      have e2:r.l=l:=by simpa using he
      subst e2
      exact ⟨⟨⟨r.p,r.c,r.ok⟩,q⟩,h1,h2,h3⟩
structure YH (n:Nat) where
  cs:List Value
  q:RX cs n
instance {n:Nat}:Ch (YH n):=⟨λx=>x.q.val,λx=>[x.q.row],λx y hy=>by rcases List.mem_singleton.1 hy with rfl;rfl⟩
theorem XF {S:Nat->Prop} {W w:World} {ls:List (List Nat)} {n:Nat} {e:Ending} (hl:ls.length=n) (h:Av (X8 ls) S W e w):Av (YH n) S W e w:=by
  obtain ⟨⟨rs,he,q⟩,h1,h2,h3⟩:=h
  have e2:rs.length=n:=by rw [<-hl,<-he,List.length_map]
  subst e2
  exact ⟨⟨rvL rs,q⟩,h1,h2,λy hy=>h3 y (by rcases List.mem_singleton.1 hy with rfl;exact List.mem_cons_self)⟩
theorem VD (D:Nat) (a b:T3):D4 Tryz.prog (D+2) 132 (.agg (Aq a).toArray) (.agg (Aq b).toArray) (decide (a=b)):=by
  rw [<-V0]
  exact D4.struct Tryz.underlying132 Tryz.stoodInHeld132 (GY.one (by decide) Tryz.isAgg3 rfl rfl (D4.int Tryz.underlying3) (GY.one (by decide) Tryz.isAgg3 rfl rfl (D4.int Tryz.underlying3) (GY.one (by decide) Tryz.isAgg3 rfl rfl (D4.int Tryz.underlying3) GY.nil)))
theorem KQ (D:Nat) {a b:T3} (h:a=b):D4 Tryz.prog (D+2) 132 (.agg (Aq a).toArray) (.agg (Aq b).toArray) true:=by
  have:=VD D a b;rwa [decide_eq_true h] at this
end
end Go.Proofs.YtpgncndhhhllfaaGreatDoor
