import Derived.Test.YtpgncndhhhllfaaGreatPart03
import Derived.Test.YtpgncndhhhllfaaGreatPart29
import Derived.Test.YtpgncndhhhllfaaGreatPart30
import Derived.Test.YtpgncndhhhllfaaGreatPart35
namespace Go.Proofs.YtpgncndhhhllfaaGreat
open Go Go.RowKit Go.Proofs.Tryz
set_option linter.unusedVariables false
set_option linter.unusedSimpArgs false
section
section
variable {ts:List T3} {N:Nat} {k k0 k':P2} {i j:Nat}
theorem KB {t a b:Nat}:C9 (ts.getD t (0,0,0)) a b=true↔∃r,r<3/\BH ts (3*t+r)=(a,b):=by
  unfold C9
  simp only [Bool.or_eq_true,Bool.and_eq_true,decide_eq_true_eq]
  constructor
  · rintro (⟨h1,h2⟩|⟨h1,h2⟩|⟨h1,h2⟩)
    · exact ⟨0,Z,by rw [CN Z];exact Prod.ext h1 h2⟩
    · exact ⟨1,Z,by rw [CN Z];exact Prod.ext h1 h2⟩
    · exact ⟨2,Z,by rw [CN Z];exact Prod.ext h1 h2⟩
  · rintro ⟨r,hr,h⟩
    rw [CN hr] at h
    have h1:=congrArg Prod.fst h
    have h2:=congrArg Prod.snd h
    have e:r=0\/r=1\/r=2:=by omega
    rcases e with e|e|e<;>subst e
    · exact .inl ⟨h1,h2⟩
    · exact .inr (.inl ⟨h1,h2⟩)
    · exact .inr (.inr ⟨h1,h2⟩)
theorem Rq (ho:Bc ts (3*ts.length)=true) {u:Nat} (hu:u<3*ts.length):Be ts (BH ts u).1 (BH ts u).2 ts.length=((u/3:Nat):Int):=by
  refine Hx (t:=u/3) _ Z (KB.2 ⟨u%3,Z,by rw [show 3*(u/3)+u%3=u by omega]⟩) λj hj=>?_
  cases e:C9 (ts.getD j (0,0,0)) (BH ts u).1 (BH ts u).2 with
  | false=>rfl
  | true =>
    obtain ⟨r,hr,h⟩:=KB.1 e
    have:=G3 ho (show 3*j+r<3*ts.length by omega) hu h
    omega
theorem ID (ho:Bc ts (3*ts.length)=true) (h:isS ts k):Be ts k.1 k.2 ts.length=(((Ae (Hh ts) k).getD 0:Nat):Int):=by
  obtain ⟨u,hu,rfl⟩:=CB.1 h
  rw [Rq ho hu,H8 ho hu];rfl
theorem J1 (h:¬isS ts k):Be ts k.1 k.2 ts.length = -1:=Gy _ λj hj=>by
  cases e:C9 (ts.getD j (0,0,0)) k.1 k.2 with
  | false=>rfl
  | true =>
    obtain ⟨r,hr,h2⟩:=KB.1 e
    exact absurd (CB.2 ⟨3*j+r,Z,h2⟩) h
theorem Je (ho:Bc ts (3*ts.length)=true):∀t,t<=ts.length->He ts t=true
  | 0,_=>rfl
  | t+1,h=>by
    have key:∀r,r<3->Be ts (Bw (ts.getD t (0,0,0)) r) (Bw (ts.getD t (0,0,0)) ((r+1)%3)) ts.length=(t:Int):=λr hr=>by
      have h1:=Rq ho (u:=3*t+r) Z
      rw [CN hr,show (3*t+r)/3=t by omega] at h1
      exact h1
    exact OU (Je ho t Z) (key 0 Z) (key 1 Z) (key 2 Z)
theorem Q8 (hn:BI N ts=true) (hN:N<=4611686018427387904) (ho:Bc ts (3*ts.length)=true):J5 ts (A6 ts).length=AX ts:=by
  unfold J5 AX
  rw [List.take_length]
  refine List.map_congr_left λs hs=>?_
  by_cases h:isS ts (s.1,s.2.1)
  · have e:Be ts s.1 s.2.1 ts.length=_:=ID ho h
    rw [Gk h,RA (by rw [e];omega),e];rfl
  · have e:Be ts s.1 s.2.1 ts.length=_:=J1 h
    have h2:=Mb hn hN hs (by rw [e];decide)
    have h3:isS ts (s.2.1,s.1):=by
      by_cases h3:isS ts (s.2.1,s.1)
      · exact h3
      · rw [show Be ts s.2.1 s.1 ts.length=_ from J1 h3] at h2;exact absurd h2 (by decide)
    have e2:Be ts s.2.1 s.1 ts.length=_:=ID ho h3
    have h4:(Ae (Hh ts) (s.1,s.2.1)).isSome=false:=by
      cases q:(Ae (Hh ts) (s.1,s.2.1)).isSome with
      | false=>rfl
      | true=>exact absurd q h
    rw [IP h4,Ri (by rw [e];decide),e2];rfl
def Eg (ts:List T3):List P2:=(AX ts).map λw=>(w.1,w.2.1)
theorem EE:(Eg ts).length=(AX ts).length:=by unfold Eg;rw [List.length_map]
theorem DN (hi:i<(AX ts).length):(Eg ts).getD i (0,0)=(((AX ts).getD i (0,0,0)).1,((AX ts).getD i (0,0,0)).2.1):=by
  unfold Eg
  simp [List.getD,List.getElem?_map,List.getElem?_eq_getElem hi]
theorem TJ {n:Nat} {f:Nat->P2} {k:P2} {u:Nat} (hu:u<n) (h1:f u=k) (h2:∀v,v<n->f v=k->v=u):((List.range n).map f).count k=1:=by
  rw [List.count,List.countP_map,List.countP_eq_length_filter]
  have e:(List.range n).filter ((λx=>x == k)∘f)=[u]:=by
    refine HP (R:=λa b:Nat=>a<b) (λx y h=>by omega) (List.pairwise_lt_range.filter _) (List.pairwise_singleton _ _) λv=>?_
    simp only [List.mem_filter,List.mem_range,Function.comp,beq_iff_eq,List.mem_singleton]
    exact ⟨λh=>h2 v h.1 h.2,λh=>by subst h;exact ⟨hu,h1⟩⟩
  rw [e];rfl
theorem Wc (hn:BI N ts=true) (hN:N<=4611686018427387904) {s:T3} (hs:s∈A6 ts):s.1<s.2.1/\s.2.2=0:=by
  rw [<-NE hn hN,GL] at hs
  exact ⟨hs.2.1,hs.2.2.2.2⟩
theorem N6 {kvs:List (P2×Nat)} {s:T3}:((EM kvs s).1=s.1/\(EM kvs s).2.1=s.2.1)\/((EM kvs s).1=s.2.1/\(EM kvs s).2.1=s.1):=by
  cases h:(Ae kvs (s.1,s.2.1)).isSome with
  | true=>rw [Gk h];exact .inl ⟨rfl,rfl⟩
  | false=>rw [IP h];exact .inr ⟨rfl,rfl⟩
theorem G1 (hn:BI N ts=true) (hN:N<=4611686018427387904) (ho:Bc ts (3*ts.length)=true):k∈Eg ts↔E7 ts k:=by
  constructor
  · intro h
    obtain ⟨w,hw,rfl⟩:=List.mem_map.1 h
    obtain ⟨s,hs,rfl⟩:=List.mem_map.1 hw
    exact Vk hn hN hs
  · rintro ⟨h1,h2⟩
    obtain ⟨u,hu,rfl⟩:=CB.1 h1
    have hne:=Fb hn hu
    have hone:(HY ts).count (Ej ts u)=1:=by
      rw [<-Ez]
      refine TJ hu O λv hv e=>?_
      unfold Ej DC at e
      have e1:=congrArg Prod.fst e
      have e2:=congrArg Prod.snd e
      simp only at e1 e2
      have e3:((BH ts v).1=(BH ts u).1/\(BH ts v).2=(BH ts u).2)\/((BH ts v).1=(BH ts u).2/\(BH ts v).2=(BH ts u).1):=by omega
      rcases e3 with e3|e3
      · exact G3 ho hv hu (Prod.ext e3.1 e3.2)
      · exact absurd (CB.2 ⟨v,hv,Prod.ext e3.1 e3.2⟩) h2
    have hm:((Ej ts u).1,(Ej ts u).2,0)∈A6 ts:=(Ka hn hN).2 ⟨hone,rfl⟩
    refine List.mem_map.2 ⟨EM (Hh ts) ((Ej ts u).1,(Ej ts u).2,0),List.mem_map.2 ⟨_,hm,rfl⟩,?_⟩
    rcases Nat.lt_or_ge (BH ts u).1 (BH ts u).2 with h|h
    · have e:Ej ts u=BH ts u:=by unfold Ej DC;exact Prod.ext (by simp only;omega) (by simp only;omega)
      rw [e,Gk (s:=((BH ts u).1,(BH ts u).2,0)) h1]
    · have e:Ej ts u=F8 (BH ts u):=by unfold Ej DC F8;exact Prod.ext (by simp only;omega) (by simp only;omega)
      rw [e,IP (s:=((F8 (BH ts u)).1,(F8 (BH ts u)).2,0)) (by
        cases q:(Ae (B4 ts (3*ts.length)) ((F8 (BH ts u)).1,(F8 (BH ts u)).2)).isSome with
        | false=>rfl
        | true=>exact absurd q h2)]
      rfl
theorem SP (hn:BI N ts=true) (hN:N<=4611686018427387904):(Eg ts).Nodup:=by
  unfold Eg AX
  rw [List.map_map]
  refine List.pairwise_map.2 (List.Pairwise.imp_of_mem ?_ (I_ hn hN))
  intro s t hs ht hst e
  have h1:=Wc hn hN hs
  have h2:=Wc hn hN ht
  have e:((EM (B4 ts (3*ts.length)) s).1,(EM (B4 ts (3*ts.length)) s).2.1)=((EM (B4 ts (3*ts.length)) t).1,(EM (B4 ts (3*ts.length)) t).2.1):=e
  have e1:(EM (B4 ts (3*ts.length)) s).1=(EM (B4 ts (3*ts.length)) t).1:=(Prod.mk.inj e).1
  have e2:(EM (B4 ts (3*ts.length)) s).2.1=(EM (B4 ts (3*ts.length)) t).2.1:=(Prod.mk.inj e).2
  have h3:=N6 (kvs:=B4 ts (3*ts.length)) (s:=s)
  have h4:=N6 (kvs:=B4 ts (3*ts.length)) (s:=t)
  have e4:s=t:=Prod.ext Z (Prod.ext Z Z)
  subst e4
  exact Yf.asymm _ _ hst hst
theorem Zf (hn:BI N ts=true) (h:E7 ts k):k.1≠k.2:=by
  obtain ⟨u,hu,rfl⟩:=CB.1 h.1
  exact Fb hn hu
theorem Im (ho:Bc ts (3*ts.length)=true) (h0:E7 ts k0):∃i k,Eh ts k0 i k/\¬(Ae (Hh ts) (F8 (FP ts k))).isSome=true/\DW ts k0=FP ts k:=by
  have key:∀d i k,3*ts.length-i=d->Eh ts k0 i k->∃i k,Eh ts k0 i k/\¬(Ae (Hh ts) (F8 (FP ts k))).isSome=true/\DW ts k0=FP ts k:=λd=>by
    induction d with
    | zero=>intro i k hd h;have:=h.lt ho h0;omega
    | succ d ih =>
      intro i k hd h
      by_cases hs:(Ae (Hh ts) (F8 (FP ts k))).isSome=true
      · exact ih _ _ Z (h.succ hs)
      · exact ⟨i,k,h,hs,(h.stop ho h0 hs).1⟩
  exact key _ 0 k0 O (Eh.zero h0.1)
theorem Hp (ho:Bc ts (3*ts.length)=true) (h0:E7 ts k0):(DW ts k0).1=k0.2:=by
  obtain ⟨i,k,⟨s,h1,h2,h3,h4⟩,_,e⟩:=Im ho h0
  rw [e]
  show k.2=_
  have key:∀j,j<=i->(s j).2=k0.2:=λj=>by
    induction j with
    | zero=>intro _;rw [h1]
    | succ j ih=>intro hj;rw [h4 j Z];exact ih Z
  rw [<-h2];exact key i (Nat.le_refl _)
theorem R6 (ho:Bc ts (3*ts.length)=true) (h0:E7 ts k0) (h0':E7 ts k') (e:DW ts k0=DW ts k'):k0=k':=by
  have key:∀{k0 k':P2} {i i':Nat} {s s':Nat->P2},i<=i'->E7 ts k0->s 0=k0->s' 0=k'->(∀j,j<=i->isS ts (s j))->(∀j,j<=i'->isS ts (s' j))->(∀j,j<i->s (j+1)=F8 (FP ts (s j)))->(∀j,j<i'->s' (j+1)=F8 (FP ts (s' j)))->FP ts (s i)=FP ts (s' i')->k0=k':=by
    intro k0 k' i i' s s' hi hb a1 b1 a3 b3 a4 b4 he
    have down:∀d,d<=i->s (i-d)=s' (i'-d):=λd=>by
      induction d with
      | zero=>intro _;exact NS ho (a3 i (Nat.le_refl _)) (b3 i' (Nat.le_refl _)) he
      | succ d ih =>
        intro hd
        have h5:=ih Z
        rw [show i-d=(i-(d+1))+1 by omega,show i'-d=(i'-(d+1))+1 by omega,a4 _ Z,b4 _ Z] at h5
        exact NS ho (a3 _ Z) (b3 _ Z) (Q2 h5)
    have h6:=down i (Nat.le_refl _)
    rw [Nat.sub_self,a1] at h6
    rcases Nat.eq_zero_or_pos (i'-i) with h7|h7
    · rw [h7,b1] at h6;exact h6
    · rw [show i'-i=(i'-i-1)+1 by omega,b4 _ Z] at h6
      exact absurd (by rw [h6,Jv];exact QQ ho (b3 _ Z)) hb.2
  obtain ⟨i,k,⟨s,h1,h2,h3,h4⟩,_,e1⟩:=Im ho h0
  obtain ⟨i',l,⟨s',g1,g2,g3,g4⟩,_,e2⟩:=Im ho h0'
  have he:FP ts (s i)=FP ts (s' i'):=by rw [h2,g2,<-e1,<-e2,e]
  rcases Nat.le_total i i' with h|h
  · exact key h h0 h1 g1 h3 g3 h4 g4 he
  · exact (key h h0' g1 h1 g3 h3 g4 h4 he.symm).symm
def Dt (ts:List T3) (k:P2):Nat->P2
  | 0=>k
  | i+1=>DW ts (Dt ts k i)
theorem I7 (ho:Bc ts (3*ts.length)=true) (h0:E7 ts k):∀i,E7 ts (Dt ts k i)
  | 0=>h0
  | i+1=>Qv ho (I7 ho h0 i)
theorem FH (k:P2) (i:Nat):∀j,Dt ts (Dt ts k i) j=Dt ts k (i+j)
  | 0=>rfl
  | j+1=>by show DW ts _=DW ts _;rw [FH k i j];rfl
structure JK (ts:List T3) (k:P2) (p:Nat):Prop where
  pos:0<p
  back:Dt ts k p=k
  ne:∀i j,i<j->j<p->Dt ts k i≠Dt ts k j
theorem JK.uniq {p p':Nat} (h:JK ts k p) (h':JK ts k p'):p=p':=by
  rcases Nat.lt_trichotomy p p' with e|e|e
  · exact absurd (show Dt ts k 0=Dt ts k p from h.back.symm) (h'.ne 0 p h.pos e)
  · exact e
  · exact absurd (show Dt ts k 0=Dt ts k p' from h'.back.symm) (h.ne 0 p' h'.pos e)
theorem JK.per {p:Nat} (h:JK ts k p):Dt ts k (p+i)=Dt ts k i:=by rw [<-FH,h.back]
theorem JK.mod {p:Nat} (h:JK ts k p):∀i,Dt ts k i=Dt ts k (i%p):=λi=>by
  induction i using Nat.strongRecOn with
  | _ i ih =>
    rcases Nat.lt_or_ge i p with e|e
    · rw [Nat.mod_eq_of_lt e]
    · have h1:=ih (i-p) (by have:=h.pos;omega)
      have h2:=h.per (i:=i-p)
      rw [show p+(i-p)=i by omega] at h2
      rw [h2,h1,Nat.mod_eq_sub_mod e]
theorem JK.inj {p:Nat} (h:JK ts k p) (hij:Dt ts k i=Dt ts k j):i%p=j%p:=by
  rw [h.mod i,h.mod j] at hij
  have h1:=Nat.mod_lt i h.pos
  have h2:=Nat.mod_lt j h.pos
  rcases Nat.lt_trichotomy (i%p) (j%p) with e|e|e
  · exact absurd hij (h.ne _ _ e h2)
  · exact e
  · exact absurd hij.symm (h.ne _ _ e h1)
theorem JK.rot {p:Nat} (h:JK ts k p) (b:Nat):JK ts (Dt ts k b) p:=⟨h.pos,by rw [FH,Nat.add_comm,h.per],λi j hij hj e=>by
  rw [FH,FH] at e
  have h1:=h.inj e
  have h2:(b+i)%p≠(b+j)%p:=λh3=>by
    have h4:(b+j-(b+i))%p=0:=Nat.sub_mod_eq_zero_of_mod_eq h3.symm
    rw [show b+j-(b+i)=j-i by omega,Nat.mod_eq_of_lt Z] at h4
    omega
  exact h2 h1⟩
theorem JK.home {p b:Nat} (h:JK ts k p):∃j,Dt ts (Dt ts k b) j=k:=by
  refine ⟨p-b%p,?_⟩
  have h1:=Nat.mod_lt b h.pos
  rw [h.mod b,FH,show b%p+(p-b%p)=p+0 by omega,h.per];rfl
def Cz (ts:List T3) (k:P2) (p:Nat):List Nat:=(List.range p).map λj=>(Dt ts k j).1
theorem Ci (p:Nat):(Cz ts k p).length=p:=by unfold Cz;rw [List.length_map,List.length_range]
theorem Fx {p:Nat} (hj:j<p):(Cz ts k p).getD j 0=(Dt ts k j).1:=by
  unfold Cz
  simp [List.getD,List.getElem?_map,List.getElem?_range hj]
theorem WA {p:Nat} (ho:Bc ts (3*ts.length)=true) (h0:E7 ts k) (h:JK ts k p) (hj:j<p):(Cz ts k p).getD ((j+1)%(Cz ts k p).length) 0=(Dt ts k j).2:=by
  rw [Ci,Fx (Nat.mod_lt _ h.pos),<-h.mod (j+1)]
  exact Hp ho (I7 ho h0 j)
def JS (a b:P2):Prop:=a.1<b.1\/a.1=b.1/\a.2<b.2
instance (a b:P2):Decidable (JS a b):=inferInstanceAs (Decidable (_\/_))
theorem N0 {a b:P2} (h:¬JS a b) (h2:¬JS b a):a=b:=by unfold JS at *;exact Prod.ext Z Z
theorem Rn {p:Nat} (ho:Bc ts (3*ts.length)=true) (h0:E7 ts k) (h:JK ts k p):∀n,n<=p->∀j,j<n->¬JS (Dt ts k j) (Dt ts k (D4 (Cz ts k p) n))
  | 0,_,j,hj=>absurd hj (Nat.not_lt_zero _)
  | n+1,hn,j,hj=>by
    have hb:D4 (Cz ts k p) n<p:=by have:=Jp (l:=Cz ts k p) n (by rw [Ci];omega) (by rw [Ci];exact h.pos);rwa [Ci] at this
    have ih:=Rn ho h0 h n Z
    show ¬JS (Dt ts k j) (Dt ts k (if _ then n else _))
    rw [Fx (show n<p by omega),Fx hb,WA ho h0 h (show n<p by omega),WA ho h0 h hb]
    split
    · rename_i e
      rcases Nat.lt_or_ge j n with q|q
      · have:=ih j q
        unfold JS at *;omega
      · rw [show j=n by omega];unfold JS;omega
    · rename_i e
      rcases Nat.lt_or_ge j n with q|q
      · exact ih j q
      · rw [show j=n by omega];exact e
theorem XL {p:Nat} (h:JK ts k p):Dc (Cz ts k p)=Cz ts (Dt ts k (D4 (Cz ts k p) p)) p:=by
  have hb:D4 (Cz ts k p) p<p:=by have:=Jp (l:=Cz ts k p) p (by rw [Ci];omega) (by rw [Ci];exact h.pos);rwa [Ci] at this
  unfold Dc
  rw [Ci]
  generalize D4 (Cz ts k p) p=b at hb ⊢
  apply List.ext_getElem?
  intro i
  rcases Nat.lt_or_ge i (p-b) with e|e
  · rw [List.getElem?_append_left (by rw [List.length_drop,Ci];exact e),List.getElem?_drop]
    unfold Cz
    rw [List.getElem?_map,List.getElem?_map,List.getElem?_range Z,List.getElem?_range Z,Option.map_some,Option.map_some,FH]
  · rw [List.getElem?_append_right (by rw [List.length_drop,Ci];exact e),List.length_drop,Ci]
    rcases Nat.lt_or_ge i p with q|q
    · rw [List.getElem?_take_of_lt Z]
      unfold Cz
      rw [List.getElem?_map,List.getElem?_map,List.getElem?_range Z,List.getElem?_range Z,Option.map_some,Option.map_some,FH,show b+i=p+(i-(p-b)) by omega,h.per]
    · rw [List.getElem?_take_eq_none Z,List.getElem?_eq_none (by rw [Ci];omega)]
end
end
section
section
variable {ts:List T3} {N:Nat} {k k0 k':P2} {i j:Nat} {dn dn0:List (P2×Nat)} {l:List Nat} {ms:List (P2×Nat)}
def aZ (ts:List T3) (dn:List (P2×Nat)):Prop:=∀x,E7 ts x->((Ae dn x).isSome=true↔(Ae dn (DW ts x)).isSome=true)
theorem aZ.it (ho:Bc ts (3*ts.length)=true) (h:aZ ts dn) (h0:E7 ts k):∀j,(Ae dn k).isSome=true↔(Ae dn (Dt ts k j)).isSome=true
  | 0=>Iff.rfl
  | j+1=>(aZ.it ho h h0 j).trans (h _ (I7 ho h0 j))
structure WY (ts:List T3) (dn0:List (P2×Nat)) (k0:P2) (i:Nat) (dn:List (P2×Nat)) (k:P2) (l:List Nat):Prop where
  go:Px ts dn0 k0 i dn k l
  kk:k=Dt ts k0 i
  lc:l=Cz ts k0 i
  mem:∀x,(Ae dn x).isSome=true↔(Ae dn0 x).isSome=true\/∃j,j<i/\x=Dt ts k0 j
  nw:∀a j,a<j->j<i->Dt ts k0 a≠Dt ts k0 j
theorem VN (i:Nat):Cz ts k0 (i+1)=Cz ts k0 i++[(Dt ts k0 i).1]:=by unfold Cz;rw [List.range_succ,List.map_append];rfl
theorem WY.zero (h:Lf ts dn0) (hb:E7 ts k0):WY ts dn0 k0 0 dn0 k0 []:=⟨Px.zero h hb,rfl,rfl,λx=>⟨.inl,λh=>h.elim id λ⟨j,h,_⟩=>absurd h (Nat.not_lt_zero _)⟩,λa j _ h=>absurd h (Nat.not_lt_zero _)⟩
theorem WY.succ (hn:BI N ts=true) (hN:N<=4611686018427387904) (ho:Bc ts (3*ts.length)=true) (h:WY ts dn0 k0 i dn k l) (e:(Ae dn k).getD 0=0):WY ts dn0 k0 (i+1) (BG dn k 1) (DW ts k) (l++[k.1]):=by
  have hz:=h.go.di.zero e
  refine ⟨h.go.succ hn hN ho e,by rw [h.kk];rfl,by rw [h.lc,h.kk,VN],λx=>?_,λa j haj hj=>?_⟩
  · rw [Cc]
    split
    · rename_i q
      exact ⟨λ_=>.inr ⟨i,Z,by rw [q,h.kk]⟩,λ_=>rfl⟩
    · rename_i q
      rw [h.mem x]
      constructor
      · rintro (h1|⟨j,h1,h2⟩)
        · exact .inl h1
        · exact .inr ⟨j,Z,h2⟩
      · rintro (h1|⟨j,h1,h2⟩)
        · exact .inl h1
        · rcases Nat.lt_or_ge j i with h3|h3
          · exact .inr ⟨j,h3,h2⟩
          · exact absurd (by rw [h2,h.kk,show j=i by omega]) q
  · rcases Nat.lt_or_ge j i with h3|h3
    · exact h.nw a j haj h3
    · intro h4
      have h5:=(h.mem k).2 (.inr ⟨a,Z,by rw [h.kk,h4,show j=i by omega]⟩)
      rw [hz] at h5;cases h5
theorem WY.stop (ho:Bc ts (3*ts.length)=true) (h:WY ts dn0 k0 i dn k l) (hb:E7 ts k0) (hc:aZ ts dn0) (h0:Ae dn0 k0=none) (e:¬(Ae dn k).getD 0=0):JK ts k0 i:=by
  have hs:(Ae dn k).isSome=true:=by
    cases hg:Ae dn k with
    | none=>rw [hg] at e;exact absurd rfl e
    | some n=>rfl
  rcases (h.mem k).1 hs with h1|⟨j,h1,h2⟩
  · rw [h.kk,<-hc.it ho hb i,h0] at h1;cases h1
  · rcases Nat.eq_zero_or_pos j with q|q
    · subst q
      exact ⟨h1,by rw [<-h.kk,h2];rfl,λa b hab hbi=>h.nw a b hab hbi⟩
    · exfalso
      have h3:DW ts (Dt ts k0 (i-1))=DW ts (Dt ts k0 (j-1)):=by
        show Dt ts k0 (i-1+1)=Dt ts k0 (j-1+1)
        rw [show i-1+1=i by omega,show j-1+1=j by omega,<-h.kk,h2]
      have h4:=R6 ho (I7 ho hb _) (I7 ho hb _) h3
      exact h.nw (j-1) (i-1) Z Z h4.symm
theorem Z4 (hn:BI N ts=true) (hN:N<=4611686018427387904) (ho:Bc ts (3*ts.length)=true) (h:Lf ts dn0) (hc:aZ ts dn0) (hb:E7 ts k0) (h0:Ae dn0 k0=none) :
    ∃p dn2,JK ts k0 p/\Tr ts dn0 k0=(dn2,Cz ts k0 p)/\Lf ts dn2/\∀x,(Ae dn2 x).isSome=true↔(Ae dn0 x).isSome=true\/∃j,x=Dt ts k0 j:=by
  have key:∀d i dn k l,3*ts.length+1-i=d->WY ts dn0 k0 i dn k l->∃p dn2,JK ts k0 p/\Tr ts dn0 k0=(dn2,Cz ts k0 p)/\Lf ts dn2/\∀x,(Ae dn2 x).isSome=true↔(Ae dn0 x).isSome=true\/∃j,x=Dt ts k0 j:=λd=>by
    induction d with
    | zero=>intro i dn k l hd hg;have:=hg.go.le;omega
    | succ d ih =>
      intro i dn k l hd hg
      by_cases e:(Ae dn k).getD 0=0
      · exact ih _ _ _ _ Z (hg.succ hn hN ho e)
      · have hy:=hg.stop ho hb hc h0 e
        refine ⟨i,dn,hy,by rw [hg.go.stop e,hg.lc],hg.go.di,λx=>(hg.mem x).trans ⟨λh=>h.imp id λ⟨j,_,h⟩=>⟨j,h⟩,λh=>h.imp id λ⟨j,h⟩=>⟨j%i,Nat.mod_lt _ hy.pos,by rw [h,hy.mod j]⟩⟩⟩
  exact key _ 0 dn0 k0 [] O (WY.zero h hb)
structure Tk (ts:List T3) (dn:List (P2×Nat)) (ms:List (P2×Nat)):Prop where
  di:Lf ts dn
  cl:aZ ts dn
  ok:∀m∈ms,E7 ts m.1/\JK ts m.1 m.2/\(∀j,¬JS (Dt ts m.1 j) m.1)/\(Ae dn m.1).isSome=true
  cov:∀x,(Ae dn x).isSome=true->∃m∈ms,∃j,x=Dt ts m.1 j
  nd:(ms.map (·.1)).Nodup
def PT (ts:List T3) (ms:List (P2×Nat)):List (List Nat):=ms.map λm=>Cz ts m.1 m.2
theorem Tk.nil:Tk ts [] []:=⟨Lf.nil,λ_ _=>Iff.rfl,λ_ h=>absurd h List.not_mem_nil,λx h=>(by cases h),List.nodup_nil⟩
theorem Tk.step (hn:BI N ts=true) (hN:N<=4611686018427387904) (ho:Bc ts (3*ts.length)=true) (h:Tk ts dn ms) (hb:E7 ts k0) (h0:Ae dn k0=none) {dn2:List (P2×Nat)} (hg:Tr ts dn k0=(dn2,l)) :
    ∃p,JK ts k0 p/\l=Cz ts k0 p/\(∀x,(Ae dn2 x).isSome=true↔(Ae dn x).isSome=true\/∃j,x=Dt ts k0 j)/\∀b,(∀j,¬JS (Dt ts k0 j) (Dt ts k0 b))->Tk ts dn2 (ms++[(Dt ts k0 b,p)]):=by
  obtain ⟨p,d2,hy,e,hd,hm⟩:=Z4 hn hN ho h.di h.cl hb h0
  rw [hg] at e
  injection e with e1 e2
  subst e1 e2
  refine ⟨p,hy,rfl,hm,λb hmin=>⟨hd,λx hx=>?_,λm hmm=>?_,λx hx=>?_,?_⟩⟩
  · rw [hm,hm,h.cl x hx]
    constructor
    · rintro (h1|⟨j,h1⟩)
      · exact .inl h1
      · exact .inr ⟨j+1,by rw [h1];rfl⟩
    · rintro (h1|⟨j,h1⟩)
      · exact .inl h1
      · refine .inr ⟨j+p-1,?_⟩
        have h2:DW ts x=DW ts (Dt ts k0 (j+p-1)):=by
          rw [h1,<-hy.per (i:=j)]
          show _=Dt ts k0 (j+p-1+1)
          have:=hy.pos
          rw [show j+p-1+1=p+j by omega]
        exact R6 ho hx (I7 ho hb _) h2
  · rcases List.mem_append.1 hmm with h1|h1
    · obtain ⟨a1,a2,a3,a4⟩:=h.ok m h1
      exact ⟨a1,a2,a3,(hm _).2 (.inl a4)⟩
    · rw [List.mem_singleton.1 h1]
      refine ⟨I7 ho hb _,hy.rot b,λj=>?_,(hm _).2 (.inr ⟨b,rfl⟩)⟩
      show ¬JS (Dt ts (Dt ts k0 b) j) (Dt ts k0 b)
      rw [FH];exact hmin _
  · rcases (hm x).1 hx with h1|⟨j,h1⟩
    · obtain ⟨m,h2,h3⟩:=h.cov x h1
      exact ⟨m,List.mem_append_left _ h2,h3⟩
    · obtain ⟨c,hc⟩:=hy.home (b:=b)
      exact ⟨_,List.mem_append_right _ (List.mem_singleton.2 O),c+j,by show x=Dt ts (Dt ts k0 b) (c+j);rw [h1,<-FH,hc]⟩
  · rw [List.map_append]
    refine List.nodup_append.2 ⟨h.nd,by simp,λa ha c hc e=>?_⟩
    rw [List.map_cons,List.map_nil,List.mem_singleton] at hc
    obtain ⟨m,h1,rfl⟩:=List.mem_map.1 ha
    have h2:=(h.ok m h1).2.2.2
    rw [e,hc,<-h.cl.it ho hb b,h0] at h2
    cases h2
theorem RC (hn:BI N ts=true) (hN:N<=4611686018427387904) (ho:Bc ts (3*ts.length)=true):∀i,i<=(AX ts).length->∃ms,Tk ts (EO ts i).1 ms/\(EO ts i).2=PT ts ms/\∀j,j<i->(Ae (EO ts i).1 ((Eg ts).getD j (0,0))).isSome=true
  | 0,_=>⟨[],Tk.nil,rfl,λj h=>absurd h (Nat.not_lt_zero _)⟩
  | i+1,hi=>by
    obtain ⟨ms,h1,h2,h3⟩:=RC hn hN ho i Z
    obtain ⟨wq,hwq⟩:∃q,q=(AX ts).getD i (0,0,0):=⟨_,rfl⟩
    have hbd:=Pm hn hN (show i<(AX ts).length by omega) hwq
    have hst:(Eg ts).getD i (0,0)=(wq.1,wq.2.1):=by rw [DN Z,hwq]
    by_cases hc:0<(Ae (EO ts i).1 (wq.1,wq.2.1)).getD 0
    · rw [Kv hwq rfl hc]
      refine ⟨ms,h1,h2,λj hj=>?_⟩
      rcases Nat.lt_or_ge j i with q|q
      · exact h3 j q
      · rw [show j=i by omega,hst]
        cases hg:Ae (EO ts i).1 (wq.1,wq.2.1) with
        | none=>rw [hg] at hc;exact absurd hc (Nat.lt_irrefl _)
        | some n=>rfl
    · obtain ⟨dn2,l,hgv⟩:∃dn2 l,Tr ts (EO ts i).1 (wq.1,wq.2.1)=(dn2,l):=⟨_,_,rfl⟩
      obtain ⟨p,hy,e,hm,hr⟩:=h1.step hn hN ho hbd (h1.di.zero Z) hgv
      rw [M_ hwq rfl hc hgv]
      have hmin:=Rn ho hbd hy p (Nat.le_refl _)
      refine ⟨_,hr (D4 (Cz ts (wq.1,wq.2.1) p) p) λj=>by rw [hy.mod j];exact hmin _ (Nat.mod_lt _ hy.pos),?_,λj hj=>?_⟩
      · show (EO ts i).2++[Dc l]=_
        rw [h2,e,XL hy]
        unfold PT
        rw [List.map_append];rfl
      · show (Ae dn2 _).isSome=true
        rcases Nat.lt_or_ge j i with q|q
        · exact (hm _).2 (.inl (h3 j q))
        · rw [show j=i by omega,hst];exact (hm _).2 (.inr ⟨0,rfl⟩)
theorem JK.two {p:Nat} (hn:BI N ts=true) (ho:Bc ts (3*ts.length)=true) (hb:E7 ts k) (h:JK ts k p):2<=p:=by
  rcases Nat.lt_or_ge p 2 with q|q
  · have:=h.pos
    have e:p=1:=by omega
    subst e
    have h1:=h.back
    have h2:=Hp ho hb
    rw [show DW ts k=k from h1] at h2
    exact absurd h2 (Zf hn hb)
  · exact q
theorem YO {p p':Nat} (hn:BI N ts=true) (ho:Bc ts (3*ts.length)=true) (hb:E7 ts k) (hb':E7 ts k') (h:JK ts k p) (h':JK ts k' p') (hl:JS k k'):PI (Cz ts k p) (Cz ts k' p'):=by
  have h2:=h.two hn ho hb
  have h2':=h'.two hn ho hb'
  have e0:=Gt (a:=Cz ts k p) (b:=Cz ts k' p') (i:=0) (by rw [Ci];omega) (by rw [Ci];omega)
  have e1:=Gt (a:=Cz ts k p) (b:=Cz ts k' p') (i:=1) (by rw [Ci];omega) (by rw [Ci];omega)
  rw [List.drop_zero,List.drop_zero,Fx Z,Fx Z,show Dt ts k 0=k from rfl,show Dt ts k' 0=k' from rfl] at e0
  rw [Fx Z,Fx Z,show (Dt ts k 1).1=k.2 from Hp ho hb,show (Dt ts k' 1).1=k'.2 from Hp ho hb'] at e1
  have e:cmpL (Cz ts k p) (Cz ts k' p') = -1:=by
    rcases hl with h3|⟨h3,h4⟩
    · rw [e0,if_pos h3]
    · rw [e0,if_neg Z,if_neg Z,e1,if_pos h4]
  unfold PI
  have:=Di (Cz ts k p) (Cz ts k' p')
  omega
theorem Tk.sub {dn':List (P2×Nat)} {ms':List (P2×Nat)} (h:Tk ts dn ms) (h':Tk ts dn' ms') (hall:∀x,E7 ts x->(Ae dn' x).isSome=true) {m:P2×Nat} (hm:m∈ms):m∈ms':=by
  obtain ⟨a1,a2,a3,_⟩:=h.ok m hm
  obtain ⟨m',b,j,hj⟩:=h'.cov m.1 (hall _ a1)
  obtain ⟨b1,b2,b3,_⟩:=h'.ok m' b
  have e:m.1=m'.1:=by
    refine N0 (λq=>b3 j (by rw [<-hj];exact q)) λq=>?_
    obtain ⟨c,hc⟩:=b2.home (b:=j)
    rw [<-hj] at hc
    exact a3 c (by rw [hc];exact q)
  have e2:m=m':=Prod.ext e (by rw [e] at a2;exact a2.uniq b2)
  rw [e2];exact b
structure Qr (ts:List T3) (dn:List (P2×Nat)) (ms:List (P2×Nat)):Prop where
  r:Tk ts dn ms
  lo:∀m∈ms,∀x,E7 ts x->Ae dn x=none->JS m.1 x
  srt:ms.Pairwise λa b=>JS a.1 b.1
theorem Qr.nil:Qr ts [] []:=⟨Tk.nil,λ_ h=>absurd h List.not_mem_nil,List.Pairwise.nil⟩
theorem Qr.step (hn:BI N ts=true) (hN:N<=4611686018427387904) (ho:Bc ts (3*ts.length)=true) (h:Qr ts dn ms) (hb:E7 ts k0) (h0:Ae dn k0=none) (hlo:∀x,E7 ts x->Ae dn x=none->¬JS x k0) {dn2:List (P2×Nat)} (hg:Tr ts dn k0=(dn2,l)):∃p,l=Cz ts k0 p/\Qr ts dn2 (ms++[(k0,p)]):=by
  obtain ⟨p,hy,e,hm,hr⟩:=h.r.step hn hN ho hb h0 hg
  have no:∀{d:List (P2×Nat)} {x:P2},¬(Ae d x).isSome=true->Ae d x=none:=λ{d x} q=>by
    cases hq:Ae d x with
    | none=>rfl
    | some n=>rw [hq] at q;exact absurd rfl q
  refine ⟨p,e,hr 0 λj=>hlo _ (I7 ho hb j) (no λq=>?_),λm hmm x hx hxn=>?_,?_⟩
  · rw [<-h.r.cl.it ho hb j,h0] at q;cases q
  · have hx1:¬((Ae dn x).isSome=true\/∃j,x=Dt ts k0 j):=λq=>by
      have:=(hm x).2 q
      rw [hxn] at this;cases this
    have hx2:=no λq=>hx1 (.inl q)
    rcases List.mem_append.1 hmm with h1|h1
    · exact h.lo m h1 x hx hx2
    · rw [List.mem_singleton.1 h1]
      show JS k0 x
      have h3:=hlo x hx hx2
      by_cases h4:JS k0 x
      · exact h4
      · exact absurd ⟨0,N0 h3 h4⟩ λq=>hx1 (.inr q)
  · refine List.pairwise_append.2 ⟨h.srt,List.pairwise_singleton _ _,λa ha b hb'=>?_⟩
    rw [List.mem_singleton.1 hb']
    exact h.lo a ha k0 hb h0
theorem XG (hn:BI N ts=true) (hN:N<=4611686018427387904) (ho:Bc ts (3*ts.length)=true) (h:Qr ts dn ms) (hall:∀x∈Eg ts,(Ae dn x).isSome=true):PT ts ms=Ir ts:=by
  obtain ⟨ms',h1,h2,h3⟩:=RC hn hN ho (AX ts).length (Nat.le_refl _)
  have a1:∀x,E7 ts x->(Ae dn x).isSome=true:=λx hx=>hall x ((G1 hn hN ho).2 hx)
  have a2:∀x,E7 ts x->(Ae (EO ts (AX ts).length).1 x).isSome=true:=λx hx=>by
    obtain ⟨j,hj,e⟩:=List.getElem_of_mem ((G1 hn hN ho).2 hx)
    have:=h3 j (by rw [<-EE];exact hj)
    rw [List.getD,List.getElem?_eq_getElem hj,e] at this
    exact this
  have nd:∀{ms:List (P2×Nat)},(ms.map (·.1)).Nodup->ms.Nodup:=λ{ms} q=>(List.pairwise_map.1 q).imp λ{a b} h e=>h (by rw [e])
  have hp:ms.Perm ms':=(List.perm_ext_iff_of_nodup (nd h.r.nd) (nd h1.nd)).2 λm=>⟨h.r.sub h1 a2,h1.sub h.r a1⟩
  unfold Ir
  rw [h2]
  refine Lr (hp.map _) (List.pairwise_map.2 (List.Pairwise.imp_of_mem ?_ h.srt))
  intro a b ha hb hab
  obtain ⟨c1,c2,_⟩:=h.r.ok a ha
  obtain ⟨d1,d2,_⟩:=h.r.ok b hb
  exact YO hn ho c1 d1 c2 d2 hab
end
def Xx (T:T3) (a b:Nat):Nat->Nat
  | 0=>T.1
  | i+1=>if Bw T i≠a/\Bw T i≠b then Bw T i else Xx T a b i
section
variable {ts:List T3} {N:Nat} {k:P2} {T:T3} {a b i:Nat}
theorem Xp (h:Bw T i≠a/\Bw T i≠b):Xx T a b (i+1)=Bw T i:=if_pos h
theorem ZY (h:¬(Bw T i≠a/\Bw T i≠b)):Xx T a b (i+1)=Xx T a b i:=if_neg h
theorem YF {r:Nat} (hr:r<3) (h:T.1≠T.2.1/\T.2.1≠T.2.2/\T.2.2≠T.1):Xx T (Bw T r) (Bw T ((r+1)%3)) 3=Gi T (Bw T r,Bw T ((r+1)%3)):=by
  obtain ⟨x,y,z⟩:=T
  obtain ⟨h1,h2,h3⟩:=h
  have e:r=0\/r=1\/r=2:=by omega
  have h1:x≠y:=h1
  have h2:y≠z:=h2
  have h3:z≠x:=h3
  rcases e with e|e|e<;>subst e<;>simp only [Xx,Bw,Gi]<;>simp [h1,h2,h3,h1.symm,h2.symm,h3.symm]<;>omega
theorem Uf (hn:BI N ts=true) (ho:Bc ts (3*ts.length)=true) (h:isS ts k) {tq:Nat} (ht:tq=(Ae (Hh ts) k).getD 0) (hT:T=ts.getD tq (0,0,0)):Xx T k.1 k.2 3=Gi T k:=by
  obtain ⟨u,hu,rfl⟩:=CB.1 h
  rw [H8 ho hu,Option.getD_some] at ht
  have hk:BH ts u=(Bw T (u%3),Bw T ((u%3+1)%3)):=by rw [hT,ht];rfl
  rw [hk]
  exact YF Z (by rw [hT];exact KS (CW hn Z))
theorem ZR (h:¬Be ts k.1 k.2 ts.length<0):isS ts k:=by
  by_cases q:isS ts k
  · exact q
  · rw [J1 q] at h;exact absurd (by decide) h
theorem Xt (ho:Bc ts (3*ts.length)=true) (h:Be ts k.1 k.2 ts.length<0):¬isS ts k:=λq=>by
  rw [ID ho q] at h;omega
end
theorem R2 {ts:List T3}:∀i,(EO ts i).2.length<=i
  | 0=>Nat.le_refl _
  | i+1=>by
    have:=R2 (ts:=ts) i
    show (if _ then EO ts i else _:List (P2×Nat)×List (List Nat)).2.length<=i+1
    split
    · omega
    · rw [List.length_append];show _+1<=_;omega
theorem W_ {ts:List T3} {m:Nat} (h:(AX ts).length<=m):(Ir ts).length<=m:=by
  unfold Ir
  rw [(Ip _).length_eq]
  exact Nat.le_trans (R2 _) h
end
section
set_option maxRecDepth 100000
set_option maxHeartbeats 1000000 in
theorem WE {N:Nat} {ts ss:List T3} (x:RM N ts ss) (k0 k:P2) (n:Nat) (hnb:BI N ts=true) (ho:Bc ts (3*ts.length)=true) (hl:ts.length<=1000000) (hN:N<=1000000) (h0:E7 ts k0) (hb:Eh ts k0 n k) (hrec:isS ts (F8 (FP ts k))->∀(S:Nat->Prop) (w:World),Ro S w x->Calls prog 45 #[(aG (Bt x)),vN (F8 (FP ts k)).1,vN (F8 (FP ts k)).2] w (A9 w (vN (DW ts k0).2))) (w:World) {S:Nat->Prop} (hx:Ro S w x):Calls prog 45 #[(aG (Bt x)),(vN k.1),(vN k.2)] w (A9 w (vN ((DW ts k0).2))):=by
 obtain ⟨tq,htq⟩:∃q,q=(Ae (Hh ts) k).getD 0:=⟨_,rfl⟩
 obtain ⟨hk0,hk1,hk2,hk3⟩:=Wd hnb ho hb.isS
 rw [<-htq] at hk0 hk3
 have hthc:=Uf hnb ho hb.isS htq rfl
 have hnx:F8 (FP ts k)=(Gi (ts.getD tq (0,0,0)) k,k.2):=by unfold FP F8;rw [<-htq]
 obtain ⟨g1,g2,g3⟩:=Cy (CW hnb hk0)
 have lx:=Dk (W:=w) hx
 refine An (args:=[(aG (Bt x)),(vN k.1),(vN k.2)]) (L:=[AK x.a.p (x.cs),AK x.b.p (rowsL AZ ts),AK x.c.p (rowsL AZ ss)]) func45 O O (Ad O) (E3 hx BA) (AE.subF (sL [0,1,2] O) (q4 (Ca (cs:=Bt x) O λb1=>AI O (q6 (sL [1,2,3,6] O) (rN [(0,true),(1,true),(2,true),(3,true),(4,true),(5,false),(6,true),(7,true)] [⟨8,7,68,AZ ((0,0,0):Tq3)⟩] [(9,false)] sr (by kernel_rfl) (λ_ _ d _ _ h=>by cases d<;>exact h) (Ta O O O7 O (WX)) O (TM (v:=(pP b1 1)) O (AB O underlying38 O sizeOf28 O) O (ZS 0 (Value.slice x.b.p ts.length x.b.c) Bl O (Yw 0 C7 O (ci O (ci O ?_))))))))))
 refine DL.imp O λEF EL=>DS (args:=[(aG (Bt x)),(vN k.1),(vN k.2)]) (v:=(vN tq)) call38 (λw hw=>(by have h9:=EJ x k.1 k.2 hl w (Br hw 1 O lx);rw [ID ho hb.isS,<-htq] at h9;exact h9)) O (DL.back0 sr O (TM (v:=(pP (pB x.b.p) (pO x.b.p+tq*3))) O (AG (j:=tq) O O x.b.ok underlying28 sizeOf68 O Z) O (TM (v:=(aG (AZ (ts.getD tq ((0,0,0):Tq3))))) O (Ak (vs:=AZ (ts.getD tq ((0,0,0):Tq3))) (i:=2) O O (Aw.ne x.b.ok Z) Dj (BD Aa _ _ _ Z) (Aa _)) O (DL.news1 λb2=>OkE.imp O (BN O sizeOf68 O (OkE.back (sl sr) (OkE.nil (OkQ.subF (sL [1,2,3,6,7] O) (q2 ?_)))))))))
 refine AJ (v:=(pP b2 0)) (AD (j:=0) O O underlying68 sizeOf3 O (by decide) O) O (BE 0 (vN ((ts.getD tq ((0,0,0):Tq3)).1)) BY O (AI O (q6 (sL [1,2,3,6,7,8] O) (q4 (AI O (AC.nil (OkQ.then_ (AE.block ?_))))))))
 refine AE.lp2 (tg λ(i:Nat) (cq:Nat)=>i<=3/\cq=Xx (ts.getD tq (0,0,0)) k.1 k.2 i) (tg λ(i:Nat) (cq:Nat)=>[(1,(vN k.1)),(2,(vN k.2)),(3,(pP b1 0)),(6,(vI 0)),(7,(pP b2 0)),(9,(vN i)),(8,(vN cq))]) (tg λ(i:Nat) (cq:Nat)=>[Af b2 68 (AZ (ts.getD tq ((0,0,0):Tq3))),Af b1 38 (Bt x),AK x.a.p (x.cs),AK x.b.p (rowsL AZ ts),AK x.c.p (rowsL AZ ss)]) (tg λ(i:Nat) (cq:Nat)=>3-i) 0 ((ts.getD tq (0,0,0)).1) (⟨Nat.zero_le _,rfl⟩) (sF O) sr (λi cq hJ=>?_)
 obtain ⟨hi,hcq⟩:=hJ
 refine AE.seq (q4 (AM O (AJ (Ac (c:=(decide (i<3))) O O (CD (a:=i) (b:=3))) O (AC.nil (OkQ.subF (sL [1,2,3,6,7,9,8,21] O) (OkQ.then_ ?_))))))
 refine AE.cond O (λhc0=>?_) (λhc0=>?_)
 ·replace hc0:=of_decide_eq_true hc0
  refine AE.skip (q1 (AE.block (q4 (AM O (AJ (v:=(pP b2 (0+i*1))) (AD (j:=i) O O underlying68 sizeOf3 O Z O) O (AJ (AS (i:=0) (v:=(vN (Bw (ts.getD tq ((0,0,0):Tq3)) i))) O O isAgg3 (Pp Z)) O (AM O (AJ (Cv (c:=(decide ((Bw (ts.getD tq ((0,0,0):Tq3)) i)≠k.1))) O O (bR (a:=Bw (ts.getD tq ((0,0,0):Tq3)) i) (b:=k.1))) O (AM O ?_)))))))))
  refine AC.mid (FM:=[(1,(vN k.1)),(2,(vN k.2)),(3,(pP b1 0)),(6,(vI 0)),(7,(pP b2 0)),(9,(vN i)),(8,(vN cq)),(24,(vN i)),(25,(pP b2 (0+i*1))),(26,(vN (Bw (ts.getD tq ((0,0,0):Tq3)) i))),(27,(vN k.1)),(28,(Value.bool (decide ((Bw (ts.getD tq ((0,0,0):Tq3)) i)≠k.1)))),(29,(Value.bool (decide ((Bw (ts.getD tq ((0,0,0):Tq3)) i)≠k.1)))),(35,(Value.bool ((decide ((Bw (ts.getD tq ((0,0,0):Tq3)) i)≠k.1))&&(decide ((Bw (ts.getD tq ((0,0,0):Tq3)) i)≠k.2)))))]) (LM:=[Af b2 68 (AZ (ts.getD tq ((0,0,0):Tq3))),Af b1 38 (Bt x),AK x.a.p (x.cs),AK x.b.p (rowsL AZ ts),AK x.c.p (rowsL AZ ss)]) 6 ?_ ?_
  ·rcases Bool.eq_false_or_eq_true (decide ((Bw (ts.getD tq ((0,0,0):Tq3)) i)≠k.1)) with hg1|hg1
   ·skip
    refine AC.retell (k:=29) (u:=Value.bool true) O (by rw [hg1]) ?_
    have hg1':=hg1
    replace hg1':=of_decide_eq_true hg1'
    exact AC.step (v:=(vN i)) (AA O) (AU O) O (Ad O) (AC.step (v:=(pP b2 (0+i*1))) (AA O) (AD (j:=i) O O underlying68 sizeOf3 O Z O) O (Ad O) (AC.step (v:=(vN (Bw (ts.getD tq ((0,0,0):Tq3)) i))) (AA O) (AS (i:=0) (v:=(vN (Bw (ts.getD tq ((0,0,0):Tq3)) i))) O O isAgg3 (Pp Z)) O (Ad O) (AC.step (v:=(vN k.2)) (AA O) (AU O) O (Ad O) (AC.step (v:=(Value.bool (decide ((Bw (ts.getD tq ((0,0,0):Tq3)) i)≠k.2)))) (AA O) (Cv (c:=(decide ((Bw (ts.getD tq ((0,0,0):Tq3)) i)≠k.2))) O O (bR (a:=Bw (ts.getD tq ((0,0,0):Tq3)) i) (b:=k.2))) O (Ad O) (AJ (v:=(Value.bool (decide ((Bw (ts.getD tq ((0,0,0):Tq3)) i)≠k.2)))) (AW O O) O (AC.nil (OkQ.mid (sS O (sS O (sS O (sS O (sS O (sS O (sS O (sS O (sS O (sS O (sS O (sS O (sS (by first|rfl|(rw [hg1];rfl)|rw [hg1]) (sS (by first|rfl|(rw [hg1];rfl)|rw [hg1]) (sN))))))))))))))) (List.Sublist.refl _))))))))
   ·skip
    refine AC.retell (k:=29) (u:=Value.bool false) O (by rw [hg1]) ?_
    have hg1':=hg1
    replace hg1':=of_decide_eq_false hg1'
    exact AC.skip (AH O) O (Ad O) (AC.skip (AH O) O (Ad O) (AC.skip (AH O) O (Ad O) (AC.skip (AH O) O (Ad O) (AC.skip (AH O) O (Ad O) (AJ (v:=(Value.bool false)) (AT O O) O (AC.nil (OkQ.mid (sS O (sS O (sS O (sS O (sS O (sS O (sS O (sS O (sS O (sS O (sS O (sS O (sS (by first|rfl|(rw [hg1];rfl)|rw [hg1]) (sS (by first|rfl|(rw [hg1];rfl)|rw [hg1]) (sN))))))))))))))) (List.Sublist.refl _))))))))
  refine AC.nil (OkQ.subF (sL [1,2,3,6,7,9,8,35] O) (OkQ.then_ ?_))
  refine AE.jn1 (tg λ(cn:Nat)=>cn=Xx (ts.getD tq (0,0,0)) k.1 k.2 (i+1)) (tg λ(cn:Nat)=>[(1,(vN k.1)),(2,(vN k.2)),(3,(pP b1 0)),(6,(vI 0)),(7,(pP b2 0)),(9,(vN i)),(8,(vN cn))]) (tg λ(cn:Nat)=>[Af b2 68 (AZ (ts.getD tq ((0,0,0):Tq3))),Af b1 38 (Bt x),AK x.a.p (x.cs),AK x.b.p (rowsL AZ ts),AK x.c.p (rowsL AZ ss)]) ?_ ?_
  ·skip
   refine AE.cond O (λhc1=>?_) (λhc1=>?_)
   ·simp only [Bool.and_eq_true,Bool.or_eq_true,Bool.and_eq_false_iff,Bool.or_eq_false_iff,Bool.not_eq_true',Bool.not_eq_false',decide_eq_true_eq,decide_eq_false_iff_not] at hc1
    exact AE.region (AM O (AJ (v:=(pP b2 (0+i*1))) (AD (j:=i) O O underlying68 sizeOf3 O Z O) O (AJ (AS (i:=0) (v:=(vN (Bw (ts.getD tq ((0,0,0):Tq3)) i))) O O isAgg3 (Pp Z)) O (AI O (AC.nil (OkQ.subF (sL [1,2,3,6,7,9,8] O) (OkQ.join1 (Bw (ts.getD tq ((0,0,0):Tq3)) i) ((Xp hc1).symm) (sF O) sr)))))))
   ·simp only [Bool.and_eq_true,Bool.or_eq_true,Bool.and_eq_false_iff,Bool.or_eq_false_iff,Bool.not_eq_true',Bool.not_eq_false',decide_eq_true_eq,decide_eq_false_iff_not] at hc1
    exact AE.skip (OkQ.join1 cq ((by rw [hcq];exact (ZY λh9=>hc1.elim (λh8=>h8 h9.1) λh8=>h8 h9.2).symm)) (sF O) sr)
  ·intro cn hJ
   have hcn:=hJ
   exact OkQ.in_normal (OkQ.then_ (AE.region (AM O (AJ (AQ (c:=((i+1:Nat):Int)) O O (AN (a:=i) (b:=1) Z)) O (AI O (AC.nil (OkQ.subF (sL [1,2,3,6,7,9,8] O) (OkQ.round2 (i+1) cn (⟨Z,hcn⟩) Z (sF O) sr))))))))
 ·replace hc0:=of_decide_eq_false hc0
  have hcq3:cq=Gi (ts.getD tq (0,0,0)) k:=by rw [hcq,show i=3 by omega];exact hthc
  refine AE.exit (OkQ.then_exit (OkQ.round2_exit (OkQ.in_exit (q1 (q4 (BF 1 C7 O (AM O (AM O (DS (args:=[(aG (Bt x)),(vN cq),(vN k.2)]) (v:=(vI (Be ts (F8 (FP ts k)).1 (F8 (FP ts k)).2 ts.length))) call38 (λw hw=>(by have h9:=EJ x cq k.2 hl w (Br hw 2 O lx);rw [hnx,<-hcq3];exact h9)) O (AJ (Ac (c:=(decide ((Be ts (F8 (FP ts k)).1 (F8 (FP ts k)).2 ts.length)<(0:Int)))) O O O) O (AC.nil ?_)))))))))))
  refine OkQ.subF (sL [1,2,3,6,7,9,8,43] O) (OkQ.then_ ?_)
  refine AE.cond O (λhc2=>?_) (λhc2=>?_)
  ·replace hc2:=of_decide_eq_true hc2
   exact q4 (AM O (AI O (AC.nil (OkQ.subF (sL [1,2,3,6,7,9,8] O) (OkQ.then_ (AE.ret (OkQ.then_ret (AV O (Ah (v:=(vN cq)) O) (λw hw=>⟨by rw [hcq3,(hb.stop ho h0 (Xt ho hc2)).1];rw [show FP ts k=F8 (F8 (FP ts k)) from O,hnx];rfl,hw.out⟩)))))))))
  ·replace hc2:=of_decide_eq_false hc2
   exact AE.skip (q2 (BF 1 C7 O (AM O (AM O (DS (args:=[(aG (Bt x)),(vN cq),(vN k.2)]) (v:=(vN ((DW ts k0).2))) call45 (λw hw=>(by have h9:=hrec (ZR hc2) _ w (Br hw 2 O lx);rw [hnx,<-hcq3] at h9;exact h9)) O (AI O (AC.nil (OkQ.subF (sL [1,2,3,6,7,9,8] O) (OkQ.then_ (AE.ret (AV O (Ah (v:=(vN ((DW ts k0).2))) O) (λw hw=>⟨rfl,hw.out⟩))))))))))))
theorem XU {N:Nat} {ts ss:List T3} (x:RM N ts ss) (k0:P2) (hnb:BI N ts=true) (ho:Bc ts (3*ts.length)=true) (hl:ts.length<=1000000) (hN:N<=1000000) (h0:E7 ts k0):∀d n k,3*ts.length-n=d->Eh ts k0 n k->∀(S:Nat->Prop) (w:World),Ro S w x->Calls prog 45 #[(aG (Bt x)),vN k.1,vN k.2] w (A9 w (vN (DW ts k0).2)):=λd=>by
 induction d with
 | zero=>intro n k hd h;have:=h.lt ho h0;omega
 | succ d ih =>
  intro n k hd h S w hx
  have:=h.lt ho h0
  exact WE x k0 k n hnb ho hl hN h0 h (λhs=>ih (n+1) _ Z (h.succ hs)) w hx
theorem ZN {N:Nat} {ts ss:List T3} (x:RM N ts ss) (k:P2) (hnb:BI N ts=true) (ho:Bc ts (3*ts.length)=true) (hl:ts.length<=1000000) (hN:N<=1000000) (h0:E7 ts k) (w:World) {S:Nat->Prop} (hx:Ro S w x):Calls prog 45 #[(aG (Bt x)),vN k.1,vN k.2] w (A9 w (vN (DW ts k).2)):=XU x k hnb ho hl hN h0 _ 0 k rfl (Eh.zero h0.1) S w hx
end
end Go.Proofs.YtpgncndhhhllfaaGreat
