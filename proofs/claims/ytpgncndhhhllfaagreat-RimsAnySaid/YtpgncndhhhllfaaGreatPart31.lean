import Derived.Test.YtpgncndhhhllfaaGreatPart03
import Derived.Test.YtpgncndhhhllfaaGreatPart24
import Derived.Test.YtpgncndhhhllfaaGreatPart25
import Derived.Test.YtpgncndhhhllfaaGreatPart30
namespace Go.Proofs.YtpgncndhhhllfaaGreat
open Go Go.RowKit Go.Proofs.Tryz
set_option linter.unusedVariables false
set_option linter.unusedSimpArgs false
section
section
variable {ts:List T3} {N:Nat} {k k0 k':P2} {i j:Nat}
theorem Jj {t a b:Nat}:Cv (ts.getD t (0,0,0)) a b=true↔∃r,r<3/\BQ ts (3*t+r)=(a,b):=by
  unfold Cv
  simp only [Bool.or_eq_true,Bool.and_eq_true,decide_eq_true_eq]
  constructor
  · rintro (⟨h1,h2⟩|⟨h1,h2⟩|⟨h1,h2⟩)
    · exact ⟨0,Z,by rw [CB Z];exact Prod.ext h1 h2⟩
    · exact ⟨1,Z,by rw [CB Z];exact Prod.ext h1 h2⟩
    · exact ⟨2,Z,by rw [CB Z];exact Prod.ext h1 h2⟩
  · rintro ⟨r,hr,h⟩
    rw [CB hr] at h
    have h1:=congrArg Prod.fst h
    have h2:=congrArg Prod.snd h
    have e:r=0\/r=1\/r=2:=by omega
    rcases e with e|e|e<;>subst e
    · exact .inl ⟨h1,h2⟩
    · exact .inr (.inl ⟨h1,h2⟩)
    · exact .inr (.inr ⟨h1,h2⟩)
theorem QF (ho:BV ts (3*ts.length)=true) {u:Nat} (hu:u<3*ts.length):Bb ts (BQ ts u).1 (BQ ts u).2 ts.length=((u/3:Nat):Int):=by
  refine Hm (t:=u/3) _ Z (Jj.2 ⟨u%3,Z,by rw [show 3*(u/3)+u%3=u by omega]⟩) λj hj=>?_
  cases e:Cv (ts.getD j (0,0,0)) (BQ ts u).1 (BQ ts u).2 with
  | false=>rfl
  | true =>
    obtain ⟨r,hr,h⟩:=Jj.1 e
    have:=GP ho (show 3*j+r<3*ts.length by omega) hu h
    omega
theorem Hd (ho:BV ts (3*ts.length)=true) (h:isS ts k):Bb ts k.1 k.2 ts.length=(((Ac (HE ts) k).getD 0:Nat):Int):=by
  obtain ⟨u,hu,rfl⟩:=CR.1 h
  rw [QF ho hu,HK ho hu];rfl
theorem KV (h:¬isS ts k):Bb ts k.1 k.2 ts.length = -1:=GT _ λj hj=>by
  cases e:Cv (ts.getD j (0,0,0)) k.1 k.2 with
  | false=>rfl
  | true =>
    obtain ⟨r,hr,h2⟩:=Jj.1 e
    exact absurd (CR.2 ⟨3*j+r,Z,h2⟩) h
theorem I4 (ho:BV ts (3*ts.length)=true):∀t,t<=ts.length->Em ts t=true
  | 0,_=>rfl
  | t+1,h=>by
    have key:∀r,r<3->Bb ts (Bl (ts.getD t (0,0,0)) r) (Bl (ts.getD t (0,0,0)) ((r+1)%3)) ts.length=(t:Int):=λr hr=>by
      have h1:=QF ho (u:=3*t+r) Z
      rw [CB hr,show (3*t+r)/3=t by omega] at h1
      exact h1
    exact OA (I4 ho t Z) (key 0 Z) (key 1 Z) (key 2 Z)
theorem Uu (h:∀u v,u<3*ts.length->v<3*ts.length->BQ ts u=BQ ts v->u=v):∀s,s<=3*ts.length->BV ts s=true
  | 0,_=>rfl
  | s+1,hs=>by
    show (BV ts s&&(Ac (Bw ts s) (BQ ts s)).isNone)=true
    rw [Uu h s Z,Bool.true_and]
    cases hg:Ac (Bw ts s) (BQ ts s) with
    | none=>rfl
    | some n =>
      obtain ⟨u,h1,h2,_⟩:=Ga s hg
      have:=h u s Z Z h2
      omega
theorem V8 {T:T3} (h:T.1≠T.2.1/\T.2.1≠T.2.2/\T.2.2≠T.1) {r s:Nat} (hr:r<3) (hs:s<3) (e:Bl T r=Bl T s):r=s:=by
  obtain ⟨x,y,z⟩:=T
  obtain ⟨h1,h2,h3⟩:=h
  have h1:x≠y:=h1
  have h2:y≠z:=h2
  have h3:z≠x:=h3
  have a:r=0\/r=1\/r=2:=by omega
  have b:s=0\/s=1\/s=2:=by omega
  rcases a with a|a|a<;>rcases b with b|b|b<;>subst a<;>subst b<;>simp [Bl] at e ⊢<;>omega
theorem WD (hn:A_ N ts=true) (h:Em ts ts.length=true):BV ts (3*ts.length)=true:=by
  have key:∀u,u<3*ts.length->Bb ts (BQ ts u).1 (BQ ts u).2 ts.length=((u/3:Nat):Int):=λu hu=>by
    have h1:=MD ts.length (show u/3+1<=ts.length by omega) h
    have h2:F9 ts (u/3)=true:=(Bool.and_eq_true _ _▸(show (Em ts (u/3)&&F9 ts (u/3))=true from h1):Em ts (u/3)=true/\F9 ts (u/3)=true).2
    unfold F9 at h2
    simp only [Bool.and_eq_true,decide_eq_true_eq] at h2
    have e:=CB (ts:=ts) (j:=u/3) (r:=u%3) Z
    rw [show 3*(u/3)+u%3=u by omega] at e
    rw [e]
    have q:u%3=0\/u%3=1\/u%3=2:=by omega
    rcases q with q|q|q<;>rw [q]
    · exact h2.1
    · exact h2.2.1
    · exact h2.2.2
  refine Uu (λu v hu hv e=>?_) _ (Nat.le_refl _)
  have h1:=key u hu
  rw [e,key v hv] at h1
  have e1:=CB (ts:=ts) (j:=u/3) (r:=u%3) Z
  have e2:=CB (ts:=ts) (j:=v/3) (r:=v%3) Z
  rw [show 3*(u/3)+u%3=u by omega] at e1
  rw [show 3*(v/3)+v%3=v by omega,show v/3=u/3 by omega] at e2
  have h2:Bl (ts.getD (u/3) (0,0,0)) (u%3)=Bl (ts.getD (u/3) (0,0,0)) (v%3):=by
    have h3:=congrArg Prod.fst e
    rw [e1,e2] at h3
    exact h3
  have:=V8 (KC (CL hn (show u/3<ts.length by omega))) Z Z h2
  omega
theorem Pm (hn:A_ N ts=true) (hN:N<=4611686018427387904) (ho:BV ts (3*ts.length)=true):J_ ts (Au ts).length=Ab ts:=by
  unfold J_ Ab
  rw [List.take_length]
  refine List.map_congr_left λs hs=>?_
  by_cases h:isS ts (s.1,s.2.1)
  · have e:Bb ts s.1 s.2.1 ts.length=_:=Hd ho h
    rw [GD h,Qx (by rw [e];omega),e];rfl
  · have e:Bb ts s.1 s.2.1 ts.length=_:=KV h
    have h2:=LG hn hN hs (by rw [e];decide)
    have h3:isS ts (s.2.1,s.1):=by
      by_cases h3:isS ts (s.2.1,s.1)
      · exact h3
      · rw [show Bb ts s.2.1 s.1 ts.length=_ from KV h3] at h2;exact absurd h2 (by decide)
    have e2:Bb ts s.2.1 s.1 ts.length=_:=Hd ho h3
    have h4:(Ac (HE ts) (s.1,s.2.1)).isSome=false:=by
      cases q:(Ac (HE ts) (s.1,s.2.1)).isSome with
      | false=>rfl
      | true=>exact absurd q h
    rw [HV h4,Pu (by rw [e];decide),e2];rfl
def EC (ts:List T3):List P2:=(Ab ts).map λw=>(w.1,w.2.1)
theorem D9:(EC ts).length=(Ab ts).length:=by unfold EC;rw [List.length_map]
theorem C7 (hi:i<(Ab ts).length):(EC ts).getD i (0,0)=(((Ab ts).getD i (0,0,0)).1,((Ab ts).getD i (0,0,0)).2.1):=by
  unfold EC
  simp [List.getD,List.getElem?_map,List.getElem?_eq_getElem hi]
theorem R3 {n:Nat} {f:Nat->P2} {k:P2} {u:Nat} (hu:u<n) (h1:f u=k) (h2:∀v,v<n->f v=k->v=u):((List.range n).map f).count k=1:=by
  rw [List.count,List.countP_map,List.countP_eq_length_filter]
  have e:(List.range n).filter ((λx=>x == k)∘f)=[u]:=by
    refine Gu (R:=λa b:Nat=>a<b) (λx y h=>by omega) (List.pairwise_lt_range.filter _) (List.pairwise_singleton _ _) λv=>?_
    simp only [List.mem_filter,List.mem_range,Function.comp,beq_iff_eq,List.mem_singleton]
    exact ⟨λh=>h2 v h.1 h.2,λh=>by subst h;exact ⟨hu,h1⟩⟩
  rw [e];rfl
theorem Sj (hn:A_ N ts=true) (hN:N<=4611686018427387904) {s:T3} (hs:s∈Au ts):s.1<s.2.1/\s.2.2=0:=by
  rw [<-MY hn hN,Fh] at hs
  exact ⟨hs.2.1,hs.2.2.2.2⟩
theorem NF {kvs:List (P2×Nat)} {s:T3}:((Ds kvs s).1=s.1/\(Ds kvs s).2.1=s.2.1)\/((Ds kvs s).1=s.2.1/\(Ds kvs s).2.1=s.1):=by
  cases h:(Ac kvs (s.1,s.2.1)).isSome with
  | true=>rw [GD h];exact .inl ⟨rfl,rfl⟩
  | false=>rw [HV h];exact .inr ⟨rfl,rfl⟩
theorem HO (hn:A_ N ts=true) (hN:N<=4611686018427387904) (ho:BV ts (3*ts.length)=true):k∈EC ts↔Ea ts k:=by
  constructor
  · intro h
    obtain ⟨w,hw,rfl⟩:=List.mem_map.1 h
    obtain ⟨s,hs,rfl⟩:=List.mem_map.1 hw
    exact Ut hn hN hs
  · rintro ⟨h1,h2⟩
    obtain ⟨u,hu,rfl⟩:=CR.1 h1
    have hne:=GE hn hu
    have hone:(G_ ts).count (ED ts u)=1:=by
      rw [<-EP]
      refine R3 hu O λv hv e=>?_
      unfold ED Cx at e
      have e1:=congrArg Prod.fst e
      have e2:=congrArg Prod.snd e
      simp only at e1 e2
      have e3:((BQ ts v).1=(BQ ts u).1/\(BQ ts v).2=(BQ ts u).2)\/((BQ ts v).1=(BQ ts u).2/\(BQ ts v).2=(BQ ts u).1):=by omega
      rcases e3 with e3|e3
      · exact GP ho hv hu (Prod.ext e3.1 e3.2)
      · exact absurd (CR.2 ⟨v,hv,Prod.ext e3.1 e3.2⟩) h2
    have hm:((ED ts u).1,(ED ts u).2,0)∈Au ts:=(Jo hn hN).2 ⟨hone,rfl⟩
    refine List.mem_map.2 ⟨Ds (HE ts) ((ED ts u).1,(ED ts u).2,0),List.mem_map.2 ⟨_,hm,rfl⟩,?_⟩
    rcases Nat.lt_or_ge (BQ ts u).1 (BQ ts u).2 with h|h
    · have e:ED ts u=BQ ts u:=by unfold ED Cx;exact Prod.ext (by simp only;omega) (by simp only;omega)
      rw [e,GD (s:=((BQ ts u).1,(BQ ts u).2,0)) h1]
    · have e:ED ts u=Ff (BQ ts u):=by unfold ED Cx Ff;exact Prod.ext (by simp only;omega) (by simp only;omega)
      rw [e,HV (s:=((Ff (BQ ts u)).1,(Ff (BQ ts u)).2,0)) (by
        cases q:(Ac (Bw ts (3*ts.length)) ((Ff (BQ ts u)).1,(Ff (BQ ts u)).2)).isSome with
        | false=>rfl
        | true=>exact absurd q h2)]
      rfl
theorem RY (hn:A_ N ts=true) (hN:N<=4611686018427387904):(EC ts).Nodup:=by
  unfold EC Ab
  rw [List.map_map]
  refine List.pairwise_map.2 (List.Pairwise.imp_of_mem ?_ (Ii hn hN))
  intro s t hs ht hst e
  have h1:=Sj hn hN hs
  have h2:=Sj hn hN ht
  have e:((Ds (Bw ts (3*ts.length)) s).1,(Ds (Bw ts (3*ts.length)) s).2.1)=((Ds (Bw ts (3*ts.length)) t).1,(Ds (Bw ts (3*ts.length)) t).2.1):=e
  have e1:(Ds (Bw ts (3*ts.length)) s).1=(Ds (Bw ts (3*ts.length)) t).1:=(Prod.mk.inj e).1
  have e2:(Ds (Bw ts (3*ts.length)) s).2.1=(Ds (Bw ts (3*ts.length)) t).2.1:=(Prod.mk.inj e).2
  have h3:=NF (kvs:=Bw ts (3*ts.length)) (s:=s)
  have h4:=NF (kvs:=Bw ts (3*ts.length)) (s:=t)
  have e4:s=t:=Prod.ext Z (Prod.ext Z Z)
  subst e4
  exact V6.asymm _ _ hst hst
theorem YG (hn:A_ N ts=true) (h:Ea ts k):k.1≠k.2:=by
  obtain ⟨u,hu,rfl⟩:=CR.1 h.1
  exact GE hn hu
theorem IP (ho:BV ts (3*ts.length)=true) (h0:Ea ts k0):∃i k,D_ ts k0 i k/\¬(Ac (HE ts) (Ff (Eu ts k))).isSome=true/\DA ts k0=Eu ts k:=by
  have key:∀d i k,3*ts.length-i=d->D_ ts k0 i k->∃i k,D_ ts k0 i k/\¬(Ac (HE ts) (Ff (Eu ts k))).isSome=true/\DA ts k0=Eu ts k:=λd=>by
    induction d with
    | zero=>intro i k hd h;have:=h.lt ho h0;omega
    | succ d ih =>
      intro i k hd h
      by_cases hs:(Ac (HE ts) (Ff (Eu ts k))).isSome=true
      · exact ih _ _ Z (h.succ hs)
      · exact ⟨i,k,h,hs,(h.stop ho h0 hs).1⟩
  exact key _ 0 k0 O (D_.zero h0.1)
theorem Hg (ho:BV ts (3*ts.length)=true) (h0:Ea ts k0):(DA ts k0).1=k0.2:=by
  obtain ⟨i,k,⟨s,h1,h2,h3,h4⟩,_,e⟩:=IP ho h0
  rw [e]
  show k.2=_
  have key:∀j,j<=i->(s j).2=k0.2:=λj=>by
    induction j with
    | zero=>intro _;rw [h1]
    | succ j ih=>intro hj;rw [h4 j Z];exact ih Z
  rw [<-h2];exact key i (Nat.le_refl _)
theorem QR (ho:BV ts (3*ts.length)=true) (h0:Ea ts k0) (h0':Ea ts k') (e:DA ts k0=DA ts k'):k0=k':=by
  have key:∀{k0 k':P2} {i i':Nat} {s s':Nat->P2},i<=i'->Ea ts k0->s 0=k0->s' 0=k'->(∀j,j<=i->isS ts (s j))->(∀j,j<=i'->isS ts (s' j))->(∀j,j<i->s (j+1)=Ff (Eu ts (s j)))->(∀j,j<i'->s' (j+1)=Ff (Eu ts (s' j)))->Eu ts (s i)=Eu ts (s' i')->k0=k':=by
    intro k0 k' i i' s s' hi hb a1 b1 a3 b3 a4 b4 he
    have down:∀d,d<=i->s (i-d)=s' (i'-d):=λd=>by
      induction d with
      | zero=>intro _;exact MU ho (a3 i (Nat.le_refl _)) (b3 i' (Nat.le_refl _)) he
      | succ d ih =>
        intro hd
        have h5:=ih Z
        rw [show i-d=(i-(d+1))+1 by omega,show i'-d=(i'-(d+1))+1 by omega,a4 _ Z,b4 _ Z] at h5
        exact MU ho (a3 _ Z) (b3 _ Z) (QW h5)
    have h6:=down i (Nat.le_refl _)
    rw [Nat.sub_self,a1] at h6
    rcases Nat.eq_zero_or_pos (i'-i) with h7|h7
    · rw [h7,b1] at h6;exact h6
    · rw [show i'-i=(i'-i-1)+1 by omega,b4 _ Z] at h6
      exact absurd (by rw [h6,I5];exact Pj ho (b3 _ Z)) hb.2
  obtain ⟨i,k,⟨s,h1,h2,h3,h4⟩,_,e1⟩:=IP ho h0
  obtain ⟨i',l,⟨s',g1,g2,g3,g4⟩,_,e2⟩:=IP ho h0'
  have he:Eu ts (s i)=Eu ts (s' i'):=by rw [h2,g2,<-e1,<-e2,e]
  rcases Nat.le_total i i' with h|h
  · exact key h h0 h1 g1 h3 g3 h4 g4 he
  · exact (key h h0' g1 h1 g3 h3 g4 h4 he.symm).symm
def Da (ts:List T3) (k:P2):Nat->P2
  | 0=>k
  | i+1=>DA ts (Da ts k i)
theorem IT (ho:BV ts (3*ts.length)=true) (h0:Ea ts k):∀i,Ea ts (Da ts k i)
  | 0=>h0
  | i+1=>Qr ho (IT ho h0 i)
theorem Es (k:P2) (i:Nat):∀j,Da ts (Da ts k i) j=Da ts k (i+j)
  | 0=>rfl
  | j+1=>by show DA ts _=DA ts _;rw [Es k i j];rfl
structure IS (ts:List T3) (k:P2) (p:Nat):Prop where
  pos:0<p
  back:Da ts k p=k
  ne:∀i j,i<j->j<p->Da ts k i≠Da ts k j
theorem IS.uniq {p p':Nat} (h:IS ts k p) (h':IS ts k p'):p=p':=by
  rcases Nat.lt_trichotomy p p' with e|e|e
  · exact absurd (show Da ts k 0=Da ts k p from h.back.symm) (h'.ne 0 p h.pos e)
  · exact e
  · exact absurd (show Da ts k 0=Da ts k p' from h'.back.symm) (h.ne 0 p' h'.pos e)
theorem IS.per {p:Nat} (h:IS ts k p):Da ts k (p+i)=Da ts k i:=by rw [<-Es,h.back]
theorem IS.mod {p:Nat} (h:IS ts k p):∀i,Da ts k i=Da ts k (i%p):=λi=>by
  induction i using Nat.strongRecOn with
  | _ i ih =>
    rcases Nat.lt_or_ge i p with e|e
    · rw [Nat.mod_eq_of_lt e]
    · have h1:=ih (i-p) (by have:=h.pos;omega)
      have h2:=h.per (i:=i-p)
      rw [show p+(i-p)=i by omega] at h2
      rw [h2,h1,Nat.mod_eq_sub_mod e]
theorem IS.inj {p:Nat} (h:IS ts k p) (hij:Da ts k i=Da ts k j):i%p=j%p:=by
  rw [h.mod i,h.mod j] at hij
  have h1:=Nat.mod_lt i h.pos
  have h2:=Nat.mod_lt j h.pos
  rcases Nat.lt_trichotomy (i%p) (j%p) with e|e|e
  · exact absurd hij (h.ne _ _ e h2)
  · exact e
  · exact absurd hij.symm (h.ne _ _ e h1)
theorem IS.rot {p:Nat} (h:IS ts k p) (b:Nat):IS ts (Da ts k b) p:=⟨h.pos,by rw [Es,Nat.add_comm,h.per],λi j hij hj e=>by
  rw [Es,Es] at e
  have h1:=h.inj e
  have h2:(b+i)%p≠(b+j)%p:=λh3=>by
    have h4:(b+j-(b+i))%p=0:=Nat.sub_mod_eq_zero_of_mod_eq h3.symm
    rw [show b+j-(b+i)=j-i by omega,Nat.mod_eq_of_lt Z] at h4
    omega
  exact h2 h1⟩
theorem IS.home {p b:Nat} (h:IS ts k p):∃j,Da ts (Da ts k b) j=k:=by
  refine ⟨p-b%p,?_⟩
  have h1:=Nat.mod_lt b h.pos
  rw [h.mod b,Es,show b%p+(p-b%p)=p+0 by omega,h.per];rfl
def Cq (ts:List T3) (k:P2) (p:Nat):List Nat:=(List.range p).map λj=>(Da ts k j).1
theorem CY (p:Nat):(Cq ts k p).length=p:=by unfold Cq;rw [List.length_map,List.length_range]
theorem FL {p:Nat} (hj:j<p):(Cq ts k p).getD j 0=(Da ts k j).1:=by
  unfold Cq
  simp [List.getD,List.getElem?_map,List.getElem?_range hj]
theorem TU {p:Nat} (ho:BV ts (3*ts.length)=true) (h0:Ea ts k) (h:IS ts k p) (hj:j<p):(Cq ts k p).getD ((j+1)%(Cq ts k p).length) 0=(Da ts k j).2:=by
  rw [CY,FL (Nat.mod_lt _ h.pos),<-h.mod (j+1)]
  exact Hg ho (IT ho h0 j)
def Ip (a b:P2):Prop:=a.1<b.1\/a.1=b.1/\a.2<b.2
instance (a b:P2):Decidable (Ip a b):=inferInstanceAs (Decidable (_\/_))
theorem Mx {a b:P2} (h:¬Ip a b) (h2:¬Ip b a):a=b:=by unfold Ip at *;exact Prod.ext Z Z
theorem QZ {p:Nat} (ho:BV ts (3*ts.length)=true) (h0:Ea ts k) (h:IS ts k p):∀n,n<=p->∀j,j<n->¬Ip (Da ts k j) (Da ts k (De (Cq ts k p) n))
  | 0,_,j,hj=>absurd hj (Nat.not_lt_zero _)
  | n+1,hn,j,hj=>by
    have hb:De (Cq ts k p) n<p:=by have:=JC (l:=Cq ts k p) n (by rw [CY];omega) (by rw [CY];exact h.pos);rwa [CY] at this
    have ih:=QZ ho h0 h n Z
    show ¬Ip (Da ts k j) (Da ts k (if _ then n else _))
    rw [FL (show n<p by omega),FL hb,TU ho h0 h (show n<p by omega),TU ho h0 h hb]
    split
    · rename_i e
      rcases Nat.lt_or_ge j n with q|q
      · have:=ih j q
        unfold Ip at *;omega
      · rw [show j=n by omega];unfold Ip;omega
    · rename_i e
      rcases Nat.lt_or_ge j n with q|q
      · exact ih j q
      · rw [show j=n by omega];exact e
theorem WA {p:Nat} (h:IS ts k p):DG (Cq ts k p)=Cq ts (Da ts k (De (Cq ts k p) p)) p:=by
  have hb:De (Cq ts k p) p<p:=by have:=JC (l:=Cq ts k p) p (by rw [CY];omega) (by rw [CY];exact h.pos);rwa [CY] at this
  unfold DG
  rw [CY]
  generalize De (Cq ts k p) p=b at hb ⊢
  apply List.ext_getElem?
  intro i
  rcases Nat.lt_or_ge i (p-b) with e|e
  · rw [List.getElem?_append_left (by rw [List.length_drop,CY];exact e),List.getElem?_drop]
    unfold Cq
    rw [List.getElem?_map,List.getElem?_map,List.getElem?_range Z,List.getElem?_range Z,Option.map_some,Option.map_some,Es]
  · rw [List.getElem?_append_right (by rw [List.length_drop,CY];exact e),List.length_drop,CY]
    rcases Nat.lt_or_ge i p with q|q
    · rw [List.getElem?_take_of_lt Z]
      unfold Cq
      rw [List.getElem?_map,List.getElem?_map,List.getElem?_range Z,List.getElem?_range Z,Option.map_some,Option.map_some,Es,show b+i=p+(i-(p-b)) by omega,h.per]
    · rw [List.getElem?_take_eq_none Z,List.getElem?_eq_none (by rw [CY];omega)]
end
end
section
section
variable {ts:List T3} {N:Nat} {k k0 k':P2} {i j:Nat} {dn dn0:List (P2×Nat)} {l:List Nat} {ms:List (P2×Nat)}
def Y4 (ts:List T3) (dn:List (P2×Nat)):Prop:=∀x,Ea ts x->((Ac dn x).isSome=true↔(Ac dn (DA ts x)).isSome=true)
theorem Y4.it (ho:BV ts (3*ts.length)=true) (h:Y4 ts dn) (h0:Ea ts k):∀j,(Ac dn k).isSome=true↔(Ac dn (Da ts k j)).isSome=true
  | 0=>Iff.rfl
  | j+1=>(Y4.it ho h h0 j).trans (h _ (IT ho h0 j))
structure UD (ts:List T3) (dn0:List (P2×Nat)) (k0:P2) (i:Nat) (dn:List (P2×Nat)) (k:P2) (l:List Nat):Prop where
  go:Ot ts dn0 k0 i dn k l
  kk:k=Da ts k0 i
  lc:l=Cq ts k0 i
  mem:∀x,(Ac dn x).isSome=true↔(Ac dn0 x).isSome=true\/∃j,j<i/\x=Da ts k0 j
  nw:∀a j,a<j->j<i->Da ts k0 a≠Da ts k0 j
theorem Uo (i:Nat):Cq ts k0 (i+1)=Cq ts k0 i++[(Da ts k0 i).1]:=by unfold Cq;rw [List.range_succ,List.map_append];rfl
theorem UD.zero (h:Kg ts dn0) (hb:Ea ts k0):UD ts dn0 k0 0 dn0 k0 []:=⟨Ot.zero h hb,rfl,rfl,λx=>⟨.inl,λh=>h.elim id λ⟨j,h,_⟩=>absurd h (Nat.not_lt_zero _)⟩,λa j _ h=>absurd h (Nat.not_lt_zero _)⟩
theorem UD.succ (hn:A_ N ts=true) (hN:N<=4611686018427387904) (ho:BV ts (3*ts.length)=true) (h:UD ts dn0 k0 i dn k l) (e:(Ac dn k).getD 0=0):UD ts dn0 k0 (i+1) (A9 dn k 1) (DA ts k) (l++[k.1]):=by
  have hz:=h.go.di.zero e
  refine ⟨h.go.succ hn hN ho e,by rw [h.kk];rfl,by rw [h.lc,h.kk,Uo],λx=>?_,λa j haj hj=>?_⟩
  · rw [CP]
    split
    · rename_i q
      exact ⟨λ_=>.inr ⟨i,Z,by rw [q,h.kk]⟩,λ_=>rfl⟩
    · rename_i q
      rw [h.mem x]
      constructor
      · rintro (h1|⟨j,h1,h2⟩)
        · exact .inl h1
        · exact .inr ⟨j,Z,h2⟩
      · rintro (h1|⟨j,h1,h2⟩)
        · exact .inl h1
        · rcases Nat.lt_or_ge j i with h3|h3
          · exact .inr ⟨j,h3,h2⟩
          · exact absurd (by rw [h2,h.kk,show j=i by omega]) q
  · rcases Nat.lt_or_ge j i with h3|h3
    · exact h.nw a j haj h3
    · intro h4
      have h5:=(h.mem k).2 (.inr ⟨a,Z,by rw [h.kk,h4,show j=i by omega]⟩)
      rw [hz] at h5;cases h5
theorem UD.stop (ho:BV ts (3*ts.length)=true) (h:UD ts dn0 k0 i dn k l) (hb:Ea ts k0) (hc:Y4 ts dn0) (h0:Ac dn0 k0=none) (e:¬(Ac dn k).getD 0=0):IS ts k0 i:=by
  have hs:(Ac dn k).isSome=true:=by
    cases hg:Ac dn k with
    | none=>rw [hg] at e;exact absurd rfl e
    | some n=>rfl
  rcases (h.mem k).1 hs with h1|⟨j,h1,h2⟩
  · rw [h.kk,<-hc.it ho hb i,h0] at h1;cases h1
  · rcases Nat.eq_zero_or_pos j with q|q
    · subst q
      exact ⟨h1,by rw [<-h.kk,h2];rfl,λa b hab hbi=>h.nw a b hab hbi⟩
    · exfalso
      have h3:DA ts (Da ts k0 (i-1))=DA ts (Da ts k0 (j-1)):=by
        show Da ts k0 (i-1+1)=Da ts k0 (j-1+1)
        rw [show i-1+1=i by omega,show j-1+1=j by omega,<-h.kk,h2]
      have h4:=QR ho (IT ho hb _) (IT ho hb _) h3
      exact h.nw (j-1) (i-1) Z Z h4.symm
theorem Xx (hn:A_ N ts=true) (hN:N<=4611686018427387904) (ho:BV ts (3*ts.length)=true) (h:Kg ts dn0) (hc:Y4 ts dn0) (hb:Ea ts k0) (h0:Ac dn0 k0=none) :
    ∃p dn2,IS ts k0 p/\VT ts dn0 k0=(dn2,Cq ts k0 p)/\Kg ts dn2/\∀x,(Ac dn2 x).isSome=true↔(Ac dn0 x).isSome=true\/∃j,x=Da ts k0 j:=by
  have key:∀d i dn k l,3*ts.length+1-i=d->UD ts dn0 k0 i dn k l->∃p dn2,IS ts k0 p/\VT ts dn0 k0=(dn2,Cq ts k0 p)/\Kg ts dn2/\∀x,(Ac dn2 x).isSome=true↔(Ac dn0 x).isSome=true\/∃j,x=Da ts k0 j:=λd=>by
    induction d with
    | zero=>intro i dn k l hd hg;have:=hg.go.le;omega
    | succ d ih =>
      intro i dn k l hd hg
      by_cases e:(Ac dn k).getD 0=0
      · exact ih _ _ _ _ Z (hg.succ hn hN ho e)
      · have hy:=hg.stop ho hb hc h0 e
        refine ⟨i,dn,hy,by rw [hg.go.stop e,hg.lc],hg.go.di,λx=>(hg.mem x).trans ⟨λh=>h.imp id λ⟨j,_,h⟩=>⟨j,h⟩,λh=>h.imp id λ⟨j,h⟩=>⟨j%i,Nat.mod_lt _ hy.pos,by rw [h,hy.mod j]⟩⟩⟩
  exact key _ 0 dn0 k0 [] O (UD.zero h hb)
structure ST (ts:List T3) (dn:List (P2×Nat)) (ms:List (P2×Nat)):Prop where
  di:Kg ts dn
  cl:Y4 ts dn
  ok:∀m∈ms,Ea ts m.1/\IS ts m.1 m.2/\(∀j,¬Ip (Da ts m.1 j) m.1)/\(Ac dn m.1).isSome=true
  cov:∀x,(Ac dn x).isSome=true->∃m∈ms,∃j,x=Da ts m.1 j
  nd:(ms.map (·.1)).Nodup
def O5 (ts:List T3) (ms:List (P2×Nat)):List (List Nat):=ms.map λm=>Cq ts m.1 m.2
theorem ST.nil:ST ts [] []:=⟨Kg.nil,λ_ _=>Iff.rfl,λ_ h=>absurd h List.not_mem_nil,λx h=>(by cases h),List.nodup_nil⟩
theorem ST.step (hn:A_ N ts=true) (hN:N<=4611686018427387904) (ho:BV ts (3*ts.length)=true) (h:ST ts dn ms) (hb:Ea ts k0) (h0:Ac dn k0=none) {dn2:List (P2×Nat)} (hg:VT ts dn k0=(dn2,l)) :
    ∃p,IS ts k0 p/\l=Cq ts k0 p/\(∀x,(Ac dn2 x).isSome=true↔(Ac dn x).isSome=true\/∃j,x=Da ts k0 j)/\∀b,(∀j,¬Ip (Da ts k0 j) (Da ts k0 b))->ST ts dn2 (ms++[(Da ts k0 b,p)]):=by
  obtain ⟨p,d2,hy,e,hd,hm⟩:=Xx hn hN ho h.di h.cl hb h0
  rw [hg] at e
  injection e with e1 e2
  subst e1 e2
  refine ⟨p,hy,rfl,hm,λb hmin=>⟨hd,λx hx=>?_,λm hmm=>?_,λx hx=>?_,?_⟩⟩
  · rw [hm,hm,h.cl x hx]
    constructor
    · rintro (h1|⟨j,h1⟩)
      · exact .inl h1
      · exact .inr ⟨j+1,by rw [h1];rfl⟩
    · rintro (h1|⟨j,h1⟩)
      · exact .inl h1
      · refine .inr ⟨j+p-1,?_⟩
        have h2:DA ts x=DA ts (Da ts k0 (j+p-1)):=by
          rw [h1,<-hy.per (i:=j)]
          show _=Da ts k0 (j+p-1+1)
          have:=hy.pos
          rw [show j+p-1+1=p+j by omega]
        exact QR ho hx (IT ho hb _) h2
  · rcases List.mem_append.1 hmm with h1|h1
    · obtain ⟨a1,a2,a3,a4⟩:=h.ok m h1
      exact ⟨a1,a2,a3,(hm _).2 (.inl a4)⟩
    · rw [List.mem_singleton.1 h1]
      refine ⟨IT ho hb _,hy.rot b,λj=>?_,(hm _).2 (.inr ⟨b,rfl⟩)⟩
      show ¬Ip (Da ts (Da ts k0 b) j) (Da ts k0 b)
      rw [Es];exact hmin _
  · rcases (hm x).1 hx with h1|⟨j,h1⟩
    · obtain ⟨m,h2,h3⟩:=h.cov x h1
      exact ⟨m,List.mem_append_left _ h2,h3⟩
    · obtain ⟨c,hc⟩:=hy.home (b:=b)
      exact ⟨_,List.mem_append_right _ (List.mem_singleton.2 O),c+j,by show x=Da ts (Da ts k0 b) (c+j);rw [h1,<-Es,hc]⟩
  · rw [List.map_append]
    refine List.nodup_append.2 ⟨h.nd,by simp,λa ha c hc e=>?_⟩
    rw [List.map_cons,List.map_nil,List.mem_singleton] at hc
    obtain ⟨m,h1,rfl⟩:=List.mem_map.1 ha
    have h2:=(h.ok m h1).2.2.2
    rw [e,hc,<-h.cl.it ho hb b,h0] at h2
    cases h2
theorem QP (hn:A_ N ts=true) (hN:N<=4611686018427387904) (ho:BV ts (3*ts.length)=true):∀i,i<=(Ab ts).length->∃ms,ST ts (Dr ts i).1 ms/\(Dr ts i).2=O5 ts ms/\∀j,j<i->(Ac (Dr ts i).1 ((EC ts).getD j (0,0))).isSome=true
  | 0,_=>⟨[],ST.nil,rfl,λj h=>absurd h (Nat.not_lt_zero _)⟩
  | i+1,hi=>by
    obtain ⟨ms,h1,h2,h3⟩:=QP hn hN ho i Z
    obtain ⟨wq,hwq⟩:∃q,q=(Ab ts).getD i (0,0,0):=⟨_,rfl⟩
    have hbd:=OS hn hN (show i<(Ab ts).length by omega) hwq
    have hst:(EC ts).getD i (0,0)=(wq.1,wq.2.1):=by rw [C7 Z,hwq]
    by_cases hc:0<(Ac (Dr ts i).1 (wq.1,wq.2.1)).getD 0
    · rw [JU hwq rfl hc]
      refine ⟨ms,h1,h2,λj hj=>?_⟩
      rcases Nat.lt_or_ge j i with q|q
      · exact h3 j q
      · rw [show j=i by omega,hst]
        cases hg:Ac (Dr ts i).1 (wq.1,wq.2.1) with
        | none=>rw [hg] at hc;exact absurd hc (Nat.lt_irrefl _)
        | some n=>rfl
    · obtain ⟨dn2,l,hgv⟩:∃dn2 l,VT ts (Dr ts i).1 (wq.1,wq.2.1)=(dn2,l):=⟨_,_,rfl⟩
      obtain ⟨p,hy,e,hm,hr⟩:=h1.step hn hN ho hbd (h1.di.zero Z) hgv
      rw [Lr hwq rfl hc hgv]
      have hmin:=QZ ho hbd hy p (Nat.le_refl _)
      refine ⟨_,hr (De (Cq ts (wq.1,wq.2.1) p) p) λj=>by rw [hy.mod j];exact hmin _ (Nat.mod_lt _ hy.pos),?_,λj hj=>?_⟩
      · show (Dr ts i).2++[DG l]=_
        rw [h2,e,WA hy]
        unfold O5
        rw [List.map_append];rfl
      · show (Ac dn2 _).isSome=true
        rcases Nat.lt_or_ge j i with q|q
        · exact (hm _).2 (.inl (h3 j q))
        · rw [show j=i by omega,hst];exact (hm _).2 (.inr ⟨0,rfl⟩)
theorem IS.two {p:Nat} (hn:A_ N ts=true) (ho:BV ts (3*ts.length)=true) (hb:Ea ts k) (h:IS ts k p):2<=p:=by
  rcases Nat.lt_or_ge p 2 with q|q
  · have:=h.pos
    have e:p=1:=by omega
    subst e
    have h1:=h.back
    have h2:=Hg ho hb
    rw [show DA ts k=k from h1] at h2
    exact absurd h2 (YG hn hb)
  · exact q
theorem Vf {p p':Nat} (hn:A_ N ts=true) (ho:BV ts (3*ts.length)=true) (hb:Ea ts k) (hb':Ea ts k') (h:IS ts k p) (h':IS ts k' p') (hl:Ip k k'):OH (Cq ts k p) (Cq ts k' p'):=by
  have h2:=h.two hn ho hb
  have h2':=h'.two hn ho hb'
  have e0:=GW (a:=Cq ts k p) (b:=Cq ts k' p') (i:=0) (by rw [CY];omega) (by rw [CY];omega)
  have e1:=GW (a:=Cq ts k p) (b:=Cq ts k' p') (i:=1) (by rw [CY];omega) (by rw [CY];omega)
  rw [List.drop_zero,List.drop_zero,FL Z,FL Z,show Da ts k 0=k from rfl,show Da ts k' 0=k' from rfl] at e0
  rw [FL Z,FL Z,show (Da ts k 1).1=k.2 from Hg ho hb,show (Da ts k' 1).1=k'.2 from Hg ho hb'] at e1
  have e:cmpL (Cq ts k p) (Cq ts k' p') = -1:=by
    rcases hl with h3|⟨h3,h4⟩
    · rw [e0,if_pos h3]
    · rw [e0,if_neg Z,if_neg Z,e1,if_pos h4]
  unfold OH
  have:=DJ (Cq ts k p) (Cq ts k' p')
  omega
theorem ST.sub {dn':List (P2×Nat)} {ms':List (P2×Nat)} (h:ST ts dn ms) (h':ST ts dn' ms') (hall:∀x,Ea ts x->(Ac dn' x).isSome=true) {m:P2×Nat} (hm:m∈ms):m∈ms':=by
  obtain ⟨a1,a2,a3,_⟩:=h.ok m hm
  obtain ⟨m',b,j,hj⟩:=h'.cov m.1 (hall _ a1)
  obtain ⟨b1,b2,b3,_⟩:=h'.ok m' b
  have e:m.1=m'.1:=by
    refine Mx (λq=>b3 j (by rw [<-hj];exact q)) λq=>?_
    obtain ⟨c,hc⟩:=b2.home (b:=j)
    rw [<-hj] at hc
    exact a3 c (by rw [hc];exact q)
  have e2:m=m':=Prod.ext e (by rw [e] at a2;exact a2.uniq b2)
  rw [e2];exact b
structure Pq (ts:List T3) (dn:List (P2×Nat)) (ms:List (P2×Nat)):Prop where
  r:ST ts dn ms
  lo:∀m∈ms,∀x,Ea ts x->Ac dn x=none->Ip m.1 x
  srt:ms.Pairwise λa b=>Ip a.1 b.1
theorem Pq.nil:Pq ts [] []:=⟨ST.nil,λ_ h=>absurd h List.not_mem_nil,List.Pairwise.nil⟩
theorem Pq.step (hn:A_ N ts=true) (hN:N<=4611686018427387904) (ho:BV ts (3*ts.length)=true) (h:Pq ts dn ms) (hb:Ea ts k0) (h0:Ac dn k0=none) (hlo:∀x,Ea ts x->Ac dn x=none->¬Ip x k0) {dn2:List (P2×Nat)} (hg:VT ts dn k0=(dn2,l)):∃p,l=Cq ts k0 p/\Pq ts dn2 (ms++[(k0,p)]):=by
  obtain ⟨p,hy,e,hm,hr⟩:=h.r.step hn hN ho hb h0 hg
  have no:∀{d:List (P2×Nat)} {x:P2},¬(Ac d x).isSome=true->Ac d x=none:=λ{d x} q=>by
    cases hq:Ac d x with
    | none=>rfl
    | some n=>rw [hq] at q;exact absurd rfl q
  refine ⟨p,e,hr 0 λj=>hlo _ (IT ho hb j) (no λq=>?_),λm hmm x hx hxn=>?_,?_⟩
  · rw [<-h.r.cl.it ho hb j,h0] at q;cases q
  · have hx1:¬((Ac dn x).isSome=true\/∃j,x=Da ts k0 j):=λq=>by
      have:=(hm x).2 q
      rw [hxn] at this;cases this
    have hx2:=no λq=>hx1 (.inl q)
    rcases List.mem_append.1 hmm with h1|h1
    · exact h.lo m h1 x hx hx2
    · rw [List.mem_singleton.1 h1]
      show Ip k0 x
      have h3:=hlo x hx hx2
      by_cases h4:Ip k0 x
      · exact h4
      · exact absurd ⟨0,Mx h3 h4⟩ λq=>hx1 (.inr q)
  · refine List.pairwise_append.2 ⟨h.srt,List.pairwise_singleton _ _,λa ha b hb'=>?_⟩
    rw [List.mem_singleton.1 hb']
    exact h.lo a ha k0 hb h0
theorem Wy (hn:A_ N ts=true) (hN:N<=4611686018427387904) (ho:BV ts (3*ts.length)=true) (h:Pq ts dn ms) (hall:∀x∈EC ts,(Ac dn x).isSome=true):O5 ts ms=Hl ts:=by
  obtain ⟨ms',h1,h2,h3⟩:=QP hn hN ho (Ab ts).length (Nat.le_refl _)
  have a1:∀x,Ea ts x->(Ac dn x).isSome=true:=λx hx=>hall x ((HO hn hN ho).2 hx)
  have a2:∀x,Ea ts x->(Ac (Dr ts (Ab ts).length).1 x).isSome=true:=λx hx=>by
    obtain ⟨j,hj,e⟩:=List.getElem_of_mem ((HO hn hN ho).2 hx)
    have:=h3 j (by rw [<-D9];exact hj)
    rw [List.getD,List.getElem?_eq_getElem hj,e] at this
    exact this
  have nd:∀{ms:List (P2×Nat)},(ms.map (·.1)).Nodup->ms.Nodup:=λ{ms} q=>(List.pairwise_map.1 q).imp λ{a b} h e=>h (by rw [e])
  have hp:ms.Perm ms':=(List.perm_ext_iff_of_nodup (nd h.r.nd) (nd h1.nd)).2 λm=>⟨h.r.sub h1 a2,h1.sub h.r a1⟩
  unfold Hl
  rw [h2]
  refine Ky (hp.map _) (List.pairwise_map.2 (List.Pairwise.imp_of_mem ?_ h.srt))
  intro a b ha hb hab
  obtain ⟨c1,c2,_⟩:=h.r.ok a ha
  obtain ⟨d1,d2,_⟩:=h.r.ok b hb
  exact Vf hn ho c1 d1 c2 d2 hab
end
def Vk (T:T3) (a b:Nat):Nat->Nat
  | 0=>T.1
  | i+1=>if Bl T i≠a/\Bl T i≠b then Bl T i else Vk T a b i
section
variable {ts:List T3} {N:Nat} {k:P2} {T:T3} {a b i:Nat}
theorem W2 (h:Bl T i≠a/\Bl T i≠b):Vk T a b (i+1)=Bl T i:=if_pos h
theorem Yi (h:¬(Bl T i≠a/\Bl T i≠b)):Vk T a b (i+1)=Vk T a b i:=if_neg h
theorem XI {r:Nat} (hr:r<3) (h:T.1≠T.2.1/\T.2.1≠T.2.2/\T.2.2≠T.1):Vk T (Bl T r) (Bl T ((r+1)%3)) 3=Ft T (Bl T r,Bl T ((r+1)%3)):=by
  obtain ⟨x,y,z⟩:=T
  obtain ⟨h1,h2,h3⟩:=h
  have e:r=0\/r=1\/r=2:=by omega
  have h1:x≠y:=h1
  have h2:y≠z:=h2
  have h3:z≠x:=h3
  rcases e with e|e|e<;>subst e<;>simp only [Vk,Bl,Ft]<;>simp [h1,h2,h3,h1.symm,h2.symm,h3.symm]<;>omega
theorem UO (hn:A_ N ts=true) (ho:BV ts (3*ts.length)=true) (h:isS ts k) {tq:Nat} (ht:tq=(Ac (HE ts) k).getD 0) (hT:T=ts.getD tq (0,0,0)):Vk T k.1 k.2 3=Ft T k:=by
  obtain ⟨u,hu,rfl⟩:=CR.1 h
  rw [HK ho hu,Option.getD_some] at ht
  have hk:BQ ts u=(Bl T (u%3),Bl T ((u%3+1)%3)):=by rw [hT,ht];rfl
  rw [hk]
  exact XI Z (by rw [hT];exact KC (CL hn Z))
theorem X8 (h:¬Bb ts k.1 k.2 ts.length<0):isS ts k:=by
  by_cases q:isS ts k
  · exact q
  · rw [KV q] at h;exact absurd (by decide) h
theorem Wq (ho:BV ts (3*ts.length)=true) (h:Bb ts k.1 k.2 ts.length<0):¬isS ts k:=λq=>by
  rw [Hd ho q] at h;omega
end
theorem QQ {ts:List T3}:∀i,(Dr ts i).2.length<=i
  | 0=>Nat.le_refl _
  | i+1=>by
    have:=QQ (ts:=ts) i
    show (if _ then Dr ts i else _:List (P2×Nat)×List (List Nat)).2.length<=i+1
    split
    · omega
    · rw [List.length_append];show _+1<=_;omega
theorem Ql {ts:List T3} {m:Nat} (h:(Ab ts).length<=m):(Hl ts).length<=m:=by
  unfold Hl
  rw [(H1 _).length_eq]
  exact Nat.le_trans (QQ _) h
end
section
set_option maxRecDepth 100000
set_option maxHeartbeats 1000000 in
theorem VQ {N:Nat} {ts ss:List T3} (x:RM N ts ss) (k0 k:P2) (n:Nat) (hnb:A_ N ts=true) (ho:BV ts (3*ts.length)=true) (hl:ts.length<=1000000) (hN:N<=1000000) (h0:Ea ts k0) (hb:D_ ts k0 n k) (hrec:isS ts (Ff (Eu ts k))->∀(S:Nat->Prop) (w:World),Ro S w x->Calls prog 45 #[(aG (BN x)),vN (Ff (Eu ts k)).1,vN (Ff (Eu ts k)).2] w (Ak w (vN (DA ts k0).2))) (w:World) {S:Nat->Prop} (hx:Ro S w x):Calls prog 45 #[(aG (BN x)),(vN k.1),(vN k.2)] w (Ak w (vN ((DA ts k0).2))):=by
 obtain ⟨tq,htq⟩:∃q,q=(Ac (HE ts) k).getD 0:=⟨_,rfl⟩
 obtain ⟨hk0,hk1,hk2,hk3⟩:=Sg hnb ho hb.isS
 rw [<-htq] at hk0 hk3
 have hthc:=UO hnb ho hb.isS htq rfl
 have hnx:Ff (Eu ts k)=(Ft (ts.getD tq (0,0,0)) k,k.2):=by unfold Eu Ff;rw [<-htq]
 obtain ⟨g1,g2,g3⟩:=Cn (CL hnb hk0)
 have lx:=CV (W:=w) hx
 refine Ag (args:=[(aG (BN x)),(vN k.1),(vN k.2)]) (L:=[AJ x.a.p (x.cs),AJ x.b.p (rowsL Am ts),AJ x.c.p (x.ds)]) func45 O O (AV O) (C4 hx Ao) (AE.subF (sL [0,1,2] O) (q4 (B0 (cs:=BN x) O λb1=>AI O (q6 (sL [1,2,3,6] O) (rN [(0,true),(1,true),(2,true),(3,true),(4,true),(5,false),(6,true),(7,true)] [⟨8,7,68,Am ((0,0,0):Tq3)⟩] [(9,false)] sr (by kernel_rfl) (λ_ _ d _ _ h=>by cases d<;>exact h) (OW O O Ng O (Q7)) O (OI (v:=(pP b1 1)) O (AB O underlying38 O sizeOf28 O) O (T9 0 (Value.slice x.b.p ts.length x.b.c) Bp O (XR 0 CH O (aJ O (aJ O ?_))))))))))
 refine Ci.imp O λEF EL=>Cc (args:=[(aG (BN x)),(vN k.1),(vN k.2)]) (v:=(vN tq)) call38 (λw hw=>(by have h9:=Du x k.1 k.2 hl w (Bc hw 1 O lx);rw [Hd ho hb.isS,<-htq] at h9;exact h9)) O (Ci.back0 sr O (OI (v:=(pP (pB x.b.p) (pO x.b.p+tq*3))) O (AH (j:=tq) O O x.b.ok underlying28 sizeOf68 O Z) O (OI (v:=(aG (Am (ts.getD tq ((0,0,0):Tq3))))) O (Ai (vs:=Am (ts.getD tq ((0,0,0):Tq3))) (i:=2) O O (Ar.ne x.b.ok Z) DL (A8 Af _ _ _ Z) (Af _)) O (Ci.news1 λb2=>OkE.imp O (BP O sizeOf68 O (OkE.back (sl sr) (OkE.nil (OkQ.subF (sL [1,2,3,6,7] O) (q2 ?_)))))))))
 refine AK (v:=(pP b2 0)) (AG (j:=0) O O underlying68 sizeOf3 O (by decide) O) O (BL 0 (vN ((ts.getD tq ((0,0,0):Tq3)).1)) BR O (AI O (q6 (sL [1,2,3,6,7,8] O) (q4 (AI O (AC.nil (OkQ.then_ (AE.block ?_))))))))
 refine AE.lp2 (tg λ(i:Nat) (cq:Nat)=>i<=3/\cq=Vk (ts.getD tq (0,0,0)) k.1 k.2 i) (tg λ(i:Nat) (cq:Nat)=>[(1,(vN k.1)),(2,(vN k.2)),(3,(pP b1 0)),(6,(vI 0)),(7,(pP b2 0)),(9,(vN i)),(8,(vN cq))]) (tg λ(i:Nat) (cq:Nat)=>[Ah b2 68 (Am (ts.getD tq ((0,0,0):Tq3))),Ah b1 38 (BN x),AJ x.a.p (x.cs),AJ x.b.p (rowsL Am ts),AJ x.c.p (x.ds)]) (tg λ(i:Nat) (cq:Nat)=>3-i) 0 ((ts.getD tq (0,0,0)).1) (⟨Nat.zero_le _,rfl⟩) (sF O) sr (λi cq hJ=>?_)
 obtain ⟨hi,hcq⟩:=hJ
 refine AE.seq (q4 (AM O (AK (Ad (c:=(decide (i<3))) O O (B7 (a:=i) (b:=3))) O (AC.nil (OkQ.subF (sL [1,2,3,6,7,9,8,21] O) (OkQ.then_ ?_))))))
 refine AE.cond O (λhc0=>?_) (λhc0=>?_)
 ·replace hc0:=of_decide_eq_true hc0
  refine AE.skip (q1 (AE.block (q4 (AM O (AK (v:=(pP b2 (0+i*1))) (AG (j:=i) O O underlying68 sizeOf3 O Z O) O (AK (AN (i:=0) (v:=(vN (Bl (ts.getD tq ((0,0,0):Tq3)) i))) O O isAgg3 (PW Z)) O (AM O (AK (Ce (c:=(decide ((Bl (ts.getD tq ((0,0,0):Tq3)) i)≠k.1))) O O (ZB (a:=Bl (ts.getD tq ((0,0,0):Tq3)) i) (b:=k.1))) O (AM O ?_)))))))))
  refine AC.mid (FM:=[(1,(vN k.1)),(2,(vN k.2)),(3,(pP b1 0)),(6,(vI 0)),(7,(pP b2 0)),(9,(vN i)),(8,(vN cq)),(24,(vN i)),(25,(pP b2 (0+i*1))),(26,(vN (Bl (ts.getD tq ((0,0,0):Tq3)) i))),(27,(vN k.1)),(28,(Value.bool (decide ((Bl (ts.getD tq ((0,0,0):Tq3)) i)≠k.1)))),(29,(Value.bool (decide ((Bl (ts.getD tq ((0,0,0):Tq3)) i)≠k.1)))),(35,(Value.bool ((decide ((Bl (ts.getD tq ((0,0,0):Tq3)) i)≠k.1))&&(decide ((Bl (ts.getD tq ((0,0,0):Tq3)) i)≠k.2)))))]) (LM:=[Ah b2 68 (Am (ts.getD tq ((0,0,0):Tq3))),Ah b1 38 (BN x),AJ x.a.p (x.cs),AJ x.b.p (rowsL Am ts),AJ x.c.p (x.ds)]) 6 ?_ ?_
  ·rcases Bool.eq_false_or_eq_true (decide ((Bl (ts.getD tq ((0,0,0):Tq3)) i)≠k.1)) with hg1|hg1
   ·skip
    refine AC.retell (k:=29) (u:=Value.bool true) O (by rw [hg1]) ?_
    have hg1':=hg1
    replace hg1':=of_decide_eq_true hg1'
    exact AC.step (v:=(vN i)) (AA O) (AW O) O (AV O) (AC.step (v:=(pP b2 (0+i*1))) (AA O) (AG (j:=i) O O underlying68 sizeOf3 O Z O) O (AV O) (AC.step (v:=(vN (Bl (ts.getD tq ((0,0,0):Tq3)) i))) (AA O) (AN (i:=0) (v:=(vN (Bl (ts.getD tq ((0,0,0):Tq3)) i))) O O isAgg3 (PW Z)) O (AV O) (AC.step (v:=(vN k.2)) (AA O) (AW O) O (AV O) (AC.step (v:=(Value.bool (decide ((Bl (ts.getD tq ((0,0,0):Tq3)) i)≠k.2)))) (AA O) (Ce (c:=(decide ((Bl (ts.getD tq ((0,0,0):Tq3)) i)≠k.2))) O O (ZB (a:=Bl (ts.getD tq ((0,0,0):Tq3)) i) (b:=k.2))) O (AV O) (AK (v:=(Value.bool (decide ((Bl (ts.getD tq ((0,0,0):Tq3)) i)≠k.2)))) (AR O O) O (AC.nil (OkQ.mid (sS O (sS O (sS O (sS O (sS O (sS O (sS O (sS O (sS O (sS O (sS O (sS O (sS (by first|rfl|(rw [hg1];rfl)|rw [hg1]) (sS (by first|rfl|(rw [hg1];rfl)|rw [hg1]) (sN))))))))))))))) (List.Sublist.refl _))))))))
   ·skip
    refine AC.retell (k:=29) (u:=Value.bool false) O (by rw [hg1]) ?_
    have hg1':=hg1
    replace hg1':=of_decide_eq_false hg1'
    exact AC.skip (AD O) O (AV O) (AC.skip (AD O) O (AV O) (AC.skip (AD O) O (AV O) (AC.skip (AD O) O (AV O) (AC.skip (AD O) O (AV O) (AK (v:=(Value.bool false)) (AO O O) O (AC.nil (OkQ.mid (sS O (sS O (sS O (sS O (sS O (sS O (sS O (sS O (sS O (sS O (sS O (sS O (sS (by first|rfl|(rw [hg1];rfl)|rw [hg1]) (sS (by first|rfl|(rw [hg1];rfl)|rw [hg1]) (sN))))))))))))))) (List.Sublist.refl _))))))))
  refine AC.nil (OkQ.subF (sL [1,2,3,6,7,9,8,35] O) (OkQ.then_ ?_))
  refine AE.jn1 (tg λ(cn:Nat)=>cn=Vk (ts.getD tq (0,0,0)) k.1 k.2 (i+1)) (tg λ(cn:Nat)=>[(1,(vN k.1)),(2,(vN k.2)),(3,(pP b1 0)),(6,(vI 0)),(7,(pP b2 0)),(9,(vN i)),(8,(vN cn))]) (tg λ(cn:Nat)=>[Ah b2 68 (Am (ts.getD tq ((0,0,0):Tq3))),Ah b1 38 (BN x),AJ x.a.p (x.cs),AJ x.b.p (rowsL Am ts),AJ x.c.p (x.ds)]) ?_ ?_
  ·skip
   refine AE.cond O (λhc1=>?_) (λhc1=>?_)
   ·simp only [Bool.and_eq_true,Bool.or_eq_true,Bool.and_eq_false_iff,Bool.or_eq_false_iff,Bool.not_eq_true',Bool.not_eq_false',decide_eq_true_eq,decide_eq_false_iff_not] at hc1
    exact AE.region (AM O (AK (v:=(pP b2 (0+i*1))) (AG (j:=i) O O underlying68 sizeOf3 O Z O) O (AK (AN (i:=0) (v:=(vN (Bl (ts.getD tq ((0,0,0):Tq3)) i))) O O isAgg3 (PW Z)) O (AI O (AC.nil (OkQ.subF (sL [1,2,3,6,7,9,8] O) (OkQ.join1 (Bl (ts.getD tq ((0,0,0):Tq3)) i) ((W2 hc1).symm) (sF O) sr)))))))
   ·simp only [Bool.and_eq_true,Bool.or_eq_true,Bool.and_eq_false_iff,Bool.or_eq_false_iff,Bool.not_eq_true',Bool.not_eq_false',decide_eq_true_eq,decide_eq_false_iff_not] at hc1
    exact AE.skip (OkQ.join1 cq ((by rw [hcq];exact (Yi λh9=>hc1.elim (λh8=>h8 h9.1) λh8=>h8 h9.2).symm)) (sF O) sr)
  ·intro cn hJ
   have hcn:=hJ
   exact OkQ.in_normal (OkQ.then_ (AE.region (AM O (AK (AY (c:=((i+1:Nat):Int)) O O (AU (a:=i) (b:=1) Z)) O (AI O (AC.nil (OkQ.subF (sL [1,2,3,6,7,9,8] O) (OkQ.round2 (i+1) cn (⟨Z,hcn⟩) Z (sF O) sr))))))))
 ·replace hc0:=of_decide_eq_false hc0
  have hcq3:cq=Ft (ts.getD tq (0,0,0)) k:=by rw [hcq,show i=3 by omega];exact hthc
  refine AE.exit (OkQ.then_exit (OkQ.round2_exit (OkQ.in_exit (q1 (q4 (BC 1 CH O (AM O (AM O (Cc (args:=[(aG (BN x)),(vN cq),(vN k.2)]) (v:=(vI (Bb ts (Ff (Eu ts k)).1 (Ff (Eu ts k)).2 ts.length))) call38 (λw hw=>(by have h9:=Du x cq k.2 hl w (Bc hw 2 O lx);rw [hnx,<-hcq3];exact h9)) O (AK (Ad (c:=(decide ((Bb ts (Ff (Eu ts k)).1 (Ff (Eu ts k)).2 ts.length)<(0:Int)))) O O O) O (AC.nil ?_)))))))))))
  refine OkQ.subF (sL [1,2,3,6,7,9,8,43] O) (OkQ.then_ ?_)
  refine AE.cond O (λhc2=>?_) (λhc2=>?_)
  ·replace hc2:=of_decide_eq_true hc2
   exact q4 (AM O (AI O (AC.nil (OkQ.subF (sL [1,2,3,6,7,9,8] O) (OkQ.then_ (AE.ret (OkQ.then_ret (AS O (AZ (v:=(vN cq)) O) (λw hw=>⟨by rw [hcq3,(hb.stop ho h0 (Wq ho hc2)).1];rw [show Eu ts k=Ff (Ff (Eu ts k)) from O,hnx];rfl,hw.out⟩)))))))))
  ·replace hc2:=of_decide_eq_false hc2
   exact AE.skip (q2 (BC 1 CH O (AM O (AM O (Cc (args:=[(aG (BN x)),(vN cq),(vN k.2)]) (v:=(vN ((DA ts k0).2))) call45 (λw hw=>(by have h9:=hrec (X8 hc2) _ w (Bc hw 2 O lx);rw [hnx,<-hcq3] at h9;exact h9)) O (AI O (AC.nil (OkQ.subF (sL [1,2,3,6,7,9,8] O) (OkQ.then_ (AE.ret (AS O (AZ (v:=(vN ((DA ts k0).2))) O) (λw hw=>⟨rfl,hw.out⟩))))))))))))
theorem WL {N:Nat} {ts ss:List T3} (x:RM N ts ss) (k0:P2) (hnb:A_ N ts=true) (ho:BV ts (3*ts.length)=true) (hl:ts.length<=1000000) (hN:N<=1000000) (h0:Ea ts k0):∀d n k,3*ts.length-n=d->D_ ts k0 n k->∀(S:Nat->Prop) (w:World),Ro S w x->Calls prog 45 #[(aG (BN x)),vN k.1,vN k.2] w (Ak w (vN (DA ts k0).2)):=λd=>by
 induction d with
 | zero=>intro n k hd h;have:=h.lt ho h0;omega
 | succ d ih =>
  intro n k hd h S w hx
  have:=h.lt ho h0
  exact VQ x k0 k n hnb ho hl hN h0 h (λhs=>ih (n+1) _ Z (h.succ hs)) w hx
theorem Yn {N:Nat} {ts ss:List T3} (x:RM N ts ss) (k:P2) (hnb:A_ N ts=true) (ho:BV ts (3*ts.length)=true) (hl:ts.length<=1000000) (hN:N<=1000000) (h0:Ea ts k) (w:World) {S:Nat->Prop} (hx:Ro S w x):Calls prog 45 #[(aG (BN x)),vN k.1,vN k.2] w (Ak w (vN (DA ts k).2)):=WL x k hnb ho hl hN h0 _ 0 k rfl (D_.zero h0.1) S w hx
end
end Go.Proofs.YtpgncndhhhllfaaGreat
