import Derived.Test.YtfbomiejpbchdaaGreatPart06
import Derived.Test.YtfbomiejpbchdaaGreatPart24
import Derived.Test.YtfbomiejpbchdaaGreatPart30
namespace Go.Proofs.YtfbomiejpbchdaaGreat
open Go Go.RowKit Go.Proofs.Tryz
set_option linter.unusedVariables false
set_option linter.unusedSimpArgs false
section
theorem KS {α:Type} {R:α->α->Prop} (ha:∀x y,R x y->¬R y x) {l l':List α} (h:l.Pairwise R) (h':l'.Pairwise R) (hm:∀x,x∈l↔x∈l'):l=l':=by
  have nd:∀{l:List α},l.Pairwise R->l.Nodup:=λ{l} h=>h.imp λ{x y} hxy e=>by subst e;exact ha _ _ hxy hxy
  exact List.Perm.eq_of_pairwise (le:=R) (λx y _ _ h1 h2=>absurd h2 (ha x y h1)) h h' ((List.perm_ext_iff_of_nodup (nd h) (nd h')).2 hm)
abbrev T3:=Nat×Nat×Nat
section
variable {ts ts':List T3} {N:Nat}
theorem Mf {t:T3} (h:I0 N t=true):t.1≠t.2.1/\t.2.1≠t.2.2/\t.2.2≠t.1:=by
  simp only [I0,Bool.and_eq_true,Bool.not_eq_true',decide_eq_false_iff_not,decide_eq_true_eq] at h
  exact ⟨h.1.1.2,h.1.2,h.2⟩
theorem Kq (hn:CD N ts=true) {u:Nat} (hu:u<3*ts.length):(Bz ts u).1≠(Bz ts u).2:=by
  obtain ⟨hab,hbc,hca⟩:=Mf (Cf hn (show u/3<ts.length by omega))
  have h3:u%3=0\/u%3=1\/u%3=2:=by omega
  unfold Bz
  rcases h3 with h3|h3|h3<;>rw [h3]
  · exact hab
  · exact hbc
  · exact hca
theorem Mu (hn:CD N ts=true) {u:Nat} (hu:u<3*ts.length):(Bz ts u).1<N/\(Bz ts u).2<N:=by
  have h:=Cf hn (show u/3<ts.length by omega)
  exact ⟨Mt h _,Mt h _⟩
theorem Jl.uniq {s a b:Nat} {y z:Int} (h:Jl ts s a b y) (k:Jl ts s a b z):y=z:=by
  rcases h with ⟨h1,h2⟩|⟨u,h1,h2,h3,h4⟩<;>rcases k with ⟨k1,k2⟩|⟨v,k1,k2,k3,k4⟩
  · omega
  · exact absurd k3 (h2 v k1)
  · exact absurd h3 (k2 u h1)
  · rcases Nat.lt_trichotomy u v with h|h|h
    · exact absurd h3 (k4 u h)
    · rw [h2,k2,h]
    · exact absurd k3 (h4 v h)
theorem P7 (hn:CD N ts=true) (hN:N<=4611686018427387904) {e:E4}:e∈Br ts↔U8 ts (3*ts.length) (e.a,e.b) e:=by
  have hd:∀u,u<3*ts.length->(Bz ts u).1≠(Bz ts u).2:=λu hu=>Kq hn hu
  refine ⟨λh=>Wh hn hN hd h,λh=>?_⟩
  obtain ⟨i1,i2⟩:=Jk hd _ (Nat.le_refl _)
  cases hg:Ao (Ci ts (3*ts.length)) (e.a,e.b) with
  | none =>
    obtain ⟨u,hu,hs⟩:=h.some
    have h3:=i2 _ hg h.lt u hu
    rcases hs with hs|hs
    · exact absurd hs h3.1
    · exact absurd hs h3.2
  | some e' =>
    have h3:=i1 _ _ hg
    have e1:e'=e:=by
      have a1:=h3.ea;have a2:=h3.eb;have a3:=h3.l.uniq h.l;have a4:=h3.r.uniq h.r
      cases e;cases e';simp only at a1 a2 a3 a4;subst a1 a2 a3 a4;rfl
    rw [e1] at hg
    unfold Br
    exact (Do _).mem_iff.2 (List.mem_map.2 ⟨_,KV hg,rfl⟩)
def Yc (x y:E4):Prop:=x.a<y.a\/(x.a=y.a/\x.b<y.b)
theorem Yc.asymm (x y:E4) (h:Yc x y):¬Yc y x:=by unfold Yc at *;omega
theorem O5 (hn:CD N ts=true) (hN:N<=4611686018427387904):(Br ts).Pairwise Yc:=by
  have h1:MM ((Ci ts (3*ts.length)).map (·.2)):=Lh (FW hn hN _ (Nat.le_refl _)) (KK ts _)
  have h2:MM (Br ts):=(List.Perm.pairwise_iff (R:=λx y:E4=>¬(x.a=y.a/\x.b=y.b)) (λh k=>h ⟨k.1.symm,k.2.symm⟩) (Do _)).2 h1
  exact (List.Pairwise.and (GX _) h2).imp λ{x y} h=>by
    have h3:=Jr.1 h.1
    have h4:=h.2
    unfold Yc
    omega
def SE (ts:List T3) (j a b:Nat):Prop:=∃r,r<3/\Bz ts (3*j+r)=(a,b)
def Yq (ts:List T3) (n a b:Nat) (z:Int):Prop:=(z = -1/\∀j,j<n->¬SE ts j a b)\/∃j,j<n/\z=(j:Int)/\SE ts j a b/\∀i,i<j->¬SE ts i a b
theorem Wr {n a b:Nat} {z:Int} (h:Jl ts (3*n) a b z):Yq ts n a b z:=by
  rcases h with ⟨h1,h2⟩|⟨u,h1,h2,h3,h4⟩
  · exact .inl ⟨h1,λj hj ⟨r,hr,k⟩=>h2 _ Z k⟩
  · exact .inr ⟨u/3,Z,h2,⟨u%3,Z,by rw [show 3*(u/3)+u%3=u by omega];exact h3⟩,λi hi ⟨r,hr,k⟩=>h4 _ Z k⟩
theorem UK {n a b:Nat} {z:Int} (h:Yq ts n a b z):Jl ts (3*n) a b z:=by
  rcases h with ⟨h1,h2⟩|⟨j,h1,h2,⟨r,hr,h3⟩,h4⟩
  · exact .inl ⟨h1,λu hu k=>h2 (u/3) Z ⟨u%3,Z,by rw [show 3*(u/3)+u%3=u by omega];exact k⟩⟩
  · have key:∀m,m<=3->(∀q,q<m->Bz ts (3*j+q)≠(a,b))\/∃q,q<m/\Bz ts (3*j+q)=(a,b)/\∀p,p<q->Bz ts (3*j+p)≠(a,b):=by
      intro m
      induction m with
      | zero=>intro _;exact .inl λq hq=>absurd hq (Nat.not_lt_zero _)
      | succ m ih =>
        intro hm
        rcases ih Z with h|⟨q,h5,h6,h7⟩
        · by_cases k:Bz ts (3*j+m)=(a,b)
          · exact .inr ⟨m,Z,k,h⟩
          · refine .inl λq hq=>?_
            rcases Nat.lt_or_ge q m with h8|h8
            · exact h q h8
            · rw [show q=m by omega];exact k
        · exact .inr ⟨q,Z,h6,h7⟩
    rcases key 3 (Nat.le_refl _) with k|⟨q,h5,h6,h7⟩
    · exact absurd h3 (k r hr)
    · refine .inr ⟨3*j+q,Z,by rw [h2];congr 1;omega,h6,λv hv k=>?_⟩
      rcases Nat.lt_or_ge v (3*j) with h8|h8
      · exact h4 (v/3) Z ⟨v%3,Z,by rw [show 3*(v/3)+v%3=v by omega];exact k⟩
      · exact h7 (v-3*j) Z (by rw [show 3*j+(v-3*j)=v by omega];exact k)
structure Kl (ts ts':List T3):Prop where
  len:ts.length=ts'.length
  way:∀j,j<ts.length->∀a b,SE ts j a b↔SE ts' j a b
theorem Kl.symm (h:Kl ts ts'):Kl ts' ts:=⟨h.len.symm,λj hj a b=>(h.way j (by rw [h.len];exact hj) a b).symm⟩
theorem Kl.fst (h:Kl ts ts') {a b:Nat} {z:Int} (k:Jl ts (3*ts.length) a b z):Jl ts' (3*ts'.length) a b z:=by
  rw [<-h.len]
  refine UK ?_
  rcases Wr k with ⟨h1,h2⟩|⟨j,h1,h2,h3,h4⟩
  · exact .inl ⟨h1,λj hj k=>h2 j hj ((h.way j hj a b).2 k)⟩
  · exact .inr ⟨j,h1,h2,(h.way j h1 a b).1 h3,λi hi k=>h4 i hi ((h.way i Z a b).2 k)⟩
theorem Kl.inv (h:Kl ts ts') {e:E4} (k:U8 ts (3*ts.length) (e.a,e.b) e):U8 ts' (3*ts'.length) (e.a,e.b) e:=by
  obtain ⟨u,hu,hs⟩:=k.some
  refine ⟨k.ea,k.eb,k.lt,h.fst k.l,h.fst k.r,?_⟩
  have key:∀a b,Bz ts u=(a,b)->∃v,v<3*ts'.length/\Bz ts' v=(a,b):=λa b hd=>by
    obtain ⟨r,hr,h3⟩:=(h.way (u/3) Z a b).1 ⟨u%3,Z,by rw [show 3*(u/3)+u%3=u by omega];exact hd⟩
    exact ⟨3*(u/3)+r,by rw [<-h.len];omega,h3⟩
  rcases hs with hs|hs
  · obtain ⟨v,h1,h2⟩:=key _ _ hs;exact ⟨v,h1,.inl h2⟩
  · obtain ⟨v,h1,h2⟩:=key _ _ hs;exact ⟨v,h1,.inr h2⟩
def Dq (t:T3) (i:Nat):T3:=(Bi t (i%3),Bi t ((i+1)%3),Bi t ((i+2)%3))
def DH (ts:List T3) (f:Nat->Nat):Nat->List T3
  | 0=>ts
  | k+1=>(DH ts f k).set k (Dq (ts.getD k (0,0,0)) (f k))
theorem Ce (f:Nat->Nat):∀k,(DH ts f k).length=ts.length
  | 0=>rfl
  | k+1=>by rw [DH,List.length_set,Ce f k]
theorem E_ (f:Nat->Nat):∀k j,k<=ts.length->j<ts.length->(DH ts f k).getD j (0,0,0)=if j<k then Dq (ts.getD j (0,0,0)) (f j) else ts.getD j (0,0,0)
  | 0,j,_,_=>by rw [if_neg (Nat.not_lt_zero _)];rfl
  | k+1,j,hk,hj=>by
    have h:=E_ f k j Z hj
    rw [DH,List.getD,List.getElem?_set]
    by_cases e:k=j
    · subst e
      rw [if_pos rfl,if_pos (by rw [Ce];exact hj),if_pos Z];rfl
    · rw [if_neg e]
      have h2:(DH ts f k)[j]?.getD (0,0,0)=_:=h
      rw [h2]
      by_cases h3:j<k
      · rw [if_pos h3,if_pos Z]
      · rw [if_neg h3,if_neg Z]
theorem QE (t:T3) (i r:Nat) (hr:r<3):Bi (Dq t i) r=Bi t ((i+r)%3):=by
  have h3:r=0\/r=1\/r=2:=by omega
  rcases h3 with rfl|rfl|rfl<;>simp [Bi,Dq]
theorem JX {j r:Nat} (hr:r<3):Bz ts (3*j+r)=(Bi (ts.getD j (0,0,0)) r,Bi (ts.getD j (0,0,0)) ((r+1)%3)):=by
  unfold Bz
  rw [show (3*j+r)/3=j by omega,show (3*j+r)%3=r by omega]
theorem WZ {t:T3} (i:Nat) (h:I0 N t=true):I0 N (Dq t i)=true:=by
  obtain ⟨h1,h2,h3⟩:=Cd h
  obtain ⟨n1,n2,n3⟩:=Mf h
  have hr:i%3=0\/i%3=1\/i%3=2:=by omega
  rcases hr with e|e|e
  · have e1:(i+1)%3=1:=by omega
    have e2:(i+2)%3=2:=by omega
    simp [I0,Dq,Bi,e,e1,e2];omega
  · have e1:(i+1)%3=2:=by omega
    have e2:(i+2)%3=0:=by omega
    simp [I0,Dq,Bi,e,e1,e2];omega
  · have e1:(i+1)%3=0:=by omega
    have e2:(i+2)%3=1:=by omega
    simp [I0,Dq,Bi,e,e1,e2];omega
theorem TG (f:Nat->Nat) (hn:CD N ts=true):CD N (DH ts f ts.length)=true:=Qr λq hq=>by
  rw [Ce] at hq
  rw [E_ f _ _ (Nat.le_refl _) hq,if_pos hq]
  exact WZ _ (Cf hn hq)
def LJ (ts:List T3) (u:Nat):P2:=B_ (Bz ts u).1 (Bz ts u).2
def Ct (ts:List T3):Nat->List (P2×Nat)
  | 0=>[]
  | s+1=>BT (Ct ts s) (LJ ts s) ((Ao (Ct ts s) (LJ ts s)).getD 0+1)
def IJ (ts:List T3):List P2:=ts.flatMap λt=>[B_ t.1 t.2.1,B_ t.2.1 t.2.2,B_ t.2.2 t.1]
theorem Fu (k:P2):∀s,(Ao (Ct ts s) k).getD 0=((List.range s).map (LJ ts)).count k
  | 0=>rfl
  | s+1=>by
    rw [Ct,CV,List.range_succ,List.map_append,List.count_append,List.map_singleton,List.count_singleton]
    by_cases h:k=LJ ts s
    · subst h
      rw [if_pos rfl,Option.getD_some,Fu _ s];simp
    · rw [if_neg h,Fu k s,if_neg (by simpa using λe=>h e.symm)];rfl
theorem IT {t i:Nat} (hi:i<3):Ct ts (3*t+i+1)=BT (Ct ts (3*t+i)) (B_ (Bi (ts.getD t (0,0,0)) i) (Bi (ts.getD t (0,0,0)) ((i+1)%3))) ((Ao (Ct ts (3*t+i)) (B_ (Bi (ts.getD t (0,0,0)) i) (Bi (ts.getD t (0,0,0)) ((i+1)%3)))).getD 0+1):=by
  rw [Ct]
  unfold LJ
  rw [JX hi]
theorem MZ (s:Nat) (k:P2):(Ao (Ct ts s) k).getD 0<=s:=by
  rw [Fu]
  exact Nat.le_trans List.count_le_length (by simp)
theorem FF (hn:CD N ts=true) (hN:N<=4611686018427387904):∀s,s<=3*ts.length->HT JJ (Ct ts s)
  | 0,_=>HT.nil
  | s+1,hs=>by
    obtain ⟨h1,h2⟩:=Mu hn (show s<3*ts.length by omega)
    exact (FF hn hN s Z).put (Bl (Nat.lt_of_lt_of_le h1 hN) (Nat.lt_of_lt_of_le h2 hN))
theorem K5:(List.range (3*ts.length)).map (LJ ts)=IJ ts:=by
  have key:∀n,n<=ts.length->(List.range (3*n)).map (LJ ts)=IJ (ts.take n):=by
    intro n
    induction n with
    | zero=>intro _;rfl
    | succ n ih =>
      intro hn
      have e1:List.range (3*(n+1))=List.range (3*n)++[3*n,3*n+1,3*n+2]:=by
        rw [show 3*(n+1)=3*n+1+1+1 by omega,List.range_succ,List.range_succ,List.range_succ];simp
      have e2:ts.take (n+1)=ts.take n++[ts.getD n (0,0,0)]:=by
        rw [List.take_add_one,List.getElem?_eq_getElem (show n<ts.length by omega),List.getD,List.getElem?_eq_getElem (show n<ts.length by omega)];rfl
      have k0:=JX (ts:=ts) (j:=n) (show 0<3 by decide)
      have k1:=JX (ts:=ts) (j:=n) (show 1<3 by decide)
      have k2:=JX (ts:=ts) (j:=n) (show 2<3 by decide)
      rw [e1,e2,List.map_append,ih Z]
      unfold IJ
      rw [List.flatMap_append]
      congr 1
      simp only [List.map_cons,List.map_nil,List.flatMap_cons,List.flatMap_nil,List.append_nil,LJ]
      rw [show 3*n=3*n+0 by omega,k0,show 3*n+0+1=3*n+1 by omega,k1,show 3*n+0+2=3*n+2 by omega,k2]
      rfl
  have h:=key ts.length (Nat.le_refl _)
  rwa [List.take_length] at h
def UQ (ts:List T3) (k:P2):Nat:=(Ao (Ct ts (3*ts.length)) k).getD 0
theorem QT (k:P2):UQ ts k=(IJ ts).count k:=by unfold UQ;rw [Fu,K5]
def IU (ts:List T3) (i:Nat):List T3:=(((Br ts).take i).filter λe=>decide (UQ ts (e.a,e.b)=1)).map λe=>(e.a,e.b,0)
def Bx (ts:List T3):List T3:=IU ts (Br ts).length
theorem S3 {i:Nat} (hi:i<(Br ts).length) (h:UQ ts (((Br ts).getD i ⟨0,0,0,0⟩).a,((Br ts).getD i ⟨0,0,0,0⟩).b)=1):IU ts (i+1)=IU ts i++[(((Br ts).getD i ⟨0,0,0,0⟩).a,((Br ts).getD i ⟨0,0,0,0⟩).b,0)]:=by
  rw [List.getD,List.getElem?_eq_getElem hi] at h ⊢
  unfold IU
  rw [List.take_add_one,List.getElem?_eq_getElem hi,List.filter_append,List.map_append]
  simp only [Option.toList_some,Option.getD_some] at h ⊢
  rw [List.filter_cons,if_pos (decide_eq_true h)];rfl
theorem Wx {i:Nat} (hi:i<(Br ts).length) (h:¬UQ ts (((Br ts).getD i ⟨0,0,0,0⟩).a,((Br ts).getD i ⟨0,0,0,0⟩).b)=1):IU ts (i+1)=IU ts i:=by
  rw [List.getD,List.getElem?_eq_getElem hi] at h
  unfold IU
  rw [List.take_add_one,List.getElem?_eq_getElem hi,List.filter_append,List.map_append]
  simp only [Option.toList_some,Option.getD_some] at h ⊢
  rw [List.filter_cons,if_neg (by simpa using h)];simp
theorem OU (i:Nat):(IU ts i).length<=i:=by
  unfold IU
  rw [List.length_map]
  exact Nat.le_trans (List.length_filter_le _ _) (List.length_take_le _ _)
theorem OL (hn:CD N ts=true) (hN:N<=4611686018427387904) {a b:Nat}:(a,b)∈IJ ts↔∃e∈Br ts,e.a=a/\e.b=b:=by
  rw [<-K5,List.mem_map]
  constructor
  · rintro ⟨u,hu,hk⟩
    have hu:=List.mem_range.1 hu
    have hne:=Kq hn hu
    unfold LJ B_ at hk
    injection hk with h1 h2
    have hlt:a<b:=by omega
    have hd:Bz ts u=(a,b)\/Bz ts u=(b,a):=by
      rcases Nat.lt_or_ge (Bz ts u).1 (Bz ts u).2 with h|h
      · exact .inl (Prod.ext Z Z)
      · exact .inr (Prod.ext Z Z)
    obtain ⟨i1,i2⟩:=Jk (λu hu=>Kq hn hu) _ (Nat.le_refl _)
    cases hg:Ao (Ci ts (3*ts.length)) (a,b) with
    | none =>
      have h3:=i2 _ hg hlt u hu
      rcases hd with hd|hd
      · exact absurd hd h3.1
      · exact absurd hd h3.2
    | some e =>
      have h3:=i1 _ _ hg
      refine ⟨e,?_,h3.ea,h3.eb⟩
      unfold Br
      exact (Do _).mem_iff.2 (List.mem_map.2 ⟨_,KV hg,rfl⟩)
  · rintro ⟨e,he,rfl,rfl⟩
    have h:=(P7 hn hN).1 he
    obtain ⟨u,hu,hs⟩:=h.some
    have hlt:=h.lt
    simp only at hlt hs
    refine ⟨u,List.mem_range.2 hu,?_⟩
    unfold LJ B_
    rcases hs with hs|hs<;>rw [hs]<;>exact Prod.ext (by simp only;omega) (by simp only;omega)
def VF (x y:T3):Prop:=x.1<y.1\/(x.1=y.1/\x.2.1<y.2.1)
theorem VF.asymm (x y:T3) (h:VF x y):¬VF y x:=by unfold VF at *;omega
theorem Gl (hn:CD N ts=true) (hN:N<=4611686018427387904):(Bx ts).Pairwise VF:=by
  unfold Bx IU
  rw [List.pairwise_map,List.take_length]
  exact (O5 hn hN).filter _
theorem Hu (hn:CD N ts=true) (hN:N<=4611686018427387904) {s:T3}:s∈Bx ts↔(IJ ts).count (s.1,s.2.1)=1/\s.2.2=0:=by
  unfold Bx IU
  rw [List.take_length,List.mem_map]
  constructor
  · rintro ⟨e,he,rfl⟩
    obtain ⟨h1,h2⟩:=List.mem_filter.1 he
    exact ⟨by rw [<-QT];exact of_decide_eq_true h2,rfl⟩
  · rintro ⟨h1,h2⟩
    have hm:(s.1,s.2.1)∈IJ ts:=List.count_pos_iff.1 Z
    obtain ⟨e,he,ea,eb⟩:=(OL hn hN).1 hm
    refine ⟨e,List.mem_filter.2 ⟨he,decide_eq_true (by rw [QT,ea,eb];exact h1)⟩,?_⟩
    exact Prod.ext ea (Prod.ext eb h2.symm)
theorem S_ (hn:CD N ts=true) (hn':CD N ts'=true) (hN:N<=4611686018427387904) (h:(IJ ts).Perm (IJ ts')):Bx ts=Bx ts' :=
  KS VF.asymm (Gl hn hN) (Gl hn' hN) λs=>by rw [Hu hn hN,Hu hn' hN,h.count_eq]
theorem flatMap_perm2 {α β:Type} {g:α->List β} (d:α):∀{l l':List α},l.length=l'.length->(∀j,j<l.length->(g (l.getD j d)).Perm (g (l'.getD j d)))->(l.flatMap g).Perm (l'.flatMap g)
  | [],[],_,_=>List.Perm.refl _
  | x::r,y::r',hl,h=>by
    rw [List.flatMap_cons,List.flatMap_cons]
    refine (h 0 (by simp)).append (flatMap_perm2 d (by simpa using hl) λj hj=>?_)
    have:=h (j+1) (by simpa using hj)
    simpa using this
end
end
section
abbrev E0:E4:=⟨0,0,0,0⟩
def De (N:Nat) (es:List E4):Nat->List (P2×Nat)
  | 0=>[]
  | i+1=>BT (De N es i) (B_ (es.getD i E0).a (es.getD i E0).b) (N+i)
def Fd (N:Nat) (ss:List T3):Nat->List (P2×Nat)
  | 0=>[]
  | k+1=>if (ss.getD (ss.length-1-k) (0,0,0)).1<N/\(ss.getD (ss.length-1-k) (0,0,0)).2.1<N then BT (Fd N ss k) (B_ (ss.getD (ss.length-1-k) (0,0,0)).1 (ss.getD (ss.length-1-k) (0,0,0)).2.1) (ss.getD (ss.length-1-k) (0,0,0)).2.2 else Fd N ss k
def EA (N:Nat) (ss:List T3) (es:List E4):Nat->List (P2×Nat)
  | 0=>Fd N ss ss.length
  | i+1=>BT (BT (EA N ss es i) (B_ (es.getD i E0).a (N+i)) ((Ao (EA N ss es i) (B_ (es.getD i E0).a (es.getD i E0).b)).getD 0)) (B_ (es.getD i E0).b (N+i)) ((Ao (EA N ss es i) (B_ (es.getD i E0).a (es.getD i E0).b)).getD 0)
def Sn (N:Nat) (ss:List T3) (es:List E4) (a b:Nat):Nat:=(Ao (EA N ss es es.length) (B_ a b)).getD 0
def aR (ps:List Pt) (e:E4):Pt:=Cp (cor ps e.a+cor ps e.b) (1/2)
def LC (ps:List Pt) (es:List E4):Nat->List Pt
  | 0=>ps
  | i+1=>LC ps es i++[aR ps (es.getD i E0)]
def O9 (ps:List Pt) (es:List E4):List Pt:=LC ps es es.length
def Fc (N:Nat) (ss:List T3) (es:List E4) (rs:List T3) (i:Nat):List T3:=(rs.take i).map (λs=>(s.1,s.2.1,Sn N ss es s.1 s.2.1))++rs.drop i
def Pp (N:Nat) (ss:List T3) (es:List E4) (ts:List T3):List T3:=(Bx ts).map λs=>(s.1,s.2.1,Sn N ss es s.1 s.2.1)
section
variable {N M i:Nat} {es:List E4} {ts:List T3} {t:T3} {ss rs:List T3} {ps:List Pt}
theorem Gm {α:Type} {l:List α} {d:α} {i:Nat} (h:i<l.length):l.take (i+1)=l.take i++[l.getD i d]:=by
  rw [List.take_add_one,List.getElem?_eq_getElem h,List.getD,List.getElem?_eq_getElem h];rfl
theorem KE:∀i,(LC ps es i).length=ps.length+i
  | 0=>rfl
  | i+1=>by rw [LC,List.length_append,KE i];rfl
theorem TS:Fc N ss es rs rs.length=rs.map λs=>(s.1,s.2.1,Sn N ss es s.1 s.2.1):=by unfold Fc;simp
theorem H6:(Fc N ss es rs i).length=rs.length:=by unfold Fc;simp;omega
theorem N5 (h:i<rs.length):(Fc N ss es rs i).getD i (0,0,0)=rs.getD i (0,0,0):=by
  unfold Fc
  rw [List.getD,List.getElem?_append_right (by simp;omega),List.length_map,List.length_take,Nat.min_eq_left Z,Nat.sub_self,List.getElem?_drop]
  rfl
theorem Q7 (h:i<rs.length):(Fc N ss es rs i).set i ((rs.getD i (0,0,0)).1,(rs.getD i (0,0,0)).2.1,Sn N ss es (rs.getD i (0,0,0)).1 (rs.getD i (0,0,0)).2.1)=Fc N ss es rs (i+1):=by
  unfold Fc
  rw [Gm (d:=(0,0,0)) h,List.map_append,List.set_append_right _ _ (by simp;omega),List.length_map,List.length_take,Nat.min_eq_left Z,Nat.sub_self,Mv (d:=(0,0,0)) h,List.set_cons_zero,List.append_assoc]
  rfl
theorem R7 {v:Nat} (h:i<rs.length) (hv:v=Sn N ss es (rs.getD i (0,0,0)).1 (rs.getD i (0,0,0)).2.1):(Fc N ss es rs i).set i (((Fc N ss es rs i).getD i (0,0,0)).1,((Fc N ss es rs i).getD i (0,0,0)).2.1,v)=Fc N ss es rs (i+1):=by
  rw [N5 h,hv];exact Q7 h
theorem S2 {k:Nat} (h:(ss.getD (ss.length-1-k) (0,0,0)).1<N/\(ss.getD (ss.length-1-k) (0,0,0)).2.1<N):BT (Fd N ss k) (B_ (ss.getD (ss.length-1-k) (0,0,0)).1 (ss.getD (ss.length-1-k) (0,0,0)).2.1) (ss.getD (ss.length-1-k) (0,0,0)).2.2=Fd N ss (k+1):=by
  rw [Fd,if_pos h]
theorem WW {k:Nat} (h:¬((ss.getD (ss.length-1-k) (0,0,0)).1<N/\(ss.getD (ss.length-1-k) (0,0,0)).2.1<N)):Fd N ss k=Fd N ss (k+1):=by
  rw [Fd,if_neg h]
theorem NN (hes:∀e∈es,e.a<N/\e.b<N) (hN:N<=4611686018427387904):∀i,i<=es.length->HT JJ (De N es i)
  | 0,_=>HT.nil
  | i+1,h=>by
    have h1:=hes (es.getD i E0) (by rw [List.getD,List.getElem?_eq_getElem (show i<es.length by omega)];exact List.getElem_mem _)
    exact (NN hes hN i Z).put (Bl Z Z)
theorem Jn (hN:N<=4611686018427387904):∀k,HT JJ (Fd N ss k)
  | 0=>HT.nil
  | k+1=>by
    unfold Fd
    split
    · rename_i h;exact (Jn hN k).put (Bl Z Z)
    · exact Jn hN k
theorem IG (hes:∀e∈es,e.a<N/\e.b<N) (hN:N+es.length<=4611686018427387904):∀i,i<=es.length->HT JJ (EA N ss es i)
  | 0,_=>Jn Z _
  | i+1,h=>by
    have h1:=hes (es.getD i E0) (by rw [List.getD,List.getElem?_eq_getElem (show i<es.length by omega)];exact List.getElem_mem _)
    exact ((IG hes hN i Z).put (Bl Z Z)).put (Bl Z Z)
theorem IW (hn:CD N ts=true) (hN:N<=4611686018427387904) {e:E4} (he:e∈Br ts):e.a<e.b/\e.b<N:=by
  have h:=(P7 hn hN).1 he
  obtain ⟨u,hu,hs⟩:=h.some
  have h2:=Mu hn hu
  have hlt:=h.lt
  simp only at hlt hs
  rcases hs with hs|hs<;>rw [hs] at h2<;>simp only at h2<;>omega
theorem Hx (hn:CD N ts=true) (hN:N<=4611686018427387904):∀e∈Br ts,e.a<N/\e.b<N:=λe he=>by
  have:=IW hn hN he;omega
theorem Vk (hn:CD N ts=true) (hN:N<=4611686018427387904) {s:T3} (hs:s∈Bx ts):s.1<N/\s.2.1<N:=by
  unfold Bx IU at hs
  rw [List.take_length,List.mem_map] at hs
  obtain ⟨e,he,rfl⟩:=hs
  exact Hx hn hN e (List.mem_filter.1 he).1
end
end
section
set_option maxRecDepth 100000
theorem Nv (p:Option Addr) (n cp:Nat) (h:n<=cp) (w:World)  :Calls prog 122 #[(Value.slice p n cp)] w (Aq w (Value.slice p n n)):=by
 refine Ae (args:=[(Value.slice p n cp)]) func122 O O (Ac O) (AF.subF (sL [0] O) (q4 (AL O (AE.nil (q2 ?_)))))
 refine AS O (AS O (AH (v:=(vN n)) (AG O underlying27) O (AS O (AH (v:=(vN n)) (AG O underlying27) O (AH (v:=(Value.slice p n n)) (Dc (m:=n) O O O underlying27 sizeOf55 Z) O ?_)))))
 exact AL O (AE.nil (AD.subF (sL [2] O) (AD.then_ (AF.ret (AR O (Ai (v:=(Value.slice p n n)) O) (λw hw=>⟨rfl,hw.out⟩))))))
theorem IN (ts:List Pt) (x:RX (rowsL Am ts) ts.length) (hl:ts.length<=1000000000) (w:World) {S:Nat->Prop} (hx:Ro S w x):Calls prog 118 #[(Value.slice x.p ts.length x.c)] w (Ho V0 (SB (T:=55) (z:=10) (cs:=rowsL Am ts) (n:=ts.length)) S w):=by
 have lx:=DU (W:=w) hx
 refine A6 (args:=[(Value.slice x.p ts.length x.c)]) (L:=[AY x.p (rowsL Am ts)]) func118 O O (Ac O) (DV hx BN) (AF.subF (sL [0] O) (q4 (AL O (AE.nilRow 55 10 (AE.nil ?_)))))
 refine q1 (q4 (AS O (AH (v:=(Value.bool x.p.isNone)) (HS O O underlying27) O (AE.nil (AD.subF (sL [0,2,4] O) ?_)))))
 refine AD.then_ ?_
 refine AF.cond O (λhc0=>?_) (λhc0=>?_)
 ·skip
  have hts:ts=[]:=List.eq_nil_of_length_eq_zero (x.ok.nil (Option.isNone_iff_eq_none.1 hc0)).1
  refine q4 (AL O (AE.nilRow 55 10 (AE.nil (AD.then_ (AF.ret ?_)))))
  exact AD.then_ret (AR O (Ai (v:=(Value.slice none 0 0)) O) (λw hw=>(by subst hts;exact N3 hw (OX.mk none 0 OwnOk.none) (by exact (sk (sl (sl sr)))) (He.own O He.nil) (by show Value.slice none 0 0=_;rfl))))
 ·skip
  refine AF.skip (q2 (AE.openV (V:=λb1=>(Value.slice (some ⟨b1,0,none⟩) 0 0)) (T:=55) (cs:=[]) (AK O) (Is underlying27 sizeOf55) O (Ac O) λb1=>AE.asRow0 (z:=10) 0 O Z λho_b1=>AS O (AE.appendE0 YO O ho_b1 O (X_ (k:=2) O x.ok) (Aa BG _) (Gt Wa _) (Ga Z) Z O λp_1 c_1 ho_1=>?_)))
  exact AL O (AE.nil (AD.subF (sL [0,2] O) (AD.then_ (AF.ret (AR O (Ai (v:=(Value.slice p_1 ts.length c_1)) O) (λw hw=>(N3 hw (OX.mk p_1 c_1 ho_1) (sk (sl (sl sr))) (He.own O He.nil) O)))))))
theorem Nk (p:Option Addr) (n cp:Nat) (h:n<=cp) (w:World)  :Calls prog 119 #[(Value.slice p n cp)] w (Aq w (Value.slice p n n)):=by
 refine Ae (args:=[(Value.slice p n cp)]) func119 O O (Ac O) (AF.subF (sL [0] O) (q4 (AL O (AE.nil (q2 ?_)))))
 refine AS O (AS O (AH (v:=(vN n)) (AG O underlying28) O (AS O (AH (v:=(vN n)) (AG O underlying28) O (AH (v:=(Value.slice p n n)) (Dc (m:=n) O O O underlying28 sizeOf76 Z) O ?_)))))
 exact AL O (AE.nil (AD.subF (sL [2] O) (AD.then_ (AF.ret (AR O (Ai (v:=(Value.slice p n n)) O) (λw hw=>⟨rfl,hw.out⟩))))))
theorem L3 (ts:List T3) (x:RX (rowsL Af ts) ts.length) (hl:ts.length<=1000000000) (w:World) {S:Nat->Prop} (hx:Ro S w x):Calls prog 120 #[(Value.slice x.p ts.length x.c)] w (Ho V0 (SB (T:=76) (z:=3) (cs:=rowsL Af ts) (n:=ts.length)) S w):=by
 have lx:=DU (W:=w) hx
 refine A6 (args:=[(Value.slice x.p ts.length x.c)]) (L:=[AY x.p (rowsL Af ts)]) func120 O O (Ac O) (DV hx BN) (AF.subF (sL [0] O) (q4 (AL O (AE.nilRow 76 3 (AE.nil ?_)))))
 refine q1 (q4 (AS O (AH (v:=(Value.bool x.p.isNone)) (HS O O underlying28) O (AE.nil (AD.subF (sL [0,2,4] O) ?_)))))
 refine AD.then_ ?_
 refine AF.cond O (λhc0=>?_) (λhc0=>?_)
 ·skip
  have hts:ts=[]:=List.eq_nil_of_length_eq_zero (x.ok.nil (Option.isNone_iff_eq_none.1 hc0)).1
  refine q4 (AL O (AE.nilRow 76 3 (AE.nil (AD.then_ (AF.ret ?_)))))
  exact AD.then_ret (AR O (Ai (v:=(Value.slice none 0 0)) O) (λw hw=>(by subst hts;exact N3 hw (OX.mk none 0 OwnOk.none) (by exact (sk (sl (sl sr)))) (He.own O He.nil) (by show Value.slice none 0 0=_;rfl))))
 ·skip
  refine AF.skip (q2 (AE.openV (V:=λb1=>(Value.slice (some ⟨b1,0,none⟩) 0 0)) (T:=76) (cs:=[]) (AK O) (Is underlying28 sizeOf76) O (Ac O) λb1=>AE.asRow0 (z:=3) 0 O Z λho_b1=>AS O (AE.appendE0 NF O ho_b1 O (X_ (k:=2) O x.ok) (Aa Ah _) (Gt Py _) (Ga Z) Z O λp_1 c_1 ho_1=>?_)))
  exact AL O (AE.nil (AD.subF (sL [0,2] O) (AD.then_ (AF.ret (AR O (Ai (v:=(Value.slice p_1 ts.length c_1)) O) (λw hw=>(N3 hw (OX.mk p_1 c_1 ho_1) (sk (sl (sl sr))) (He.own O He.nil) O)))))))
theorem No (p:Option Addr) (n cp:Nat) (h:n<=cp) (w:World)  :Calls prog 51 #[(Value.slice p n cp)] w (Aq w (Value.slice p n n)):=by
 refine Ae (args:=[(Value.slice p n cp)]) func51 O O (Ac O) (AF.subF (sL [0] O) (q4 (AL O (AE.nil (q2 ?_)))))
 refine AS O (AS O (AH (v:=(vN n)) (AG O underlying29) O (AS O (AH (v:=(vN n)) (AG O underlying29) O (AH (v:=(Value.slice p n n)) (Dc (m:=n) O O O underlying29 sizeOf44 Z) O ?_)))))
 exact AL O (AE.nil (AD.subF (sL [2] O) (AD.then_ (AF.ret (AR O (Ai (v:=(Value.slice p n n)) O) (λw hw=>⟨rfl,hw.out⟩))))))
theorem RU (ts:List T3) (x:RX (rowsL Af ts) ts.length) (hl:ts.length<=1000000000) (w:World) {S:Nat->Prop} (hx:Ro S w x):Calls prog 155 #[(Value.slice x.p ts.length x.c)] w (Ho V0 (SB (T:=44) (z:=3) (cs:=rowsL Af ts) (n:=ts.length)) S w):=by
 have lx:=DU (W:=w) hx
 refine A6 (args:=[(Value.slice x.p ts.length x.c)]) (L:=[AY x.p (rowsL Af ts)]) func155 O O (Ac O) (DV hx BN) (AF.subF (sL [0] O) (q4 (AL O (AE.nilRow 44 3 (AE.nil ?_)))))
 refine q1 (q4 (AS O (AH (v:=(Value.bool x.p.isNone)) (HS O O underlying29) O (AE.nil (AD.subF (sL [0,2,4] O) ?_)))))
 refine AD.then_ ?_
 refine AF.cond O (λhc0=>?_) (λhc0=>?_)
 ·skip
  have hts:ts=[]:=List.eq_nil_of_length_eq_zero (x.ok.nil (Option.isNone_iff_eq_none.1 hc0)).1
  refine q4 (AL O (AE.nilRow 44 3 (AE.nil (AD.then_ (AF.ret ?_)))))
  exact AD.then_ret (AR O (Ai (v:=(Value.slice none 0 0)) O) (λw hw=>(by subst hts;exact N3 hw (OX.mk none 0 OwnOk.none) (by exact (sk (sl (sl sr)))) (He.own O He.nil) (by show Value.slice none 0 0=_;rfl))))
 ·skip
  refine AF.skip (q2 (AE.openV (V:=λb1=>(Value.slice (some ⟨b1,0,none⟩) 0 0)) (T:=44) (cs:=[]) (AK O) (Is underlying29 sizeOf44) O (Ac O) λb1=>AE.asRow0 (z:=3) 0 O Z λho_b1=>AS O (AE.appendE0 YD O ho_b1 O (X_ (k:=2) O x.ok) (Aa Ah _) (Gt Py _) (Ga Z) Z O λp_1 c_1 ho_1=>?_)))
  exact AL O (AE.nil (AD.subF (sL [0,2] O) (AD.then_ (AF.ret (AR O (Ai (v:=(Value.slice p_1 ts.length c_1)) O) (λw hw=>(N3 hw (OX.mk p_1 c_1 ho_1) (sk (sl (sl sr))) (He.own O He.nil) O)))))))
theorem VU {ps:List Pt} {ts ss:List T3} (x:MX ps ts ss) (hp:ps.length<=1000000000) (ht:ts.length<=1000000000) (hs:ss.length<=1000000000) (w:World) {S:Nat->Prop} (hx:Ro S w x):Calls prog 84 #[(aG (Bk x))] w (Ho (λa:ZK ps ts ss=>aG (aK a)) aF S w):=by
 have lx:=DU (W:=w) hx
 refine A6 (args:=[(aG (Bk x))]) (L:=[AY x.a.p (rowsL Am ps),AY x.b.p (rowsL Af ts),AY x.c.p (rowsL Af ss)]) func84 O O (Ac O) (DV hx BN) (AF.subF (sL [0] O) (q4 (Bg (cs:=Bk x) O λb1=>al JP O λb2=>q6 (sL [1,2] O) ?_)))
 refine Cm [(0,true),(1,true),(4,true),(5,true),(8,true),(9,true),(2,false),(3,false),(6,false),(7,false),(10,false),(11,false),(12,true),(13,false)] (sl sr) (Au (v:=(pP b1 0)) O (AA O underlying31 O sizeOf27 O) (Be 0 (Value.slice x.a.p ps.length x.a.c) DG O (Au (v:=(pP b1 1)) O (AA O underlying31 O sizeOf28 O) (Be 0 (Value.slice x.b.p ts.length x.b.c) B4 O (Au (v:=(pP b1 2)) O (AA O underlying31 O sizeOf29 O) ?_)))))
 refine Be 0 (Value.slice x.c.p ss.length x.c.c) KN O (AT.imp O (AE.callL (S:=S) (V:=V0) (LW:=SB (T:=55) (z:=10) (cs:=rowsL Am ps) (n:=ps.length)) (args:=[(Value.slice x.a.p ps.length x.a.c)]) call118 (λw hw=>IN ps x.a Z w (Tb (Cq hw 2 O lx))) O λcl1 hcl1=>AT.back (sl (sl sr)) (AT.imp O (BR call122 (Nv cl1.p ps.length cl1.c cl1.ok.row.le) O ?_))))
 refine AT.back (sl (sl sr)) (AT.imp O (AE.callL (S:=S) (V:=V0) (LW:=SB (T:=76) (z:=3) (cs:=rowsL Af ts) (n:=ts.length)) (args:=[(Value.slice x.b.p ts.length x.b.c)]) call120 (λw hw=>L3 ts x.b Z w (Ot (Cq hw 3 O lx))) O λcl2 hcl2=>AT.back (sl (sl (sl sr))) (AT.imp O (BR call119 (Nk cl2.p ts.length cl2.c cl2.ok.row.le) O ?_))))
 refine AT.back (sl (sl (sl sr))) (AT.imp O (AE.callL (S:=S) (V:=V0) (LW:=SB (T:=44) (z:=3) (cs:=rowsL Af ss) (n:=ss.length)) (args:=[(Value.slice x.c.p ss.length x.c.c)]) call155 (λw hw=>RU ss x.c Z w (WE (Cq hw 4 O lx))) O λcl3 hcl3=>AT.back (sl (sl (sl (sl sr)))) (AT.imp O (BR call51 (No cl3.p ss.length cl3.c cl3.ok.row.le) O ?_))))
 refine AT.back (sl (sl (sl (sl sr)))) (Au (v:=(aG ([(Value.slice cl1.p ps.length ps.length),(Value.slice cl2.p ts.length ts.length),(Value.slice cl3.p ss.length ss.length)]))) O (Ad (zs:=[(Value.slice none 0 0),(Value.slice none 0 0),(Value.slice none 0 0)]) (vs:=[(Value.slice cl1.p ps.length ps.length),(Value.slice cl2.p ts.length ts.length),(Value.slice cl3.p ss.length ss.length)]) (pv:=[(0,(Value.slice cl1.p ps.length ps.length)),(1,(Value.slice cl2.p ts.length ts.length)),(2,(Value.slice cl3.p ss.length ss.length))]) (places:=[(0,1),(1,1),(2,1)]) zeroValue31 underlying31 (λw=>by simp [sizeOf27,sizeOf28,sizeOf29]) O O) (AT.imp O (IF O sizeOf31 O (AT.back (sl (sl (sl (sl sr)))) (AT.nil ?_)))))
 exact AD.subF (sL [2] O) (AD.then_ (AF.ret (AR O (Az (i:=3) (cs:=[(Value.slice cl1.p ps.length ps.length),(Value.slice cl2.p ts.length ts.length),(Value.slice cl3.p ss.length ss.length)]) O O isAgg31 sizeOf31 O) (λw hw=>(N3 hw (ZK.mk (OX.mk cl1.p cl1.c cl1.ok) (OX.mk cl2.p cl2.c cl2.ok) (OX.mk cl3.p cl3.c cl3.ok)) (sk (sk (sk (sl (sl (sl (sl (sl sr)))))))) (He.own O (He.own O (He.own O He.nil))) O)))))
theorem JN (x0 x1:Nat):Instr.fill (λi=>some (i*1,1)) (Ay ((0,0):P2)).toArray [(0,vN x0),(1,vN x1)]=some (Ay (x0,x1)).toArray:=by kernel_rfl
theorem KO (a b:Nat) (w:World)  :Calls prog 47 #[(vN a),(vN b)] w (Aq w (aG (Ay (min a b,max a b)))):=by
 refine Ae (args:=[(vN a),(vN b)]) func47 O O (Ac O) (AF.subF (sL [0,1] O) (q4 (al Y0 O λb1=>AE.nil (q2 ?_))))
 refine AS O (AS O (AH (Fw (c:=((min a b:Nat):Int)) O O (by split<;>omega)) O (AS O (AS O (AH (FT (c:=((max a b:Nat):Int)) O O (by split<;>omega)) O ?_)))))
 exact AH (v:=(aG (Ay (min a b,max a b)))) (Al (zs:=Ay ((0,0):P2)) (vs:=Ay (min a b,max a b)) (pv:=[(0,(vN (min a b))),(1,(vN (max a b)))]) zeroValue112 underlying112 sizeOf3 O (JN (min a b) (max a b))) O (Aw O sizeOf112 O (AE.nil (AD.subF (sL [4] O) (AD.then_ (AF.ret (AR O (Az (i:=0) (cs:=Ay (min a b,max a b)) O O isAgg112 sizeOf112 O) (λw hw=>⟨rfl,hw.out⟩)))))))
theorem JU (x0 x1:Nat):Instr.fill (λi=>some (i*1,1)) (Ay ((0,0):P2)).toArray [(0,vN x0),(1,vN x1)]=some (Ay (x0,x1)).toArray:=by kernel_rfl
theorem Ip (a b:Nat) (w:World)  :Calls prog 80 #[(vN a),(vN b)] w (Aq w (aG (Ay (min a b,max a b)))):=by
 refine Ae (args:=[(vN a),(vN b)]) func80 O O (Ac O) (AF.subF (sL [0,1] O) (q4 (al XF O λb1=>AE.nil (q2 ?_))))
 refine AS O (AS O (AH (Fw (c:=((min a b:Nat):Int)) O O (by split<;>omega)) O (AS O (AS O (AH (FT (c:=((max a b:Nat):Int)) O O (by split<;>omega)) O ?_)))))
 exact AH (v:=(aG (Ay (min a b,max a b)))) (Al (zs:=Ay ((0,0):P2)) (vs:=Ay (min a b,max a b)) (pv:=[(0,(vN (min a b))),(1,(vN (max a b)))]) zeroValue144 underlying144 sizeOf3 O (JU (min a b) (max a b))) O (Aw O sizeOf144 O (AE.nil (AD.subF (sL [4] O) (AD.then_ (AF.ret (AR O (Az (i:=0) (cs:=Ay (min a b,max a b)) O O isAgg144 sizeOf144 O) (λw hw=>⟨rfl,hw.out⟩)))))))
end
section
def dt (a b:Pt):Rat:=a.x*b.y-a.y*b.x
theorem Mg (a b:Pt):dt a b = -dt b a:=by unfold dt;grind
theorem Js (a:Pt):dt a a=0:=by unfold dt;grind
theorem Hb {c z:Rat} (hc:0<c) (h:0<=z*c):0<=z:=HN hc (by rw [Rat.mul_comm];exact h)
theorem V3 {u:Pt} (h:∀z,dt u z=0):u=⟨0,0⟩:=by
  have h1:=h ⟨0,1⟩;have h2:=h ⟨1,0⟩
  obtain ⟨x,y⟩:=u
  unfold dt at h1 h2
  simp only at h1 h2
  have e1:x=0:=by grind
  have e2:y=0:=by grind
  rw [e1,e2]
section
variable {p q r s u w:Pt}
def aE (p q r s w x:Pt):Prop:=0<=dt p x/\0<=dt x q/\0<=dt r x/\0<=dt x s/\0<=dt x w
theorem Qc {x:Pt} {k l:Rat} (hk:0<k) (hl:0<l) (h:∀z,k*dt u z=l*dt x z) (hp:0<=dt p u) (hq:0<=dt u q) (hr:0<=dt r u) (hs:0<=dt u s) (hw:0<=dt u w):aE p q r s w x:=by
  have key:∀z,0<=dt u z->0<=dt x z:=λz hz=>HN hl (by rw [<-h];exact Rat.mul_nonneg (Rat.le_of_lt hk) hz)
  have key2:∀z,0<=dt z u->0<=dt z x:=λz hz=>by
    rw [Mg z x];rw [Mg z u] at hz
    have e:=h z
    have h1:0<=k * -dt u z:=Rat.mul_nonneg (Rat.le_of_lt hk) hz
    exact HN hl (by grind)
  exact ⟨key2 _ hp,key _ hq,key2 _ hr,key _ hs,key _ hw⟩
theorem TO (hpq:0<dt p q) (hu:u≠⟨0,0⟩) (hp:0<=dt p u) (hq:0<=dt u q) (h:dt p u=0\/dt u q=0):∃x k l,(x=p\/x=q)/\0<k/\0<l/\∀z,k*dt u z=l*dt x z:=by
  have cr:∀z,dt p q*dt u z=dt u q*dt p z+dt p u*dt q z:=λz=>by unfold dt;grind
  have ne:¬(dt p u=0/\dt u q=0):=λ⟨a,b⟩=>hu (V3 λz=>by
    have e:=cr z
    rw [a,b] at e
    have:dt p q*dt u z=0:=by grind
    rcases Rat.mul_eq_zero.1 this with c|c
    · rw [c] at hpq;exact absurd hpq (Rat.lt_irrefl)
    · exact c)
  rcases h with h|h
  · exact ⟨p,dt p q,dt u q,.inl O,hpq,by grind,λz=>by rw [cr,h];grind⟩
  · exact ⟨q,dt p q,dt p u,.inr O,hpq,by grind,λz=>by rw [cr,h];grind⟩
theorem TY (hpq:0<dt p q) (hrs:0<dt r s) (hu:u≠⟨0,0⟩) (hp:0<=dt p u) (hq:0<=dt u q) (hr:0<=dt r u) (hs:0<=dt u s) (hw:0<=dt u w):∃x,(x=p\/x=q\/x=r\/x=s)/\aE p q r s w x:=by
  by_cases d1:dt p u=0\/dt u q=0
  · obtain ⟨x,k,l,hx,hk,hl,h⟩:=TO hpq hu hp hq d1
    exact ⟨x,hx.elim .inl (λe=>.inr (.inl e)),Qc hk hl h hp hq hr hs hw⟩
  by_cases d2:dt r u=0\/dt u s=0
  · obtain ⟨x,k,l,hx,hk,hl,h⟩:=TO hrs hu hr hs d2
    exact ⟨x,.inr (.inr hx),Qc hk hl h hp hq hr hs hw⟩
  have p1:0<dt p u:=by grind
  have p2:0<dt u q:=by grind
  have p3:0<dt r u:=by grind
  have p4:0<dt u s:=by grind
  have mn:∀{a b:Rat},0<=a->0<=b->0<=a*b:=λa b=>Rat.mul_nonneg a b
  have X:∃x,(x=p\/x=q\/x=r\/x=s)/\0<dt x u/\0<=dt p x/\0<=dt x q/\0<=dt r x/\0<=dt x s:=by
    by_cases c:0<=dt p r
    · have h1:0<=dt r q*dt p u:=by
        have e:dt r q*dt p u=dt p r*dt u q+dt r u*dt p q:=by unfold dt;grind
        have:=mn c hq;have:=mn hr (Rat.le_of_lt hpq);grind
      exact ⟨r,.inr (.inr (.inl O)),p3,c,Hb p1 h1,by rw [Js];exact Rat.le_refl,Rat.le_of_lt hrs⟩
    · have c':0<=dt r p:=by rw [Mg r p];grind
      have h1:0<=dt p s*dt r u:=by
        have e:dt p s*dt r u=dt r p*dt u s+dt p u*dt r s:=by unfold dt;grind
        have:=mn c' hs;have:=mn hp (Rat.le_of_lt hrs);grind
      exact ⟨p,.inl O,p1,by rw [Js];exact Rat.le_refl,Rat.le_of_lt hpq,c',Hb p3 h1⟩
  have Y:∃x,(x=p\/x=q\/x=r\/x=s)/\0<dt u x/\0<=dt p x/\0<=dt x q/\0<=dt r x/\0<=dt x s:=by
    by_cases c:0<=dt q s
    · have h1:0<=dt r q*dt u s:=by
        have e:dt r q*dt u s=dt r u*dt q s+dt r s*dt u q:=by unfold dt;grind
        have:=mn hr c;have:=mn (Rat.le_of_lt hrs) hq;grind
      exact ⟨q,.inr (.inl O),p2,Rat.le_of_lt hpq,by rw [Js];exact Rat.le_refl,Hb p4 h1,c⟩
    · have c':0<=dt s q:=by rw [Mg s q];grind
      have h1:0<=dt p s*dt u q:=by
        have e:dt p s*dt u q=dt p u*dt s q+dt p q*dt u s:=by unfold dt;grind
        have:=mn hp c';have:=mn (Rat.le_of_lt hpq) hs;grind
      exact ⟨s,.inr (.inr (.inr O)),p4,Hb p2 h1,c',Rat.le_of_lt hrs,by rw [Js];exact Rat.le_refl⟩
  obtain ⟨x,hx,x0,x1,x2,x3,x4⟩:=X
  obtain ⟨y,hy,y0,y1,y2,y3,y4⟩:=Y
  have hxy:0<=dt x y*dt p u:=by
    have e:dt x y*dt p u=dt p x*dt u y+dt x u*dt p y:=by unfold dt;grind
    have:=mn x1 (Rat.le_of_lt y0);have:=mn (Rat.le_of_lt x0) y1;grind
  have hxy:=Hb p1 hxy
  by_cases a:0<=dt x w
  · exact ⟨x,hx,x1,x2,x3,x4,a⟩
  by_cases b:0<=dt y w
  · exact ⟨y,hy,y1,y2,y3,y4,b⟩
  exfalso
  have e:dt x y*dt u w=dt u y*dt x w+dt x u*dt y w:=by unfold dt;grind
  have h1:=mn hxy hw
  have h2:0<dt u y * -dt x w:=Rat.mul_pos y0 (by grind)
  have h3:0<dt x u * -dt y w:=Rat.mul_pos x0 (by grind)
  grind
end
def OY (a b c d e f:Pt):Prop:=(AU a b d<=0/\AU a b e<=0/\AU a b f<=0)\/(AU b c d<=0/\AU b c e<=0/\AU b c f<=0)\/(AU c a d<=0/\AU c a e<=0/\AU c a f<=0)
def Ei (a b:Pt):Pt:=⟨a.x-b.x,a.y-b.y⟩
section
variable {a b c d e f u:Pt}
theorem YX (hA:0<AU a b c) (hB:0<AU d e f) (hu:u≠⟨0,0⟩) (h1:dt u a<=dt u b) (h2:dt u a<=dt u c) (h3:dt u e<=dt u d) (h4:dt u f<=dt u d) (h5:dt u d<=dt u a) :
    (AU a b d<=0/\AU a b e<=0/\AU a b f<=0)\/(AU c a d<=0/\AU c a e<=0/\AU c a f<=0)\/(AU d e a<=0/\AU d e b<=0/\AU d e c<=0)\/(AU f d a<=0/\AU f d b<=0/\AU f d c<=0):=by
  have key:=TY (p:=Ei a c) (q:=Ei b a) (r:=Ei f d) (s:=Ei d e) (u:=u) (w:=Ei a d) (by simp only [Ch] at hA;unfold dt Ei;grind) (by simp only [Ch] at hB;unfold dt Ei;grind) hu
    (by unfold dt Ei at *;grind) (by unfold dt Ei at *;grind) (by unfold dt Ei at *;grind) (by unfold dt Ei at *;grind) (by unfold dt Ei at *;grind)
  clear h1 h2 h3 h4 h5 hA hB hu
  obtain ⟨x,hx,k1,k2,k3,k4,k5⟩:=key
  simp only [Ch]
  unfold dt Ei at k1 k2 k3 k4 k5
  rcases hx with rfl|rfl|rfl|rfl
  · right;left;simp only at k1 k2 k3 k4 k5;unfold Ei at *;simp only at k1 k2 k3 k4 k5;refine ⟨?_,?_,?_⟩<;>grind
  · left;simp only at k1 k2 k3 k4 k5;unfold Ei at *;simp only at k1 k2 k3 k4 k5;refine ⟨?_,?_,?_⟩<;>grind
  · right;right;right;simp only at k1 k2 k3 k4 k5;unfold Ei at *;simp only at k1 k2 k3 k4 k5;refine ⟨?_,?_,?_⟩<;>grind
  · right;right;left;simp only at k1 k2 k3 k4 k5;unfold Ei at *;simp only at k1 k2 k3 k4 k5;refine ⟨?_,?_,?_⟩<;>grind
theorem Jq (a b c:Pt):AU b c a=AU a b c:=by simp only [Ch];grind
def ZF (u:Pt) (k:Rat) (a b c d e f:Pt):Prop:=(k<=dt u a/\k<=dt u b/\k<=dt u c)/\dt u d<=k/\dt u e<=k/\dt u f<=k
theorem ZJ (x y z:Rat):(x<=y/\x<=z)\/(y<=z/\y<=x)\/(z<=x/\z<=y):=by grind
theorem XQ (hA:0<AU a b c) (hB:0<AU d e f) (hu:u≠⟨0,0⟩) (h1:dt u a<=dt u b) (h2:dt u a<=dt u c) (h3:dt u d<=dt u a) (h4:dt u e<=dt u a) (h5:dt u f<=dt u a):OY a b c d e f\/OY d e f a b c:=by
  rcases ZJ (-dt u d) (-dt u e) (-dt u f) with m|m|m
  · rcases YX hA hB hu h1 h2 (by grind) (by grind) h3 with k|k|k|k
    · exact .inl (.inl k)
    · exact .inl (.inr (.inr k))
    · exact .inr (.inl k)
    · exact .inr (.inr (.inr k))
  · rcases YX (d:=e) (e:=f) (f:=d) hA (by rw [Jq];exact hB) hu h1 h2 (by grind) (by grind) h4 with k|k|k|k
    · exact .inl (.inl ⟨k.2.2,k.1,k.2.1⟩)
    · exact .inl (.inr (.inr ⟨k.2.2,k.1,k.2.1⟩))
    · exact .inr (.inr (.inl k))
    · exact .inr (.inl k)
  · rcases YX (d:=f) (e:=d) (f:=e) hA (by rw [<-Jq];exact hB) hu h1 h2 (by grind) (by grind) h5 with k|k|k|k
    · exact .inl (.inl ⟨k.2.1,k.2.2,k.1⟩)
    · exact .inl (.inr (.inr ⟨k.2.1,k.2.2,k.1⟩))
    · exact .inr (.inr (.inr k))
    · exact .inr (.inr (.inl k))
theorem OY.rot1 (h:OY b c a d e f):OY a b c d e f:=by
  rcases h with k|k|k
  · exact .inr (.inl k)
  · exact .inr (.inr k)
  · exact .inl k
theorem OY.rot2 (h:OY d e f b c a):OY d e f a b c:=by
  rcases h with k|k|k
  · exact .inl ⟨k.2.2,k.1,k.2.1⟩
  · exact .inr (.inl ⟨k.2.2,k.1,k.2.1⟩)
  · exact .inr (.inr ⟨k.2.2,k.1,k.2.1⟩)
theorem aT {k:Rat} (hA:0<AU a b c) (hB:0<AU d e f) (hu:u≠⟨0,0⟩) (h:ZF u k a b c d e f):OY a b c d e f\/OY d e f a b c:=by
  obtain ⟨⟨h1,h2,h3⟩,h4,h5,h6⟩:=h
  rcases ZJ (dt u a) (dt u b) (dt u c) with m|m|m
  · exact XQ hA hB hu m.1 m.2 (by grind) (by grind) (by grind)
  · exact (XQ (a:=b) (b:=c) (c:=a) (by rw [Jq];exact hA) hB hu m.1 m.2 (by grind) (by grind) (by grind)).imp OY.rot1 OY.rot2
  · exact (XQ (a:=c) (b:=a) (c:=b) (by rw [<-Jq];exact hA) hB hu m.1 m.2 (by grind) (by grind) (by grind)).imp (λq=>q.rot1.rot1) (λq=>q.rot2.rot2)
end
end
end Go.Proofs.YtfbomiejpbchdaaGreat
