import Derived.Test.YtfbomiejpbchdaaGreatPart06
import Derived.Test.YtfbomiejpbchdaaGreatPart30
namespace Go.Proofs.YtfbomiejpbchdaaGreat
open Go Go.RowKit Go.Proofs.Tryz
set_option linter.unusedVariables false
set_option linter.unusedSimpArgs false
section
abbrev T3:=Nat×Nat×Nat
section
variable {ts ts':List T3} {N:Nat}
theorem QA {t:T3} (h:MV N t=true):t.1≠t.2.1/\t.2.1≠t.2.2/\t.2.2≠t.1:=by
  simp only [MV,Bool.and_eq_true,Bool.not_eq_true',decide_eq_false_iff_not,decide_eq_true_eq] at h
  exact ⟨h.1.1.2,h.1.2,h.2⟩
theorem Kk (hn:CN N ts=true) {u:Nat} (hu:u<3*ts.length):(B4 ts u).1≠(B4 ts u).2:=by
  obtain ⟨hab,hbc,hca⟩:=QA (CU hn (show u/3<ts.length by omega))
  have h3:u%3=0\/u%3=1\/u%3=2:=by omega
  unfold B4
  rcases h3 with h3|h3|h3<;>rw [h3]
  · exact hab
  · exact hbc
  · exact hca
theorem NP (hn:CN N ts=true) {u:Nat} (hu:u<3*ts.length):(B4 ts u).1<N/\(B4 ts u).2<N:=by
  have h:=CU hn (show u/3<ts.length by omega)
  exact ⟨Nl h _,Nl h _⟩
theorem J1.uniq {s a b:Nat} {y z:Int} (h:J1 ts s a b y) (k:J1 ts s a b z):y=z:=by
  rcases h with ⟨h1,h2⟩|⟨u,h1,h2,h3,h4⟩<;>rcases k with ⟨k1,k2⟩|⟨v,k1,k2,k3,k4⟩
  · omega
  · exact absurd k3 (h2 v k1)
  · exact absurd h3 (k2 u h1)
  · rcases Nat.lt_trichotomy u v with h|h|h
    · exact absurd h3 (k4 u h)
    · rw [h2,k2,h]
    · exact absurd k3 (h4 v h)
theorem Qb (hn:CN N ts=true) (hN:N<=4611686018427387904) {e:E4}:e∈Bq ts↔S3 ts (3*ts.length) (e.a,e.b) e:=by
  have hd:∀u,u<3*ts.length->(B4 ts u).1≠(B4 ts u).2:=λu hu=>Kk hn hu
  refine ⟨λh=>XA hn hN hd h,λh=>?_⟩
  obtain ⟨i1,i2⟩:=Jw hd _ (Nat.le_refl _)
  cases hg:Ae (Ck ts (3*ts.length)) (e.a,e.b) with
  | none =>
    obtain ⟨u,hu,hs⟩:=h.some
    have h3:=i2 _ hg h.lt u hu
    rcases hs with hs|hs
    · exact absurd hs h3.1
    · exact absurd hs h3.2
  | some e' =>
    have h3:=i1 _ _ hg
    have e1:e'=e:=by
      have a1:=h3.ea;have a2:=h3.eb;have a3:=h3.l.uniq h.l;have a4:=h3.r.uniq h.r
      cases e;cases e';simp only at a1 a2 a3 a4;subst a1 a2 a3 a4;rfl
    rw [e1] at hg
    unfold Bq
    exact (Dr _).mem_iff.2 (List.mem_map.2 ⟨_,K8 hg,rfl⟩)
def XY (x y:E4):Prop:=x.a<y.a\/(x.a=y.a/\x.b<y.b)
theorem Po (hn:CN N ts=true) (hN:N<=4611686018427387904):(Bq ts).Pairwise XY:=by
  have h1:L3 ((Ck ts (3*ts.length)).map (·.2)):=MR (Fw hn hN _ (Nat.le_refl _)) (Kb ts _)
  have h2:L3 (Bq ts):=(List.Perm.pairwise_iff (R:=λx y:E4=>¬(x.a=y.a/\x.b=y.b)) (λh k=>h ⟨k.1.symm,k.2.symm⟩) (Dr _)).2 h1
  exact (List.Pairwise.and (G9 _) h2).imp λ{x y} h=>by
    have h3:=Jv.1 h.1
    have h4:=h.2
    unfold XY
    omega
def Tm (ts:List T3) (j a b:Nat):Prop:=∃r,r<3/\B4 ts (3*j+r)=(a,b)
def Zi (ts:List T3) (n a b:Nat) (z:Int):Prop:=(z = -1/\∀j,j<n->¬Tm ts j a b)\/∃j,j<n/\z=(j:Int)/\Tm ts j a b/\∀i,i<j->¬Tm ts i a b
theorem W2 {n a b:Nat} {z:Int} (h:J1 ts (3*n) a b z):Zi ts n a b z:=by
  rcases h with ⟨h1,h2⟩|⟨u,h1,h2,h3,h4⟩
  · exact .inl ⟨h1,λj hj ⟨r,hr,k⟩=>h2 _ Z k⟩
  · exact .inr ⟨u/3,Z,h2,⟨u%3,Z,by rw [show 3*(u/3)+u%3=u by omega];exact h3⟩,λi hi ⟨r,hr,k⟩=>h4 _ Z k⟩
theorem Sn {n a b:Nat} {z:Int} (h:Zi ts n a b z):J1 ts (3*n) a b z:=by
  rcases h with ⟨h1,h2⟩|⟨j,h1,h2,⟨r,hr,h3⟩,h4⟩
  · exact .inl ⟨h1,λu hu k=>h2 (u/3) Z ⟨u%3,Z,by rw [show 3*(u/3)+u%3=u by omega];exact k⟩⟩
  · have key:∀m,m<=3->(∀q,q<m->B4 ts (3*j+q)≠(a,b))\/∃q,q<m/\B4 ts (3*j+q)=(a,b)/\∀p,p<q->B4 ts (3*j+p)≠(a,b):=by
      intro m
      induction m with
      | zero=>intro _;exact .inl λq hq=>absurd hq (Nat.not_lt_zero _)
      | succ m ih =>
        intro hm
        rcases ih Z with h|⟨q,h5,h6,h7⟩
        · by_cases k:B4 ts (3*j+m)=(a,b)
          · exact .inr ⟨m,Z,k,h⟩
          · refine .inl λq hq=>?_
            rcases Nat.lt_or_ge q m with h8|h8
            · exact h q h8
            · rw [show q=m by omega];exact k
        · exact .inr ⟨q,Z,h6,h7⟩
    rcases key 3 (Nat.le_refl _) with k|⟨q,h5,h6,h7⟩
    · exact absurd h3 (k r hr)
    · refine .inr ⟨3*j+q,Z,by rw [h2];congr 1;omega,h6,λv hv k=>?_⟩
      rcases Nat.lt_or_ge v (3*j) with h8|h8
      · exact h4 (v/3) Z ⟨v%3,Z,by rw [show 3*(v/3)+v%3=v by omega];exact k⟩
      · exact h7 (v-3*j) Z (by rw [show 3*j+(v-3*j)=v by omega];exact k)
structure K5 (ts ts':List T3):Prop where
  len:ts.length=ts'.length
  way:∀j,j<ts.length->∀a b,Tm ts j a b↔Tm ts' j a b
theorem K5.symm (h:K5 ts ts'):K5 ts' ts:=⟨h.len.symm,λj hj a b=>(h.way j (by rw [h.len];exact hj) a b).symm⟩
theorem K5.fst (h:K5 ts ts') {a b:Nat} {z:Int} (k:J1 ts (3*ts.length) a b z):J1 ts' (3*ts'.length) a b z:=by
  rw [<-h.len]
  refine Sn ?_
  rcases W2 k with ⟨h1,h2⟩|⟨j,h1,h2,h3,h4⟩
  · exact .inl ⟨h1,λj hj k=>h2 j hj ((h.way j hj a b).2 k)⟩
  · exact .inr ⟨j,h1,h2,(h.way j h1 a b).1 h3,λi hi k=>h4 i hi ((h.way i Z a b).2 k)⟩
theorem K5.inv (h:K5 ts ts') {e:E4} (k:S3 ts (3*ts.length) (e.a,e.b) e):S3 ts' (3*ts'.length) (e.a,e.b) e:=by
  obtain ⟨u,hu,hs⟩:=k.some
  refine ⟨k.ea,k.eb,k.lt,h.fst k.l,h.fst k.r,?_⟩
  have key:∀a b,B4 ts u=(a,b)->∃v,v<3*ts'.length/\B4 ts' v=(a,b):=λa b hd=>by
    obtain ⟨r,hr,h3⟩:=(h.way (u/3) Z a b).1 ⟨u%3,Z,by rw [show 3*(u/3)+u%3=u by omega];exact hd⟩
    exact ⟨3*(u/3)+r,by rw [<-h.len];omega,h3⟩
  rcases hs with hs|hs
  · obtain ⟨v,h1,h2⟩:=key _ _ hs;exact ⟨v,h1,.inl h2⟩
  · obtain ⟨v,h1,h2⟩:=key _ _ hs;exact ⟨v,h1,.inr h2⟩
theorem J8 {j r:Nat} (hr:r<3):B4 ts (3*j+r)=(Eh (ts.getD j (0,0,0)) r,Eh (ts.getD j (0,0,0)) ((r+1)%3)):=by
  unfold B4
  rw [show (3*j+r)/3=j by omega,show (3*j+r)%3=r by omega]
def Ld (ts:List T3) (u:Nat):P2:=BY (B4 ts u).1 (B4 ts u).2
def Ct (ts:List T3):Nat->List (P2×Nat)
  | 0=>[]
  | s+1=>BU (Ct ts s) (Ld ts s) ((Ae (Ct ts s) (Ld ts s)).getD 0+1)
def DE (ts:List T3):List P2:=ts.flatMap λt=>[BY t.1 t.2.1,BY t.2.1 t.2.2,BY t.2.2 t.1]
theorem GJ (k:P2):∀s,(Ae (Ct ts s) k).getD 0=((List.range s).map (Ld ts)).count k
  | 0=>rfl
  | s+1=>by
    rw [Ct,Bw,List.range_succ,List.map_append,List.count_append,List.map_singleton,List.count_singleton]
    by_cases h:k=Ld ts s
    · subst h
      rw [if_pos rfl,Option.getD_some,GJ _ s];simp
    · rw [if_neg h,GJ k s,if_neg (by simpa using λe=>h e.symm)];rfl
theorem Ik {t i:Nat} (hi:i<3):Ct ts (3*t+i+1)=BU (Ct ts (3*t+i)) (BY (Eh (ts.getD t (0,0,0)) i) (Eh (ts.getD t (0,0,0)) ((i+1)%3))) ((Ae (Ct ts (3*t+i)) (BY (Eh (ts.getD t (0,0,0)) i) (Eh (ts.getD t (0,0,0)) ((i+1)%3)))).getD 0+1):=by
  rw [Ct]
  unfold Ld
  rw [J8 hi]
theorem NZ (s:Nat) (k:P2):(Ae (Ct ts s) k).getD 0<=s:=by
  rw [GJ]
  exact Nat.le_trans List.count_le_length (by simp)
theorem Fe (hn:CN N ts=true) (hN:N<=4611686018427387904):∀s,s<=3*ts.length->Hq JU (Ct ts s)
  | 0,_=>Hq.nil
  | s+1,hs=>by
    obtain ⟨h1,h2⟩:=NP hn (show s<3*ts.length by omega)
    exact (Fe hn hN s Z).put (Bn (Nat.lt_of_lt_of_le h1 hN) (Nat.lt_of_lt_of_le h2 hN))
theorem KN:(List.range (3*ts.length)).map (Ld ts)=DE ts:=by
  have key:∀n,n<=ts.length->(List.range (3*n)).map (Ld ts)=DE (ts.take n):=by
    intro n
    induction n with
    | zero=>intro _;rfl
    | succ n ih =>
      intro hn
      have e1:List.range (3*(n+1))=List.range (3*n)++[3*n,3*n+1,3*n+2]:=by
        rw [show 3*(n+1)=3*n+1+1+1 by omega,List.range_succ,List.range_succ,List.range_succ];simp
      have e2:ts.take (n+1)=ts.take n++[ts.getD n (0,0,0)]:=by
        rw [List.take_add_one,List.getElem?_eq_getElem (show n<ts.length by omega),List.getD,List.getElem?_eq_getElem (show n<ts.length by omega)];rfl
      have k0:=J8 (ts:=ts) (j:=n) (show 0<3 by decide)
      have k1:=J8 (ts:=ts) (j:=n) (show 1<3 by decide)
      have k2:=J8 (ts:=ts) (j:=n) (show 2<3 by decide)
      rw [e1,e2,List.map_append,ih Z]
      unfold DE
      rw [List.flatMap_append]
      congr 1
      simp only [List.map_cons,List.map_nil,List.flatMap_cons,List.flatMap_nil,List.append_nil,Ld]
      rw [show 3*n=3*n+0 by omega,k0,show 3*n+0+1=3*n+1 by omega,k1,show 3*n+0+2=3*n+2 by omega,k2]
      rfl
  have h:=key ts.length (Nat.le_refl _)
  rwa [List.take_length] at h
def Ui (ts:List T3) (k:P2):Nat:=(Ae (Ct ts (3*ts.length)) k).getD 0
theorem QU (k:P2):Ui ts k=(DE ts).count k:=by unfold Ui;rw [GJ,KN]
def Ia (ts:List T3) (i:Nat):List T3:=(((Bq ts).take i).filter λe=>decide (Ui ts (e.a,e.b)=1)).map λe=>(e.a,e.b,0)
def B0 (ts:List T3):List T3:=Ia ts (Bq ts).length
theorem S8 {i:Nat} (hi:i<(Bq ts).length) (h:Ui ts (((Bq ts).getD i ⟨0,0,0,0⟩).a,((Bq ts).getD i ⟨0,0,0,0⟩).b)=1):Ia ts (i+1)=Ia ts i++[(((Bq ts).getD i ⟨0,0,0,0⟩).a,((Bq ts).getD i ⟨0,0,0,0⟩).b,0)]:=by
  rw [List.getD,List.getElem?_eq_getElem hi] at h ⊢
  unfold Ia
  rw [List.take_add_one,List.getElem?_eq_getElem hi,List.filter_append,List.map_append]
  simp only [Option.toList_some,Option.getD_some] at h ⊢
  rw [List.filter_cons,if_pos (decide_eq_true h)];rfl
theorem WX {i:Nat} (hi:i<(Bq ts).length) (h:¬Ui ts (((Bq ts).getD i ⟨0,0,0,0⟩).a,((Bq ts).getD i ⟨0,0,0,0⟩).b)=1):Ia ts (i+1)=Ia ts i:=by
  rw [List.getD,List.getElem?_eq_getElem hi] at h
  unfold Ia
  rw [List.take_add_one,List.getElem?_eq_getElem hi,List.filter_append,List.map_append]
  simp only [Option.toList_some,Option.getD_some] at h ⊢
  rw [List.filter_cons,if_neg (by simpa using h)];simp
theorem Ks (i:Nat):(Ia ts i).length<=i:=by
  unfold Ia
  rw [List.length_map]
  exact Nat.le_trans (List.length_filter_le _ _) (List.length_take_le _ _)
theorem H5 (hn:CN N ts=true) (hN:N<=4611686018427387904) {a b:Nat}:(a,b)∈DE ts↔∃e∈Bq ts,e.a=a/\e.b=b:=by
  rw [<-KN,List.mem_map]
  constructor
  · rintro ⟨u,hu,hk⟩
    have hu:=List.mem_range.1 hu
    have hne:=Kk hn hu
    unfold Ld BY at hk
    injection hk with h1 h2
    have hlt:a<b:=by omega
    have hd:B4 ts u=(a,b)\/B4 ts u=(b,a):=by
      rcases Nat.lt_or_ge (B4 ts u).1 (B4 ts u).2 with h|h
      · exact .inl (Prod.ext Z Z)
      · exact .inr (Prod.ext Z Z)
    obtain ⟨i1,i2⟩:=Jw (λu hu=>Kk hn hu) _ (Nat.le_refl _)
    cases hg:Ae (Ck ts (3*ts.length)) (a,b) with
    | none =>
      have h3:=i2 _ hg hlt u hu
      rcases hd with hd|hd
      · exact absurd hd h3.1
      · exact absurd hd h3.2
    | some e =>
      have h3:=i1 _ _ hg
      refine ⟨e,?_,h3.ea,h3.eb⟩
      unfold Bq
      exact (Dr _).mem_iff.2 (List.mem_map.2 ⟨_,K8 hg,rfl⟩)
  · rintro ⟨e,he,rfl,rfl⟩
    have h:=(Qb hn hN).1 he
    obtain ⟨u,hu,hs⟩:=h.some
    have hlt:=h.lt
    simp only at hlt hs
    refine ⟨u,List.mem_range.2 hu,?_⟩
    unfold Ld BY
    rcases hs with hs|hs<;>rw [hs]<;>exact Prod.ext (by simp only;omega) (by simp only;omega)
def Yy (x y:T3):Prop:=x.1<y.1\/(x.1=y.1/\x.2.1<y.2.1)
theorem VB (hn:CN N ts=true) (hN:N<=4611686018427387904) {s:T3}:s∈B0 ts↔(DE ts).count (s.1,s.2.1)=1/\s.2.2=0:=by
  unfold B0 Ia
  rw [List.take_length,List.mem_map]
  constructor
  · rintro ⟨e,he,rfl⟩
    obtain ⟨h1,h2⟩:=List.mem_filter.1 he
    exact ⟨by rw [<-QU];exact of_decide_eq_true h2,rfl⟩
  · rintro ⟨h1,h2⟩
    have hm:(s.1,s.2.1)∈DE ts:=List.count_pos_iff.1 Z
    obtain ⟨e,he,ea,eb⟩:=(H5 hn hN).1 hm
    refine ⟨e,List.mem_filter.2 ⟨he,decide_eq_true (by rw [QU,ea,eb];exact h1)⟩,?_⟩
    exact Prod.ext ea (Prod.ext eb h2.symm)
end
end
section
abbrev E0:E4:=⟨0,0,0,0⟩
def BE (N:Nat) (es:List E4):Nat->List (P2×Nat)
  | 0=>[]
  | i+1=>BU (BE N es i) (BY (es.getD i E0).a (es.getD i E0).b) (N+i)
def FN (N:Nat) (ss:List T3):Nat->List (P2×Nat)
  | 0=>[]
  | k+1=>if (ss.getD (ss.length-1-k) (0,0,0)).1<N/\(ss.getD (ss.length-1-k) (0,0,0)).2.1<N then BU (FN N ss k) (BY (ss.getD (ss.length-1-k) (0,0,0)).1 (ss.getD (ss.length-1-k) (0,0,0)).2.1) (ss.getD (ss.length-1-k) (0,0,0)).2.2 else FN N ss k
def Dt (N:Nat) (ss:List T3) (es:List E4):Nat->List (P2×Nat)
  | 0=>FN N ss ss.length
  | i+1=>BU (BU (Dt N ss es i) (BY (es.getD i E0).a (N+i)) ((Ae (Dt N ss es i) (BY (es.getD i E0).a (es.getD i E0).b)).getD 0)) (BY (es.getD i E0).b (N+i)) ((Ae (Dt N ss es i) (BY (es.getD i E0).a (es.getD i E0).b)).getD 0)
def Pd (N:Nat) (ss:List T3) (es:List E4) (a b:Nat):Nat:=(Ae (Dt N ss es es.length) (BY a b)).getD 0
def Y1 (ps:List Pt) (e:E4):Pt:=Cb (cor ps e.a+cor ps e.b) (1/2)
def Iv (ps:List Pt) (es:List E4):Nat->List Pt
  | 0=>ps
  | i+1=>Iv ps es i++[Y1 ps (es.getD i E0)]
def Dn (ps:List Pt) (es:List E4):List Pt:=Iv ps es es.length
def F3 (N:Nat) (ss:List T3) (es:List E4) (rs:List T3) (i:Nat):List T3:=(rs.take i).map (λs=>(s.1,s.2.1,Pd N ss es s.1 s.2.1))++rs.drop i
def IA (N:Nat) (ss:List T3) (es:List E4) (ts:List T3):List T3:=(B0 ts).map λs=>(s.1,s.2.1,Pd N ss es s.1 s.2.1)
section
variable {N M i:Nat} {es:List E4} {ts:List T3} {t:T3} {ss rs:List T3} {ps:List Pt}
theorem Dx {α:Type} {l:List α} {d:α} {i:Nat} (h:i<l.length):l.take (i+1)=l.take i++[l.getD i d]:=by
  rw [List.take_add_one,List.getElem?_eq_getElem h,List.getD,List.getElem?_eq_getElem h];rfl
theorem H8:∀i,(Iv ps es i).length=ps.length+i
  | 0=>rfl
  | i+1=>by rw [Iv,List.length_append,H8 i];rfl
theorem FH:(Dn ps es).length=ps.length+es.length:=H8 _
theorem TP:F3 N ss es rs rs.length=rs.map λs=>(s.1,s.2.1,Pd N ss es s.1 s.2.1):=by unfold F3;simp
theorem IY:(F3 N ss es rs i).length=rs.length:=by unfold F3;simp;omega
theorem OW (h:i<rs.length):(F3 N ss es rs i).getD i (0,0,0)=rs.getD i (0,0,0):=by
  unfold F3
  rw [List.getD,List.getElem?_append_right (by simp;omega),List.length_map,List.length_take,Nat.min_eq_left Z,Nat.sub_self,List.getElem?_drop]
  rfl
theorem SB (h:i<rs.length):(F3 N ss es rs i).set i ((rs.getD i (0,0,0)).1,(rs.getD i (0,0,0)).2.1,Pd N ss es (rs.getD i (0,0,0)).1 (rs.getD i (0,0,0)).2.1)=F3 N ss es rs (i+1):=by
  unfold F3
  rw [Dx (d:=(0,0,0)) h,List.map_append,List.set_append_right _ _ (by simp;omega),List.length_map,List.length_take,Nat.min_eq_left Z,Nat.sub_self,NX (d:=(0,0,0)) h,List.set_cons_zero,List.append_assoc]
  rfl
theorem RS {v:Nat} (h:i<rs.length) (hv:v=Pd N ss es (rs.getD i (0,0,0)).1 (rs.getD i (0,0,0)).2.1):(F3 N ss es rs i).set i (((F3 N ss es rs i).getD i (0,0,0)).1,((F3 N ss es rs i).getD i (0,0,0)).2.1,v)=F3 N ss es rs (i+1):=by
  rw [OW h,hv];exact SB h
theorem N2 {k:Nat} (h:(ss.getD (ss.length-1-k) (0,0,0)).1<N/\(ss.getD (ss.length-1-k) (0,0,0)).2.1<N):BU (FN N ss k) (BY (ss.getD (ss.length-1-k) (0,0,0)).1 (ss.getD (ss.length-1-k) (0,0,0)).2.1) (ss.getD (ss.length-1-k) (0,0,0)).2.2=FN N ss (k+1):=by
  rw [FN,if_pos h]
theorem Vs {k:Nat} (h:¬((ss.getD (ss.length-1-k) (0,0,0)).1<N/\(ss.getD (ss.length-1-k) (0,0,0)).2.1<N)):FN N ss k=FN N ss (k+1):=by
  rw [FN,if_neg h]
theorem Nm (hes:∀e∈es,e.a<N/\e.b<N) (hN:N<=4611686018427387904):∀i,i<=es.length->Hq JU (BE N es i)
  | 0,_=>Hq.nil
  | i+1,h=>by
    have h1:=hes (es.getD i E0) (by rw [List.getD,List.getElem?_eq_getElem (show i<es.length by omega)];exact List.getElem_mem _)
    exact (Nm hes hN i Z).put (Bn Z Z)
theorem Jh (hN:N<=4611686018427387904):∀k,Hq JU (FN N ss k)
  | 0=>Hq.nil
  | k+1=>by
    unfold FN
    split
    · rename_i h;exact (Jh hN k).put (Bn Z Z)
    · exact Jh hN k
theorem IX (hes:∀e∈es,e.a<N/\e.b<N) (hN:N+es.length<=4611686018427387904):∀i,i<=es.length->Hq JU (Dt N ss es i)
  | 0,_=>Jh Z _
  | i+1,h=>by
    have h1:=hes (es.getD i E0) (by rw [List.getD,List.getElem?_eq_getElem (show i<es.length by omega)];exact List.getElem_mem _)
    exact ((IX hes hN i Z).put (Bn Z Z)).put (Bn Z Z)
theorem F8 (hn:CN N ts=true) (hN:N<=4611686018427387904) {e:E4} (he:e∈Bq ts):e.a<e.b/\e.b<N:=by
  have h:=(Qb hn hN).1 he
  obtain ⟨u,hu,hs⟩:=h.some
  have h2:=NP hn hu
  have hlt:=h.lt
  simp only at hlt hs
  rcases hs with hs|hs<;>rw [hs] at h2<;>simp only at h2<;>omega
theorem IT (hn:CN N ts=true) (hN:N<=4611686018427387904):∀e∈Bq ts,e.a<N/\e.b<N:=λe he=>by
  have:=F8 hn hN he;omega
theorem Qh (hn:CN N ts=true) (hN:N<=4611686018427387904) {s:T3} (hs:s∈B0 ts):s.1<N/\s.2.1<N:=by
  unfold B0 Ia at hs
  rw [List.take_length,List.mem_map] at hs
  obtain ⟨e,he,rfl⟩:=hs
  exact IT hn hN e (List.mem_filter.1 he).1
theorem KI (hs:es.Pairwise XY) (hl:∀e∈es,e.a<e.b) {j:Nat}:∀i,i<=es.length->j<i->Ae (BE N es i) ((es.getD j E0).a,(es.getD j E0).b)=some (N+j)
  | 0,_,h=>absurd h (Nat.not_lt_zero _)
  | i+1,hi,hj=>by
    have m:∀k,k<es.length->es.getD k E0∈es:=λk hk=>by rw [List.getD,List.getElem?_eq_getElem hk];exact List.getElem_mem _
    have k1:BY (es.getD i E0).a (es.getD i E0).b=((es.getD i E0).a,(es.getD i E0).b):=by
      have:=hl _ (m i Z);unfold BY;exact Prod.ext (by simp only;omega) (by simp only;omega)
    rw [BE,Bw,k1]
    rcases Nat.lt_or_ge j i with h|h
    · have h2:XY (es.getD j E0) (es.getD i E0):=by
        rw [List.getD,List.getD,List.getElem?_eq_getElem (show j<es.length by omega),List.getElem?_eq_getElem (show i<es.length by omega)]
        exact List.pairwise_iff_getElem.1 hs j i Z Z h
      rw [if_neg (λe=>by injection e with e1 e2;unfold XY at h2;omega)]
      exact KI hs hl i Z h
    · rw [show j=i by omega,if_pos rfl]
theorem QJ {t:T3} (h:t∈ts):BY t.1 t.2.1∈DE ts/\BY t.2.1 t.2.2∈DE ts/\BY t.2.2 t.1∈DE ts:=by
  unfold DE
  refine ⟨List.mem_flatMap.2 ⟨t,h,?_⟩,List.mem_flatMap.2 ⟨t,h,?_⟩,List.mem_flatMap.2 ⟨t,h,?_⟩⟩<;>simp
end
end
section
set_option maxRecDepth 100000
theorem S4 (p:Option Addr) (n cp:Nat) (h:n<=cp) (w:World)  :Calls prog 122 #[(Value.slice p n cp)] w (Av w (Value.slice p n n)):=by
 refine Ag (args:=[(Value.slice p n cp)]) func122 O O (Ab O) (AF.subF (sL [0] O) (q4 (AO O (AE.nil (q2 ?_)))))
 refine AR O (AR O (AI (v:=(vN n)) (AG O underlying27) O (AR O (AI (v:=(vN n)) (AG O underlying27) O (AI (v:=(Value.slice p n n)) (Di (m:=n) O O O underlying27 sizeOf55 Z) O ?_)))))
 exact AO O (AE.nil (AC.subF (sL [2] O) (AC.then_ (AF.ret (AT O (Ak (v:=(Value.slice p n n)) O) (λw hw=>⟨rfl,hw.out⟩))))))
theorem Me (ts:List Pt) (x:RX (rowsL Aj ts) ts.length) (hl:ts.length<=1000000000) (w:World) {S:Nat->Prop} (hx:Ro S w x):Calls prog 118 #[(Value.slice x.p ts.length x.c)] w (KD ZV (XU (T:=55) (z:=10) (cs:=rowsL Aj ts) (n:=ts.length)) S w):=by
 have lx:=EA (W:=w) hx
 refine BF (args:=[(Value.slice x.p ts.length x.c)]) (L:=[AZ x.p (rowsL Aj ts)]) func118 O O (Ab O) (EB hx BR) (AF.subF (sL [0] O) (q4 (AO O (AE.nilRow 55 10 (AE.nil ?_)))))
 refine q1 (q4 (AR O (AI (v:=(Value.bool x.p.isNone)) (Ke O O underlying27) O (AE.nil (AC.subF (sL [0,2,4] O) ?_)))))
 refine AC.then_ ?_
 refine AF.cond O (λhc0=>?_) (λhc0=>?_)
 ·skip
  have hts:ts=[]:=List.eq_nil_of_length_eq_zero (x.ok.nil (Option.isNone_iff_eq_none.1 hc0)).1
  refine q4 (AO O (AE.nilRow 55 10 (AE.nil (AC.then_ (AF.ret ?_)))))
  exact AC.then_ret (AT O (Ak (v:=(Value.slice none 0 0)) O) (λw hw=>(by subst hts;exact TE hw (OX.mk none 0 OwnOk.none) (by exact (sk (sl (sl sr)))) (KU.own O KU.nil) (by show Value.slice none 0 0=_;rfl))))
 ·skip
  refine AF.skip (q2 (AE.openV (V:=λb1=>(Value.slice (some ⟨b1,0,none⟩) 0 0)) (T:=55) (cs:=[]) (AM O) (Lz underlying27 sizeOf55) O (Ab O) λb1=>AE.asRow0 (z:=10) 0 O Z λho_b1=>AR O (AE.appendE0 X9 O ho_b1 O (ZA (k:=2) O x.ok) (Al BT _) (Ic Wa _) (Gt Z) Z O λp_1 c_1 ho_1=>?_)))
  exact AO O (AE.nil (AC.subF (sL [0,2] O) (AC.then_ (AF.ret (AT O (Ak (v:=(Value.slice p_1 ts.length c_1)) O) (λw hw=>(TE hw (OX.mk p_1 c_1 ho_1) (sk (sl (sl sr))) (KU.own O KU.nil) O)))))))
theorem UK (p:Option Addr) (n cp:Nat) (h:n<=cp) (w:World)  :Calls prog 119 #[(Value.slice p n cp)] w (Av w (Value.slice p n n)):=by
 refine Ag (args:=[(Value.slice p n cp)]) func119 O O (Ab O) (AF.subF (sL [0] O) (q4 (AO O (AE.nil (q2 ?_)))))
 refine AR O (AR O (AI (v:=(vN n)) (AG O underlying28) O (AR O (AI (v:=(vN n)) (AG O underlying28) O (AI (v:=(Value.slice p n n)) (Di (m:=n) O O O underlying28 sizeOf76 Z) O ?_)))))
 exact AO O (AE.nil (AC.subF (sL [2] O) (AC.then_ (AF.ret (AT O (Ak (v:=(Value.slice p n n)) O) (λw hw=>⟨rfl,hw.out⟩))))))
theorem RJ (ts:List T3) (x:RX (rowsL An ts) ts.length) (hl:ts.length<=1000000000) (w:World) {S:Nat->Prop} (hx:Ro S w x):Calls prog 120 #[(Value.slice x.p ts.length x.c)] w (KD ZV (XU (T:=76) (z:=3) (cs:=rowsL An ts) (n:=ts.length)) S w):=by
 have lx:=EA (W:=w) hx
 refine BF (args:=[(Value.slice x.p ts.length x.c)]) (L:=[AZ x.p (rowsL An ts)]) func120 O O (Ab O) (EB hx BR) (AF.subF (sL [0] O) (q4 (AO O (AE.nilRow 76 3 (AE.nil ?_)))))
 refine q1 (q4 (AR O (AI (v:=(Value.bool x.p.isNone)) (Ke O O underlying28) O (AE.nil (AC.subF (sL [0,2,4] O) ?_)))))
 refine AC.then_ ?_
 refine AF.cond O (λhc0=>?_) (λhc0=>?_)
 ·skip
  have hts:ts=[]:=List.eq_nil_of_length_eq_zero (x.ok.nil (Option.isNone_iff_eq_none.1 hc0)).1
  refine q4 (AO O (AE.nilRow 76 3 (AE.nil (AC.then_ (AF.ret ?_)))))
  exact AC.then_ret (AT O (Ak (v:=(Value.slice none 0 0)) O) (λw hw=>(by subst hts;exact TE hw (OX.mk none 0 OwnOk.none) (by exact (sk (sl (sl sr)))) (KU.own O KU.nil) (by show Value.slice none 0 0=_;rfl))))
 ·skip
  refine AF.skip (q2 (AE.openV (V:=λb1=>(Value.slice (some ⟨b1,0,none⟩) 0 0)) (T:=76) (cs:=[]) (AM O) (Lz underlying28 sizeOf76) O (Ab O) λb1=>AE.asRow0 (z:=3) 0 O Z λho_b1=>AR O (AE.appendE0 Ns O ho_b1 O (ZA (k:=2) O x.ok) (Al Ar _) (Ic Wj _) (Gt Z) Z O λp_1 c_1 ho_1=>?_)))
  exact AO O (AE.nil (AC.subF (sL [0,2] O) (AC.then_ (AF.ret (AT O (Ak (v:=(Value.slice p_1 ts.length c_1)) O) (λw hw=>(TE hw (OX.mk p_1 c_1 ho_1) (sk (sl (sl sr))) (KU.own O KU.nil) O)))))))
theorem Uy (p:Option Addr) (n cp:Nat) (h:n<=cp) (w:World)  :Calls prog 51 #[(Value.slice p n cp)] w (Av w (Value.slice p n n)):=by
 refine Ag (args:=[(Value.slice p n cp)]) func51 O O (Ab O) (AF.subF (sL [0] O) (q4 (AO O (AE.nil (q2 ?_)))))
 refine AR O (AR O (AI (v:=(vN n)) (AG O underlying29) O (AR O (AI (v:=(vN n)) (AG O underlying29) O (AI (v:=(Value.slice p n n)) (Di (m:=n) O O O underlying29 sizeOf44 Z) O ?_)))))
 exact AO O (AE.nil (AC.subF (sL [2] O) (AC.then_ (AF.ret (AT O (Ak (v:=(Value.slice p n n)) O) (λw hw=>⟨rfl,hw.out⟩))))))
theorem Jd (x0 x1:Nat):Instr.fill (λi=>some (i*1,1)) (Az ((0,0):P2)).toArray [(0,vN x0),(1,vN x1)]=some (Az (x0,x1)).toArray:=by kernel_rfl
theorem LH (a b:Nat) (w:World)  :Calls prog 47 #[(vN a),(vN b)] w (Av w (aG (Az (min a b,max a b)))):=by
 refine Ag (args:=[(vN a),(vN b)]) func47 O O (Ab O) (AF.subF (sL [0,1] O) (q4 (al Y3 O λb1=>AE.nil (q2 ?_))))
 refine AR O (AR O (AI (GL (c:=((min a b:Nat):Int)) O O (by split<;>omega)) O (AR O (AR O (AI (Fu (c:=((max a b:Nat):Int)) O O (by split<;>omega)) O ?_)))))
 exact AI (v:=(aG (Az (min a b,max a b)))) (Ao (zs:=Az ((0,0):P2)) (vs:=Az (min a b,max a b)) (pv:=[(0,(vN (min a b))),(1,(vN (max a b)))]) zeroValue112 underlying112 sizeOf3 O (Jd (min a b) (max a b))) O (Aq O sizeOf112 O (AE.nil (AC.subF (sL [4] O) (AC.then_ (AF.ret (AT O (A7 (i:=0) (cs:=Az (min a b,max a b)) O O isAgg112 sizeOf112 O) (λw hw=>⟨rfl,hw.out⟩)))))))
theorem JX (x0 x1:Nat):Instr.fill (λi=>some (i*1,1)) (Az ((0,0):P2)).toArray [(0,vN x0),(1,vN x1)]=some (Az (x0,x1)).toArray:=by kernel_rfl
theorem Iz (a b:Nat) (w:World)  :Calls prog 80 #[(vN a),(vN b)] w (Av w (aG (Az (min a b,max a b)))):=by
 refine Ag (args:=[(vN a),(vN b)]) func80 O O (Ab O) (AF.subF (sL [0,1] O) (q4 (al Xa O λb1=>AE.nil (q2 ?_))))
 refine AR O (AR O (AI (GL (c:=((min a b:Nat):Int)) O O (by split<;>omega)) O (AR O (AR O (AI (Fu (c:=((max a b:Nat):Int)) O O (by split<;>omega)) O ?_)))))
 exact AI (v:=(aG (Az (min a b,max a b)))) (Ao (zs:=Az ((0,0):P2)) (vs:=Az (min a b,max a b)) (pv:=[(0,(vN (min a b))),(1,(vN (max a b)))]) zeroValue144 underlying144 sizeOf3 O (JX (min a b) (max a b))) O (Aq O sizeOf144 O (AE.nil (AC.subF (sL [4] O) (AC.then_ (AF.ret (AT O (A7 (i:=0) (cs:=Az (min a b,max a b)) O O isAgg144 sizeOf144 O) (λw hw=>⟨rfl,hw.out⟩)))))))
end
end Go.Proofs.YtfbomiejpbchdaaGreat
