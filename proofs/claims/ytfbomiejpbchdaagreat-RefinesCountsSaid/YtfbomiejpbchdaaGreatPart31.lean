import Derived.Test.YtfbomiejpbchdaaGreatPart06
import Derived.Test.YtfbomiejpbchdaaGreatPart30
namespace Go.Proofs.YtfbomiejpbchdaaGreat
open Go Go.RowKit
set_option linter.unusedVariables false
set_option linter.unusedSimpArgs false
section
abbrev T3:=Nat×Nat×Nat
section
variable {ts ts':List T3} {N:Nat}
theorem J4 {t:T3} (h:M2 N t=true):t.1≠t.2.1/\t.2.1≠t.2.2/\t.2.2≠t.1:=by
  simp only [M2,Bool.and_eq_true,Bool.not_eq_true',decide_eq_false_iff_not,decide_eq_true_eq] at h
  exact ⟨h.1.1.2,h.1.2,h.2⟩
theorem Jx (hn:Ba N ts=true) {u:Nat} (hu:u<3*ts.length):(Bb ts u).1≠(Bb ts u).2:=by
  obtain ⟨hab,hbc,hca⟩:=J4 (DN hn (show u/3<ts.length by omega))
  have h3:u%3=0\/u%3=1\/u%3=2:=by omega
  unfold Bb
  rcases h3 with h3|h3|h3<;>rw [h3]
  · exact hab
  · exact hbc
  · exact hca
theorem Ma (hn:Ba N ts=true) {u:Nat} (hu:u<3*ts.length):(Bb ts u).1<N/\(Bb ts u).2<N:=by
  have h:=DN hn (show u/3<ts.length by omega)
  exact ⟨MM h _,MM h _⟩
theorem JK.uniq {s a b:Nat} {y z:Int} (h:JK ts s a b y) (k:JK ts s a b z):y=z:=by
  rcases h with ⟨h1,h2⟩|⟨u,h1,h2,h3,h4⟩<;>rcases k with ⟨k1,k2⟩|⟨v,k1,k2,k3,k4⟩
  · omega
  · exact absurd k3 (h2 v k1)
  · exact absurd h3 (k2 u h1)
  · rcases Nat.lt_trichotomy u v with h|h|h
    · exact absurd h3 (k4 u h)
    · rw [h2,k2,h]
    · exact absurd k3 (h4 v h)
theorem Pk (hn:Ba N ts=true) (hN:N<=4611686018427387904) {e:E4}:e∈A_ ts↔Th ts (3*ts.length) (e.a,e.b) e:=by
  have hd:∀u,u<3*ts.length->(Bb ts u).1≠(Bb ts u).2:=λu hu=>Jx hn hu
  refine ⟨λh=>VI hn hN hd h,λh=>?_⟩
  obtain ⟨i1,i2⟩:=JE hd _ (Nat.le_refl _)
  cases hg:Ab (Ca ts (3*ts.length)) (e.a,e.b) with
  | none =>
    obtain ⟨u,hu,hs⟩:=h.some
    have h3:=i2 _ hg h.lt u hu
    rcases hs with hs|hs
    · exact absurd hs h3.1
    · exact absurd hs h3.2
  | some e' =>
    have h3:=i1 _ _ hg
    have e1:e'=e:=by
      have a1:=h3.ea;have a2:=h3.eb;have a3:=h3.l.uniq h.l;have a4:=h3.r.uniq h.r
      cases e;cases e';simp only at a1 a2 a3 a4;subst a1 a2 a3 a4;rfl
    rw [e1] at hg
    unfold A_
    exact (DS _).mem_iff.2 (List.mem_map.2 ⟨_,KJ hg,rfl⟩)
def XB (x y:E4):Prop:=x.a<y.a\/(x.a=y.a/\x.b<y.b)
theorem Ef (hn:Ba N ts=true) (hN:N<=4611686018427387904):(A_ ts).Pairwise XB:=by
  have h1:Lx ((Ca ts (3*ts.length)).map (·.2)):=LD (FD hn hN _ (Nat.le_refl _)) (KL ts _)
  have h2:Lx (A_ ts):=(List.Perm.pairwise_iff (R:=λx y:E4=>¬(x.a=y.a/\x.b=y.b)) (λh k=>h ⟨k.1.symm,k.2.symm⟩) (DS _)).2 h1
  exact (List.Pairwise.and (F7 _) h2).imp λ{x y} h=>by
    have h3:=I8.1 h.1
    have h4:=h.2
    unfold XB
    omega
def S9 (ts:List T3) (j a b:Nat):Prop:=∃r,r<3/\Bb ts (3*j+r)=(a,b)
def Xn (ts:List T3) (n a b:Nat) (z:Int):Prop:=(z = -1/\∀j,j<n->¬S9 ts j a b)\/∃j,j<n/\z=(j:Int)/\S9 ts j a b/\∀i,i<j->¬S9 ts i a b
theorem Vp {n a b:Nat} {z:Int} (h:JK ts (3*n) a b z):Xn ts n a b z:=by
  rcases h with ⟨h1,h2⟩|⟨u,h1,h2,h3,h4⟩
  · exact .inl ⟨h1,λj hj ⟨r,hr,k⟩=>h2 _ (by omega) k⟩
  · exact .inr ⟨u/3,by omega,h2,⟨u%3,by omega,by rw [show 3*(u/3)+u%3=u by omega];exact h3⟩,λi hi ⟨r,hr,k⟩=>h4 _ (by omega) k⟩
theorem TC {n a b:Nat} {z:Int} (h:Xn ts n a b z):JK ts (3*n) a b z:=by
  rcases h with ⟨h1,h2⟩|⟨j,h1,h2,⟨r,hr,h3⟩,h4⟩
  · exact .inl ⟨h1,λu hu k=>h2 (u/3) (by omega) ⟨u%3,by omega,by rw [show 3*(u/3)+u%3=u by omega];exact k⟩⟩
  · have key:∀m,m<=3->(∀q,q<m->Bb ts (3*j+q)≠(a,b))\/∃q,q<m/\Bb ts (3*j+q)=(a,b)/\∀p,p<q->Bb ts (3*j+p)≠(a,b):=by
      intro m
      induction m with
      | zero=>intro _;exact .inl λq hq=>absurd hq (Nat.not_lt_zero _)
      | succ m ih =>
        intro hm
        rcases ih (by omega) with h|⟨q,h5,h6,h7⟩
        · by_cases k:Bb ts (3*j+m)=(a,b)
          · exact .inr ⟨m,by omega,k,h⟩
          · refine .inl λq hq=>?_
            rcases Nat.lt_or_ge q m with h8|h8
            · exact h q h8
            · rw [show q=m by omega];exact k
        · exact .inr ⟨q,by omega,h6,h7⟩
    rcases key 3 (Nat.le_refl _) with k|⟨q,h5,h6,h7⟩
    · exact absurd h3 (k r hr)
    · refine .inr ⟨3*j+q,by omega,by rw [h2];congr 1;omega,h6,λv hv k=>?_⟩
      rcases Nat.lt_or_ge v (3*j) with h8|h8
      · exact h4 (v/3) (by omega) ⟨v%3,by omega,by rw [show 3*(v/3)+v%3=v by omega];exact k⟩
      · exact h7 (v-3*j) (by omega) (by rw [show 3*j+(v-3*j)=v by omega];exact k)
structure KQ (ts ts':List T3):Prop where
  len:ts.length=ts'.length
  way:∀j,j<ts.length->∀a b,S9 ts j a b↔S9 ts' j a b
theorem KQ.symm (h:KQ ts ts'):KQ ts' ts:=⟨h.len.symm,λj hj a b=>(h.way j (by rw [h.len];exact hj) a b).symm⟩
theorem KQ.fst (h:KQ ts ts') {a b:Nat} {z:Int} (k:JK ts (3*ts.length) a b z):JK ts' (3*ts'.length) a b z:=by
  rw [<-h.len]
  refine TC ?_
  rcases Vp k with ⟨h1,h2⟩|⟨j,h1,h2,h3,h4⟩
  · exact .inl ⟨h1,λj hj k=>h2 j hj ((h.way j hj a b).2 k)⟩
  · exact .inr ⟨j,h1,h2,(h.way j h1 a b).1 h3,λi hi k=>h4 i hi ((h.way i (by omega) a b).2 k)⟩
theorem KQ.inv (h:KQ ts ts') {e:E4} (k:Th ts (3*ts.length) (e.a,e.b) e):Th ts' (3*ts'.length) (e.a,e.b) e:=by
  obtain ⟨u,hu,hs⟩:=k.some
  refine ⟨k.ea,k.eb,k.lt,h.fst k.l,h.fst k.r,?_⟩
  have key:∀a b,Bb ts u=(a,b)->∃v,v<3*ts'.length/\Bb ts' v=(a,b):=λa b hd=>by
    obtain ⟨r,hr,h3⟩:=(h.way (u/3) (by omega) a b).1 ⟨u%3,by omega,by rw [show 3*(u/3)+u%3=u by omega];exact hd⟩
    exact ⟨3*(u/3)+r,by rw [<-h.len];omega,h3⟩
  rcases hs with hs|hs
  · obtain ⟨v,h1,h2⟩:=key _ _ hs;exact ⟨v,h1,.inl h2⟩
  · obtain ⟨v,h1,h2⟩:=key _ _ hs;exact ⟨v,h1,.inr h2⟩
theorem Hu {j r:Nat} (hr:r<3):Bb ts (3*j+r)=(CP (ts.getD j (0,0,0)) r,CP (ts.getD j (0,0,0)) ((r+1)%3)):=by
  unfold Bb
  rw [show (3*j+r)/3=j by omega,show (3*j+r)%3=r by omega]
def K1 (ts:List T3) (u:Nat):P2:=BR (Bb ts u).1 (Bb ts u).2
def Ch (ts:List T3):Nat->List (P2×Nat)
  | 0=>[]
  | s+1=>BC (Ch ts s) (K1 ts s) ((Ab (Ch ts s) (K1 ts s)).getD 0+1)
def Bx (ts:List T3):List P2:=ts.flatMap λt=>[BR t.1 t.2.1,BR t.2.1 t.2.2,BR t.2.2 t.1]
theorem Fr (k:P2):∀s,(Ab (Ch ts s) k).getD 0=((List.range s).map (K1 ts)).count k
  | 0=>rfl
  | s+1=>by
    rw [Ch,Bj,List.range_succ,List.map_append,List.count_append,List.map_singleton,List.count_singleton]
    by_cases h:k=K1 ts s
    · subst h
      rw [if_pos rfl,Option.getD_some,Fr _ s];simp
    · rw [if_neg h,Fr k s,if_neg (by simpa using λe=>h e.symm)];rfl
theorem IX {t i:Nat} (hi:i<3):Ch ts (3*t+i+1)=BC (Ch ts (3*t+i)) (BR (CP (ts.getD t (0,0,0)) i) (CP (ts.getD t (0,0,0)) ((i+1)%3))) ((Ab (Ch ts (3*t+i)) (BR (CP (ts.getD t (0,0,0)) i) (CP (ts.getD t (0,0,0)) ((i+1)%3)))).getD 0+1):=by
  rw [Ch]
  unfold K1
  rw [Hu hi]
theorem Mc (s:Nat) (k:P2):(Ab (Ch ts s) k).getD 0<=s:=by
  rw [Fr]
  exact Nat.le_trans List.count_le_length (by simp)
theorem E7 (hn:Ba N ts=true) (hN:N<=4611686018427387904):∀s,s<=3*ts.length->F3 Mb (Ch ts s)
  | 0,_=>F3.nil
  | s+1,hs=>by
    obtain ⟨h1,h2⟩:=Ma hn (show s<3*ts.length by omega)
    exact (E7 hn hN s (by omega)).put (Bu (Nat.lt_of_lt_of_le h1 hN) (Nat.lt_of_lt_of_le h2 hN))
theorem Kk:(List.range (3*ts.length)).map (K1 ts)=Bx ts:=by
  have key:∀n,n<=ts.length->(List.range (3*n)).map (K1 ts)=Bx (ts.take n):=by
    intro n
    induction n with
    | zero=>intro _;rfl
    | succ n ih =>
      intro hn
      have e1:List.range (3*(n+1))=List.range (3*n)++[3*n,3*n+1,3*n+2]:=by
        rw [show 3*(n+1)=3*n+1+1+1 by omega,List.range_succ,List.range_succ,List.range_succ];simp
      have e2:ts.take (n+1)=ts.take n++[ts.getD n (0,0,0)]:=by
        rw [List.take_add_one,List.getElem?_eq_getElem (show n<ts.length by omega),List.getD,List.getElem?_eq_getElem (show n<ts.length by omega)];rfl
      have k0:=Hu (ts:=ts) (j:=n) (show 0<3 by decide)
      have k1:=Hu (ts:=ts) (j:=n) (show 1<3 by decide)
      have k2:=Hu (ts:=ts) (j:=n) (show 2<3 by decide)
      rw [e1,e2,List.map_append,ih (by omega)]
      unfold Bx
      rw [List.flatMap_append]
      congr 1
      simp only [List.map_cons,List.map_nil,List.flatMap_cons,List.flatMap_nil,List.append_nil,K1]
      rw [show 3*n=3*n+0 by omega,k0,show 3*n+0+1=3*n+1 by omega,k1,show 3*n+0+2=3*n+2 by omega,k2]
      rfl
  have h:=key ts.length (Nat.le_refl _)
  rwa [List.take_length] at h
def Rj (ts:List T3) (k:P2):Nat:=(Ab (Ch ts (3*ts.length)) k).getD 0
theorem P5 (k:P2):Rj ts k=(Bx ts).count k:=by unfold Rj;rw [Fr,Kk]
def H9 (ts:List T3) (i:Nat):List T3:=(((A_ ts).take i).filter λe=>decide (Rj ts (e.a,e.b)=1)).map λe=>(e.a,e.b,0)
def CC (ts:List T3):List T3:=H9 ts (A_ ts).length
theorem Su {i:Nat} (hi:i<(A_ ts).length) (h:Rj ts (((A_ ts).getD i ⟨0,0,0,0⟩).a,((A_ ts).getD i ⟨0,0,0,0⟩).b)=1):H9 ts (i+1)=H9 ts i++[(((A_ ts).getD i ⟨0,0,0,0⟩).a,((A_ ts).getD i ⟨0,0,0,0⟩).b,0)]:=by
  rw [List.getD,List.getElem?_eq_getElem hi] at h ⊢
  unfold H9
  rw [List.take_add_one,List.getElem?_eq_getElem hi,List.filter_append,List.map_append]
  simp only [Option.toList_some,Option.getD_some] at h ⊢
  rw [List.filter_cons,if_pos (decide_eq_true h)];rfl
theorem VN {i:Nat} (hi:i<(A_ ts).length) (h:¬Rj ts (((A_ ts).getD i ⟨0,0,0,0⟩).a,((A_ ts).getD i ⟨0,0,0,0⟩).b)=1):H9 ts (i+1)=H9 ts i:=by
  rw [List.getD,List.getElem?_eq_getElem hi] at h
  unfold H9
  rw [List.take_add_one,List.getElem?_eq_getElem hi,List.filter_append,List.map_append]
  simp only [Option.toList_some,Option.getD_some] at h ⊢
  rw [List.filter_cons,if_neg (by simpa using h)];simp
theorem NT (i:Nat):(H9 ts i).length<=i:=by
  unfold H9
  rw [List.length_map]
  exact Nat.le_trans (List.length_filter_le _ _) (List.length_take_le _ _)
theorem FJ (hn:Ba N ts=true) (hN:N<=4611686018427387904) {a b:Nat}:(a,b)∈Bx ts↔∃e∈A_ ts,e.a=a/\e.b=b:=by
  rw [<-Kk,List.mem_map]
  constructor
  · rintro ⟨u,hu,hk⟩
    have hu:=List.mem_range.1 hu
    have hne:=Jx hn hu
    unfold K1 BR at hk
    injection hk with h1 h2
    have hlt:a<b:=by omega
    have hd:Bb ts u=(a,b)\/Bb ts u=(b,a):=by
      rcases Nat.lt_or_ge (Bb ts u).1 (Bb ts u).2 with h|h
      · exact .inl (Prod.ext (by omega) (by omega))
      · exact .inr (Prod.ext (by omega) (by omega))
    obtain ⟨i1,i2⟩:=JE (λu hu=>Jx hn hu) _ (Nat.le_refl _)
    cases hg:Ab (Ca ts (3*ts.length)) (a,b) with
    | none =>
      have h3:=i2 _ hg hlt u hu
      rcases hd with hd|hd
      · exact absurd hd h3.1
      · exact absurd hd h3.2
    | some e =>
      have h3:=i1 _ _ hg
      refine ⟨e,?_,h3.ea,h3.eb⟩
      unfold A_
      exact (DS _).mem_iff.2 (List.mem_map.2 ⟨_,KJ hg,rfl⟩)
  · rintro ⟨e,he,rfl,rfl⟩
    have h:=(Pk hn hN).1 he
    obtain ⟨u,hu,hs⟩:=h.some
    have hlt:=h.lt
    simp only at hlt hs
    refine ⟨u,List.mem_range.2 hu,?_⟩
    unfold K1 BR
    rcases hs with hs|hs<;>rw [hs]<;>exact Prod.ext (by simp only;omega) (by simp only;omega)
def Ta (x y:T3):Prop:=x.1<y.1\/(x.1=y.1/\x.2.1<y.2.1)
theorem NZ (hn:Ba N ts=true) (hN:N<=4611686018427387904):(CC ts).Pairwise Ta:=by
  unfold CC H9
  rw [List.pairwise_map,List.take_length]
  exact (Ef hn hN).filter _
theorem UA (hn:Ba N ts=true) (hN:N<=4611686018427387904) {s:T3}:s∈CC ts↔(Bx ts).count (s.1,s.2.1)=1/\s.2.2=0:=by
  unfold CC H9
  rw [List.take_length,List.mem_map]
  constructor
  · rintro ⟨e,he,rfl⟩
    obtain ⟨h1,h2⟩:=List.mem_filter.1 he
    exact ⟨by rw [<-P5];exact of_decide_eq_true h2,rfl⟩
  · rintro ⟨h1,h2⟩
    have hm:(s.1,s.2.1)∈Bx ts:=List.count_pos_iff.1 (by omega)
    obtain ⟨e,he,ea,eb⟩:=(FJ hn hN).1 hm
    refine ⟨e,List.mem_filter.2 ⟨he,decide_eq_true (by rw [P5,ea,eb];exact h1)⟩,?_⟩
    exact Prod.ext ea (Prod.ext eb h2.symm)
end
end
section
abbrev E0:E4:=⟨0,0,0,0⟩
def D5 (N:Nat) (es:List E4):Nat->List (P2×Nat)
  | 0=>[]
  | i+1=>BC (D5 N es i) (BR (es.getD i E0).a (es.getD i E0).b) (N+i)
def Gy (N:Nat) (es:List E4) (a b:Nat):Nat:=(Ab (D5 N es es.length) (BR a b)).getD 0
def LT (N:Nat) (es:List E4) (t:T3):List T3:=[(t.1,Gy N es t.1 t.2.1,Gy N es t.2.2 t.1),(Gy N es t.1 t.2.1,t.2.1,Gy N es t.2.1 t.2.2),(Gy N es t.2.2 t.1,Gy N es t.2.1 t.2.2,t.2.2),(Gy N es t.1 t.2.1,Gy N es t.2.1 t.2.2,Gy N es t.2.2 t.1)]
def Kg (N:Nat) (es:List E4) (ts:List T3) (i:Nat):List T3:=(ts.take i).flatMap (LT N es)
def CF (N:Nat) (es:List E4) (ts:List T3):List T3:=ts.flatMap (LT N es)
def GJ (i:Nat):List Nat:=(List.range i).flatMap λt=>[t,t,t,t]
def Ek (N:Nat) (ss:List T3):Nat->List (P2×Nat)
  | 0=>[]
  | k+1=>if (ss.getD (ss.length-1-k) (0,0,0)).1<N/\(ss.getD (ss.length-1-k) (0,0,0)).2.1<N then BC (Ek N ss k) (BR (ss.getD (ss.length-1-k) (0,0,0)).1 (ss.getD (ss.length-1-k) (0,0,0)).2.1) (ss.getD (ss.length-1-k) (0,0,0)).2.2 else Ek N ss k
def DV (N:Nat) (ss:List T3) (es:List E4):Nat->List (P2×Nat)
  | 0=>Ek N ss ss.length
  | i+1=>BC (BC (DV N ss es i) (BR (es.getD i E0).a (N+i)) ((Ab (DV N ss es i) (BR (es.getD i E0).a (es.getD i E0).b)).getD 0)) (BR (es.getD i E0).b (N+i)) ((Ab (DV N ss es i) (BR (es.getD i E0).a (es.getD i E0).b)).getD 0)
def Ng (N:Nat) (ss:List T3) (es:List E4) (a b:Nat):Nat:=(Ab (DV N ss es es.length) (BR a b)).getD 0
def Xx (ps:List Pt) (e:E4):Pt:=B7 (RP ps e.a+RP ps e.b) (1/2)
def IT (ps:List Pt) (es:List E4):Nat->List Pt
  | 0=>ps
  | i+1=>IT ps es i++[Xx ps (es.getD i E0)]
def Ds (ps:List Pt) (es:List E4):List Pt:=IT ps es es.length
def FS (N:Nat) (ss:List T3) (es:List E4) (rs:List T3) (i:Nat):List T3:=(rs.take i).map (λs=>(s.1,s.2.1,Ng N ss es s.1 s.2.1))++rs.drop i
def Nx (N:Nat) (ss:List T3) (es:List E4) (ts:List T3):List T3:=(CC ts).map λs=>(s.1,s.2.1,Ng N ss es s.1 s.2.1)
section
variable {N M i:Nat} {es:List E4} {ts:List T3} {t:T3} {ss rs:List T3} {ps:List Pt}
theorem Dk {α:Type} {l:List α} {d:α} {i:Nat} (h:i<l.length):l.take (i+1)=l.take i++[l.getD i d]:=by
  rw [List.take_add_one,List.getElem?_eq_getElem h,List.getD,List.getElem?_eq_getElem h];rfl
theorem QB (h:i<ts.length):Kg N es ts (i+1)=Kg N es ts i++LT N es (ts.getD i (0,0,0)):=by
  unfold Kg
  rw [Dk (d:=(0,0,0)) h,List.flatMap_append];simp
theorem R2:Kg N es ts ts.length=CF N es ts:=by unfold Kg CF;rw [List.take_length]
theorem JJ:(LT N es t).length=4:=rfl
theorem Cf:(CF N es ts).length=4*ts.length:=by
  unfold CF
  induction ts with
  | nil=>rfl
  | cons t r ih=>rw [List.flatMap_cons,List.length_append,ih,JJ,List.length_cons];omega
theorem SZ:(Kg N es ts i).length=4*(min i ts.length):=by
  have h:=Cf (N:=N) (es:=es) (ts:=ts.take i)
  rw [List.length_take] at h
  exact h
theorem Ls:GJ (i+1)=GJ i++[i,i,i,i]:=by unfold GJ;rw [List.range_succ,List.flatMap_append];simp
theorem Nt:(GJ i).length=4*i:=by
  induction i with
  | zero=>rfl
  | succ i ih=>rw [Ls,List.length_append,ih];simp;omega
theorem GE {k:Nat} (h:k<4*ts.length):(CF N es ts).getD k (0,0,0)=(LT N es (ts.getD (k/4) (0,0,0))).getD (k%4) (0,0,0):=by
  induction ts generalizing k with
  | nil=>simp at h
  | cons t r ih =>
    unfold CF at ih ⊢
    rw [List.flatMap_cons]
    rcases Nat.lt_or_ge k 4 with h4|h4
    · rw [List.getD,List.getElem?_append_left (by rw [JJ];exact h4),show k/4=0 by omega,show k%4=k by omega];rfl
    · rw [List.getD,List.getElem?_append_right (by rw [JJ];exact h4),JJ]
      have h5:=ih (k:=k-4) (by simp only [List.length_cons] at h;omega)
      rw [List.getD] at h5
      rw [h5,show k/4=(k-4)/4+1 by omega,show (k-4)%4=k%4 by omega]
      simp
theorem Ha:∀i,(IT ps es i).length=ps.length+i
  | 0=>rfl
  | i+1=>by rw [IT,List.length_append,Ha i];rfl
theorem Nk:(Ds ps es).length=ps.length+es.length:=Ha _
theorem Sb:FS N ss es rs rs.length=rs.map λs=>(s.1,s.2.1,Ng N ss es s.1 s.2.1):=by unfold FS;simp
theorem Hv:(FS N ss es rs i).length=rs.length:=by unfold FS;simp;omega
theorem OA (h:i<rs.length):(FS N ss es rs i).getD i (0,0,0)=rs.getD i (0,0,0):=by
  unfold FS
  rw [List.getD,List.getElem?_append_right (by simp;omega),List.length_map,List.length_take,Nat.min_eq_left (by omega),Nat.sub_self,List.getElem?_drop]
  rfl
theorem QU (h:i<rs.length):(FS N ss es rs i).set i ((rs.getD i (0,0,0)).1,(rs.getD i (0,0,0)).2.1,Ng N ss es (rs.getD i (0,0,0)).1 (rs.getD i (0,0,0)).2.1)=FS N ss es rs (i+1):=by
  unfold FS
  rw [Dk (d:=(0,0,0)) h,List.map_append,List.set_append_right _ _ (by simp;omega),List.length_map,List.length_take,Nat.min_eq_left (by omega),Nat.sub_self,Mo (d:=(0,0,0)) h,List.set_cons_zero,List.append_assoc]
  rfl
theorem RF {v:Nat} (h:i<rs.length) (hv:v=Ng N ss es (rs.getD i (0,0,0)).1 (rs.getD i (0,0,0)).2.1):(FS N ss es rs i).set i (((FS N ss es rs i).getD i (0,0,0)).1,((FS N ss es rs i).getD i (0,0,0)).2.1,v)=FS N ss es rs (i+1):=by
  rw [OA h,hv];exact QU h
theorem OB {k:Nat} (h:(ss.getD (ss.length-1-k) (0,0,0)).1<N/\(ss.getD (ss.length-1-k) (0,0,0)).2.1<N):BC (Ek N ss k) (BR (ss.getD (ss.length-1-k) (0,0,0)).1 (ss.getD (ss.length-1-k) (0,0,0)).2.1) (ss.getD (ss.length-1-k) (0,0,0)).2.2=Ek N ss (k+1):=by
  rw [Ek,if_pos h]
theorem UX {k:Nat} (h:¬((ss.getD (ss.length-1-k) (0,0,0)).1<N/\(ss.getD (ss.length-1-k) (0,0,0)).2.1<N)):Ek N ss k=Ek N ss (k+1):=by
  rw [Ek,if_neg h]
theorem Hd (hes:∀e∈es,e.a<N/\e.b<N) (hN:N<=4611686018427387904):∀i,i<=es.length->F3 Mb (D5 N es i)
  | 0,_=>F3.nil
  | i+1,h=>by
    have h1:=hes (es.getD i E0) (by rw [List.getD,List.getElem?_eq_getElem (show i<es.length by omega)];exact List.getElem_mem _)
    exact (Hd hes hN i (by omega)).put (Bu (by omega) (by omega))
theorem I0 (hN:N<=4611686018427387904):∀k,F3 Mb (Ek N ss k)
  | 0=>F3.nil
  | k+1=>by
    unfold Ek
    split
    · rename_i h;exact (I0 hN k).put (Bu (by omega) (by omega))
    · exact I0 hN k
theorem Ht (hes:∀e∈es,e.a<N/\e.b<N) (hN:N+es.length<=4611686018427387904):∀i,i<=es.length->F3 Mb (DV N ss es i)
  | 0,_=>I0 (by omega) _
  | i+1,h=>by
    have h1:=hes (es.getD i E0) (by rw [List.getD,List.getElem?_eq_getElem (show i<es.length by omega)];exact List.getElem_mem _)
    exact ((Ht hes hN i (by omega)).put (Bu (by omega) (by omega))).put (Bu (by omega) (by omega))
theorem EY (hn:Ba N ts=true) (hN:N<=4611686018427387904) {e:E4} (he:e∈A_ ts):e.a<e.b/\e.b<N:=by
  have h:=(Pk hn hN).1 he
  obtain ⟨u,hu,hs⟩:=h.some
  have h2:=Ma hn hu
  have hlt:=h.lt
  simp only at hlt hs
  rcases hs with hs|hs<;>rw [hs] at h2<;>simp only at h2<;>omega
theorem D7 (hn:Ba N ts=true) (hN:N<=4611686018427387904):∀e∈A_ ts,e.a<N/\e.b<N:=λe he=>by
  have:=EY hn hN he;omega
theorem PH (hn:Ba N ts=true) (hN:N<=4611686018427387904) {s:T3} (hs:s∈CC ts):s.1<N/\s.2.1<N:=by
  unfold CC H9 at hs
  rw [List.take_length,List.mem_map] at hs
  obtain ⟨e,he,rfl⟩:=hs
  exact D7 hn hN e (List.mem_filter.1 he).1
theorem HU (hs:es.Pairwise XB) (hl:∀e∈es,e.a<e.b) {j:Nat}:∀i,i<=es.length->j<i->Ab (D5 N es i) ((es.getD j E0).a,(es.getD j E0).b)=some (N+j)
  | 0,_,h=>absurd h (Nat.not_lt_zero _)
  | i+1,hi,hj=>by
    have m:∀k,k<es.length->es.getD k E0∈es:=λk hk=>by rw [List.getD,List.getElem?_eq_getElem hk];exact List.getElem_mem _
    have k1:BR (es.getD i E0).a (es.getD i E0).b=((es.getD i E0).a,(es.getD i E0).b):=by
      have:=hl _ (m i (by omega));unfold BR;exact Prod.ext (by simp only;omega) (by simp only;omega)
    rw [D5,Bj,k1]
    rcases Nat.lt_or_ge j i with h|h
    · have h2:XB (es.getD j E0) (es.getD i E0):=by
        rw [List.getD,List.getD,List.getElem?_eq_getElem (show j<es.length by omega),List.getElem?_eq_getElem (show i<es.length by omega)]
        exact List.pairwise_iff_getElem.1 hs j i (by omega) (by omega) h
      rw [if_neg (λe=>by injection e with e1 e2;unfold XB at h2;omega)]
      exact HU hs hl i (by omega) h
    · rw [show j=i by omega,if_pos rfl]
theorem IN (hn:Ba N ts=true) (hN:N<=4611686018427387904) {a b:Nat} (h:BR a b∈Bx ts):∃j,j<(A_ ts).length/\((A_ ts).getD j E0).a=min a b/\((A_ ts).getD j E0).b=max a b/\Gy M (A_ ts) a b=M+j:=by
  obtain ⟨e,he,ea,eb⟩:=(FJ hn hN (a:=min a b) (b:=max a b)).1 h
  obtain ⟨j,hj,hje⟩:=List.getElem_of_mem he
  have hd:(A_ ts).getD j E0=e:=by rw [List.getD,List.getElem?_eq_getElem hj,hje];rfl
  refine ⟨j,hj,by rw [hd];exact ea,by rw [hd];exact eb,?_⟩
  have h1:=HU (N:=M) (Ef hn hN) (λe he=>(EY hn hN he).1) _ (Nat.le_refl _) hj
  rw [hd,ea,eb] at h1
  unfold Gy BR
  rw [h1];rfl
theorem Pu {t:T3} (h:t∈ts):BR t.1 t.2.1∈Bx ts/\BR t.2.1 t.2.2∈Bx ts/\BR t.2.2 t.1∈Bx ts:=by
  unfold Bx
  refine ⟨List.mem_flatMap.2 ⟨t,h,?_⟩,List.mem_flatMap.2 ⟨t,h,?_⟩,List.mem_flatMap.2 ⟨t,h,?_⟩⟩<;>simp
theorem Qj (hn:Ba N ts=true) (hN:N<=4611686018427387904) (ht:t∈ts) {c:T3} (hc:c∈LT N (A_ ts) t):M2 (N+(A_ ts).length) c=true:=by
  have h0:=List.all_eq_true.1 hn t ht
  obtain ⟨l1,l2,l3⟩:=DE h0
  obtain ⟨n1,n2,n3⟩:=J4 h0
  obtain ⟨k1,k2,k3⟩:=Pu ht
  obtain ⟨x,hx,x1,x2,hx3⟩:=IN (M:=N) hn hN k1
  obtain ⟨y,hy,y1,y2,hy3⟩:=IN (M:=N) hn hN k2
  obtain ⟨z,hz,z1,z2,hz3⟩:=IN (M:=N) hn hN k3
  have hxy:x≠y:=λe=>by subst e;omega
  have hyz:y≠z:=λe=>by subst e;omega
  have hzx:z≠x:=λe=>by subst e;omega
  unfold LT at hc
  simp only [List.mem_cons,List.not_mem_nil,or_false,hx3,hy3,hz3] at hc
  simp only [M2,Bool.and_eq_true,Bool.not_eq_true',decide_eq_false_iff_not,decide_eq_true_eq]
  rcases hc with rfl|rfl|rfl|rfl<;>dsimp only<;>omega
theorem GU (hn:Ba N ts=true) (hN:N<=4611686018427387904):Ba (N+(A_ ts).length) (CF N (A_ ts) ts)=true:=List.all_eq_true.2 λc hc=>by
  obtain ⟨t,ht,hc⟩:=List.mem_flatMap.1 hc
  exact Qj hn hN ht hc
end
end
section
set_option maxRecDepth 100000
theorem UC (p:Option Addr) (n cp:Nat) (h:n<=cp) (w:World)  :Calls Tryz.prog 122 #[(Value.slice p n cp)] w (Ax w (Value.slice p n n)):=by
 refine Ad (args:=[(Value.slice p n cp)]) Tryz.func122 rfl rfl (Af rfl) (AE.subF (sL [0] rfl) (q4 (AL rfl (AD.nil (q2 ?_)))))
 refine AO rfl (AO rfl (AH (v:=(vN n)) (AF rfl Tryz.underlying27) rfl (AO rfl (AH (v:=(vN n)) (AF rfl Tryz.underlying27) rfl (AH (v:=(Value.slice p n n)) (Dz (m:=n) rfl rfl rfl Tryz.underlying27 Tryz.sizeOf55 (by omega)) rfl ?_)))))
 exact AL rfl (AD.nil (AC.subF (sL [2] rfl) (AC.then_ (AE.ret (AU rfl (Am (v:=(Value.slice p n n)) rfl) (λw hw=>⟨rfl,hw.out⟩))))))
theorem Qp (ts:List Pt) (x:RX (rowsL An ts) ts.length) (hl:ts.length<=1000000000) (w:World) {S:Nat->Prop} (hx:Ro S w x):Calls Tryz.prog 118 #[(Value.slice x.p ts.length x.c)] w (Ki Xz (XF (T:=55) (z:=10) (cs:=rowsL An ts) (n:=ts.length)) S w):=by
 have lx:=H0 (W:=w) hx
 refine BQ (args:=[(Value.slice x.p ts.length x.c)]) (L:=[AX x.p (rowsL An ts)]) Tryz.func118 rfl rfl (Af rfl) (Hy hx Bo) (AE.subF (sL [0] rfl) (q4 (AL rfl (AD.nilRow 55 10 (AD.nil ?_)))))
 refine q1 (q4 (AO rfl (AH (v:=(Value.bool x.p.isNone)) (KK rfl rfl Tryz.underlying27) rfl (AD.nil (AC.subF (sL [0,2,4] rfl) ?_)))))
 refine AC.then_ ?_
 refine AE.cond rfl (λhc0=>?_) (λhc0=>?_)
 ·skip
  have hts:ts=[]:=List.eq_nil_of_length_eq_zero (x.ok.nil (Option.isNone_iff_eq_none.1 hc0)).1
  refine q4 (AL rfl (AD.nilRow 55 10 (AD.nil (AC.then_ (AE.ret ?_)))))
  exact AC.then_ret (AU rfl (Am (v:=(Value.slice none 0 0)) rfl) (λw hw=>(by subst hts;exact TW hw (OX.mk none 0 OwnOk.none) (by exact (sk (sl (sl sr)))) (J9.own rfl J9.nil) (by show Value.slice none 0 0=_;rfl))))
 ·skip
  refine AE.skip (q2 (AD.openV (V:=λb1=>(Value.slice (some ⟨b1,0,none⟩) 0 0)) (T:=55) (cs:=[]) (AN rfl) (Lm Tryz.underlying27 Tryz.sizeOf55) rfl (Af rfl) λb1=>AD.asRow0 (z:=10) 0 rfl (by omega) λho_b1=>AO rfl (AD.appendE0 WF rfl ho_b1 rfl (XZ (k:=2) rfl x.ok) (Aj BP _) (H7 VK _) (HM (by omega)) (by omega) rfl λp_1 c_1 ho_1=>?_)))
  exact AL rfl (AD.nil (AC.subF (sL [0,2] rfl) (AC.then_ (AE.ret (AU rfl (Am (v:=(Value.slice p_1 ts.length c_1)) rfl) (λw hw=>(TW hw (OX.mk p_1 c_1 ho_1) (sk (sl (sl sr))) (J9.own rfl J9.nil) rfl)))))))
theorem Sc (p:Option Addr) (n cp:Nat) (h:n<=cp) (w:World)  :Calls Tryz.prog 119 #[(Value.slice p n cp)] w (Ax w (Value.slice p n n)):=by
 refine Ad (args:=[(Value.slice p n cp)]) Tryz.func119 rfl rfl (Af rfl) (AE.subF (sL [0] rfl) (q4 (AL rfl (AD.nil (q2 ?_)))))
 refine AO rfl (AO rfl (AH (v:=(vN n)) (AF rfl Tryz.underlying28) rfl (AO rfl (AH (v:=(vN n)) (AF rfl Tryz.underlying28) rfl (AH (v:=(Value.slice p n n)) (Dz (m:=n) rfl rfl rfl Tryz.underlying28 Tryz.sizeOf76 (by omega)) rfl ?_)))))
 exact AL rfl (AD.nil (AC.subF (sL [2] rfl) (AC.then_ (AE.ret (AU rfl (Am (v:=(Value.slice p n n)) rfl) (λw hw=>⟨rfl,hw.out⟩))))))
theorem QF (ts:List T3) (x:RX (rowsL Ai ts) ts.length) (hl:ts.length<=1000000000) (w:World) {S:Nat->Prop} (hx:Ro S w x):Calls Tryz.prog 120 #[(Value.slice x.p ts.length x.c)] w (Ki Xz (XF (T:=76) (z:=3) (cs:=rowsL Ai ts) (n:=ts.length)) S w):=by
 have lx:=H0 (W:=w) hx
 refine BQ (args:=[(Value.slice x.p ts.length x.c)]) (L:=[AX x.p (rowsL Ai ts)]) Tryz.func120 rfl rfl (Af rfl) (Hy hx Bo) (AE.subF (sL [0] rfl) (q4 (AL rfl (AD.nilRow 76 3 (AD.nil ?_)))))
 refine q1 (q4 (AO rfl (AH (v:=(Value.bool x.p.isNone)) (KK rfl rfl Tryz.underlying28) rfl (AD.nil (AC.subF (sL [0,2,4] rfl) ?_)))))
 refine AC.then_ ?_
 refine AE.cond rfl (λhc0=>?_) (λhc0=>?_)
 ·skip
  have hts:ts=[]:=List.eq_nil_of_length_eq_zero (x.ok.nil (Option.isNone_iff_eq_none.1 hc0)).1
  refine q4 (AL rfl (AD.nilRow 76 3 (AD.nil (AC.then_ (AE.ret ?_)))))
  exact AC.then_ret (AU rfl (Am (v:=(Value.slice none 0 0)) rfl) (λw hw=>(by subst hts;exact TW hw (OX.mk none 0 OwnOk.none) (by exact (sk (sl (sl sr)))) (J9.own rfl J9.nil) (by show Value.slice none 0 0=_;rfl))))
 ·skip
  refine AE.skip (q2 (AD.openV (V:=λb1=>(Value.slice (some ⟨b1,0,none⟩) 0 0)) (T:=76) (cs:=[]) (AN rfl) (Lm Tryz.underlying28 Tryz.sizeOf76) rfl (Af rfl) λb1=>AD.asRow0 (z:=3) 0 rfl (by omega) λho_b1=>AO rfl (AD.appendE0 Sk rfl ho_b1 rfl (XZ (k:=2) rfl x.ok) (Aj Aq _) (H7 Vi _) (HM (by omega)) (by omega) rfl λp_1 c_1 ho_1=>?_)))
  exact AL rfl (AD.nil (AC.subF (sL [0,2] rfl) (AC.then_ (AE.ret (AU rfl (Am (v:=(Value.slice p_1 ts.length c_1)) rfl) (λw hw=>(TW hw (OX.mk p_1 c_1 ho_1) (sk (sl (sl sr))) (J9.own rfl J9.nil) rfl)))))))
theorem OC (p:Option Addr) (n cp:Nat) (h:n<=cp) (w:World)  :Calls Tryz.prog 51 #[(Value.slice p n cp)] w (Ax w (Value.slice p n n)):=by
 refine Ad (args:=[(Value.slice p n cp)]) Tryz.func51 rfl rfl (Af rfl) (AE.subF (sL [0] rfl) (q4 (AL rfl (AD.nil (q2 ?_)))))
 refine AO rfl (AO rfl (AH (v:=(vN n)) (AF rfl Tryz.underlying29) rfl (AO rfl (AH (v:=(vN n)) (AF rfl Tryz.underlying29) rfl (AH (v:=(Value.slice p n n)) (Dz (m:=n) rfl rfl rfl Tryz.underlying29 Tryz.sizeOf44 (by omega)) rfl ?_)))))
 exact AL rfl (AD.nil (AC.subF (sL [2] rfl) (AC.then_ (AE.ret (AU rfl (Am (v:=(Value.slice p n n)) rfl) (λw hw=>⟨rfl,hw.out⟩))))))
theorem Iy (x0 x1:Nat):Instr.fill (λi=>some (i*1,1)) (Aw ((0,0):P2)).toArray [(0,vN x0),(1,vN x1)]=some (Aw (x0,x1)).toArray:=by kernel_rfl
theorem Fo (a b:Nat) (w:World)  :Calls Tryz.prog 47 #[(vN a),(vN b)] w (Ax w (aG (Aw (min a b,max a b)))):=by
 refine Ad (args:=[(vN a),(vN b)]) Tryz.func47 rfl rfl (Af rfl) (AE.subF (sL [0,1] rfl) (q4 (al Xq rfl λb1=>AD.nil (q2 ?_))))
 refine AO rfl (AO rfl (AH (GP (c:=((min a b:Nat):Int)) rfl rfl (by split<;>omega)) rfl (AO rfl (AO rfl (AH (Fc (c:=((max a b:Nat):Int)) rfl rfl (by split<;>omega)) rfl ?_)))))
 exact AH (v:=(aG (Aw (min a b,max a b)))) (Ap (zs:=Aw ((0,0):P2)) (vs:=Aw (min a b,max a b)) (pv:=[(0,(vN (min a b))),(1,(vN (max a b)))]) Tryz.zeroValue112 Tryz.underlying112 Tryz.sizeOf3 rfl (Iy (min a b) (max a b))) rfl (A6 rfl Tryz.sizeOf112 rfl (AD.nil (AC.subF (sL [4] rfl) (AC.then_ (AE.ret (AU rfl (Ay (i:=0) (cs:=Aw (min a b,max a b)) rfl rfl Tryz.isAgg112 Tryz.sizeOf112 rfl) (λw hw=>⟨rfl,hw.out⟩)))))))
end
end Go.Proofs.YtfbomiejpbchdaaGreat
