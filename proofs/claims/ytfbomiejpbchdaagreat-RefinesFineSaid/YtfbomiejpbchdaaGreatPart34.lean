import Derived.Test.YtfbomiejpbchdaaGreatPart06
import Derived.Test.YtfbomiejpbchdaaGreatPart33
namespace Go.Proofs.YtfbomiejpbchdaaGreat
open Go Go.RowKit
set_option linter.unusedVariables false
set_option linter.unusedSimpArgs false
section
abbrev T3:=Nat×Nat×Nat
section
variable {ts ts':List T3} {N:Nat}
theorem Mg {t:T3} (h:Lk N t=true):t.1≠t.2.1/\t.2.1≠t.2.2/\t.2.2≠t.1:=by
  simp only [Lk,Bool.and_eq_true,Bool.not_eq_true',decide_eq_false_iff_not,decide_eq_true_eq] at h
  exact ⟨h.1.1.2,h.1.2,h.2⟩
theorem KU (hn:B5 N ts=true) {u:Nat} (hu:u<3*ts.length):(Bw ts u).1≠(Bw ts u).2:=by
  obtain ⟨hab,hbc,hca⟩:=Mg (Cv hn (show u/3<ts.length by omega))
  have h3:u%3=0\/u%3=1\/u%3=2:=by omega
  unfold Bw
  rcases h3 with h3|h3|h3<;>rw [h3]
  · exact hab
  · exact hbc
  · exact hca
theorem Me (hn:B5 N ts=true) {u:Nat} (hu:u<3*ts.length):(Bw ts u).1<N/\(Bw ts u).2<N:=by
  have h:=Cv hn (show u/3<ts.length by omega)
  exact ⟨M6 h _,M6 h _⟩
theorem Jk.uniq {s a b:Nat} {y z:Int} (h:Jk ts s a b y) (k:Jk ts s a b z):y=z:=by
  rcases h with ⟨h1,h2⟩|⟨u,h1,h2,h3,h4⟩<;>rcases k with ⟨k1,k2⟩|⟨v,k1,k2,k3,k4⟩
  · omega
  · exact absurd k3 (h2 v k1)
  · exact absurd h3 (k2 u h1)
  · rcases Nat.lt_trichotomy u v with h|h|h
    · exact absurd h3 (k4 u h)
    · rw [h2,k2,h]
    · exact absurd k3 (h4 v h)
theorem QX (hn:B5 N ts=true) (hN:N<=4611686018427387904) {e:E4}:e∈BT ts↔TX ts (3*ts.length) (e.a,e.b) e:=by
  have hd:∀u,u<3*ts.length->(Bw ts u).1≠(Bw ts u).2:=λu hu=>KU hn hu
  refine ⟨λh=>XB hn hN hd h,λh=>?_⟩
  obtain ⟨i1,i2⟩:=Jj hd _ (Nat.le_refl _)
  cases hg:Ar (Cf ts (3*ts.length)) (e.a,e.b) with
  | none =>
    obtain ⟨u,hu,hs⟩:=h.some
    have h3:=i2 _ hg h.lt u hu
    rcases hs with hs|hs
    · exact absurd hs h3.1
    · exact absurd hs h3.2
  | some e' =>
    have h3:=i1 _ _ hg
    have e1:e'=e:=by
      have a1:=h3.ea;have a2:=h3.eb;have a3:=h3.l.uniq h.l;have a4:=h3.r.uniq h.r
      cases e;cases e';simp only at a1 a2 a3 a4;subst a1 a2 a3 a4;rfl
    rw [e1] at hg
    unfold BT
    exact (Do _).mem_iff.2 (List.mem_map.2 ⟨_,Jw hg,rfl⟩)
def X9 (x y:E4):Prop:=x.a<y.a\/(x.a=y.a/\x.b<y.b)
theorem GB (hn:B5 N ts=true) (hN:N<=4611686018427387904):(BT ts).Pairwise X9:=by
  have h1:MU ((Cf ts (3*ts.length)).map (·.2)):=MM (Fg hn hN _ (Nat.le_refl _)) (KC ts _)
  have h2:MU (BT ts):=(List.Perm.pairwise_iff (R:=λx y:E4=>¬(x.a=y.a/\x.b=y.b)) (λh k=>h ⟨k.1.symm,k.2.symm⟩) (Do _)).2 h1
  exact (List.Pairwise.and (Gr _) h2).imp λ{x y} h=>by
    have h3:=Ju.1 h.1
    have h4:=h.2
    unfold X9
    omega
def T9 (ts:List T3) (j a b:Nat):Prop:=∃r,r<3/\Bw ts (3*j+r)=(a,b)
def Yw (ts:List T3) (n a b:Nat) (z:Int):Prop:=(z = -1/\∀j,j<n->¬T9 ts j a b)\/∃j,j<n/\z=(j:Int)/\T9 ts j a b/\∀i,i<j->¬T9 ts i a b
theorem W3 {n a b:Nat} {z:Int} (h:Jk ts (3*n) a b z):Yw ts n a b z:=by
  rcases h with ⟨h1,h2⟩|⟨u,h1,h2,h3,h4⟩
  · exact .inl ⟨h1,λj hj ⟨r,hr,k⟩=>h2 _ (by omega) k⟩
  · exact .inr ⟨u/3,by omega,h2,⟨u%3,by omega,by rw [show 3*(u/3)+u%3=u by omega];exact h3⟩,λi hi ⟨r,hr,k⟩=>h4 _ (by omega) k⟩
theorem UH {n a b:Nat} {z:Int} (h:Yw ts n a b z):Jk ts (3*n) a b z:=by
  rcases h with ⟨h1,h2⟩|⟨j,h1,h2,⟨r,hr,h3⟩,h4⟩
  · exact .inl ⟨h1,λu hu k=>h2 (u/3) (by omega) ⟨u%3,by omega,by rw [show 3*(u/3)+u%3=u by omega];exact k⟩⟩
  · have key:∀m,m<=3->(∀q,q<m->Bw ts (3*j+q)≠(a,b))\/∃q,q<m/\Bw ts (3*j+q)=(a,b)/\∀p,p<q->Bw ts (3*j+p)≠(a,b):=by
      intro m
      induction m with
      | zero=>intro _;exact .inl λq hq=>absurd hq (Nat.not_lt_zero _)
      | succ m ih =>
        intro hm
        rcases ih (by omega) with h|⟨q,h5,h6,h7⟩
        · by_cases k:Bw ts (3*j+m)=(a,b)
          · exact .inr ⟨m,by omega,k,h⟩
          · refine .inl λq hq=>?_
            rcases Nat.lt_or_ge q m with h8|h8
            · exact h q h8
            · rw [show q=m by omega];exact k
        · exact .inr ⟨q,by omega,h6,h7⟩
    rcases key 3 (Nat.le_refl _) with k|⟨q,h5,h6,h7⟩
    · exact absurd h3 (k r hr)
    · refine .inr ⟨3*j+q,by omega,by rw [h2];congr 1;omega,h6,λv hv k=>?_⟩
      rcases Nat.lt_or_ge v (3*j) with h8|h8
      · exact h4 (v/3) (by omega) ⟨v%3,by omega,by rw [show 3*(v/3)+v%3=v by omega];exact k⟩
      · exact h7 (v-3*j) (by omega) (by rw [show 3*j+(v-3*j)=v by omega];exact k)
structure KR (ts ts':List T3):Prop where
  len:ts.length=ts'.length
  way:∀j,j<ts.length->∀a b,T9 ts j a b↔T9 ts' j a b
theorem KR.symm (h:KR ts ts'):KR ts' ts:=⟨h.len.symm,λj hj a b=>(h.way j (by rw [h.len];exact hj) a b).symm⟩
theorem KR.fst (h:KR ts ts') {a b:Nat} {z:Int} (k:Jk ts (3*ts.length) a b z):Jk ts' (3*ts'.length) a b z:=by
  rw [<-h.len]
  refine UH ?_
  rcases W3 k with ⟨h1,h2⟩|⟨j,h1,h2,h3,h4⟩
  · exact .inl ⟨h1,λj hj k=>h2 j hj ((h.way j hj a b).2 k)⟩
  · exact .inr ⟨j,h1,h2,(h.way j h1 a b).1 h3,λi hi k=>h4 i hi ((h.way i (by omega) a b).2 k)⟩
theorem KR.inv (h:KR ts ts') {e:E4} (k:TX ts (3*ts.length) (e.a,e.b) e):TX ts' (3*ts'.length) (e.a,e.b) e:=by
  obtain ⟨u,hu,hs⟩:=k.some
  refine ⟨k.ea,k.eb,k.lt,h.fst k.l,h.fst k.r,?_⟩
  have key:∀a b,Bw ts u=(a,b)->∃v,v<3*ts'.length/\Bw ts' v=(a,b):=λa b hd=>by
    obtain ⟨r,hr,h3⟩:=(h.way (u/3) (by omega) a b).1 ⟨u%3,by omega,by rw [show 3*(u/3)+u%3=u by omega];exact hd⟩
    exact ⟨3*(u/3)+r,by rw [<-h.len];omega,h3⟩
  rcases hs with hs|hs
  · obtain ⟨v,h1,h2⟩:=key _ _ hs;exact ⟨v,h1,.inl h2⟩
  · obtain ⟨v,h1,h2⟩:=key _ _ hs;exact ⟨v,h1,.inr h2⟩
theorem JX {j r:Nat} (hr:r<3):Bw ts (3*j+r)=(Ef (ts.getD j (0,0,0)) r,Ef (ts.getD j (0,0,0)) ((r+1)%3)):=by
  unfold Bw
  rw [show (3*j+r)/3=j by omega,show (3*j+r)%3=r by omega]
def Lc (ts:List T3) (u:Nat):P2:=Bh (Bw ts u).1 (Bw ts u).2
def Cp (ts:List T3):Nat->List (P2×Nat)
  | 0=>[]
  | s+1=>BZ (Cp ts s) (Lc ts s) ((Ar (Cp ts s) (Lc ts s)).getD 0+1)
def Ck (ts:List T3):List P2:=ts.flatMap λt=>[Bh t.1 t.2.1,Bh t.2.1 t.2.2,Bh t.2.2 t.1]
theorem F6 (k:P2):∀s,(Ar (Cp ts s) k).getD 0=((List.range s).map (Lc ts)).count k
  | 0=>rfl
  | s+1=>by
    rw [Cp,B6,List.range_succ,List.map_append,List.count_append,List.map_singleton,List.count_singleton]
    by_cases h:k=Lc ts s
    · subst h
      rw [if_pos rfl,Option.getD_some,F6 _ s];simp
    · rw [if_neg h,F6 k s,if_neg (by simpa using λe=>h e.symm)];rfl
theorem Ia {t i:Nat} (hi:i<3):Cp ts (3*t+i+1)=BZ (Cp ts (3*t+i)) (Bh (Ef (ts.getD t (0,0,0)) i) (Ef (ts.getD t (0,0,0)) ((i+1)%3))) ((Ar (Cp ts (3*t+i)) (Bh (Ef (ts.getD t (0,0,0)) i) (Ef (ts.getD t (0,0,0)) ((i+1)%3)))).getD 0+1):=by
  rw [Cp]
  unfold Lc
  rw [JX hi]
theorem Mi (s:Nat) (k:P2):(Ar (Cp ts s) k).getD 0<=s:=by
  rw [F6]
  exact Nat.le_trans List.count_le_length (by simp)
theorem FW (hn:B5 N ts=true) (hN:N<=4611686018427387904):∀s,s<=3*ts.length->I0 NR (Cp ts s)
  | 0,_=>I0.nil
  | s+1,hs=>by
    obtain ⟨h1,h2⟩:=Me hn (show s<3*ts.length by omega)
    exact (FW hn hN s (by omega)).put (B0 (Nat.lt_of_lt_of_le h1 hN) (Nat.lt_of_lt_of_le h2 hN))
theorem J0:(List.range (3*ts.length)).map (Lc ts)=Ck ts:=by
  have key:∀n,n<=ts.length->(List.range (3*n)).map (Lc ts)=Ck (ts.take n):=by
    intro n
    induction n with
    | zero=>intro _;rfl
    | succ n ih =>
      intro hn
      have e1:List.range (3*(n+1))=List.range (3*n)++[3*n,3*n+1,3*n+2]:=by
        rw [show 3*(n+1)=3*n+1+1+1 by omega,List.range_succ,List.range_succ,List.range_succ];simp
      have e2:ts.take (n+1)=ts.take n++[ts.getD n (0,0,0)]:=by
        rw [List.take_add_one,List.getElem?_eq_getElem (show n<ts.length by omega),List.getD,List.getElem?_eq_getElem (show n<ts.length by omega)];rfl
      have k0:=JX (ts:=ts) (j:=n) (show 0<3 by decide)
      have k1:=JX (ts:=ts) (j:=n) (show 1<3 by decide)
      have k2:=JX (ts:=ts) (j:=n) (show 2<3 by decide)
      rw [e1,e2,List.map_append,ih (by omega)]
      unfold Ck
      rw [List.flatMap_append]
      congr 1
      simp only [List.map_cons,List.map_nil,List.flatMap_cons,List.flatMap_nil,List.append_nil,Lc]
      rw [show 3*n=3*n+0 by omega,k0,show 3*n+0+1=3*n+1 by omega,k1,show 3*n+0+2=3*n+2 by omega,k2]
      rfl
  have h:=key ts.length (Nat.le_refl _)
  rwa [List.take_length] at h
def Tp (ts:List T3) (k:P2):Nat:=(Ar (Cp ts (3*ts.length)) k).getD 0
theorem Qm (k:P2):Tp ts k=(Ck ts).count k:=by unfold Tp;rw [F6,J0]
def IU (ts:List T3) (i:Nat):List T3:=(((BT ts).take i).filter λe=>decide (Tp ts (e.a,e.b)=1)).map λe=>(e.a,e.b,0)
def Bt (ts:List T3):List T3:=IU ts (BT ts).length
theorem TG {i:Nat} (hi:i<(BT ts).length) (h:Tp ts (((BT ts).getD i ⟨0,0,0,0⟩).a,((BT ts).getD i ⟨0,0,0,0⟩).b)=1):IU ts (i+1)=IU ts i++[(((BT ts).getD i ⟨0,0,0,0⟩).a,((BT ts).getD i ⟨0,0,0,0⟩).b,0)]:=by
  rw [List.getD,List.getElem?_eq_getElem hi] at h ⊢
  unfold IU
  rw [List.take_add_one,List.getElem?_eq_getElem hi,List.filter_append,List.map_append]
  simp only [Option.toList_some,Option.getD_some] at h ⊢
  rw [List.filter_cons,if_pos (decide_eq_true h)];rfl
theorem V3 {i:Nat} (hi:i<(BT ts).length) (h:¬Tp ts (((BT ts).getD i ⟨0,0,0,0⟩).a,((BT ts).getD i ⟨0,0,0,0⟩).b)=1):IU ts (i+1)=IU ts i:=by
  rw [List.getD,List.getElem?_eq_getElem hi] at h
  unfold IU
  rw [List.take_add_one,List.getElem?_eq_getElem hi,List.filter_append,List.map_append]
  simp only [Option.toList_some,Option.getD_some] at h ⊢
  rw [List.filter_cons,if_neg (by simpa using h)];simp
theorem J8 (i:Nat):(IU ts i).length<=i:=by
  unfold IU
  rw [List.length_map]
  exact Nat.le_trans (List.length_filter_le _ _) (List.length_take_le _ _)
theorem Fi (hn:B5 N ts=true) (hN:N<=4611686018427387904) {a b:Nat}:(a,b)∈Ck ts↔∃e∈BT ts,e.a=a/\e.b=b:=by
  rw [<-J0,List.mem_map]
  constructor
  · rintro ⟨u,hu,hk⟩
    have hu:=List.mem_range.1 hu
    have hne:=KU hn hu
    unfold Lc Bh at hk
    injection hk with h1 h2
    have hlt:a<b:=by omega
    have hd:Bw ts u=(a,b)\/Bw ts u=(b,a):=by
      rcases Nat.lt_or_ge (Bw ts u).1 (Bw ts u).2 with h|h
      · exact .inl (Prod.ext (by omega) (by omega))
      · exact .inr (Prod.ext (by omega) (by omega))
    obtain ⟨i1,i2⟩:=Jj (λu hu=>KU hn hu) _ (Nat.le_refl _)
    cases hg:Ar (Cf ts (3*ts.length)) (a,b) with
    | none =>
      have h3:=i2 _ hg hlt u hu
      rcases hd with hd|hd
      · exact absurd hd h3.1
      · exact absurd hd h3.2
    | some e =>
      have h3:=i1 _ _ hg
      refine ⟨e,?_,h3.ea,h3.eb⟩
      unfold BT
      exact (Do _).mem_iff.2 (List.mem_map.2 ⟨_,Jw hg,rfl⟩)
  · rintro ⟨e,he,rfl,rfl⟩
    have h:=(QX hn hN).1 he
    obtain ⟨u,hu,hs⟩:=h.some
    have hlt:=h.lt
    simp only at hlt hs
    refine ⟨u,List.mem_range.2 hu,?_⟩
    unfold Lc Bh
    rcases hs with hs|hs<;>rw [hs]<;>exact Prod.ext (by simp only;omega) (by simp only;omega)
def YS (x y:T3):Prop:=x.1<y.1\/(x.1=y.1/\x.2.1<y.2.1)
theorem Sl (hn:B5 N ts=true) (hN:N<=4611686018427387904) {s:T3}:s∈Bt ts↔(Ck ts).count (s.1,s.2.1)=1/\s.2.2=0:=by
  unfold Bt IU
  rw [List.take_length,List.mem_map]
  constructor
  · rintro ⟨e,he,rfl⟩
    obtain ⟨h1,h2⟩:=List.mem_filter.1 he
    exact ⟨by rw [<-Qm];exact of_decide_eq_true h2,rfl⟩
  · rintro ⟨h1,h2⟩
    have hm:(s.1,s.2.1)∈Ck ts:=List.count_pos_iff.1 (by omega)
    obtain ⟨e,he,ea,eb⟩:=(Fi hn hN).1 hm
    refine ⟨e,List.mem_filter.2 ⟨he,decide_eq_true (by rw [Qm,ea,eb];exact h1)⟩,?_⟩
    exact Prod.ext ea (Prod.ext eb h2.symm)
end
end
section
abbrev E0:E4:=⟨0,0,0,0⟩
def Ed (N:Nat) (es:List E4):Nat->List (P2×Nat)
  | 0=>[]
  | i+1=>BZ (Ed N es i) (Bh (es.getD i E0).a (es.getD i E0).b) (N+i)
def Hr (N:Nat) (es:List E4) (a b:Nat):Nat:=(Ar (Ed N es es.length) (Bh a b)).getD 0
def VL (N:Nat) (es:List E4) (t:T3):List T3:=[(t.1,Hr N es t.1 t.2.1,Hr N es t.2.2 t.1),(Hr N es t.1 t.2.1,t.2.1,Hr N es t.2.1 t.2.2),(Hr N es t.2.2 t.1,Hr N es t.2.1 t.2.2,t.2.2),(Hr N es t.1 t.2.1,Hr N es t.2.1 t.2.2,Hr N es t.2.2 t.1)]
def KV (N:Nat) (es:List E4) (ts:List T3) (i:Nat):List T3:=(ts.take i).flatMap (VL N es)
def EP (N:Nat) (es:List E4) (ts:List T3):List T3:=ts.flatMap (VL N es)
def Dj (i:Nat):List Nat:=(List.range i).flatMap λt=>[t,t,t,t]
def FH (N:Nat) (ss:List T3):Nat->List (P2×Nat)
  | 0=>[]
  | k+1=>if (ss.getD (ss.length-1-k) (0,0,0)).1<N/\(ss.getD (ss.length-1-k) (0,0,0)).2.1<N then BZ (FH N ss k) (Bh (ss.getD (ss.length-1-k) (0,0,0)).1 (ss.getD (ss.length-1-k) (0,0,0)).2.1) (ss.getD (ss.length-1-k) (0,0,0)).2.2 else FH N ss k
def Dq (N:Nat) (ss:List T3) (es:List E4):Nat->List (P2×Nat)
  | 0=>FH N ss ss.length
  | i+1=>BZ (BZ (Dq N ss es i) (Bh (es.getD i E0).a (N+i)) ((Ar (Dq N ss es i) (Bh (es.getD i E0).a (es.getD i E0).b)).getD 0)) (Bh (es.getD i E0).b (N+i)) ((Ar (Dq N ss es i) (Bh (es.getD i E0).a (es.getD i E0).b)).getD 0)
def O7 (N:Nat) (ss:List T3) (es:List E4) (a b:Nat):Nat:=(Ar (Dq N ss es es.length) (Bh a b)).getD 0
def Y0 (ps:List Pt) (e:E4):Pt:=CS (cor ps e.a+cor ps e.b) (1/2)
def Ij (ps:List Pt) (es:List E4):Nat->List Pt
  | 0=>ps
  | i+1=>Ij ps es i++[Y0 ps (es.getD i E0)]
def FF (ps:List Pt) (es:List E4):List Pt:=Ij ps es es.length
def Fv (N:Nat) (ss:List T3) (es:List E4) (rs:List T3) (i:Nat):List T3:=(rs.take i).map (λs=>(s.1,s.2.1,O7 N ss es s.1 s.2.1))++rs.drop i
def Lb (N:Nat) (ss:List T3) (es:List E4) (ts:List T3):List T3:=(Bt ts).map λs=>(s.1,s.2.1,O7 N ss es s.1 s.2.1)
section
variable {N M i:Nat} {es:List E4} {ts:List T3} {t:T3} {ss rs:List T3} {ps:List Pt}
theorem D0 {α:Type} {l:List α} {d:α} {i:Nat} (h:i<l.length):l.take (i+1)=l.take i++[l.getD i d]:=by
  rw [List.take_add_one,List.getElem?_eq_getElem h,List.getD,List.getElem?_eq_getElem h];rfl
theorem Rc (h:i<ts.length):KV N es ts (i+1)=KV N es ts i++VL N es (ts.getD i (0,0,0)):=by
  unfold KV
  rw [D0 (d:=(0,0,0)) h,List.flatMap_append];simp
theorem Tb:KV N es ts ts.length=EP N es ts:=by unfold KV EP;rw [List.take_length]
theorem JY:(VL N es t).length=4:=rfl
theorem EK:(EP N es ts).length=4*ts.length:=by
  unfold EP
  induction ts with
  | nil=>rfl
  | cons t r ih=>rw [List.flatMap_cons,List.length_append,ih,JY,List.length_cons];omega
theorem Td:(KV N es ts i).length=4*(min i ts.length):=by
  have h:=EK (N:=N) (es:=es) (ts:=ts.take i)
  rw [List.length_take] at h
  exact h
theorem Ix:Dj (i+1)=Dj i++[i,i,i,i]:=by unfold Dj;rw [List.range_succ,List.flatMap_append];simp
theorem Fx:(Dj i).length=4*i:=by
  induction i with
  | zero=>rfl
  | succ i ih=>rw [Ix,List.length_append,ih];simp;omega
theorem Sy {k:Nat} (h:k<4*ts.length):(EP N es ts).getD k (0,0,0)=(VL N es (ts.getD (k/4) (0,0,0))).getD (k%4) (0,0,0):=by
  induction ts generalizing k with
  | nil=>simp at h
  | cons t r ih =>
    unfold EP at ih ⊢
    rw [List.flatMap_cons]
    rcases Nat.lt_or_ge k 4 with h4|h4
    · rw [List.getD,List.getElem?_append_left (by rw [JY];exact h4),show k/4=0 by omega,show k%4=k by omega];rfl
    · rw [List.getD,List.getElem?_append_right (by rw [JY];exact h4),JY]
      have h5:=ih (k:=k-4) (by simp only [List.length_cons] at h;omega)
      rw [List.getD] at h5
      rw [h5,show k/4=(k-4)/4+1 by omega,show (k-4)%4=k%4 by omega]
      simp
theorem IL:∀i,(Ij ps es i).length=ps.length+i
  | 0=>rfl
  | i+1=>by rw [Ij,List.length_append,IL i];rfl
theorem EW:(FF ps es).length=ps.length+es.length:=IL _
theorem SM:Fv N ss es rs rs.length=rs.map λs=>(s.1,s.2.1,O7 N ss es s.1 s.2.1):=by unfold Fv;simp
theorem H_:(Fv N ss es rs i).length=rs.length:=by unfold Fv;simp;omega
theorem N_ (h:i<rs.length):(Fv N ss es rs i).getD i (0,0,0)=rs.getD i (0,0,0):=by
  unfold Fv
  rw [List.getD,List.getElem?_append_right (by simp;omega),List.length_map,List.length_take,Nat.min_eq_left (by omega),Nat.sub_self,List.getElem?_drop]
  rfl
theorem Rr (h:i<rs.length):(Fv N ss es rs i).set i ((rs.getD i (0,0,0)).1,(rs.getD i (0,0,0)).2.1,O7 N ss es (rs.getD i (0,0,0)).1 (rs.getD i (0,0,0)).2.1)=Fv N ss es rs (i+1):=by
  unfold Fv
  rw [D0 (d:=(0,0,0)) h,List.map_append,List.set_append_right _ _ (by simp;omega),List.length_map,List.length_take,Nat.min_eq_left (by omega),Nat.sub_self,Mm (d:=(0,0,0)) h,List.set_cons_zero,List.append_assoc]
  rfl
theorem RJ {v:Nat} (h:i<rs.length) (hv:v=O7 N ss es (rs.getD i (0,0,0)).1 (rs.getD i (0,0,0)).2.1):(Fv N ss es rs i).set i (((Fv N ss es rs i).getD i (0,0,0)).1,((Fv N ss es rs i).getD i (0,0,0)).2.1,v)=Fv N ss es rs (i+1):=by
  rw [N_ h,hv];exact Rr h
theorem OH {k:Nat} (h:(ss.getD (ss.length-1-k) (0,0,0)).1<N/\(ss.getD (ss.length-1-k) (0,0,0)).2.1<N):BZ (FH N ss k) (Bh (ss.getD (ss.length-1-k) (0,0,0)).1 (ss.getD (ss.length-1-k) (0,0,0)).2.1) (ss.getD (ss.length-1-k) (0,0,0)).2.2=FH N ss (k+1):=by
  rw [FH,if_pos h]
theorem V9 {k:Nat} (h:¬((ss.getD (ss.length-1-k) (0,0,0)).1<N/\(ss.getD (ss.length-1-k) (0,0,0)).2.1<N)):FH N ss k=FH N ss (k+1):=by
  rw [FH,if_neg h]
theorem IN (hes:∀e∈es,e.a<N/\e.b<N) (hN:N<=4611686018427387904):∀i,i<=es.length->I0 NR (Ed N es i)
  | 0,_=>I0.nil
  | i+1,h=>by
    have h1:=hes (es.getD i E0) (by rw [List.getD,List.getElem?_eq_getElem (show i<es.length by omega)];exact List.getElem_mem _)
    exact (IN hes hN i (by omega)).put (B0 (by omega) (by omega))
theorem Jm (hN:N<=4611686018427387904):∀k,I0 NR (FH N ss k)
  | 0=>I0.nil
  | k+1=>by
    unfold FH
    split
    · rename_i h;exact (Jm hN k).put (B0 (by omega) (by omega))
    · exact Jm hN k
theorem Hw (hes:∀e∈es,e.a<N/\e.b<N) (hN:N+es.length<=4611686018427387904):∀i,i<=es.length->I0 NR (Dq N ss es i)
  | 0,_=>Jm (by omega) _
  | i+1,h=>by
    have h1:=hes (es.getD i E0) (by rw [List.getD,List.getElem?_eq_getElem (show i<es.length by omega)];exact List.getElem_mem _)
    exact ((Hw hes hN i (by omega)).put (B0 (by omega) (by omega))).put (B0 (by omega) (by omega))
theorem D8 (hn:B5 N ts=true) (hN:N<=4611686018427387904) {e:E4} (he:e∈BT ts):e.a<e.b/\e.b<N:=by
  have h:=(QX hn hN).1 he
  obtain ⟨u,hu,hs⟩:=h.some
  have h2:=Me hn hu
  have hlt:=h.lt
  simp only at hlt hs
  rcases hs with hs|hs<;>rw [hs] at h2<;>simp only at h2<;>omega
theorem Eb (hn:B5 N ts=true) (hN:N<=4611686018427387904):∀e∈BT ts,e.a<N/\e.b<N:=λe he=>by
  have:=D8 hn hN he;omega
theorem QC (hn:B5 N ts=true) (hN:N<=4611686018427387904) {s:T3} (hs:s∈Bt ts):s.1<N/\s.2.1<N:=by
  unfold Bt IU at hs
  rw [List.take_length,List.mem_map] at hs
  obtain ⟨e,he,rfl⟩:=hs
  exact Eb hn hN e (List.mem_filter.1 he).1
theorem H4 (hs:es.Pairwise X9) (hl:∀e∈es,e.a<e.b) {j:Nat}:∀i,i<=es.length->j<i->Ar (Ed N es i) ((es.getD j E0).a,(es.getD j E0).b)=some (N+j)
  | 0,_,h=>absurd h (Nat.not_lt_zero _)
  | i+1,hi,hj=>by
    have m:∀k,k<es.length->es.getD k E0∈es:=λk hk=>by rw [List.getD,List.getElem?_eq_getElem hk];exact List.getElem_mem _
    have k1:Bh (es.getD i E0).a (es.getD i E0).b=((es.getD i E0).a,(es.getD i E0).b):=by
      have:=hl _ (m i (by omega));unfold Bh;exact Prod.ext (by simp only;omega) (by simp only;omega)
    rw [Ed,B6,k1]
    rcases Nat.lt_or_ge j i with h|h
    · have h2:X9 (es.getD j E0) (es.getD i E0):=by
        rw [List.getD,List.getD,List.getElem?_eq_getElem (show j<es.length by omega),List.getElem?_eq_getElem (show i<es.length by omega)]
        exact List.pairwise_iff_getElem.1 hs j i (by omega) (by omega) h
      rw [if_neg (λe=>by injection e with e1 e2;unfold X9 at h2;omega)]
      exact H4 hs hl i (by omega) h
    · rw [show j=i by omega,if_pos rfl]
theorem IW (hn:B5 N ts=true) (hN:N<=4611686018427387904) {a b:Nat} (h:Bh a b∈Ck ts):∃j,j<(BT ts).length/\((BT ts).getD j E0).a=min a b/\((BT ts).getD j E0).b=max a b/\Hr M (BT ts) a b=M+j:=by
  obtain ⟨e,he,ea,eb⟩:=(Fi hn hN (a:=min a b) (b:=max a b)).1 h
  obtain ⟨j,hj,hje⟩:=List.getElem_of_mem he
  have hd:(BT ts).getD j E0=e:=by rw [List.getD,List.getElem?_eq_getElem hj,hje];rfl
  refine ⟨j,hj,by rw [hd];exact ea,by rw [hd];exact eb,?_⟩
  have h1:=H4 (N:=M) (GB hn hN) (λe he=>(D8 hn hN he).1) _ (Nat.le_refl _) hj
  rw [hd,ea,eb] at h1
  unfold Hr Bh
  rw [h1];rfl
theorem M9 {t:T3} (h:t∈ts):Bh t.1 t.2.1∈Ck ts/\Bh t.2.1 t.2.2∈Ck ts/\Bh t.2.2 t.1∈Ck ts:=by
  unfold Ck
  refine ⟨List.mem_flatMap.2 ⟨t,h,?_⟩,List.mem_flatMap.2 ⟨t,h,?_⟩,List.mem_flatMap.2 ⟨t,h,?_⟩⟩<;>simp
theorem Rs (hn:B5 N ts=true) (hN:N<=4611686018427387904) (ht:t∈ts) {c:T3} (hc:c∈VL N (BT ts) t):Lk (N+(BT ts).length) c=true:=by
  have h0:=List.all_eq_true.1 hn t ht
  obtain ⟨l1,l2,l3⟩:=DH h0
  obtain ⟨n1,n2,n3⟩:=Mg h0
  obtain ⟨k1,k2,k3⟩:=M9 ht
  obtain ⟨x,hx,x1,x2,hx3⟩:=IW (M:=N) hn hN k1
  obtain ⟨y,hy,y1,y2,hy3⟩:=IW (M:=N) hn hN k2
  obtain ⟨z,hz,z1,z2,hz3⟩:=IW (M:=N) hn hN k3
  have hxy:x≠y:=λe=>by subst e;omega
  have hyz:y≠z:=λe=>by subst e;omega
  have hzx:z≠x:=λe=>by subst e;omega
  unfold VL at hc
  simp only [List.mem_cons,List.not_mem_nil,or_false,hx3,hy3,hz3] at hc
  simp only [Lk,Bool.and_eq_true,Bool.not_eq_true',decide_eq_false_iff_not,decide_eq_true_eq]
  rcases hc with rfl|rfl|rfl|rfl<;>dsimp only<;>omega
theorem N7 (hn:B5 N ts=true) (hN:N<=4611686018427387904):B5 (N+(BT ts).length) (EP N (BT ts) ts)=true:=List.all_eq_true.2 λc hc=>by
  obtain ⟨t,ht,hc⟩:=List.mem_flatMap.1 hc
  exact Rs hn hN ht hc
end
end
section
set_option maxRecDepth 100000
theorem S8 (p:Option Addr) (n cp:Nat) (h:n<=cp) (w:World)  :Calls Tryz.prog 122 #[(Value.slice p n cp)] w (Am w (Value.slice p n n)):=by
 refine Ac (args:=[(Value.slice p n cp)]) Tryz.func122 rfl rfl (Ad rfl) (AG.subF (sL [0] rfl) (q4 (AK rfl (AF.nil (q2 ?_)))))
 refine AO rfl (AO rfl (AJ (v:=(vN n)) (AI rfl Tryz.underlying27) rfl (AO rfl (AJ (v:=(vN n)) (AI rfl Tryz.underlying27) rfl (AJ (v:=(Value.slice p n n)) (EJ (m:=n) rfl rfl rfl Tryz.underlying27 Tryz.sizeOf55 (by omega)) rfl ?_)))))
 exact AK rfl (AF.nil (AC.subF (sL [2] rfl) (AC.then_ (AG.ret (AR rfl (Ai (v:=(Value.slice p n n)) rfl) (λw hw=>⟨rfl,hw.out⟩))))))
theorem Lv (ts:List Pt) (x:RX (rowsL Ae ts) ts.length) (hl:ts.length<=1000000000) (w:World) {S:Nat->Prop} (hx:Ro S w x):Calls Tryz.prog 118 #[(Value.slice x.p ts.length x.c)] w (J3 Yt (XQ (T:=55) (z:=10) (cs:=rowsL Ae ts) (n:=ts.length)) S w):=by
 have lx:=FS (W:=w) hx
 refine BH (args:=[(Value.slice x.p ts.length x.c)]) (L:=[Ag x.p (rowsL Ae ts)]) Tryz.func118 rfl rfl (Ad rfl) (FP hx BY) (AG.subF (sL [0] rfl) (q4 (AK rfl (AF.nilRow 55 10 (AF.nil ?_)))))
 refine q1 (q4 (AO rfl (AJ (v:=(Value.bool x.p.isNone)) (K3 rfl rfl Tryz.underlying27) rfl (AF.nil (AC.subF (sL [0,2,4] rfl) ?_)))))
 refine AC.then_ ?_
 refine AG.cond rfl (λhc0=>?_) (λhc0=>?_)
 ·skip
  have hts:ts=[]:=List.eq_nil_of_length_eq_zero (x.ok.nil (Option.isNone_iff_eq_none.1 hc0)).1
  refine q4 (AK rfl (AF.nilRow 55 10 (AF.nil (AC.then_ (AG.ret ?_)))))
  exact AC.then_ret (AR rfl (Ai (v:=(Value.slice none 0 0)) rfl) (λw hw=>(by subst hts;exact Ss hw (OX.mk none 0 OwnOk.none) (by exact (sk (sl (sl sr)))) (J1.own rfl J1.nil) (by show Value.slice none 0 0=_;rfl))))
 ·skip
  refine AG.skip (q2 (AF.openV (V:=λb1=>(Value.slice (some ⟨b1,0,none⟩) 0 0)) (T:=55) (cs:=[]) (AN rfl) (MI Tryz.underlying27 Tryz.sizeOf55) rfl (Ad rfl) λb1=>AF.asRow0 (z:=10) 0 rfl (by omega) λho_b1=>AO rfl (AF.appendE0 YA rfl ho_b1 rfl (ZE (k:=2) rfl x.ok) (Ak BI _) (It V2 _) (Kq (by omega)) (by omega) rfl λp_1 c_1 ho_1=>?_)))
  exact AK rfl (AF.nil (AC.subF (sL [0,2] rfl) (AC.then_ (AG.ret (AR rfl (Ai (v:=(Value.slice p_1 ts.length c_1)) rfl) (λw hw=>(Ss hw (OX.mk p_1 c_1 ho_1) (sk (sl (sl sr))) (J1.own rfl J1.nil) rfl)))))))
theorem SO (p:Option Addr) (n cp:Nat) (h:n<=cp) (w:World)  :Calls Tryz.prog 119 #[(Value.slice p n cp)] w (Am w (Value.slice p n n)):=by
 refine Ac (args:=[(Value.slice p n cp)]) Tryz.func119 rfl rfl (Ad rfl) (AG.subF (sL [0] rfl) (q4 (AK rfl (AF.nil (q2 ?_)))))
 refine AO rfl (AO rfl (AJ (v:=(vN n)) (AI rfl Tryz.underlying28) rfl (AO rfl (AJ (v:=(vN n)) (AI rfl Tryz.underlying28) rfl (AJ (v:=(Value.slice p n n)) (EJ (m:=n) rfl rfl rfl Tryz.underlying28 Tryz.sizeOf76 (by omega)) rfl ?_)))))
 exact AK rfl (AF.nil (AC.subF (sL [2] rfl) (AC.then_ (AG.ret (AR rfl (Ai (v:=(Value.slice p n n)) rfl) (λw hw=>⟨rfl,hw.out⟩))))))
theorem RN (ts:List T3) (x:RX (rowsL Al ts) ts.length) (hl:ts.length<=1000000000) (w:World) {S:Nat->Prop} (hx:Ro S w x):Calls Tryz.prog 120 #[(Value.slice x.p ts.length x.c)] w (J3 Yt (XQ (T:=76) (z:=3) (cs:=rowsL Al ts) (n:=ts.length)) S w):=by
 have lx:=FS (W:=w) hx
 refine BH (args:=[(Value.slice x.p ts.length x.c)]) (L:=[Ag x.p (rowsL Al ts)]) Tryz.func120 rfl rfl (Ad rfl) (FP hx BY) (AG.subF (sL [0] rfl) (q4 (AK rfl (AF.nilRow 76 3 (AF.nil ?_)))))
 refine q1 (q4 (AO rfl (AJ (v:=(Value.bool x.p.isNone)) (K3 rfl rfl Tryz.underlying28) rfl (AF.nil (AC.subF (sL [0,2,4] rfl) ?_)))))
 refine AC.then_ ?_
 refine AG.cond rfl (λhc0=>?_) (λhc0=>?_)
 ·skip
  have hts:ts=[]:=List.eq_nil_of_length_eq_zero (x.ok.nil (Option.isNone_iff_eq_none.1 hc0)).1
  refine q4 (AK rfl (AF.nilRow 76 3 (AF.nil (AC.then_ (AG.ret ?_)))))
  exact AC.then_ret (AR rfl (Ai (v:=(Value.slice none 0 0)) rfl) (λw hw=>(by subst hts;exact Ss hw (OX.mk none 0 OwnOk.none) (by exact (sk (sl (sl sr)))) (J1.own rfl J1.nil) (by show Value.slice none 0 0=_;rfl))))
 ·skip
  refine AG.skip (q2 (AF.openV (V:=λb1=>(Value.slice (some ⟨b1,0,none⟩) 0 0)) (T:=76) (cs:=[]) (AN rfl) (MI Tryz.underlying28 Tryz.sizeOf76) rfl (Ad rfl) λb1=>AF.asRow0 (z:=3) 0 rfl (by omega) λho_b1=>AO rfl (AF.appendE0 Sh rfl ho_b1 rfl (ZE (k:=2) rfl x.ok) (Ak A6 _) (It VO _) (Kq (by omega)) (by omega) rfl λp_1 c_1 ho_1=>?_)))
  exact AK rfl (AF.nil (AC.subF (sL [0,2] rfl) (AC.then_ (AG.ret (AR rfl (Ai (v:=(Value.slice p_1 ts.length c_1)) rfl) (λw hw=>(Ss hw (OX.mk p_1 c_1 ho_1) (sk (sl (sl sr))) (J1.own rfl J1.nil) rfl)))))))
theorem S4 (p:Option Addr) (n cp:Nat) (h:n<=cp) (w:World)  :Calls Tryz.prog 51 #[(Value.slice p n cp)] w (Am w (Value.slice p n n)):=by
 refine Ac (args:=[(Value.slice p n cp)]) Tryz.func51 rfl rfl (Ad rfl) (AG.subF (sL [0] rfl) (q4 (AK rfl (AF.nil (q2 ?_)))))
 refine AO rfl (AO rfl (AJ (v:=(vN n)) (AI rfl Tryz.underlying29) rfl (AO rfl (AJ (v:=(vN n)) (AI rfl Tryz.underlying29) rfl (AJ (v:=(Value.slice p n n)) (EJ (m:=n) rfl rfl rfl Tryz.underlying29 Tryz.sizeOf44 (by omega)) rfl ?_)))))
 exact AK rfl (AF.nil (AC.subF (sL [2] rfl) (AC.then_ (AG.ret (AR rfl (Ai (v:=(Value.slice p n n)) rfl) (λw hw=>⟨rfl,hw.out⟩))))))
theorem JR (x0 x1:Nat):Instr.fill (λi=>some (i*1,1)) (A_ ((0,0):P2)).toArray [(0,vN x0),(1,vN x1)]=some (A_ (x0,x1)).toArray:=by kernel_rfl
theorem GQ (a b:Nat) (w:World)  :Calls Tryz.prog 47 #[(vN a),(vN b)] w (Am w (aG (A_ (min a b,max a b)))):=by
 refine Ac (args:=[(vN a),(vN b)]) Tryz.func47 rfl rfl (Ad rfl) (AG.subF (sL [0,1] rfl) (q4 (al Yo rfl λb1=>AF.nil (q2 ?_))))
 refine AO rfl (AO rfl (AJ (Gq (c:=((min a b:Nat):Int)) rfl rfl (by split<;>omega)) rfl (AO rfl (AO rfl (AJ (GO (c:=((max a b:Nat):Int)) rfl rfl (by split<;>omega)) rfl ?_)))))
 exact AJ (v:=(aG (A_ (min a b,max a b)))) (An (zs:=A_ ((0,0):P2)) (vs:=A_ (min a b,max a b)) (pv:=[(0,(vN (min a b))),(1,(vN (max a b)))]) Tryz.zeroValue112 Tryz.underlying112 Tryz.sizeOf3 rfl (JR (min a b) (max a b))) rfl (Ap rfl Tryz.sizeOf112 rfl (AF.nil (AC.subF (sL [4] rfl) (AC.then_ (AG.ret (AR rfl (Ay (i:=0) (cs:=A_ (min a b,max a b)) rfl rfl Tryz.isAgg112 Tryz.sizeOf112 rfl) (λw hw=>⟨rfl,hw.out⟩)))))))
end
end Go.Proofs.YtfbomiejpbchdaaGreat
