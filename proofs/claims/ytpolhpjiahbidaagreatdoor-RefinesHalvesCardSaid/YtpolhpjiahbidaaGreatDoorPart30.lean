import Derived.Test.YtpolhpjiahbidaaGreatDoorPart05
import Derived.Test.YtpolhpjiahbidaaGreatDoorPart23
import Derived.Test.YtpolhpjiahbidaaGreatDoorPart27
import Derived.Test.YtpolhpjiahbidaaGreatDoorPart29
namespace Go.Proofs.YtpolhpjiahbidaaGreatDoor
open Go Go.RowKit Go.Proofs.Tryz
set_option linter.unusedVariables false
set_option linter.unusedSimpArgs false
section
theorem Nj {α:Type} {R:α->α->Prop} (ha:∀x y,R x y->¬R y x) {l l':List α} (h:l.Pairwise R) (h':l'.Pairwise R) (hm:∀x,x∈l↔x∈l'):l=l':=by
  have nd:∀{l:List α},l.Pairwise R->l.Nodup:=λ{l} h=>h.imp λ{x y} hxy e=>by subst e;exact ha _ _ hxy hxy
  exact List.Perm.eq_of_pairwise (le:=R) (λx y _ _ h1 h2=>absurd h2 (ha x y h1)) h h' ((List.perm_ext_iff_of_nodup (nd h) (nd h')).2 hm)
abbrev T3:=Nat×Nat×Nat
section
variable {ts ts':List T3} {N:Nat}
theorem Lb {t:T3} (h:L3 N t=true):t.1≠t.2.1/\t.2.1≠t.2.2/\t.2.2≠t.1:=by
  simp only [L3,Bool.and_eq_true,Bool.not_eq_true',decide_eq_false_iff_not,decide_eq_true_eq] at h
  exact ⟨h.1.1.2,h.1.2,h.2⟩
theorem Jl (hn:B8 N ts=true) {u:Nat} (hu:u<3*ts.length):(B5 ts u).1≠(B5 ts u).2:=by
  obtain ⟨hab,hbc,hca⟩:=Lb (ED hn (show u/3<ts.length by omega))
  have h3:u%3=0\/u%3=1\/u%3=2:=by omega
  unfold B5
  rcases h3 with h3|h3|h3<;>rw [h3]
  · exact hab
  · exact hbc
  · exact hca
theorem On (hn:B8 N ts=true) {u:Nat} (hu:u<3*ts.length):(B5 ts u).1<N/\(B5 ts u).2<N:=by
  have h:=ED hn (show u/3<ts.length by omega)
  exact ⟨LG h _,LG h _⟩
theorem Iq.uniq {s a b:Nat} {y z:Int} (h:Iq ts s a b y) (k:Iq ts s a b z):y=z:=by
  rcases h with ⟨h1,h2⟩|⟨u,h1,h2,h3,h4⟩<;>rcases k with ⟨k1,k2⟩|⟨v,k1,k2,k3,k4⟩
  · omega
  · exact absurd k3 (h2 v k1)
  · exact absurd h3 (k2 u h1)
  · rcases Nat.lt_trichotomy u v with h|h|h
    · exact absurd h3 (k4 u h)
    · rw [h2,k2,h]
    · exact absurd k3 (h4 v h)
theorem Pm (hn:B8 N ts=true) (hN:N<=4611686018427387904) {e:E4}:e∈BS ts↔Wu ts (3*ts.length) (e.a,e.b) e:=by
  have hd:∀u,u<3*ts.length->(B5 ts u).1≠(B5 ts u).2:=λu hu=>Jl hn hu
  refine ⟨λh=>Vn hn hN hd h,λh=>?_⟩
  obtain ⟨i1,i2⟩:=Iz hd _ (Nat.le_refl _)
  cases hg:Az (CJ ts (3*ts.length)) (e.a,e.b) with
  | none =>
    obtain ⟨u,hu,hs⟩:=h.some
    have h3:=i2 _ hg h.lt u hu
    rcases hs with hs|hs
    · exact absurd hs h3.1
    · exact absurd hs h3.2
  | some e' =>
    have h3:=i1 _ _ hg
    have e1:e'=e:=by
      have a1:=h3.ea;have a2:=h3.eb;have a3:=h3.l.uniq h.l;have a4:=h3.r.uniq h.r
      cases e;cases e';simp only at a1 a2 a3 a4;subst a1 a2 a3 a4;rfl
    rw [e1] at hg
    unfold BS
    exact (DL _).mem_iff.2 (List.mem_map.2 ⟨_,Jo hg,rfl⟩)
def Xi (x y:E4):Prop:=x.a<y.a\/(x.a=y.a/\x.b<y.b)
theorem Jz (hn:B8 N ts=true) (hN:N<=4611686018427387904):(BS ts).Pairwise Xi:=by
  have h1:K6 ((CJ ts (3*ts.length)).map (·.2)):=Kb (Eu hn hN _ (Nat.le_refl _)) (JI ts _)
  have h2:K6 (BS ts):=(List.Perm.pairwise_iff (R:=λx y:E4=>¬(x.a=y.a/\x.b=y.b)) (λh k=>h ⟨k.1.symm,k.2.symm⟩) (DL _)).2 h1
  exact (List.Pairwise.and (F2 _) h2).imp λ{x y} h=>by
    have h3:=Ih.1 h.1
    have h4:=h.2
    unfold Xi
    omega
def Ty (ts:List T3) (j a b:Nat):Prop:=∃r,r<3/\B5 ts (3*j+r)=(a,b)
def Xn (ts:List T3) (n a b:Nat) (z:Int):Prop:=(z = -1/\∀j,j<n->¬Ty ts j a b)\/∃j,j<n/\z=(j:Int)/\Ty ts j a b/\∀i,i<j->¬Ty ts i a b
theorem Vk {n a b:Nat} {z:Int} (h:Iq ts (3*n) a b z):Xn ts n a b z:=by
  rcases h with ⟨h1,h2⟩|⟨u,h1,h2,h3,h4⟩
  · exact .inl ⟨h1,λj hj ⟨r,hr,k⟩=>h2 _ (by omega) k⟩
  · exact .inr ⟨u/3,by omega,h2,⟨u%3,by omega,by rw [show 3*(u/3)+u%3=u by omega];exact h3⟩,λi hi ⟨r,hr,k⟩=>h4 _ (by omega) k⟩
theorem TJ {n a b:Nat} {z:Int} (h:Xn ts n a b z):Iq ts (3*n) a b z:=by
  rcases h with ⟨h1,h2⟩|⟨j,h1,h2,⟨r,hr,h3⟩,h4⟩
  · exact .inl ⟨h1,λu hu k=>h2 (u/3) (by omega) ⟨u%3,by omega,by rw [show 3*(u/3)+u%3=u by omega];exact k⟩⟩
  · have key:∀m,m<=3->(∀q,q<m->B5 ts (3*j+q)≠(a,b))\/∃q,q<m/\B5 ts (3*j+q)=(a,b)/\∀p,p<q->B5 ts (3*j+p)≠(a,b):=by
      intro m
      induction m with
      | zero=>intro _;exact .inl λq hq=>absurd hq (Nat.not_lt_zero _)
      | succ m ih =>
        intro hm
        rcases ih (by omega) with h|⟨q,h5,h6,h7⟩
        · by_cases k:B5 ts (3*j+m)=(a,b)
          · exact .inr ⟨m,by omega,k,h⟩
          · refine .inl λq hq=>?_
            rcases Nat.lt_or_ge q m with h8|h8
            · exact h q h8
            · rw [show q=m by omega];exact k
        · exact .inr ⟨q,by omega,h6,h7⟩
    rcases key 3 (Nat.le_refl _) with k|⟨q,h5,h6,h7⟩
    · exact absurd h3 (k r hr)
    · refine .inr ⟨3*j+q,by omega,by rw [h2];congr 1;omega,h6,λv hv k=>?_⟩
      rcases Nat.lt_or_ge v (3*j) with h8|h8
      · exact h4 (v/3) (by omega) ⟨v%3,by omega,by rw [show 3*(v/3)+v%3=v by omega];exact k⟩
      · exact h7 (v-3*j) (by omega) (by rw [show 3*j+(v-3*j)=v by omega];exact k)
structure M4 (ts ts':List T3):Prop where
  len:ts.length=ts'.length
  way:∀j,j<ts.length->∀a b,Ty ts j a b↔Ty ts' j a b
theorem M4.symm (h:M4 ts ts'):M4 ts' ts:=⟨h.len.symm,λj hj a b=>(h.way j (by rw [h.len];exact hj) a b).symm⟩
theorem M4.fst (h:M4 ts ts') {a b:Nat} {z:Int} (k:Iq ts (3*ts.length) a b z):Iq ts' (3*ts'.length) a b z:=by
  rw [<-h.len]
  refine TJ ?_
  rcases Vk k with ⟨h1,h2⟩|⟨j,h1,h2,h3,h4⟩
  · exact .inl ⟨h1,λj hj k=>h2 j hj ((h.way j hj a b).2 k)⟩
  · exact .inr ⟨j,h1,h2,(h.way j h1 a b).1 h3,λi hi k=>h4 i hi ((h.way i (by omega) a b).2 k)⟩
theorem Ij {j r:Nat} (hr:r<3):B5 ts (3*j+r)=(Ga (ts.getD j (0,0,0)) r,Ga (ts.getD j (0,0,0)) ((r+1)%3)):=by
  unfold B5
  rw [show (3*j+r)/3=j by omega,show (3*j+r)%3=r by omega]
def KC (ts:List T3) (u:Nat):P2:=Bz (B5 ts u).1 (B5 ts u).2
def CT (ts:List T3):Nat->List (P2×Nat)
  | 0=>[]
  | s+1=>BL (CT ts s) (KC ts s) ((Az (CT ts s) (KC ts s)).getD 0+1)
def GB (ts:List T3):List P2:=ts.flatMap λt=>[Bz t.1 t.2.1,Bz t.2.1 t.2.2,Bz t.2.2 t.1]
theorem Fi (k:P2):∀s,(Az (CT ts s) k).getD 0=((List.range s).map (KC ts)).count k
  | 0=>rfl
  | s+1=>by
    rw [CT,Cx,List.range_succ,List.map_append,List.count_append,List.map_singleton,List.count_singleton]
    by_cases h:k=KC ts s
    · subst h
      rw [if_pos rfl,Option.getD_some,Fi _ s];simp
    · rw [if_neg h,Fi k s,if_neg (by simpa using λe=>h e.symm)];rfl
theorem Hv {t i:Nat} (hi:i<3):CT ts (3*t+i+1)=BL (CT ts (3*t+i)) (Bz (Ga (ts.getD t (0,0,0)) i) (Ga (ts.getD t (0,0,0)) ((i+1)%3))) ((Az (CT ts (3*t+i)) (Bz (Ga (ts.getD t (0,0,0)) i) (Ga (ts.getD t (0,0,0)) ((i+1)%3)))).getD 0+1):=by
  rw [CT]
  unfold KC
  rw [Ij hi]
theorem Le (s:Nat) (k:P2):(Az (CT ts s) k).getD 0<=s:=by
  rw [Fi]
  exact Nat.le_trans List.count_le_length (by simp)
theorem En (hn:B8 N ts=true) (hN:N<=4611686018427387904):∀s,s<=3*ts.length->G3 Li (CT ts s)
  | 0,_=>G3.nil
  | s+1,hs=>by
    obtain ⟨h1,h2⟩:=On hn (show s<3*ts.length by omega)
    exact (En hn hN s (by omega)).put (BV (Nat.lt_of_lt_of_le h1 hN) (Nat.lt_of_lt_of_le h2 hN))
theorem Jp:(List.range (3*ts.length)).map (KC ts)=GB ts:=by
  have key:∀n,n<=ts.length->(List.range (3*n)).map (KC ts)=GB (ts.take n):=by
    intro n
    induction n with
    | zero=>intro _;rfl
    | succ n ih =>
      intro hn
      have e1:List.range (3*(n+1))=List.range (3*n)++[3*n,3*n+1,3*n+2]:=by
        rw [show 3*(n+1)=3*n+1+1+1 by omega,List.range_succ,List.range_succ,List.range_succ];simp
      have e2:ts.take (n+1)=ts.take n++[ts.getD n (0,0,0)]:=by
        rw [List.take_add_one,List.getElem?_eq_getElem (show n<ts.length by omega),List.getD,List.getElem?_eq_getElem (show n<ts.length by omega)];rfl
      have k0:=Ij (ts:=ts) (j:=n) (show 0<3 by decide)
      have k1:=Ij (ts:=ts) (j:=n) (show 1<3 by decide)
      have k2:=Ij (ts:=ts) (j:=n) (show 2<3 by decide)
      rw [e1,e2,List.map_append,ih (by omega)]
      unfold GB
      rw [List.flatMap_append]
      congr 1
      simp only [List.map_cons,List.map_nil,List.flatMap_cons,List.flatMap_nil,List.append_nil,KC]
      rw [show 3*n=3*n+0 by omega,k0,show 3*n+0+1=3*n+1 by omega,k1,show 3*n+0+2=3*n+2 by omega,k2]
      rfl
  have h:=key ts.length (Nat.le_refl _)
  rwa [List.take_length] at h
def S2 (ts:List T3) (k:P2):Nat:=(Az (CT ts (3*ts.length)) k).getD 0
theorem PL (k:P2):S2 ts k=(GB ts).count k:=by unfold S2;rw [Fi,Jp]
def H6 (ts:List T3) (i:Nat):List T3:=(((BS ts).take i).filter λe=>decide (S2 ts (e.a,e.b)=1)).map λe=>(e.a,e.b,0)
def Bl (ts:List T3):List T3:=H6 ts (BS ts).length
theorem TC {i:Nat} (hi:i<(BS ts).length) (h:S2 ts (((BS ts).getD i ⟨0,0,0,0⟩).a,((BS ts).getD i ⟨0,0,0,0⟩).b)=1):H6 ts (i+1)=H6 ts i++[(((BS ts).getD i ⟨0,0,0,0⟩).a,((BS ts).getD i ⟨0,0,0,0⟩).b,0)]:=by
  rw [List.getD,List.getElem?_eq_getElem hi] at h ⊢
  unfold H6
  rw [List.take_add_one,List.getElem?_eq_getElem hi,List.filter_append,List.map_append]
  simp only [Option.toList_some,Option.getD_some] at h ⊢
  rw [List.filter_cons,if_pos (decide_eq_true h)];rfl
theorem Vc {i:Nat} (hi:i<(BS ts).length) (h:¬S2 ts (((BS ts).getD i ⟨0,0,0,0⟩).a,((BS ts).getD i ⟨0,0,0,0⟩).b)=1):H6 ts (i+1)=H6 ts i:=by
  rw [List.getD,List.getElem?_eq_getElem hi] at h
  unfold H6
  rw [List.take_add_one,List.getElem?_eq_getElem hi,List.filter_append,List.map_append]
  simp only [Option.toList_some,Option.getD_some] at h ⊢
  rw [List.filter_cons,if_neg (by simpa using h)];simp
theorem I2 (i:Nat):(H6 ts i).length<=i:=by
  unfold H6
  rw [List.length_map]
  exact Nat.le_trans (List.length_filter_le _ _) (List.length_take_le _ _)
theorem Jq (hn:B8 N ts=true) (hN:N<=4611686018427387904) {a b:Nat}:(a,b)∈GB ts↔∃e∈BS ts,e.a=a/\e.b=b:=by
  rw [<-Jp,List.mem_map]
  constructor
  · rintro ⟨u,hu,hk⟩
    have hu:=List.mem_range.1 hu
    have hne:=Jl hn hu
    unfold KC Bz at hk
    injection hk with h1 h2
    have hlt:a<b:=by omega
    have hd:B5 ts u=(a,b)\/B5 ts u=(b,a):=by
      rcases Nat.lt_or_ge (B5 ts u).1 (B5 ts u).2 with h|h
      · exact .inl (Prod.ext (by omega) (by omega))
      · exact .inr (Prod.ext (by omega) (by omega))
    obtain ⟨i1,i2⟩:=Iz (λu hu=>Jl hn hu) _ (Nat.le_refl _)
    cases hg:Az (CJ ts (3*ts.length)) (a,b) with
    | none =>
      have h3:=i2 _ hg hlt u hu
      rcases hd with hd|hd
      · exact absurd hd h3.1
      · exact absurd hd h3.2
    | some e =>
      have h3:=i1 _ _ hg
      refine ⟨e,?_,h3.ea,h3.eb⟩
      unfold BS
      exact (DL _).mem_iff.2 (List.mem_map.2 ⟨_,Jo hg,rfl⟩)
  · rintro ⟨e,he,rfl,rfl⟩
    have h:=(Pm hn hN).1 he
    obtain ⟨u,hu,hs⟩:=h.some
    have hlt:=h.lt
    simp only at hlt hs
    refine ⟨u,List.mem_range.2 hu,?_⟩
    unfold KC Bz
    rcases hs with hs|hs<;>rw [hs]<;>exact Prod.ext (by simp only;omega) (by simp only;omega)
def V7 (x y:T3):Prop:=x.1<y.1\/(x.1=y.1/\x.2.1<y.2.1)
theorem V7.asymm (x y:T3) (h:V7 x y):¬V7 y x:=by unfold V7 at *;omega
theorem MH (hn:B8 N ts=true) (hN:N<=4611686018427387904):(Bl ts).Pairwise V7:=by
  unfold Bl H6
  rw [List.pairwise_map,List.take_length]
  exact (Jz hn hN).filter _
theorem SM (hn:B8 N ts=true) (hN:N<=4611686018427387904) {s:T3}:s∈Bl ts↔(GB ts).count (s.1,s.2.1)=1/\s.2.2=0:=by
  unfold Bl H6
  rw [List.take_length,List.mem_map]
  constructor
  · rintro ⟨e,he,rfl⟩
    obtain ⟨h1,h2⟩:=List.mem_filter.1 he
    exact ⟨by rw [<-PL];exact of_decide_eq_true h2,rfl⟩
  · rintro ⟨h1,h2⟩
    have hm:(s.1,s.2.1)∈GB ts:=List.count_pos_iff.1 (by omega)
    obtain ⟨e,he,ea,eb⟩:=(Jq hn hN).1 hm
    refine ⟨e,List.mem_filter.2 ⟨he,decide_eq_true (by rw [PL,ea,eb];exact h1)⟩,?_⟩
    exact Prod.ext ea (Prod.ext eb h2.symm)
end
end
section
abbrev E0:E4:=⟨0,0,0,0⟩
def FQ (N:Nat) (es:List E4):Nat->List (P2×Nat)
  | 0=>[]
  | i+1=>BL (FQ N es i) (Bz (es.getD i E0).a (es.getD i E0).b) (N+i)
def HQ (N:Nat) (es:List E4) (a b:Nat):Nat:=(Az (FQ N es es.length) (Bz a b)).getD 0
def XC (N:Nat) (es:List E4) (t:T3):List T3:=[(t.1,HQ N es t.1 t.2.1,HQ N es t.2.2 t.1),(HQ N es t.1 t.2.1,t.2.1,HQ N es t.2.1 t.2.2),(HQ N es t.2.2 t.1,HQ N es t.2.1 t.2.2,t.2.2),(HQ N es t.1 t.2.1,HQ N es t.2.1 t.2.2,HQ N es t.2.2 t.1)]
def JY (N:Nat) (es:List E4) (ts:List T3) (i:Nat):List T3:=(ts.take i).flatMap (XC N es)
def IX (N:Nat) (es:List E4) (ts:List T3):List T3:=ts.flatMap (XC N es)
def Ia (i:Nat):List Nat:=(List.range i).flatMap λt=>[t,t,t,t]
def E5 (N:Nat) (ss:List T3):Nat->List (P2×Nat)
  | 0=>[]
  | k+1=>if (ss.getD (ss.length-1-k) (0,0,0)).1<N/\(ss.getD (ss.length-1-k) (0,0,0)).2.1<N then BL (E5 N ss k) (Bz (ss.getD (ss.length-1-k) (0,0,0)).1 (ss.getD (ss.length-1-k) (0,0,0)).2.1) (ss.getD (ss.length-1-k) (0,0,0)).2.2 else E5 N ss k
def Dn (N:Nat) (ss:List T3) (es:List E4):Nat->List (P2×Nat)
  | 0=>E5 N ss ss.length
  | i+1=>BL (BL (Dn N ss es i) (Bz (es.getD i E0).a (N+i)) ((Az (Dn N ss es i) (Bz (es.getD i E0).a (es.getD i E0).b)).getD 0)) (Bz (es.getD i E0).b (N+i)) ((Az (Dn N ss es i) (Bz (es.getD i E0).a (es.getD i E0).b)).getD 0)
def TS (N:Nat) (ss:List T3) (es:List E4) (a b:Nat):Nat:=(Az (Dn N ss es es.length) (Bz a b)).getD 0
def Zj (ps:List Pt) (e:E4):Pt:=Bc (OP ps e.a+OP ps e.b) (1/2)
def KD (ps:List Pt) (es:List E4):Nat->List Pt
  | 0=>ps
  | i+1=>KD ps es i++[Zj ps (es.getD i E0)]
def RJ (ps:List Pt) (es:List E4):List Pt:=KD ps es es.length
def FK (N:Nat) (ss:List T3) (es:List E4) (rs:List T3) (i:Nat):List T3:=(rs.take i).map (λs=>(s.1,s.2.1,TS N ss es s.1 s.2.1))++rs.drop i
def TI (N:Nat) (ss:List T3) (es:List E4) (ts:List T3):List T3:=(Bl ts).map λs=>(s.1,s.2.1,TS N ss es s.1 s.2.1)
section
variable {N M i:Nat} {es:List E4} {ts:List T3} {t:T3} {ss rs:List T3} {ps:List Pt}
theorem BW {α:Type} {l:List α} {d:α} {i:Nat} (h:i<l.length):l.take (i+1)=l.take i++[l.getD i d]:=by
  rw [List.take_add_one,List.getElem?_eq_getElem h,List.getD,List.getElem?_eq_getElem h];rfl
theorem Qf (h:i<ts.length):JY N es ts (i+1)=JY N es ts i++XC N es (ts.getD i (0,0,0)):=by
  unfold JY
  rw [BW (d:=(0,0,0)) h,List.flatMap_append];simp
theorem Sf:JY N es ts ts.length=IX N es ts:=by unfold JY IX;rw [List.take_length]
theorem UH:(XC N es t).length=4:=rfl
theorem F_:(IX N es ts).length=4*ts.length:=by
  unfold IX
  induction ts with
  | nil=>rfl
  | cons t r ih=>rw [List.flatMap_cons,List.length_append,ih,UH,List.length_cons];omega
theorem SU:(JY N es ts i).length=4*(min i ts.length):=by
  have h:=F_ (N:=N) (es:=es) (ts:=ts.take i)
  rw [List.length_take] at h
  exact h
theorem KW:Ia (i+1)=Ia i++[i,i,i,i]:=by unfold Ia;rw [List.range_succ,List.flatMap_append];simp
theorem M9:(Ia i).length=4*i:=by
  induction i with
  | zero=>rfl
  | succ i ih=>rw [KW,List.length_append,ih];simp;omega
theorem JV:∀i,(KD ps es i).length=ps.length+i
  | 0=>rfl
  | i+1=>by rw [KD,List.length_append,JV i];rfl
theorem R8:FK N ss es rs rs.length=rs.map λs=>(s.1,s.2.1,TS N ss es s.1 s.2.1):=by unfold FK;simp
theorem Hg:(FK N ss es rs i).length=rs.length:=by unfold FK;simp;omega
theorem Mr (h:i<rs.length):(FK N ss es rs i).getD i (0,0,0)=rs.getD i (0,0,0):=by
  unfold FK
  rw [List.getD,List.getElem?_append_right (by simp;omega),List.length_map,List.length_take,Nat.min_eq_left (by omega),Nat.sub_self,List.getElem?_drop]
  rfl
theorem Qt (h:i<rs.length):(FK N ss es rs i).set i ((rs.getD i (0,0,0)).1,(rs.getD i (0,0,0)).2.1,TS N ss es (rs.getD i (0,0,0)).1 (rs.getD i (0,0,0)).2.1)=FK N ss es rs (i+1):=by
  unfold FK
  rw [BW (d:=(0,0,0)) h,List.map_append,List.set_append_right _ _ (by simp;omega),List.length_map,List.length_take,Nat.min_eq_left (by omega),Nat.sub_self,Dq (d:=(0,0,0)) h,List.set_cons_zero,List.append_assoc]
  rfl
theorem P0 {v:Nat} (h:i<rs.length) (hv:v=TS N ss es (rs.getD i (0,0,0)).1 (rs.getD i (0,0,0)).2.1):(FK N ss es rs i).set i (((FK N ss es rs i).getD i (0,0,0)).1,((FK N ss es rs i).getD i (0,0,0)).2.1,v)=FK N ss es rs (i+1):=by
  rw [Mr h,hv];exact Qt h
theorem Tq {k:Nat} (h:(ss.getD (ss.length-1-k) (0,0,0)).1<N/\(ss.getD (ss.length-1-k) (0,0,0)).2.1<N):BL (E5 N ss k) (Bz (ss.getD (ss.length-1-k) (0,0,0)).1 (ss.getD (ss.length-1-k) (0,0,0)).2.1) (ss.getD (ss.length-1-k) (0,0,0)).2.2=E5 N ss (k+1):=by
  rw [E5,if_pos h]
theorem VL {k:Nat} (h:¬((ss.getD (ss.length-1-k) (0,0,0)).1<N/\(ss.getD (ss.length-1-k) (0,0,0)).2.1<N)):E5 N ss k=E5 N ss (k+1):=by
  rw [E5,if_neg h]
theorem He (hes:∀e∈es,e.a<N/\e.b<N) (hN:N<=4611686018427387904):∀i,i<=es.length->G3 Li (FQ N es i)
  | 0,_=>G3.nil
  | i+1,h=>by
    have h1:=hes (es.getD i E0) (by rw [List.getD,List.getElem?_eq_getElem (show i<es.length by omega)];exact List.getElem_mem _)
    exact (He hes hN i (by omega)).put (BV (by omega) (by omega))
theorem Ik (hN:N<=4611686018427387904):∀k,G3 Li (E5 N ss k)
  | 0=>G3.nil
  | k+1=>by
    unfold E5
    split
    · rename_i h;exact (Ik hN k).put (BV (by omega) (by omega))
    · exact Ik hN k
theorem G5 (hes:∀e∈es,e.a<N/\e.b<N) (hN:N+es.length<=4611686018427387904):∀i,i<=es.length->G3 Li (Dn N ss es i)
  | 0,_=>Ik (by omega) _
  | i+1,h=>by
    have h1:=hes (es.getD i E0) (by rw [List.getD,List.getElem?_eq_getElem (show i<es.length by omega)];exact List.getElem_mem _)
    exact ((G5 hes hN i (by omega)).put (BV (by omega) (by omega))).put (BV (by omega) (by omega))
theorem Hz (hn:B8 N ts=true) (hN:N<=4611686018427387904) {e:E4} (he:e∈BS ts):e.a<e.b/\e.b<N:=by
  have h:=(Pm hn hN).1 he
  obtain ⟨u,hu,hs⟩:=h.some
  have h2:=On hn hu
  have hlt:=h.lt
  simp only at hlt hs
  rcases hs with hs|hs<;>rw [hs] at h2<;>simp only at h2<;>omega
theorem Dz (hn:B8 N ts=true) (hN:N<=4611686018427387904):∀e∈BS ts,e.a<N/\e.b<N:=λe he=>by
  have:=Hz hn hN he;omega
theorem Pb (hn:B8 N ts=true) (hN:N<=4611686018427387904) {s:T3} (hs:s∈Bl ts):s.1<N/\s.2.1<N:=by
  unfold Bl H6 at hs
  rw [List.take_length,List.mem_map] at hs
  obtain ⟨e,he,rfl⟩:=hs
  exact Dz hn hN e (List.mem_filter.1 he).1
theorem Mx (hs:es.Pairwise Xi) (hl:∀e∈es,e.a<e.b) {j:Nat}:∀i,i<=es.length->j<i->Az (FQ N es i) ((es.getD j E0).a,(es.getD j E0).b)=some (N+j)
  | 0,_,h=>absurd h (Nat.not_lt_zero _)
  | i+1,hi,hj=>by
    have m:∀k,k<es.length->es.getD k E0∈es:=λk hk=>by rw [List.getD,List.getElem?_eq_getElem hk];exact List.getElem_mem _
    have k1:Bz (es.getD i E0).a (es.getD i E0).b=((es.getD i E0).a,(es.getD i E0).b):=by
      have:=hl _ (m i (by omega));unfold Bz;exact Prod.ext (by simp only;omega) (by simp only;omega)
    rw [FQ,Cx,k1]
    rcases Nat.lt_or_ge j i with h|h
    · have h2:Xi (es.getD j E0) (es.getD i E0):=by
        rw [List.getD,List.getD,List.getElem?_eq_getElem (show j<es.length by omega),List.getElem?_eq_getElem (show i<es.length by omega)]
        exact List.pairwise_iff_getElem.1 hs j i (by omega) (by omega) h
      rw [if_neg (λe=>by injection e with e1 e2;unfold Xi at h2;omega)]
      exact Mx hs hl i (by omega) h
    · rw [show j=i by omega,if_pos rfl]
theorem Hw (hn:B8 N ts=true) (hN:N<=4611686018427387904) {a b:Nat} (h:Bz a b∈GB ts):∃j,j<(BS ts).length/\((BS ts).getD j E0).a=min a b/\((BS ts).getD j E0).b=max a b/\HQ M (BS ts) a b=M+j:=by
  obtain ⟨e,he,ea,eb⟩:=(Jq hn hN (a:=min a b) (b:=max a b)).1 h
  obtain ⟨j,hj,hje⟩:=List.getElem_of_mem he
  have hd:(BS ts).getD j E0=e:=by rw [List.getD,List.getElem?_eq_getElem hj,hje];rfl
  refine ⟨j,hj,by rw [hd];exact ea,by rw [hd];exact eb,?_⟩
  have h1:=Mx (N:=M) (Jz hn hN) (λe he=>(Hz hn hN he).1) _ (Nat.le_refl _) hj
  rw [hd,ea,eb] at h1
  unfold HQ Bz
  rw [h1];rfl
theorem Vj {t:T3} (h:t∈ts):Bz t.1 t.2.1∈GB ts/\Bz t.2.1 t.2.2∈GB ts/\Bz t.2.2 t.1∈GB ts:=by
  unfold GB
  refine ⟨List.mem_flatMap.2 ⟨t,h,?_⟩,List.mem_flatMap.2 ⟨t,h,?_⟩,List.mem_flatMap.2 ⟨t,h,?_⟩⟩<;>simp
theorem QH (hn:B8 N ts=true) (hN:N<=4611686018427387904) (ht:t∈ts) {c:T3} (hc:c∈XC N (BS ts) t):L3 (N+(BS ts).length) c=true:=by
  have h0:=List.all_eq_true.1 hn t ht
  obtain ⟨l1,l2,l3⟩:=FB h0
  obtain ⟨n1,n2,n3⟩:=Lb h0
  obtain ⟨k1,k2,k3⟩:=Vj ht
  obtain ⟨x,hx,x1,x2,hx3⟩:=Hw (M:=N) hn hN k1
  obtain ⟨y,hy,y1,y2,hy3⟩:=Hw (M:=N) hn hN k2
  obtain ⟨z,hz,z1,z2,hz3⟩:=Hw (M:=N) hn hN k3
  have hxy:x≠y:=λe=>by subst e;omega
  have hyz:y≠z:=λe=>by subst e;omega
  have hzx:z≠x:=λe=>by subst e;omega
  unfold XC at hc
  simp only [List.mem_cons,List.not_mem_nil,or_false,hx3,hy3,hz3] at hc
  simp only [L3,Bool.and_eq_true,Bool.not_eq_true',decide_eq_false_iff_not,decide_eq_true_eq]
  rcases hc with rfl|rfl|rfl|rfl<;>dsimp only<;>omega
theorem TG (hn:B8 N ts=true) (hN:N<=4611686018427387904):B8 (N+(BS ts).length) (IX N (BS ts) ts)=true:=List.all_eq_true.2 λc hc=>by
  obtain ⟨t,ht,hc⟩:=List.mem_flatMap.1 hc
  exact QH hn hN ht hc
end
end
section
set_option maxRecDepth 100000
theorem Mq (p:Option Addr) (n cp:Nat) (h:n<=cp) (w:World)  :Calls Tryz.prog 55 #[(Value.slice p n cp)] w (Ai w (Value.slice p n n)):=by
 refine AZ (args:=[(Value.slice p n cp)]) Tryz.func55 rfl rfl (AK rfl) (OkC.subF (sL [0] rfl) (q4 (asg' rfl (OkL.nil (q2 (AO rfl (AO rfl (AG (v:=(vN n)) (AD rfl Tryz.underlying28) rfl (AO rfl (AG (v:=(vN n)) (AD rfl Tryz.underlying28) rfl (AG (v:=(Value.slice p n n)) (Dr (m:=n) rfl rfl rfl Tryz.underlying28 Tryz.sizeOf99 (by omega)) rfl ?_)))))))))))
 exact asg' rfl (OkL.nil (OkQ.subF (sL [2] rfl) (OkQ.then_ (OkC.ret (ret_one rfl (rd_tmp (v:=(Value.slice p n n)) rfl) (λw hw=>⟨rfl,hw.out⟩))))))
theorem Ko (ts:List Pt) (x:RX (rowsL BC ts) ts.length) (hl:ts.length<=1000000000) (w:World) {S:Nat->Prop} (hx:Ro S w x):Calls Tryz.prog 51 #[(Value.slice x.p ts.length x.c)] w (DJ Tx (NC (T:=99) (z:=10) (cs:=rowsL BC ts) (n:=ts.length)) S w):=by
 have lx:=CU (W:=w) hx
 refine Aa (args:=[(Value.slice x.p ts.length x.c)]) (L:=[AF x.p (rowsL BC ts)]) Tryz.func51 rfl rfl (AK rfl) (Ee hx Al) (OkC.subF (sL [0] rfl) (q4 (asg' rfl (OkL.nilRow 99 10 (OkL.nil (q1 (q4 (AO rfl (AG (v:=(Value.bool x.p.isNone)) (Gx rfl rfl Tryz.underlying28) rfl (OkL.nil (OkQ.subF (sL [0,2,4] rfl) ?_)))))))))))
 refine OkQ.then_ ?_
 refine OkC.cond rfl (λhc0=>?_) (λhc0=>?_)
 ·skip
  have hts:ts=[]:=List.eq_nil_of_length_eq_zero (x.ok.nil (Option.isNone_iff_eq_none.1 hc0)).1
  exact q4 (asg' rfl (OkL.nilRow 99 10 (OkL.nil (OkQ.then_ (OkC.ret (OkQ.then_ret (ret_one rfl (rd_tmp (v:=(Value.slice none 0 0)) rfl) (λw hw=>(by subst hts;exact J7 hw (OX.mk none 0 OwnOk.none) (by exact (sk (sl (sl sr)))) (G0.own rfl G0.nil) (by show Value.slice none 0 0=_;rfl))))))))))
 ·skip
  exact OkC.skip (q2 (OkL.openV (V:=λb1=>(Value.slice (some ⟨b1,0,none⟩) 0 0)) (T:=99) (cs:=[]) (AP rfl) (GL Tryz.underlying28 Tryz.sizeOf99) rfl (AK rfl) λb1=>OkL.asRow0 (z:=10) 0 rfl (by omega) λho_b1=>AO rfl (OkL.appendE0 Vt rfl ho_b1 rfl (Lh (k:=2) rfl x.ok) (Ab Bk _) (C1 UY _) (HL (by omega)) (by omega) rfl λp_1 c_1 ho_1=>asg' rfl (OkL.nil (OkQ.subF (sL [0,2] rfl) (OkQ.then_ (OkC.ret (ret_one rfl (rd_tmp (v:=(Value.slice p_1 ts.length c_1)) rfl) (λw hw=>(J7 hw (OX.mk p_1 c_1 ho_1) (sk (sl (sl sr))) (G0.own rfl G0.nil) rfl))))))))))
theorem NE (p:Option Addr) (n cp:Nat) (h:n<=cp) (w:World)  :Calls Tryz.prog 52 #[(Value.slice p n cp)] w (Ai w (Value.slice p n n)):=by
 refine AZ (args:=[(Value.slice p n cp)]) Tryz.func52 rfl rfl (AK rfl) (OkC.subF (sL [0] rfl) (q4 (asg' rfl (OkL.nil (q2 (AO rfl (AO rfl (AG (v:=(vN n)) (AD rfl Tryz.underlying23) rfl (AO rfl (AG (v:=(vN n)) (AD rfl Tryz.underlying23) rfl (AG (v:=(Value.slice p n n)) (Dr (m:=n) rfl rfl rfl Tryz.underlying23 Tryz.sizeOf105 (by omega)) rfl ?_)))))))))))
 exact asg' rfl (OkL.nil (OkQ.subF (sL [2] rfl) (OkQ.then_ (OkC.ret (ret_one rfl (rd_tmp (v:=(Value.slice p n n)) rfl) (λw hw=>⟨rfl,hw.out⟩))))))
theorem Qk (ts:List T3) (x:RX (rowsL Aq ts) ts.length) (hl:ts.length<=1000000000) (w:World) {S:Nat->Prop} (hx:Ro S w x):Calls Tryz.prog 53 #[(Value.slice x.p ts.length x.c)] w (DJ Tx (NC (T:=105) (z:=3) (cs:=rowsL Aq ts) (n:=ts.length)) S w):=by
 have lx:=CU (W:=w) hx
 refine Aa (args:=[(Value.slice x.p ts.length x.c)]) (L:=[AF x.p (rowsL Aq ts)]) Tryz.func53 rfl rfl (AK rfl) (Ee hx Al) (OkC.subF (sL [0] rfl) (q4 (asg' rfl (OkL.nilRow 105 3 (OkL.nil (q1 (q4 (AO rfl (AG (v:=(Value.bool x.p.isNone)) (Gx rfl rfl Tryz.underlying23) rfl (OkL.nil (OkQ.subF (sL [0,2,4] rfl) ?_)))))))))))
 refine OkQ.then_ ?_
 refine OkC.cond rfl (λhc0=>?_) (λhc0=>?_)
 ·skip
  have hts:ts=[]:=List.eq_nil_of_length_eq_zero (x.ok.nil (Option.isNone_iff_eq_none.1 hc0)).1
  exact q4 (asg' rfl (OkL.nilRow 105 3 (OkL.nil (OkQ.then_ (OkC.ret (OkQ.then_ret (ret_one rfl (rd_tmp (v:=(Value.slice none 0 0)) rfl) (λw hw=>(by subst hts;exact J7 hw (OX.mk none 0 OwnOk.none) (by exact (sk (sl (sl sr)))) (G0.own rfl G0.nil) (by show Value.slice none 0 0=_;rfl))))))))))
 ·skip
  exact OkC.skip (q2 (OkL.openV (V:=λb1=>(Value.slice (some ⟨b1,0,none⟩) 0 0)) (T:=105) (cs:=[]) (AP rfl) (GL Tryz.underlying23 Tryz.sizeOf105) rfl (AK rfl) λb1=>OkL.asRow0 (z:=3) 0 rfl (by omega) λho_b1=>AO rfl (OkL.appendE0 N9 rfl ho_b1 rfl (Lh (k:=2) rfl x.ok) (Ab BF _) (C1 VR _) (HL (by omega)) (by omega) rfl λp_1 c_1 ho_1=>asg' rfl (OkL.nil (OkQ.subF (sL [0,2] rfl) (OkQ.then_ (OkC.ret (ret_one rfl (rd_tmp (v:=(Value.slice p_1 ts.length c_1)) rfl) (λw hw=>(J7 hw (OX.mk p_1 c_1 ho_1) (sk (sl (sl sr))) (G0.own rfl G0.nil) rfl))))))))))
theorem Sj (p:Option Addr) (n cp:Nat) (h:n<=cp) (w:World)  :Calls Tryz.prog 102 #[(Value.slice p n cp)] w (Ai w (Value.slice p n n)):=by
 refine AZ (args:=[(Value.slice p n cp)]) Tryz.func102 rfl rfl (AK rfl) (OkC.subF (sL [0] rfl) (q4 (asg' rfl (OkL.nil (q2 (AO rfl (AO rfl (AG (v:=(vN n)) (AD rfl Tryz.underlying24) rfl (AO rfl (AG (v:=(vN n)) (AD rfl Tryz.underlying24) rfl (AG (v:=(Value.slice p n n)) (Dr (m:=n) rfl rfl rfl Tryz.underlying24 Tryz.sizeOf110 (by omega)) rfl ?_)))))))))))
 exact asg' rfl (OkL.nil (OkQ.subF (sL [2] rfl) (OkQ.then_ (OkC.ret (ret_one rfl (rd_tmp (v:=(Value.slice p n n)) rfl) (λw hw=>⟨rfl,hw.out⟩))))))
theorem IY (x0 x1:Nat):Instr.fill (λi=>some (i*1,1)) (Ef ((0,0):P2)).toArray [(0,vN x0),(1,vN x1)]=some (Ef (x0,x1)).toArray:=by kernel_rfl
theorem Cl (a b:Nat) (w:World)  :Calls Tryz.prog 44 #[(vN a),(vN b)] w (Ai w (aG (Ef (min a b,max a b)))):=by
 refine AZ (args:=[(vN a),(vN b)]) Tryz.func44 rfl rfl (AK rfl) (OkC.subF (sL [0,1] rfl) (q4 (al YE rfl λb1=>OkL.nil (q2 (AO rfl (AO rfl (AG (DI (c:=((min a b:Nat):Int)) rfl rfl (by split<;>omega)) rfl (AO rfl (AO rfl (AG (DH (c:=((max a b:Nat):Int)) rfl rfl (by split<;>omega)) rfl ?_))))))))))
 exact AG (v:=(aG (Ef (min a b,max a b)))) (Br (zs:=Ef ((0,0):P2)) (vs:=Ef (min a b,max a b)) (pv:=[(0,(vN (min a b))),(1,(vN (max a b)))]) Tryz.zeroValue114 Tryz.underlying114 Tryz.sizeOf3 rfl (IY (min a b) (max a b))) rfl (Ay rfl Tryz.sizeOf114 rfl (OkL.nil (OkQ.subF (sL [4] rfl) (OkQ.then_ (OkC.ret (ret_one rfl (Aj (i:=0) (cs:=Ef (min a b,max a b)) rfl rfl Tryz.isAgg114 Tryz.sizeOf114 rfl) (λw hw=>⟨rfl,hw.out⟩)))))))
end
section
theorem S_ (a b:T3):(((a.1:Int) == (b.1:Int))&&(((a.2.1:Int) == (b.2.1:Int))&&(((a.2.2:Int) == (b.2.2:Int))&&true)))=decide (a=b):=by
  obtain ⟨a1,a2,a3⟩:=a
  obtain ⟨b1,b2,b3⟩:=b
  rw [Bool.eq_iff_iff]
  simp
  constructor<;>(rintro ⟨h1,h2,h3⟩;refine ⟨?_,?_,?_⟩<;>omega)
theorem Ww (D:Nat) (a b:T3):ER Tryz.prog (D+2) 105 (.agg (Aq a).toArray) (.agg (Aq b).toArray) (decide (a=b)):=by
  rw [<-S_]
  exact ER.array Tryz.underlying105 NT Kz (O5.one Tryz.isAgg3 rfl rfl (ER.int Tryz.underlying3) (O5.one Tryz.isAgg3 rfl rfl (ER.int Tryz.underlying3) (O5.one Tryz.isAgg3 rfl rfl (ER.int Tryz.underlying3) O5.nil)))
theorem Rb (D:Nat) (a b:T3):ER Tryz.prog (D+2) 110 (.agg (Aq a).toArray) (.agg (Aq b).toArray) (decide (a=b)):=by
  rw [<-S_]
  exact ER.struct Tryz.underlying110 Tryz.stoodInHeld110 (Hu.one (by decide) Tryz.isAgg3 rfl rfl (ER.int Tryz.underlying3) (Hu.one (by decide) Tryz.isAgg3 rfl rfl (ER.int Tryz.underlying3) (Hu.one (by decide) Tryz.isAgg3 rfl rfl (ER.int Tryz.underlying3) Hu.nil)))
theorem NI (D:Nat) {a b:T3} (h:a=b):ER Tryz.prog (D+2) 105 (.agg (Aq a).toArray) (.agg (Aq b).toArray) true:=by
  have:=Ww D a b;rwa [decide_eq_true h] at this
theorem Gz (D:Nat) {a b:T3} (h:a=b):ER Tryz.prog (D+2) 110 (.agg (Aq a).toArray) (.agg (Aq b).toArray) true:=by
  have:=Rb D a b;rwa [decide_eq_true h] at this
theorem H1 (b n:Nat):Ak (some ⟨b,0,none⟩) n n:=⟨λe=>(by cases e),λa e=>(by injection e with e;subst e;rfl),Nat.le_refl _⟩
theorem W9 {ps:List Pt} {k:Nat} (h:(ps.all λp=>decide (D9 p<=k))=true) (h0:D9 (⟨0,0⟩:Pt)<=k) (i:Nat):D9 (OP ps i)<=k:=by
  unfold OP
  rcases Nat.lt_or_ge i ps.length with hi|hi
  · rw [List.getD,List.getElem?_eq_getElem hi]
    exact of_decide_eq_true (List.all_eq_true.1 h _ (List.getElem_mem hi))
  · rw [List.getD,List.getElem?_eq_none hi];exact h0
section
variable {P:Program} {ops:Array Oper} {rest:List Oper} {Q:Exit->Act->World->Prop} {n:Nat} {F:List (Nat×Value)} {w0:A_} {S:Nat->Prop} {L:List As} {ps:List Pt} {ts ss:List T3}
theorem N7 {w:World} {i b:Nat} {T:TypeId} {cs:List Value} (hw:BB w0 w L) (hi:L[i]?=some (AX b T cs)) (hex:w0.ex=none):w0.w.heap.size<=b:=by
  rcases (hw.2.1 _ (List.mem_of_getElem? hi) b rfl).1 with h1|h1|h1
  · cases h1
  · exact h1
  · rw [hex] at h1;cases h1
theorem OkL.litM {b1 b2 b3 U1 U2 U3:Nat} {cs1 cs2 cs3:List Value} (LL:MX ps ts ss->List As) (i j k:Nat) (hn:i≠j/\i≠k/\j≠k) (h1:L[i]?=some (AX b1 U1 cs1)) (h2:L[j]?=some (AX b2 U2 cs2)) (h3:L[k]?=some (AX b3 U3 cs3)) (hex:w0.ex=none)
    (e:(cs1,cs2,cs3)=(rowsL BC ps,rowsL Aq ts,rowsL Aq ss))
    (hL:((L.set i (AF (some ⟨b1,0,none⟩) cs1)).set j (AF (some ⟨b2,0,none⟩) cs2)).set k (AF (some ⟨b3,0,none⟩) cs3)=LL ⟨⟨some ⟨b1,0,none⟩,ps.length,H1 _ _⟩,⟨some ⟨b2,0,none⟩,ts.length,H1 _ _⟩,⟨some ⟨b3,0,none⟩,ss.length,H1 _ _⟩⟩)
    (next:∀mm:MX ps ts ss,At w0 S mm->OkL P ops rest Q n F w0 (LL mm)):OkL P ops rest Q n F w0 L:=λa w ha hw=>by
  have n1:=N7 hw h1 hex
  have n2:=N7 hw h2 hex
  have n3:=N7 hw h3 hex
  have w1:=hw.freeze (x:=AX b1 U1 cs1) (y:=AF (some ⟨b1,0,none⟩) cs1) h1 rfl (λo hp=>GN hp) (λe=>by cases e)
  have w2:=w1.freeze (i:=j) (x:=AX b2 U2 cs2) (y:=AF (some ⟨b2,0,none⟩) cs2) (by rw [List.getElem?_set_ne hn.1];exact h2) rfl (λo hp=>GN hp) (λe=>by cases e)
  have w3:=w2.freeze (i:=k) (x:=AX b3 U3 cs3) (y:=AF (some ⟨b3,0,none⟩) cs3) (by rw [List.getElem?_set_ne hn.2.2,List.getElem?_set_ne hn.2.1];exact h3) rfl (λo hp=>GN hp) (λe=>by cases e)
  rw [hL] at w3
  refine next _ (λy hy b eb=>?_) a w ha w3
  have hy:y∈[AF (some ⟨b1,0,none⟩) (rowsL BC ps),AF (some ⟨b2,0,none⟩) (rowsL Aq ts),AF (some ⟨b3,0,none⟩) (rowsL Aq ss)]:=hy
  simp only [List.mem_cons,List.not_mem_nil,or_false] at hy
  rcases hy with rfl|rfl|rfl<;>(injection eb with eb;subst eb;exact .inl (by assumption))
end
theorem ZQ {α:Type} [Ci α] {w0:A_} {w:World} {S:Nat->Prop} {L:List As} (hw:BB w0 w L) (is:List Nat) {a:α} (hi:(is.map λi=>L[i]?)=(Ci.rows a).map some) (ha:At w0 S a):Ro (SL w0 S L) w a:=λy hy=>by
  have h1:some y∈(is.map λi=>L[i]?):=by rw [hi];exact List.mem_map.2 ⟨y,hy,rfl⟩
  obtain ⟨i,_,h2⟩:=List.mem_map.1 h1
  have hm:=List.mem_of_getElem? h2
  exact ⟨λb e=>(hw.2.1 y hm b e).2,λb e=>⟨⟨y,hm,Ci.ro a y hy,e⟩,ha y hy b e⟩⟩
end
def ZI (p q:Pt):Prop:=p.x<q.x\/(p.x=q.x/\p.y<q.y)
instance (p q:Pt):Decidable (ZI p q):=by unfold ZI;infer_instance
abbrev T2:=P2×P2×P2
section
def Xf (t:Nat×Nat×Nat) (p:Nat):Bool:=t.1 == p||t.2.1 == p||t.2.2 == p
section
variable {ps:List Pt} {ts:List (Nat×Nat×Nat)}
end
end
section
abbrev Q3:=Pt×Pt×Pt
def US (ps:List Pt) (t:T3):Q3:=(OP ps t.1,OP ps t.2.1,OP ps t.2.2)
def Yv (p q r:Pt):Bool:=decide (0<(IF p q r).num.sign)
def WY (p q:Pt) (B:Q3):Bool:=Yv p q B.1||Yv p q B.2.1||Yv p q B.2.2
def YA (A B:Q3):Bool:=!WY A.1 A.2.1 B||(!WY A.2.1 A.2.2 B||!WY A.2.2 A.1 B)
section
variable {P:Program} {ops:Array Oper} {rest:List Oper} {Q:Exit->Act->World->Prop} {n d i z m c:Nat} {F:List (Nat×Value)} {w0:A_} {L L':List As} {t ty T:TypeId} {p:String} {af:Array Edge} {x y:Operand} {cs vs:List Value} {q:Option Addr} {v:Value}
end
section
variable {P:Program} {n:Nat} {F:List (Nat×Value)} {w0:A_} {L:List As} {x:Operand} {d:Option Tmp} {t:TypeId} {p:String} {af:Array Edge} {g:Option (Nat×Bool)}
end
end

section
section
variable {ts:List T3} {ps:List Pt} {p:Int} {i:Nat}
end
end
section
def dt (a b:Pt):Rat:=a.x*b.y-a.y*b.x
section
variable {p q r s u w:Pt}
end
section
variable {a b c d e f u:Pt}
def Y_ (u:Pt) (k:Rat) (a b c d e f:Pt):Prop:=(k<=dt u a/\k<=dt u b/\k<=dt u c)/\dt u d<=k/\dt u e<=k/\dt u f<=k
end
end
section
abbrev M3:=List Pt×List T3×List T3
def ZB (M:M3):Prop:=M.1.length+(BS M.2.1).length<=4096/\4*M.2.1.length<=8192
instance (M:M3):Decidable (ZB M):=inferInstanceAs (Decidable (_/\_))
structure ZV (ps:List Pt) (ts ss:List T3) (e:Nat) where
  m:MX ps ts ss
instance {ps:List Pt} {ts ss:List T3} {e:Nat}:Ci (ZV ps ts ss e):=⟨λx=>.tuple #[aG (E6 x.m),vN e],λx=>Ci.rows x.m,λx y hy=>Ci.ro x.m y hy⟩
section
variable {P:Program} {ops:Array Oper} {rest:List Oper} {Q:Exit->Act->World->Prop} {n d:Nat} {F:List (Nat×Value)} {w0:A_} {S:Nat->Prop} {L:List As} {t:TypeId} {p:String} {af:Array Edge} {y:Operand} {f:FuncId} {xs:List Operand} {args:List Value} {tys:Array TypeId} {ps:List Pt} {ts ss:List T3} {e:Nat}
end
def Y9 (ts:List T3):List Value:=vI (-1)::vN 0::vN 1::rowsL Aq ts
structure MB (ps:List Pt) (ts ss:List T3) where
  a:RX (rowsL BC ps) ps.length
  b:RX (Y9 ts) (1+ts.length)
  c:RX (rowsL Aq ss) ss.length
def Zn {ps:List Pt} {ts ss:List T3} (x:MB ps ts ss):List Value:=[x.a.val,x.b.val,x.c.val]
theorem Xb {ps:List Pt} {ts ss:List T3} {x:MB ps ts ss} {y:As} (hy:y∈[x.a.row,x.b.row,x.c.row]):y.ro=true:=by
  simp only [List.mem_cons,List.not_mem_nil,or_false] at hy
  rcases hy with rfl|rfl|rfl<;>rfl
instance {ps:List Pt} {ts ss:List T3}:Ci (MB ps ts ss):=⟨λx=>aG (Zn x),λx=>[x.a.row,x.b.row,x.c.row],λx y hy=>Xb hy⟩
end
section
def Xr {α β:Type} (b:Nat) (enc:α->Value) (eV:β->Value) (kvs:List (α×β)):As:=⟨some b,λo=>o=.map (entsM enc eV kvs 0).toArray kvs.length,true⟩
section
variable {α β:Type} [DecidableEq α] {enc:α->Value} {eV:β->Value} {ok:α->Prop} {P:Program} {kt:TypeId} {n:Nat} {F:List (Nat×Value)} {w0:A_} {L:List As} {d:Option Tmp} {tx et t b:Nat} {pp:String} {af:Array Edge} {g:Option (Nat×Bool)} {mp kp:Operand}
end
def Tt (t:T3):P2:=Bz t.2.1 t.2.2
def Yo (ts:List T3) (ms:List Int) (k:P2):Prop:=∃z∈ms,0<=z/\z<(ts.length:Int)/\k=Tt (ts.getD z.toNat (0,0,0))
inductive XD (ts:List T3) (S:P2->Prop):P2->Prop
  | start {k:P2}:S k->XD ts S k
  | up {t:T3} {k:P2}:t∈ts->XD ts S k->(k=Bz t.1 t.2.1\/k=Bz t.2.2 t.1)->XD ts S (Tt t)
section
variable {ts:List T3} {ms:List Int} {i:Nat} {kvs:List (P2×Nat)}
end
structure HC (ts:List T3) (ms:List Int) where
  b:Nat
  kvs:List (P2×Nat)
  ok:G3 Li kvs
  one:∀k,Az kvs k=none\/Az kvs k=some 1
  all:∀k,Az kvs k=some 1↔XD ts (Yo ts ms) k
instance {ts:List T3} {ms:List Int}:Ci (HC ts ms):=⟨λx=>.map (some x.b),λx=>[Xr x.b FG vN x.kvs],λx y hy=>by rcases List.mem_singleton.1 hy with rfl;rfl⟩
structure DX (ts:List T3) (ms:List Int) where
  l:List E4
  r:RX (rowsL Bx l) l.length
  p:E4->Bool
  el:l=(BS ts).filter p
  all:∀e,p e=true↔XD ts (Yo ts ms) (e.a,e.b)
instance {ts:List T3} {ms:List Int}:Ci (DX ts ms):=⟨λx=>x.r.val,λx=>[x.r.row],λx y hy=>by rcases List.mem_singleton.1 hy with rfl;rfl⟩
end
section
def N8 (ts:List T3):Nat->List (P2×Nat)
  | 0=>[]
  | s+1=>BL (N8 ts s) (B5 ts s) (s/3)
section
variable {ts:List T3} {N t r s:Nat}
end
structure SX (ts:List T3) (o:Bool) where
  b:Nat
  kvs:List (P2×Nat)
  ok:G3 Li kvs
  fin:o=true->kvs=N8 ts (3*ts.length)
instance {ts:List T3} {o:Bool}:Ci (SX ts o):=⟨λx=>.tuple #[.map (some x.b),.bool o],λx=>[Xr x.b FG vN x.kvs],λx y hy=>by rcases List.mem_singleton.1 hy with rfl;rfl⟩
end
end Go.Proofs.YtpolhpjiahbidaaGreatDoor
