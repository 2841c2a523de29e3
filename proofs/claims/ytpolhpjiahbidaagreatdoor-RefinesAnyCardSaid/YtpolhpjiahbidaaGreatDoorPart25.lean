import Derived.Test.YtpolhpjiahbidaaGreatDoorPart05
import Derived.Test.YtpolhpjiahbidaaGreatDoorPart24
namespace Go.Proofs.YtpolhpjiahbidaaGreatDoor
open Go Go.RowKit Go.Proofs.Tryz
set_option linter.unusedVariables false
set_option linter.unusedSimpArgs false
section
theorem JP {α:Type} {R:α->α->Prop} (ha:∀x y,R x y->¬R y x) {l l':List α} (h:l.Pairwise R) (h':l'.Pairwise R) (hm:∀x,x∈l↔x∈l'):l=l':=by
  have nd:∀{l:List α},l.Pairwise R->l.Nodup:=λ{l} h=>h.imp λ{x y} hxy e=>by subst e;exact ha _ _ hxy hxy
  exact List.Perm.eq_of_pairwise (le:=R) (λx y _ _ h1 h2=>absurd h2 (ha x y h1)) h h' ((List.perm_ext_iff_of_nodup (nd h) (nd h')).2 hm)
abbrev T3:=Tq3
section
variable {ts ts':List T3} {N:Nat}
theorem L6 {t:T3} (h:La N t=true):t.1≠t.2.1/\t.2.1≠t.2.2/\t.2.2≠t.1:=by
  simp only [La,Bool.and_eq_true,Bool.not_eq_true',decide_eq_false_iff_not,decide_eq_true_eq] at h
  exact ⟨h.1.1.2,h.1.2,h.2⟩
theorem Jx (hn:Bn N ts=true) {u:Nat} (hu:u<3*ts.length):(B4 ts u).1≠(B4 ts u).2:=by
  obtain ⟨hab,hbc,hca⟩:=L6 (Dh hn (show u/3<ts.length by omega))
  have h3:u%3=0\/u%3=1\/u%3=2:=by omega
  unfold B4
  rcases h3 with h3|h3|h3<;>rw [h3]
  · exact hab
  · exact hbc
  · exact hca
theorem QG (hn:Bn N ts=true) {u:Nat} (hu:u<3*ts.length):(B4 ts u).1<N/\(B4 ts u).2<N:=by
  have h:=Dh hn (show u/3<ts.length by omega)
  exact ⟨Mk h _,Mk h _⟩
theorem Gu.uniq {s a b:Nat} {y z:Int} (h:Gu ts s a b y) (k:Gu ts s a b z):y=z:=by
  rcases h with ⟨h1,h2⟩|⟨u,h1,h2,h3,h4⟩<;>rcases k with ⟨k1,k2⟩|⟨v,k1,k2,k3,k4⟩
  · omega
  · exact absurd k3 (h2 v k1)
  · exact absurd h3 (k2 u h1)
  · rcases Nat.lt_trichotomy u v with h|h|h
    · exact absurd h3 (k4 u h)
    · rw [h2,k2,h]
    · exact absurd k3 (h4 v h)
theorem JF (hn:Bn N ts=true) (hN:N<=4611686018427387904) {e:E4}:e∈An ts↔Xl ts (3*ts.length) (e.a,e.b) e:=by
  have hd:∀u,u<3*ts.length->(B4 ts u).1≠(B4 ts u).2:=λu hu=>Jx hn hu
  refine ⟨λh=>VQ hn hN hd h,λh=>?_⟩
  obtain ⟨i1,i2⟩:=JC hd _ (Nat.le_refl _)
  cases hg:A7 (CO ts (3*ts.length)) (e.a,e.b) with
  | none =>
    obtain ⟨u,hu,hs⟩:=h.some
    have h3:=i2 _ hg h.lt u hu
    rcases hs with hs|hs
    · exact absurd hs h3.1
    · exact absurd hs h3.2
  | some e' =>
    have h3:=i1 _ _ hg
    have e1:e'=e:=by
      have a1:=h3.ea;have a2:=h3.eb;have a3:=h3.l.uniq h.l;have a4:=h3.r.uniq h.r
      cases e;cases e';simp only at a1 a2 a3 a4;subst a1 a2 a3 a4;rfl
    rw [e1] at hg
    unfold An
    exact (DV _).mem_iff.2 (List.mem_map.2 ⟨_,Jf hg,rfl⟩)
def QM (x y:E4):Prop:=x.a<y.a\/(x.a=y.a/\x.b<y.b)
theorem QM.asymm (x y:E4) (h:QM x y):¬QM y x:=by unfold QM at *;omega
theorem Fo (hn:Bn N ts=true) (hN:N<=4611686018427387904):(An ts).Pairwise QM:=by
  have h1:Li ((CO ts (3*ts.length)).map (·.2)):=Lh (FH hn hN _ (Nat.le_refl _)) (KW ts _)
  have h2:Li (An ts):=(List.Perm.pairwise_iff (R:=λx y:E4=>¬(x.a=y.a/\x.b=y.b)) (λh k=>h ⟨k.1.symm,k.2.symm⟩) (DV _)).2 h1
  exact (List.Pairwise.and (GX _) h2).imp λ{x y} h=>by
    have h3:=JK.1 h.1
    have h4:=h.2
    unfold QM
    omega
def OP (ts:List T3) (j a b:Nat):Prop:=∃r,r<3/\B4 ts (3*j+r)=(a,b)
def ZL (ts:List T3) (n a b:Nat) (z:Int):Prop:=(z = -1/\∀j,j<n->¬OP ts j a b)\/∃j,j<n/\z=(j:Int)/\OP ts j a b/\∀i,i<j->¬OP ts i a b
theorem Vp {n a b:Nat} {z:Int} (h:Gu ts (3*n) a b z):ZL ts n a b z:=by
  rcases h with ⟨h1,h2⟩|⟨u,h1,h2,h3,h4⟩
  · exact .inl ⟨h1,λj hj ⟨r,hr,k⟩=>h2 _ Z k⟩
  · exact .inr ⟨u/3,Z,h2,⟨u%3,Z,by rw [show 3*(u/3)+u%3=u by omega];exact h3⟩,λi hi ⟨r,hr,k⟩=>h4 _ Z k⟩
theorem Mv {n a b:Nat} {z:Int} (h:ZL ts n a b z):Gu ts (3*n) a b z:=by
  rcases h with ⟨h1,h2⟩|⟨j,h1,h2,⟨r,hr,h3⟩,h4⟩
  · exact .inl ⟨h1,λu hu k=>h2 (u/3) Z ⟨u%3,Z,by rw [show 3*(u/3)+u%3=u by omega];exact k⟩⟩
  · have key:∀m,m<=3->(∀q,q<m->B4 ts (3*j+q)≠(a,b))\/∃q,q<m/\B4 ts (3*j+q)=(a,b)/\∀p,p<q->B4 ts (3*j+p)≠(a,b):=by
      intro m
      induction m with
      | zero=>intro _;exact .inl λq hq=>absurd hq (Nat.not_lt_zero _)
      | succ m ih =>
        intro hm
        rcases ih Z with h|⟨q,h5,h6,h7⟩
        · by_cases k:B4 ts (3*j+m)=(a,b)
          · exact .inr ⟨m,Z,k,h⟩
          · refine .inl λq hq=>?_
            rcases Nat.lt_or_ge q m with h8|h8
            · exact h q h8
            · rw [show q=m by omega];exact k
        · exact .inr ⟨q,Z,h6,h7⟩
    rcases key 3 (Nat.le_refl _) with k|⟨q,h5,h6,h7⟩
    · exact absurd h3 (k r hr)
    · refine .inr ⟨3*j+q,Z,by rw [h2];congr 1;omega,h6,λv hv k=>?_⟩
      rcases Nat.lt_or_ge v (3*j) with h8|h8
      · exact h4 (v/3) Z ⟨v%3,Z,by rw [show 3*(v/3)+v%3=v by omega];exact k⟩
      · exact h7 (v-3*j) Z (by rw [show 3*j+(v-3*j)=v by omega];exact k)
structure NB (ts ts':List T3):Prop where
  len:ts.length=ts'.length
  way:∀j,j<ts.length->∀a b,OP ts j a b↔OP ts' j a b
theorem NB.symm (h:NB ts ts'):NB ts' ts:=⟨h.len.symm,λj hj a b=>(h.way j (by rw [h.len];exact hj) a b).symm⟩
theorem NB.fst (h:NB ts ts') {a b:Nat} {z:Int} (k:Gu ts (3*ts.length) a b z):Gu ts' (3*ts'.length) a b z:=by
  rw [<-h.len]
  refine Mv ?_
  rcases Vp k with ⟨h1,h2⟩|⟨j,h1,h2,h3,h4⟩
  · exact .inl ⟨h1,λj hj k=>h2 j hj ((h.way j hj a b).2 k)⟩
  · exact .inr ⟨j,h1,h2,(h.way j h1 a b).1 h3,λi hi k=>h4 i hi ((h.way i Z a b).2 k)⟩
theorem E6 {j r:Nat} (hr:r<3):B4 ts (3*j+r)=(Gy (ts.getD j (0,0,0)) r,Gy (ts.getD j (0,0,0)) ((r+1)%3)):=by
  unfold B4
  rw [show (3*j+r)/3=j by omega,show (3*j+r)%3=r by omega]
def Kw (ts:List T3) (u:Nat):P2:=Bw (B4 ts u).1 (B4 ts u).2
def Cb (ts:List T3):Nat->List (P2×Nat)
  | 0=>[]
  | s+1=>BN (Cb ts s) (Kw ts s) ((A7 (Cb ts s) (Kw ts s)).getD 0+1)
def FD (ts:List T3):List P2:=ts.flatMap λt=>[Bw t.1 t.2.1,Bw t.2.1 t.2.2,Bw t.2.2 t.1]
theorem Fs (k:P2):∀s,(A7 (Cb ts s) k).getD 0=((List.range s).map (Kw ts)).count k
  | 0=>rfl
  | s+1=>by
    rw [Cb,C1,List.range_succ,List.map_append,List.count_append,List.map_singleton,List.count_singleton]
    by_cases h:k=Kw ts s
    · subst h
      rw [if_pos rfl,Option.getD_some,Fs _ s];simp
    · rw [if_neg h,Fs k s,if_neg (by simpa using λe=>h e.symm)];rfl
theorem IT {t i:Nat} (hi:i<3):Cb ts (3*t+i+1)=BN (Cb ts (3*t+i)) (Bw (Gy (ts.getD t (0,0,0)) i) (Gy (ts.getD t (0,0,0)) ((i+1)%3))) ((A7 (Cb ts (3*t+i)) (Bw (Gy (ts.getD t (0,0,0)) i) (Gy (ts.getD t (0,0,0)) ((i+1)%3)))).getD 0+1):=by
  rw [Cb]
  unfold Kw
  rw [E6 hi]
theorem Mj (s:Nat) (k:P2):(A7 (Cb ts s) k).getD 0<=s:=by
  rw [Fs]
  exact Nat.le_trans List.count_le_length (by simp)
theorem Ez (hn:Bn N ts=true) (hN:N<=4611686018427387904):∀s,s<=3*ts.length->Hi Ml (Cb ts s)
  | 0,_=>Hi.nil
  | s+1,hs=>by
    obtain ⟨h1,h2⟩:=QG hn (show s<3*ts.length by omega)
    exact (Ez hn hN s Z).put (BQ (Nat.lt_of_lt_of_le h1 hN) (Nat.lt_of_lt_of_le h2 hN))
theorem JT:(List.range (3*ts.length)).map (Kw ts)=FD ts:=by
  have key:∀n,n<=ts.length->(List.range (3*n)).map (Kw ts)=FD (ts.take n):=by
    intro n
    induction n with
    | zero=>intro _;rfl
    | succ n ih =>
      intro hn
      have e1:List.range (3*(n+1))=List.range (3*n)++[3*n,3*n+1,3*n+2]:=by
        rw [show 3*(n+1)=3*n+1+1+1 by omega,List.range_succ,List.range_succ,List.range_succ];simp
      have e2:ts.take (n+1)=ts.take n++[ts.getD n (0,0,0)]:=by
        rw [List.take_add_one,List.getElem?_eq_getElem (show n<ts.length by omega),List.getD,List.getElem?_eq_getElem (show n<ts.length by omega)];rfl
      have k0:=E6 (ts:=ts) (j:=n) (show 0<3 by decide)
      have k1:=E6 (ts:=ts) (j:=n) (show 1<3 by decide)
      have k2:=E6 (ts:=ts) (j:=n) (show 2<3 by decide)
      rw [e1,e2,List.map_append,ih Z]
      unfold FD
      rw [List.flatMap_append]
      congr 1
      simp only [List.map_cons,List.map_nil,List.flatMap_cons,List.flatMap_nil,List.append_nil,Kw]
      rw [show 3*n=3*n+0 by omega,k0,show 3*n+0+1=3*n+1 by omega,k1,show 3*n+0+2=3*n+2 by omega,k2]
      rfl
  have h:=key ts.length (Nat.le_refl _)
  rwa [List.take_length] at h
def Tn (ts:List T3) (k:P2):Nat:=(A7 (Cb ts (3*ts.length)) k).getD 0
theorem Qd (k:P2):Tn ts k=(FD ts).count k:=by unfold Tn;rw [Fs,JT]
def IG (ts:List T3) (i:Nat):List T3:=(((An ts).take i).filter λe=>decide (Tn ts (e.a,e.b)=1)).map λe=>(e.a,e.b,0)
def Bl (ts:List T3):List T3:=IG ts (An ts).length
theorem Sx {i:Nat} (hi:i<(An ts).length) (h:Tn ts (((An ts).getD i ⟨0,0,0,0⟩).a,((An ts).getD i ⟨0,0,0,0⟩).b)=1):IG ts (i+1)=IG ts i++[(((An ts).getD i ⟨0,0,0,0⟩).a,((An ts).getD i ⟨0,0,0,0⟩).b,0)]:=by
  rw [List.getD,List.getElem?_eq_getElem hi] at h ⊢
  unfold IG
  rw [List.take_add_one,List.getElem?_eq_getElem hi,List.filter_append,List.map_append]
  simp only [Option.toList_some,Option.getD_some] at h ⊢
  rw [List.filter_cons,if_pos (decide_eq_true h)];rfl
theorem VF {i:Nat} (hi:i<(An ts).length) (h:¬Tn ts (((An ts).getD i ⟨0,0,0,0⟩).a,((An ts).getD i ⟨0,0,0,0⟩).b)=1):IG ts (i+1)=IG ts i:=by
  rw [List.getD,List.getElem?_eq_getElem hi] at h
  unfold IG
  rw [List.take_add_one,List.getElem?_eq_getElem hi,List.filter_append,List.map_append]
  simp only [Option.toList_some,Option.getD_some] at h ⊢
  rw [List.filter_cons,if_neg (by simpa using h)];simp
theorem J4 (i:Nat):(IG ts i).length<=i:=by
  unfold IG
  rw [List.length_map]
  exact Nat.le_trans (List.length_filter_le _ _) (List.length_take_le _ _)
theorem Hm (hn:Bn N ts=true) (hN:N<=4611686018427387904) {a b:Nat}:(a,b)∈FD ts↔∃e∈An ts,e.a=a/\e.b=b:=by
  rw [<-JT,List.mem_map]
  constructor
  · rintro ⟨u,hu,hk⟩
    have hu:=List.mem_range.1 hu
    have hne:=Jx hn hu
    unfold Kw Bw at hk
    injection hk with h1 h2
    have hlt:a<b:=by omega
    have hd:B4 ts u=(a,b)\/B4 ts u=(b,a):=by
      rcases Nat.lt_or_ge (B4 ts u).1 (B4 ts u).2 with h|h
      · exact .inl (Prod.ext Z Z)
      · exact .inr (Prod.ext Z Z)
    obtain ⟨i1,i2⟩:=JC (λu hu=>Jx hn hu) _ (Nat.le_refl _)
    cases hg:A7 (CO ts (3*ts.length)) (a,b) with
    | none =>
      have h3:=i2 _ hg hlt u hu
      rcases hd with hd|hd
      · exact absurd hd h3.1
      · exact absurd hd h3.2
    | some e =>
      have h3:=i1 _ _ hg
      refine ⟨e,?_,h3.ea,h3.eb⟩
      unfold An
      exact (DV _).mem_iff.2 (List.mem_map.2 ⟨_,Jf hg,rfl⟩)
  · rintro ⟨e,he,rfl,rfl⟩
    have h:=(JF hn hN).1 he
    obtain ⟨u,hu,hs⟩:=h.some
    have hlt:=h.lt
    simp only at hlt hs
    refine ⟨u,List.mem_range.2 hu,?_⟩
    unfold Kw Bw
    rcases hs with hs|hs<;>rw [hs]<;>exact Prod.ext (by simp only;omega) (by simp only;omega)
def XH (x y:T3):Prop:=x.1<y.1\/(x.1=y.1/\x.2.1<y.2.1)
theorem XH.asymm (x y:T3) (h:XH x y):¬XH y x:=by unfold XH at *;omega
theorem Mt (hn:Bn N ts=true) (hN:N<=4611686018427387904):(Bl ts).Pairwise XH:=by
  unfold Bl IG
  rw [List.pairwise_map,List.take_length]
  exact (Fo hn hN).filter _
theorem TP (hn:Bn N ts=true) (hN:N<=4611686018427387904) {s:T3}:s∈Bl ts↔(FD ts).count (s.1,s.2.1)=1/\s.2.2=0:=by
  unfold Bl IG
  rw [List.take_length,List.mem_map]
  constructor
  · rintro ⟨e,he,rfl⟩
    obtain ⟨h1,h2⟩:=List.mem_filter.1 he
    exact ⟨by rw [<-Qd];exact of_decide_eq_true h2,rfl⟩
  · rintro ⟨h1,h2⟩
    have hm:(s.1,s.2.1)∈FD ts:=List.count_pos_iff.1 Z
    obtain ⟨e,he,ea,eb⟩:=(Hm hn hN).1 hm
    refine ⟨e,List.mem_filter.2 ⟨he,decide_eq_true (by rw [Qd,ea,eb];exact h1)⟩,?_⟩
    exact Prod.ext ea (Prod.ext eb h2.symm)
end
end
section
abbrev E0:E4:=⟨0,0,0,0⟩
def DZ (N:Nat) (es:List E4):Nat->List (P2×Nat)
  | 0=>[]
  | i+1=>BN (DZ N es i) (Bw (es.getD i E0).a (es.getD i E0).b) (N+i)
def EN (N:Nat) (es:List E4) (a b:Nat):Nat:=(A7 (DZ N es es.length) (Bw a b)).getD 0
def YX (N:Nat) (es:List E4) (t:T3):List T3:=[(t.1,EN N es t.1 t.2.1,EN N es t.2.2 t.1),(EN N es t.1 t.2.1,t.2.1,EN N es t.2.1 t.2.2),(EN N es t.2.2 t.1,EN N es t.2.1 t.2.2,t.2.2),(EN N es t.1 t.2.1,EN N es t.2.1 t.2.2,EN N es t.2.2 t.1)]
def EW (N:Nat) (es:List E4) (ts:List T3) (i:Nat):List T3:=(ts.take i).flatMap (YX N es)
def EC (N:Nat) (es:List E4) (ts:List T3):List T3:=ts.flatMap (YX N es)
def C0 (i:Nat):List Nat:=(List.range i).flatMap λt=>[t,t,t,t]
def Fd (N:Nat) (ss:List T3):Nat->List (P2×Nat)
  | 0=>[]
  | k+1=>if (ss.getD (ss.length-1-k) (0,0,0)).1<N/\(ss.getD (ss.length-1-k) (0,0,0)).2.1<N then BN (Fd N ss k) (Bw (ss.getD (ss.length-1-k) (0,0,0)).1 (ss.getD (ss.length-1-k) (0,0,0)).2.1) (ss.getD (ss.length-1-k) (0,0,0)).2.2 else Fd N ss k
def Du (N:Nat) (ss:List T3) (es:List E4):Nat->List (P2×Nat)
  | 0=>Fd N ss ss.length
  | i+1=>BN (BN (Du N ss es i) (Bw (es.getD i E0).a (N+i)) ((A7 (Du N ss es i) (Bw (es.getD i E0).a (es.getD i E0).b)).getD 0)) (Bw (es.getD i E0).b (N+i)) ((A7 (Du N ss es i) (Bw (es.getD i E0).a (es.getD i E0).b)).getD 0)
def Ty (N:Nat) (ss:List T3) (es:List E4) (a b:Nat):Nat:=(A7 (Du N ss es es.length) (Bw a b)).getD 0
def bB (ps:List Pt) (e:E4):Pt:=Bd (OJ ps e.a+OJ ps e.b) (1/2)
def K0 (ps:List Pt) (es:List E4):Nat->List Pt
  | 0=>ps
  | i+1=>K0 ps es i++[bB ps (es.getD i E0)]
def Sf (ps:List Pt) (es:List E4):List Pt:=K0 ps es es.length
def Fa (N:Nat) (ss:List T3) (es:List E4) (rs:List T3) (i:Nat):List T3:=(rs.take i).map (λs=>(s.1,s.2.1,Ty N ss es s.1 s.2.1))++rs.drop i
def TZ (N:Nat) (ss:List T3) (es:List E4) (ts:List T3):List T3:=(Bl ts).map λs=>(s.1,s.2.1,Ty N ss es s.1 s.2.1)
section
variable {N M i:Nat} {es:List E4} {ts:List T3} {t:T3} {ss rs:List T3} {ps:List Pt}
theorem Bf {α:Type} {l:List α} {d:α} {i:Nat} (h:i<l.length):l.take (i+1)=l.take i++[l.getD i d]:=by
  rw [List.take_add_one,List.getElem?_eq_getElem h,List.getD,List.getElem?_eq_getElem h];rfl
theorem ID (h:i<ts.length):EW N es ts (i+1)=EW N es ts i++YX N es (ts.getD i (0,0,0)):=by
  unfold EW
  rw [Bf (d:=(0,0,0)) h,List.flatMap_append];simp
theorem Jz:EW N es ts ts.length=EC N es ts:=by unfold EW EC;rw [List.take_length]
theorem Wj:(YX N es t).length=4:=rfl
theorem CG:(EC N es ts).length=4*ts.length:=by
  unfold EC
  induction ts with
  | nil=>rfl
  | cons t r ih=>rw [List.flatMap_cons,List.length_append,ih,Wj,List.length_cons];omega
theorem J7:(EW N es ts i).length=4*(min i ts.length):=by
  have h:=CG (N:=N) (es:=es) (ts:=ts.take i)
  rw [List.length_take] at h
  exact h
theorem Gd:C0 (i+1)=C0 i++[i,i,i,i]:=by unfold C0;rw [List.range_succ,List.flatMap_append];simp
theorem Eh:(C0 i).length=4*i:=by
  induction i with
  | zero=>rfl
  | succ i ih=>rw [Gd,List.length_append,ih];simp;omega
theorem KS:∀i,(K0 ps es i).length=ps.length+i
  | 0=>rfl
  | i+1=>by rw [K0,List.length_append,KS i];rfl
theorem Ts:Fa N ss es rs rs.length=rs.map λs=>(s.1,s.2.1,Ty N ss es s.1 s.2.1):=by unfold Fa;simp
theorem Hj:(Fa N ss es rs i).length=rs.length:=by unfold Fa;simp;omega
theorem Mx (h:i<rs.length):(Fa N ss es rs i).getD i (0,0,0)=rs.getD i (0,0,0):=by
  unfold Fa
  rw [List.getD,List.getElem?_append_right (by simp;omega),List.length_map,List.length_take,Nat.min_eq_left Z,Nat.sub_self,List.getElem?_drop]
  rfl
theorem Qy (h:i<rs.length):(Fa N ss es rs i).set i ((rs.getD i (0,0,0)).1,(rs.getD i (0,0,0)).2.1,Ty N ss es (rs.getD i (0,0,0)).1 (rs.getD i (0,0,0)).2.1)=Fa N ss es rs (i+1):=by
  unfold Fa
  rw [Bf (d:=(0,0,0)) h,List.map_append,List.set_append_right _ _ (by simp;omega),List.length_map,List.length_take,Nat.min_eq_left Z,Nat.sub_self,D8 (d:=(0,0,0)) h,List.set_cons_zero,List.append_assoc]
  rfl
theorem Qw {v:Nat} (h:i<rs.length) (hv:v=Ty N ss es (rs.getD i (0,0,0)).1 (rs.getD i (0,0,0)).2.1):(Fa N ss es rs i).set i (((Fa N ss es rs i).getD i (0,0,0)).1,((Fa N ss es rs i).getD i (0,0,0)).2.1,v)=Fa N ss es rs (i+1):=by
  rw [Mx h,hv];exact Qy h
theorem U0 {k:Nat} (h:(ss.getD (ss.length-1-k) (0,0,0)).1<N/\(ss.getD (ss.length-1-k) (0,0,0)).2.1<N):BN (Fd N ss k) (Bw (ss.getD (ss.length-1-k) (0,0,0)).1 (ss.getD (ss.length-1-k) (0,0,0)).2.1) (ss.getD (ss.length-1-k) (0,0,0)).2.2=Fd N ss (k+1):=by
  rw [Fd,if_pos h]
theorem Wb {k:Nat} (h:¬((ss.getD (ss.length-1-k) (0,0,0)).1<N/\(ss.getD (ss.length-1-k) (0,0,0)).2.1<N)):Fd N ss k=Fd N ss (k+1):=by
  rw [Fd,if_neg h]
theorem EY (hes:∀e∈es,e.a<N/\e.b<N) (hN:N<=4611686018427387904):∀i,i<=es.length->Hi Ml (DZ N es i)
  | 0,_=>Hi.nil
  | i+1,h=>by
    have h1:=hes (es.getD i E0) (by rw [List.getD,List.getElem?_eq_getElem (show i<es.length by omega)];exact List.getElem_mem _)
    exact (EY hes hN i Z).put (BQ Z Z)
theorem JB (hN:N<=4611686018427387904):∀k,Hi Ml (Fd N ss k)
  | 0=>Hi.nil
  | k+1=>by
    unfold Fd
    split
    · rename_i h;exact (JB hN k).put (BQ Z Z)
    · exact JB hN k
theorem Ho (hes:∀e∈es,e.a<N/\e.b<N) (hN:N+es.length<=4611686018427387904):∀i,i<=es.length->Hi Ml (Du N ss es i)
  | 0,_=>JB Z _
  | i+1,h=>by
    have h1:=hes (es.getD i E0) (by rw [List.getD,List.getElem?_eq_getElem (show i<es.length by omega)];exact List.getElem_mem _)
    exact ((Ho hes hN i Z).put (BQ Z Z)).put (BQ Z Z)
theorem IJ (hn:Bn N ts=true) (hN:N<=4611686018427387904) {e:E4} (he:e∈An ts):e.a<e.b/\e.b<N:=by
  have h:=(JF hn hN).1 he
  obtain ⟨u,hu,hs⟩:=h.some
  have h2:=QG hn hu
  have hlt:=h.lt
  simp only at hlt hs
  rcases hs with hs|hs<;>rw [hs] at h2<;>simp only at h2<;>omega
theorem CY (hn:Bn N ts=true) (hN:N<=4611686018427387904):∀e∈An ts,e.a<N/\e.b<N:=λe he=>by
  have:=IJ hn hN he;omega
theorem Qj (hn:Bn N ts=true) (hN:N<=4611686018427387904) {s:T3} (hs:s∈Bl ts):s.1<N/\s.2.1<N:=by
  unfold Bl IG at hs
  rw [List.take_length,List.mem_map] at hs
  obtain ⟨e,he,rfl⟩:=hs
  exact CY hn hN e (List.mem_filter.1 he).1
theorem N9 (hs:es.Pairwise QM) (hl:∀e∈es,e.a<e.b) {j:Nat}:∀i,i<=es.length->j<i->A7 (DZ N es i) ((es.getD j E0).a,(es.getD j E0).b)=some (N+j)
  | 0,_,h=>absurd h (Nat.not_lt_zero _)
  | i+1,hi,hj=>by
    have m:∀k,k<es.length->es.getD k E0∈es:=λk hk=>by rw [List.getD,List.getElem?_eq_getElem hk];exact List.getElem_mem _
    have k1:Bw (es.getD i E0).a (es.getD i E0).b=((es.getD i E0).a,(es.getD i E0).b):=by
      have:=hl _ (m i Z);unfold Bw;exact Prod.ext (by simp only;omega) (by simp only;omega)
    rw [DZ,C1,k1]
    rcases Nat.lt_or_ge j i with h|h
    · have h2:QM (es.getD j E0) (es.getD i E0):=by
        rw [List.getD,List.getD,List.getElem?_eq_getElem (show j<es.length by omega),List.getElem?_eq_getElem (show i<es.length by omega)]
        exact List.pairwise_iff_getElem.1 hs j i Z Z h
      rw [if_neg (λe=>by injection e with e1 e2;unfold QM at h2;omega)]
      exact N9 hs hl i Z h
    · rw [show j=i by omega,if_pos rfl]
theorem FR (hn:Bn N ts=true) (hN:N<=4611686018427387904) {a b:Nat} (h:Bw a b∈FD ts):∃j,j<(An ts).length/\((An ts).getD j E0).a=min a b/\((An ts).getD j E0).b=max a b/\EN M (An ts) a b=M+j:=by
  obtain ⟨e,he,ea,eb⟩:=(Hm hn hN (a:=min a b) (b:=max a b)).1 h
  obtain ⟨j,hj,hje⟩:=List.getElem_of_mem he
  have hd:(An ts).getD j E0=e:=by rw [List.getD,List.getElem?_eq_getElem hj,hje];rfl
  refine ⟨j,hj,by rw [hd];exact ea,by rw [hd];exact eb,?_⟩
  have h1:=N9 (N:=M) (Fo hn hN) (λe he=>(IJ hn hN he).1) _ (Nat.le_refl _) hj
  rw [hd,ea,eb] at h1
  unfold EN Bw
  rw [h1];rfl
theorem P0 {t:T3} (h:t∈ts):Bw t.1 t.2.1∈FD ts/\Bw t.2.1 t.2.2∈FD ts/\Bw t.2.2 t.1∈FD ts:=by
  unfold FD
  refine ⟨List.mem_flatMap.2 ⟨t,h,?_⟩,List.mem_flatMap.2 ⟨t,h,?_⟩,List.mem_flatMap.2 ⟨t,h,?_⟩⟩<;>simp
theorem RC (hn:Bn N ts=true) (hN:N<=4611686018427387904) (ht:t∈ts) {c:T3} (hc:c∈YX N (An ts) t):La (N+(An ts).length) c=true:=by
  have h0:=List.all_eq_true.1 hn t ht
  obtain ⟨l1,l2,l3⟩:=EH h0
  obtain ⟨n1,n2,n3⟩:=L6 h0
  obtain ⟨k1,k2,k3⟩:=P0 ht
  obtain ⟨x,hx,x1,x2,hx3⟩:=FR (M:=N) hn hN k1
  obtain ⟨y,hy,y1,y2,hy3⟩:=FR (M:=N) hn hN k2
  obtain ⟨z,hz,z1,z2,hz3⟩:=FR (M:=N) hn hN k3
  have hxy:x≠y:=λe=>by subst e;omega
  have hyz:y≠z:=λe=>by subst e;omega
  have hzx:z≠x:=λe=>by subst e;omega
  unfold YX at hc
  simp only [List.mem_cons,List.not_mem_nil,or_false,hx3,hy3,hz3] at hc
  simp only [La,Bool.and_eq_true,Bool.not_eq_true',decide_eq_false_iff_not,decide_eq_true_eq]
  rcases hc with rfl|rfl|rfl|rfl<;>dsimp only<;>omega
theorem TL (hn:Bn N ts=true) (hN:N<=4611686018427387904):Bn (N+(An ts).length) (EC N (An ts) ts)=true:=List.all_eq_true.2 λc hc=>by
  obtain ⟨t,ht,hc⟩:=List.mem_flatMap.1 hc
  exact RC hn hN ht hc
end
end
section
set_option maxRecDepth 100000
theorem OA (p:Option Addr) (n cp:Nat) (h:n<=cp) (w:World)  :Calls prog 55 #[(Value.slice p n cp)] w (Ah w (Value.slice p n n)):=by
 refine Ab (args:=[(Value.slice p n cp)]) func55 O O (AI O) (OkC.subF (sL [0] O) (q4 (asg' O (OkL.nil (q2 (AM O (AM O (AH (v:=(vN n)) (AD O underlying28) O (AM O (AH (v:=(vN n)) (AD O underlying28) O (AH (v:=(Value.slice p n n)) (D6 (m:=n) O O O underlying28 sizeOf99 Z) O ?_)))))))))))
 exact asg' O (OkL.nil (OkQ.subF (sL [2] O) (OkQ.then_ (OkC.ret (ret_one O (rd_tmp (v:=(Value.slice p n n)) O) (λw hw=>⟨rfl,hw.out⟩))))))
theorem Lm (ts:List Pt) (x:RX (rowsL BC ts) ts.length) (hl:ts.length<=1000000000) (w:World) {S:Nat->Prop} (hx:Ro S w x):Calls prog 51 #[(Value.slice x.p ts.length x.c)] w (DT UE (Nq (T:=99) (z:=10) (cs:=rowsL BC ts) (n:=ts.length)) S w):=by
 have lx:=CI (W:=w) hx
 refine AY (args:=[(Value.slice x.p ts.length x.c)]) (L:=[AE x.p (rowsL BC ts)]) func51 O O (AI O) (D9 hx Aj) (OkC.subF (sL [0] O) (q4 (asg' O (OkL.nilRow 99 10 (OkL.nil (q1 (q4 (AM O (AH (v:=(Value.bool x.p.isNone)) (HD O O underlying28) O (OkL.nil (OkQ.subF (sL [0,2,4] O) ?_)))))))))))
 refine OkQ.then_ ?_
 refine OkC.cond O (λhc0=>?_) (λhc0=>?_)
 ·skip
  have hts:ts=[]:=List.eq_nil_of_length_eq_zero (x.ok.nil (Option.isNone_iff_eq_none.1 hc0)).1
  exact q4 (asg' O (OkL.nilRow 99 10 (OkL.nil (OkQ.then_ (OkC.ret (OkQ.then_ret (ret_one O (rd_tmp (v:=(Value.slice none 0 0)) O) (λw hw=>(by subst hts;exact Km hw (OX.mk none 0 OwnOk.none) (by exact (sk (sl (sl sr)))) (HN.own O HN.nil) (by show Value.slice none 0 0=_;rfl))))))))))
 ·skip
  exact OkC.skip (q2 (OkL.openV (V:=λb1=>(Value.slice (some ⟨b1,0,none⟩) 0 0)) (T:=99) (cs:=[]) (AP O) (Gq underlying28 sizeOf99) O (AI O) λb1=>OkL.asRow0 (z:=10) 0 O Z λho_b1=>AM O (OkL.appendE0 VG O ho_b1 O (L9 (k:=2) O x.ok) (Aa Bk _) (DB Wc _) (G0 Z) Z O λp_1 c_1 ho_1=>asg' O (OkL.nil (OkQ.subF (sL [0,2] O) (OkQ.then_ (OkC.ret (ret_one O (rd_tmp (v:=(Value.slice p_1 ts.length c_1)) O) (λw hw=>(Km hw (OX.mk p_1 c_1 ho_1) (sk (sl (sl sr))) (HN.own O HN.nil) O))))))))))
theorem Mz (p:Option Addr) (n cp:Nat) (h:n<=cp) (w:World)  :Calls prog 52 #[(Value.slice p n cp)] w (Ah w (Value.slice p n n)):=by
 refine Ab (args:=[(Value.slice p n cp)]) func52 O O (AI O) (OkC.subF (sL [0] O) (q4 (asg' O (OkL.nil (q2 (AM O (AM O (AH (v:=(vN n)) (AD O underlying23) O (AM O (AH (v:=(vN n)) (AD O underlying23) O (AH (v:=(Value.slice p n n)) (D6 (m:=n) O O O underlying23 sizeOf105 Z) O ?_)))))))))))
 exact asg' O (OkL.nil (OkQ.subF (sL [2] O) (OkQ.then_ (OkC.ret (ret_one O (rd_tmp (v:=(Value.slice p n n)) O) (λw hw=>⟨rfl,hw.out⟩))))))
theorem Rr (ts:List T3) (x:RX (rowsL Ad ts) ts.length) (hl:ts.length<=1000000000) (w:World) {S:Nat->Prop} (hx:Ro S w x):Calls prog 53 #[(Value.slice x.p ts.length x.c)] w (DT UE (Nq (T:=105) (z:=3) (cs:=rowsL Ad ts) (n:=ts.length)) S w):=by
 have lx:=CI (W:=w) hx
 refine AY (args:=[(Value.slice x.p ts.length x.c)]) (L:=[AE x.p (rowsL Ad ts)]) func53 O O (AI O) (D9 hx Aj) (OkC.subF (sL [0] O) (q4 (asg' O (OkL.nilRow 105 3 (OkL.nil (q1 (q4 (AM O (AH (v:=(Value.bool x.p.isNone)) (HD O O underlying23) O (OkL.nil (OkQ.subF (sL [0,2,4] O) ?_)))))))))))
 refine OkQ.then_ ?_
 refine OkC.cond O (λhc0=>?_) (λhc0=>?_)
 ·skip
  have hts:ts=[]:=List.eq_nil_of_length_eq_zero (x.ok.nil (Option.isNone_iff_eq_none.1 hc0)).1
  exact q4 (asg' O (OkL.nilRow 105 3 (OkL.nil (OkQ.then_ (OkC.ret (OkQ.then_ret (ret_one O (rd_tmp (v:=(Value.slice none 0 0)) O) (λw hw=>(by subst hts;exact Km hw (OX.mk none 0 OwnOk.none) (by exact (sk (sl (sl sr)))) (HN.own O HN.nil) (by show Value.slice none 0 0=_;rfl))))))))))
 ·skip
  exact OkC.skip (q2 (OkL.openV (V:=λb1=>(Value.slice (some ⟨b1,0,none⟩) 0 0)) (T:=105) (cs:=[]) (AP O) (Gq underlying23 sizeOf105) O (AI O) λb1=>OkL.asRow0 (z:=3) 0 O Z λho_b1=>AM O (OkL.appendE0 Kl O ho_b1 O (L9 (k:=2) O x.ok) (Aa Az _) (DB VA _) (G0 Z) Z O λp_1 c_1 ho_1=>asg' O (OkL.nil (OkQ.subF (sL [0,2] O) (OkQ.then_ (OkC.ret (ret_one O (rd_tmp (v:=(Value.slice p_1 ts.length c_1)) O) (λw hw=>(Km hw (OX.mk p_1 c_1 ho_1) (sk (sl (sl sr))) (HN.own O HN.nil) O))))))))))
theorem Tx (p:Option Addr) (n cp:Nat) (h:n<=cp) (w:World)  :Calls prog 102 #[(Value.slice p n cp)] w (Ah w (Value.slice p n n)):=by
 refine Ab (args:=[(Value.slice p n cp)]) func102 O O (AI O) (OkC.subF (sL [0] O) (q4 (asg' O (OkL.nil (q2 (AM O (AM O (AH (v:=(vN n)) (AD O underlying24) O (AM O (AH (v:=(vN n)) (AD O underlying24) O (AH (v:=(Value.slice p n n)) (D6 (m:=n) O O O underlying24 sizeOf110 Z) O ?_)))))))))))
 exact asg' O (OkL.nil (OkQ.subF (sL [2] O) (OkQ.then_ (OkC.ret (ret_one O (rd_tmp (v:=(Value.slice p n n)) O) (λw hw=>⟨rfl,hw.out⟩))))))
theorem Iu (x0 x1:Nat):Instr.fill (λi=>some (i*1,1)) (Ew ((0,0):P2)).toArray [(0,vN x0),(1,vN x1)]=some (Ew (x0,x1)).toArray:=by kernel_rfl
theorem B_ (a b:Nat) (w:World)  :Calls prog 44 #[(vN a),(vN b)] w (Ah w (aG (Ew (min a b,max a b)))):=by
 refine Ab (args:=[(vN a),(vN b)]) func44 O O (AI O) (OkC.subF (sL [0,1] O) (q4 (al ZW O λb1=>OkL.nil (q2 (AM O (AM O (AH (FQ (c:=((min a b:Nat):Int)) O O (by split<;>omega)) O (AM O (AM O (AH (EQ (c:=((max a b:Nat):Int)) O O (by split<;>omega)) O ?_))))))))))
 exact AH (v:=(aG (Ew (min a b,max a b)))) (BF (zs:=Ew ((0,0):P2)) (vs:=Ew (min a b,max a b)) (pv:=[(0,(vN (min a b))),(1,(vN (max a b)))]) zeroValue114 underlying114 sizeOf3 O (Iu (min a b) (max a b))) O (Ax O sizeOf114 O (OkL.nil (OkQ.subF (sL [4] O) (OkQ.then_ (OkC.ret (ret_one O (Ak (i:=0) (cs:=Ew (min a b,max a b)) O O isAgg114 sizeOf114 O) (λw hw=>⟨rfl,hw.out⟩)))))))
end
end Go.Proofs.YtpolhpjiahbidaaGreatDoor
