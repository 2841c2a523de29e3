import Derived.Test.YtpgncndhhhllfaaGreatPart05
import Derived.Test.YtpgncndhhhllfaaGreatPart16
import Derived.Test.YtpgncndhhhllfaaGreatPart17
import Derived.Test.YtpgncndhhhllfaaGreatPart20
import Derived.Test.YtpgncndhhhllfaaGreatPart22
namespace Go.Proofs.YtpgncndhhhllfaaGreat
open Go Go.RowKit Go.Proofs.Tryz
set_option linter.unusedVariables false
set_option linter.unusedSimpArgs false
section
theorem Gu {α:Type} {R:α->α->Prop} (ha:∀x y,R x y->¬R y x) {l l':List α} (h:l.Pairwise R) (h':l'.Pairwise R) (hm:∀x,x∈l↔x∈l'):l=l':=by
  have nd:∀{l:List α},l.Pairwise R->l.Nodup:=λ{l} h=>h.imp λ{x y} hxy e=>by subst e;exact ha _ _ hxy hxy
  exact List.Perm.eq_of_pairwise (le:=R) (λx y _ _ h1 h2=>absurd h2 (ha x y h1)) h h' ((List.perm_ext_iff_of_nodup (nd h) (nd h')).2 hm)
abbrev T3:=Tq3
section
variable {ts ts':List T3} {N:Nat}
theorem KC {t:T3} (h:OG N t=true):t.1≠t.2.1/\t.2.1≠t.2.2/\t.2.2≠t.1:=by
  simp only [OG,Bool.and_eq_true,Bool.not_eq_true',decide_eq_false_iff_not,decide_eq_true_eq] at h
  exact ⟨h.1.1.2,h.1.2,h.2⟩
theorem GE (hn:A_ N ts=true) {u:Nat} (hu:u<3*ts.length):(BQ ts u).1≠(BQ ts u).2:=by
  obtain ⟨hab,hbc,hca⟩:=KC (CL hn (show u/3<ts.length by omega))
  have h3:u%3=0\/u%3=1\/u%3=2:=by omega
  unfold BQ
  rcases h3 with h3|h3|h3<;>rw [h3]
  · exact hab
  · exact hbc
  · exact hca
theorem Hb (hn:A_ N ts=true) {u:Nat} (hu:u<3*ts.length):(BQ ts u).1<N/\(BQ ts u).2<N:=by
  have h:=CL hn (show u/3<ts.length by omega)
  exact ⟨Ls h _,Ls h _⟩
theorem Gf.uniq {s a b:Nat} {y z:Int} (h:Gf ts s a b y) (k:Gf ts s a b z):y=z:=by
  rcases h with ⟨h1,h2⟩|⟨u,h1,h2,h3,h4⟩<;>rcases k with ⟨k1,k2⟩|⟨v,k1,k2,k3,k4⟩
  · omega
  · exact absurd k3 (h2 v k1)
  · exact absurd h3 (k2 u h1)
  · rcases Nat.lt_trichotomy u v with h|h|h
    · exact absurd h3 (k4 u h)
    · rw [h2,k2,h]
    · exact absurd k3 (h4 v h)
theorem I8 (hn:A_ N ts=true) (hN:N<=4611686018427387904) {e:E4}:e∈Bv ts↔Xw ts (3*ts.length) (e.a,e.b) e:=by
  have hd:∀u,u<3*ts.length->(BQ ts u).1≠(BQ ts u).2:=λu hu=>GE hn hu
  refine ⟨λh=>WO hn hN hd h,λh=>?_⟩
  obtain ⟨i1,i2⟩:=JG hd _ (Nat.le_refl _)
  cases hg:Ac (CT ts (3*ts.length)) (e.a,e.b) with
  | none =>
    obtain ⟨u,hu,hs⟩:=h.some
    have h3:=i2 _ hg h.lt u hu
    rcases hs with hs|hs
    · exact absurd hs h3.1
    · exact absurd hs h3.2
  | some e' =>
    have h3:=i1 _ _ hg
    have e1:e'=e:=by
      have a1:=h3.ea;have a2:=h3.eb;have a3:=h3.l.uniq h.l;have a4:=h3.r.uniq h.r
      cases e;cases e';simp only at a1 a2 a3 a4;subst a1 a2 a3 a4;rfl
    rw [e1] at hg
    unfold Bv
    exact (DK _).mem_iff.2 (List.mem_map.2 ⟨_,Jt hg,rfl⟩)
def Vd (x y:E4):Prop:=x.a<y.a\/(x.a=y.a/\x.b<y.b)
theorem Vd.asymm (x y:E4) (h:Vd x y):¬Vd y x:=by unfold Vd at *;omega
theorem J8 (hn:A_ N ts=true) (hN:N<=4611686018427387904):(Bv ts).Pairwise Vd:=by
  have h1:LC ((CT ts (3*ts.length)).map (·.2)):=K3 (Et hn hN _ (Nat.le_refl _)) (KT ts _)
  have h2:LC (Bv ts):=(List.Perm.pairwise_iff (R:=λx y:E4=>¬(x.a=y.a/\x.b=y.b)) (λh k=>h ⟨k.1.symm,k.2.symm⟩) (DK _)).2 h1
  exact (List.Pairwise.and (F7 _) h2).imp λ{x y} h=>by
    have h3:=I7.1 h.1
    have h4:=h.2
    unfold Vd
    omega
def Oe (ts:List T3) (j a b:Nat):Prop:=∃r,r<3/\BQ ts (3*j+r)=(a,b)
def Zy (ts:List T3) (n a b:Nat) (z:Int):Prop:=(z = -1/\∀j,j<n->¬Oe ts j a b)\/∃j,j<n/\z=(j:Int)/\Oe ts j a b/\∀i,i<j->¬Oe ts i a b
theorem WX {n a b:Nat} {z:Int} (h:Gf ts (3*n) a b z):Zy ts n a b z:=by
  rcases h with ⟨h1,h2⟩|⟨u,h1,h2,h3,h4⟩
  · exact .inl ⟨h1,λj hj ⟨r,hr,k⟩=>h2 _ Z k⟩
  · exact .inr ⟨u/3,Z,h2,⟨u%3,Z,by rw [show 3*(u/3)+u%3=u by omega];exact h3⟩,λi hi ⟨r,hr,k⟩=>h4 _ Z k⟩
theorem Ni {n a b:Nat} {z:Int} (h:Zy ts n a b z):Gf ts (3*n) a b z:=by
  rcases h with ⟨h1,h2⟩|⟨j,h1,h2,⟨r,hr,h3⟩,h4⟩
  · exact .inl ⟨h1,λu hu k=>h2 (u/3) Z ⟨u%3,Z,by rw [show 3*(u/3)+u%3=u by omega];exact k⟩⟩
  · have key:∀m,m<=3->(∀q,q<m->BQ ts (3*j+q)≠(a,b))\/∃q,q<m/\BQ ts (3*j+q)=(a,b)/\∀p,p<q->BQ ts (3*j+p)≠(a,b):=by
      intro m
      induction m with
      | zero=>intro _;exact .inl λq hq=>absurd hq (Nat.not_lt_zero _)
      | succ m ih =>
        intro hm
        rcases ih Z with h|⟨q,h5,h6,h7⟩
        · by_cases k:BQ ts (3*j+m)=(a,b)
          · exact .inr ⟨m,Z,k,h⟩
          · refine .inl λq hq=>?_
            rcases Nat.lt_or_ge q m with h8|h8
            · exact h q h8
            · rw [show q=m by omega];exact k
        · exact .inr ⟨q,Z,h6,h7⟩
    rcases key 3 (Nat.le_refl _) with k|⟨q,h5,h6,h7⟩
    · exact absurd h3 (k r hr)
    · refine .inr ⟨3*j+q,Z,by rw [h2];congr 1;omega,h6,λv hv k=>?_⟩
      rcases Nat.lt_or_ge v (3*j) with h8|h8
      · exact h4 (v/3) Z ⟨v%3,Z,by rw [show 3*(v/3)+v%3=v by omega];exact k⟩
      · exact h7 (v-3*j) Z (by rw [show 3*j+(v-3*j)=v by omega];exact k)
structure XV (ts ts':List T3):Prop where
  len:ts.length=ts'.length
  way:∀j,j<ts.length->∀a b,Oe ts j a b↔Oe ts' j a b
theorem XV.fst (h:XV ts ts') {a b:Nat} {z:Int} (k:Gf ts (3*ts.length) a b z):Gf ts' (3*ts'.length) a b z:=by
  rw [<-h.len]
  refine Ni ?_
  rcases WX k with ⟨h1,h2⟩|⟨j,h1,h2,h3,h4⟩
  · exact .inl ⟨h1,λj hj k=>h2 j hj ((h.way j hj a b).2 k)⟩
  · exact .inr ⟨j,h1,h2,(h.way j h1 a b).1 h3,λi hi k=>h4 i hi ((h.way i Z a b).2 k)⟩
theorem CB {j r:Nat} (hr:r<3):BQ ts (3*j+r)=(Bl (ts.getD j (0,0,0)) r,Bl (ts.getD j (0,0,0)) ((r+1)%3)):=by
  unfold BQ
  rw [show (3*j+r)/3=j by omega,show (3*j+r)%3=r by omega]
def ED (ts:List T3) (u:Nat):P2:=Cx (BQ ts u).1 (BQ ts u).2
def Cd (ts:List T3):Nat->List (P2×Nat)
  | 0=>[]
  | s+1=>A9 (Cd ts s) (ED ts s) ((Ac (Cd ts s) (ED ts s)).getD 0+1)
def G_ (ts:List T3):List P2:=ts.flatMap λt=>[Cx t.1 t.2.1,Cx t.2.1 t.2.2,Cx t.2.2 t.1]
theorem FS (k:P2):∀s,(Ac (Cd ts s) k).getD 0=((List.range s).map (ED ts)).count k
  | 0=>rfl
  | s+1=>by
    rw [Cd,CP,List.range_succ,List.map_append,List.count_append,List.map_singleton,List.count_singleton]
    by_cases h:k=ED ts s
    · subst h
      rw [if_pos rfl,Option.getD_some,FS _ s];simp
    · rw [if_neg h,FS k s,if_neg (by simpa using λe=>h e.symm)];rfl
theorem Hx {t i:Nat} (hi:i<3):Cd ts (3*t+i+1)=A9 (Cd ts (3*t+i)) (Cx (Bl (ts.getD t (0,0,0)) i) (Bl (ts.getD t (0,0,0)) ((i+1)%3))) ((Ac (Cd ts (3*t+i)) (Cx (Bl (ts.getD t (0,0,0)) i) (Bl (ts.getD t (0,0,0)) ((i+1)%3)))).getD 0+1):=by
  rw [Cd]
  unfold ED
  rw [CB hi]
theorem L7 (s:Nat) (k:P2):(Ac (Cd ts s) k).getD 0<=s:=by
  rw [FS]
  exact Nat.le_trans List.count_le_length (by simp)
theorem Eh (hn:A_ N ts=true) (hN:N<=4611686018427387904):∀s,s<=3*ts.length->GM N9 (Cd ts s)
  | 0,_=>GM.nil
  | s+1,hs=>by
    obtain ⟨h1,h2⟩:=Hb hn (show s<3*ts.length by omega)
    exact (Eh hn hN s Z).put (DY (Nat.lt_of_lt_of_le h1 hN) (Nat.lt_of_lt_of_le h2 hN))
theorem EP:(List.range (3*ts.length)).map (ED ts)=G_ ts:=by
  have key:∀n,n<=ts.length->(List.range (3*n)).map (ED ts)=G_ (ts.take n):=by
    intro n
    induction n with
    | zero=>intro _;rfl
    | succ n ih =>
      intro hn
      have e1:List.range (3*(n+1))=List.range (3*n)++[3*n,3*n+1,3*n+2]:=by
        rw [show 3*(n+1)=3*n+1+1+1 by omega,List.range_succ,List.range_succ,List.range_succ];simp
      have e2:ts.take (n+1)=ts.take n++[ts.getD n (0,0,0)]:=by
        rw [List.take_add_one,List.getElem?_eq_getElem (show n<ts.length by omega),List.getD,List.getElem?_eq_getElem (show n<ts.length by omega)];rfl
      have k0:=CB (ts:=ts) (j:=n) (show 0<3 by decide)
      have k1:=CB (ts:=ts) (j:=n) (show 1<3 by decide)
      have k2:=CB (ts:=ts) (j:=n) (show 2<3 by decide)
      rw [e1,e2,List.map_append,ih Z]
      unfold G_
      rw [List.flatMap_append]
      congr 1
      simp only [List.map_cons,List.map_nil,List.flatMap_cons,List.flatMap_nil,List.append_nil,ED]
      rw [show 3*n=3*n+0 by omega,k0,show 3*n+0+1=3*n+1 by omega,k1,show 3*n+0+2=3*n+2 by omega,k2]
      rfl
  have h:=key ts.length (Nat.le_refl _)
  rwa [List.take_length] at h
def Tk (ts:List T3) (k:P2):Nat:=(Ac (Cd ts (3*ts.length)) k).getD 0
theorem P6 (k:P2):Tk ts k=(G_ ts).count k:=by unfold Tk;rw [FS,EP]
def HU (ts:List T3) (i:Nat):List T3:=(((Bv ts).take i).filter λe=>decide (Tk ts (e.a,e.b)=1)).map λe=>(e.a,e.b,0)
def Au (ts:List T3):List T3:=HU ts (Bv ts).length
theorem TB {i:Nat} (hi:i<(Bv ts).length) (h:Tk ts (((Bv ts).getD i ⟨0,0,0,0⟩).a,((Bv ts).getD i ⟨0,0,0,0⟩).b)=1):HU ts (i+1)=HU ts i++[(((Bv ts).getD i ⟨0,0,0,0⟩).a,((Bv ts).getD i ⟨0,0,0,0⟩).b,0)]:=by
  rw [List.getD,List.getElem?_eq_getElem hi] at h ⊢
  unfold HU
  rw [List.take_add_one,List.getElem?_eq_getElem hi,List.filter_append,List.map_append]
  simp only [Option.toList_some,Option.getD_some] at h ⊢
  rw [List.filter_cons,if_pos (decide_eq_true h)];rfl
theorem WH {i:Nat} (hi:i<(Bv ts).length) (h:¬Tk ts (((Bv ts).getD i ⟨0,0,0,0⟩).a,((Bv ts).getD i ⟨0,0,0,0⟩).b)=1):HU ts (i+1)=HU ts i:=by
  rw [List.getD,List.getElem?_eq_getElem hi] at h
  unfold HU
  rw [List.take_add_one,List.getElem?_eq_getElem hi,List.filter_append,List.map_append]
  simp only [Option.toList_some,Option.getD_some] at h ⊢
  rw [List.filter_cons,if_neg (by simpa using h)];simp
theorem Ns (i:Nat):(HU ts i).length<=i:=by
  unfold HU
  rw [List.length_map]
  exact Nat.le_trans (List.length_filter_le _ _) (List.length_take_le _ _)
theorem HI (hn:A_ N ts=true) (hN:N<=4611686018427387904) {a b:Nat}:(a,b)∈G_ ts↔∃e∈Bv ts,e.a=a/\e.b=b:=by
  rw [<-EP,List.mem_map]
  constructor
  · rintro ⟨u,hu,hk⟩
    have hu:=List.mem_range.1 hu
    have hne:=GE hn hu
    unfold ED Cx at hk
    injection hk with h1 h2
    have hlt:a<b:=by omega
    have hd:BQ ts u=(a,b)\/BQ ts u=(b,a):=by
      rcases Nat.lt_or_ge (BQ ts u).1 (BQ ts u).2 with h|h
      · exact .inl (Prod.ext Z Z)
      · exact .inr (Prod.ext Z Z)
    obtain ⟨i1,i2⟩:=JG (λu hu=>GE hn hu) _ (Nat.le_refl _)
    cases hg:Ac (CT ts (3*ts.length)) (a,b) with
    | none =>
      have h3:=i2 _ hg hlt u hu
      rcases hd with hd|hd
      · exact absurd hd h3.1
      · exact absurd hd h3.2
    | some e =>
      have h3:=i1 _ _ hg
      refine ⟨e,?_,h3.ea,h3.eb⟩
      unfold Bv
      exact (DK _).mem_iff.2 (List.mem_map.2 ⟨_,Jt hg,rfl⟩)
  · rintro ⟨e,he,rfl,rfl⟩
    have h:=(I8 hn hN).1 he
    obtain ⟨u,hu,hs⟩:=h.some
    have hlt:=h.lt
    simp only at hlt hs
    refine ⟨u,List.mem_range.2 hu,?_⟩
    unfold ED Cx
    rcases hs with hs|hs<;>rw [hs]<;>exact Prod.ext (by simp only;omega) (by simp only;omega)
def V6 (x y:T3):Prop:=x.1<y.1\/(x.1=y.1/\x.2.1<y.2.1)
theorem V6.asymm (x y:T3) (h:V6 x y):¬V6 y x:=by unfold V6 at *;omega
theorem Ii (hn:A_ N ts=true) (hN:N<=4611686018427387904):(Au ts).Pairwise V6:=by
  unfold Au HU
  rw [List.pairwise_map,List.take_length]
  exact (J8 hn hN).filter _
theorem Jo (hn:A_ N ts=true) (hN:N<=4611686018427387904) {s:T3}:s∈Au ts↔(G_ ts).count (s.1,s.2.1)=1/\s.2.2=0:=by
  unfold Au HU
  rw [List.take_length,List.mem_map]
  constructor
  · rintro ⟨e,he,rfl⟩
    obtain ⟨h1,h2⟩:=List.mem_filter.1 he
    exact ⟨by rw [<-P6];exact of_decide_eq_true h2,rfl⟩
  · rintro ⟨h1,h2⟩
    have hm:(s.1,s.2.1)∈G_ ts:=List.count_pos_iff.1 Z
    obtain ⟨e,he,ea,eb⟩:=(HI hn hN).1 hm
    refine ⟨e,List.mem_filter.2 ⟨he,decide_eq_true (by rw [P6,ea,eb];exact h1)⟩,?_⟩
    exact Prod.ext ea (Prod.ext eb h2.symm)
end
end
section
abbrev E0:E4:=⟨0,0,0,0⟩
def XH (N:Nat) (es:List E4):Nat->List (P2×Nat)
  | 0=>[]
  | i+1=>A9 (XH N es i) (Cx (es.getD i E0).a (es.getD i E0).b) (N+i)
def YR (N:Nat) (ss:List T3):Nat->List (P2×Nat)
  | 0=>[]
  | k+1=>if (ss.getD (ss.length-1-k) (0,0,0)).1<N/\(ss.getD (ss.length-1-k) (0,0,0)).2.1<N then A9 (YR N ss k) (Cx (ss.getD (ss.length-1-k) (0,0,0)).1 (ss.getD (ss.length-1-k) (0,0,0)).2.1) (ss.getD (ss.length-1-k) (0,0,0)).2.2 else YR N ss k
def We (N:Nat) (ss:List T3) (es:List E4):Nat->List (P2×Nat)
  | 0=>YR N ss ss.length
  | i+1=>A9 (A9 (We N ss es i) (Cx (es.getD i E0).a (N+i)) ((Ac (We N ss es i) (Cx (es.getD i E0).a (es.getD i E0).b)).getD 0)) (Cx (es.getD i E0).b (N+i)) ((Ac (We N ss es i) (Cx (es.getD i E0).a (es.getD i E0).b)).getD 0)
def bV (N:Nat) (ss:List T3) (es:List E4) (a b:Nat):Nat:=(Ac (We N ss es es.length) (Cx a b)).getD 0
def cR (ps:List Pt) (e:E4):Pt:=Y1 (cI ps e.a+cI ps e.b) (1/2)
def Z9 (ps:List Pt) (es:List E4):Nat->List Pt
  | 0=>ps
  | i+1=>Z9 ps es i++[cR ps (es.getD i E0)]
def bf (ps:List Pt) (es:List E4):List Pt:=Z9 ps es es.length
def ah (N:Nat) (ss:List T3) (es:List E4) (ts:List T3):List T3:=(Au ts).map λs=>(s.1,s.2.1,bV N ss es s.1 s.2.1)
section
variable {N M i:Nat} {es:List E4} {ts:List T3} {t:T3} {ss rs:List T3} {ps:List Pt}
theorem DR {α:Type} {l:List α} {d:α} {i:Nat} (h:i<l.length):l.take (i+1)=l.take i++[l.getD i d]:=by
  rw [List.take_add_one,List.getElem?_eq_getElem h,List.getD,List.getElem?_eq_getElem h];rfl
theorem II (hn:A_ N ts=true) (hN:N<=4611686018427387904) {e:E4} (he:e∈Bv ts):e.a<e.b/\e.b<N:=by
  have h:=(I8 hn hN).1 he
  obtain ⟨u,hu,hs⟩:=h.some
  have h2:=Hb hn hu
  have hlt:=h.lt
  simp only at hlt hs
  rcases hs with hs|hs<;>rw [hs] at h2<;>simp only at h2<;>omega
theorem N7 (hn:A_ N ts=true) (hN:N<=4611686018427387904):∀e∈Bv ts,e.a<N/\e.b<N:=λe he=>by
  have:=II hn hN he;omega
theorem Vi (hn:A_ N ts=true) (hN:N<=4611686018427387904) {s:T3} (hs:s∈Au ts):s.1<N/\s.2.1<N:=by
  unfold Au HU at hs
  rw [List.take_length,List.mem_map] at hs
  obtain ⟨e,he,rfl⟩:=hs
  exact N7 hn hN e (List.mem_filter.1 he).1
end
end
section
set_option maxRecDepth 100000
theorem Ss (p:Option Addr) (n cp:Nat) (h:n<=cp) (w:World)  :Calls prog 71 #[(Value.slice p n cp)] w (Ak w (Value.slice p n n)):=by
 refine An (args:=[(Value.slice p n cp)]) func71 O O (AV O) (AE.subF (sL [0] O) (q4 (AI O (AC.nil (q2 (AM O (AM O (AK (v:=(vN n)) (AF O underlying29) O (AM O (AK (v:=(vN n)) (AF O underlying29) O (AK (v:=(Value.slice p n n)) (DB (m:=n) O O O underlying29 sizeOf70 Z) O ?_)))))))))))
 exact AI O (AC.nil (OkQ.subF (sL [2] O) (OkQ.then_ (AE.ret (AS O (AZ (v:=(Value.slice p n n)) O) (λw hw=>⟨rfl,hw.out⟩))))))
end
section
theorem YO (a b:T3):(((a.1:Int) == (b.1:Int))&&(((a.2.1:Int) == (b.2.1:Int))&&(((a.2.2:Int) == (b.2.2:Int))&&true)))=decide (a=b):=by
  obtain ⟨a1,a2,a3⟩:=a
  obtain ⟨b1,b2,b3⟩:=b
  rw [Bool.eq_iff_iff]
  simp
  constructor<;>(rintro ⟨h1,h2,h3⟩;refine ⟨?_,?_,?_⟩<;>omega)
theorem Lc (b n:Nat):Ar (some ⟨b,0,none⟩) n n:=⟨λe=>(by cases e),λa e=>(by injection e with e;subst e;rfl),Nat.le_refl _⟩
theorem Zd {T:T3} {r:Nat} (h:r<3):(Am T)[r]?=some (vN (Bl T r)):=by
  have e:r=0\/r=1\/r=2:=by omega
  rcases e with rfl|rfl|rfl<;>rfl
theorem PW {T:T3} {r:Nat} (h:r<3):(Am T)[0+r*1]?=some (vN (Bl T r)):=by rw [Nat.zero_add,Nat.mul_one];exact Zd h
section
variable {P:Program} {ops:Array Oper} {rest:List Oper} {Q:Exit->Act->World->Prop} {n:Nat} {F:List (Nat×Value)} {w0:BE} {S:Nat->Prop} {L:List As} {ps:List Pt} {ts ss:List T3}
theorem VK {w:World} {i b:Nat} {T:TypeId} {cs:List Value} (hw:BM w0 w L) (hi:L[i]?=some (Ah b T cs)) (hex:w0.ex=none):w0.w.heap.size<=b:=by
  rcases (hw.2.1 _ (List.mem_of_getElem? hi) b rfl).1 with h1|h1|h1
  · cases h1
  · exact h1
  · rw [hex] at h1;cases h1
theorem AC.litM2 {b1 b2 U1 U2:Nat} {cs1 cs2:List Value} (LL:MX ps ts []->List As) (i j:Nat) (hn:i≠j) (h1:L[i]?=some (Ah b1 U1 cs1)) (h2:L[j]?=some (Ah b2 U2 cs2)) (hex:w0.ex=none)
    (e:(cs1,cs2)=(rowsL CG ps,rowsL Am ts))
    (hL:AJ none (rowsL Am [])::(L.set i (AJ (some ⟨b1,0,none⟩) cs1)).set j (AJ (some ⟨b2,0,none⟩) cs2)=LL ⟨⟨some ⟨b1,0,none⟩,ps.length,Lc _ _⟩,⟨some ⟨b2,0,none⟩,ts.length,Lc _ _⟩,⟨none,0,OwnOk.none.row⟩⟩)
    (next:∀mm:MX ps ts [],At w0 S mm->AC P ops rest Q n F w0 (LL mm)):AC P ops rest Q n F w0 L:=λa w ha hw=>by
  have n1:=VK hw h1 hex
  have n2:=VK hw h2 hex
  have w1:=hw.freeze (x:=Ah b1 U1 cs1) (y:=AJ (some ⟨b1,0,none⟩) cs1) h1 rfl (λo hp=>IL hp) (λe=>by cases e)
  have w2:=w1.freeze (i:=j) (x:=Ah b2 U2 cs2) (y:=AJ (some ⟨b2,0,none⟩) cs2) (by rw [List.getElem?_set_ne hn];exact h2) rfl (λo hp=>IL hp) (λe=>by cases e)
  have w3:=w2.addRo (a:=AJ none (rowsL Am [])) (F0.refl _ _) rfl (λb e=>by cases e) (λb e=>by cases e)
  rw [hL] at w3
  refine next _ (λy hy b eb=>?_) a w ha w3
  have hy:y∈[AJ (some ⟨b1,0,none⟩) (rowsL CG ps),AJ (some ⟨b2,0,none⟩) (rowsL Am ts),AJ none (rowsL Am [])]:=hy
  simp only [List.mem_cons,List.not_mem_nil,or_false] at hy
  rcases hy with rfl|rfl|rfl
  · injection eb with eb;subst eb;exact .inl (by assumption)
  · injection eb with eb;subst eb;exact .inl (by assumption)
  · cases eb
end
theorem X3 {α:Type} [CO α] {w0:BE} {w:World} {S:Nat->Prop} {L:List As} (hw:BM w0 w L) (is:List Nat) {a:α} (hi:(is.map λi=>L[i]?)=(CO.rows a).map some) (ha:At w0 S a):Ro (SL w0 S L) w a:=λy hy=>by
  have h1:some y∈(is.map λi=>L[i]?):=by rw [hi];exact List.mem_map.2 ⟨y,hy,rfl⟩
  obtain ⟨i,_,h2⟩:=List.mem_map.1 h1
  have hm:=List.mem_of_getElem? h2
  exact ⟨λb e=>(hw.2.1 y hm b e).2,λb e=>⟨⟨y,hm,CO.ro a y hy,e⟩,ha y hy b e⟩⟩
end
def cA (p q:Pt):Prop:=p.x<q.x\/(p.x=q.x/\p.y<q.y)
instance (p q:Pt):Decidable (cA p q):=by unfold cA;infer_instance
abbrev T2:=P2×P2×P2
section
def Zg (t:Tq3) (p:Nat):Bool:=t.1 == p||t.2.1 == p||t.2.2 == p
section
variable {ps:List Pt} {ts:List (Tq3)}
end
end
section
def bL (us:List Bool):List Value:=us.map Value.bool
theorem GA (us:List Bool):(bL us).length=us.length:=List.length_map _
theorem Xh (us:List Bool) (j:Nat) (v:Bool):(bL us).set j (.bool v)=bL (us.set j v):=by unfold bL;rw [List.map_set]
theorem Gt {us:List Bool} {j:Nat} (h:j<us.length):(bL us)[j*1]?=some (.bool (us.getD j false)):=by simp [bL,h]
section
variable {P:Program} {ops:Array Oper} {rest:List Oper} {Q:Exit->Act->World->Prop} {n d i z m c:Nat} {F:List (Nat×Value)} {w0:BE} {L L':List As} {t ty T:TypeId} {p:String} {af:Array Edge} {x y:Operand} {cs vs:List Value} {q:Option Addr} {v:Value}
theorem AC.makeBool {ki kj:IntKind} {bytes:Nat} (ht:HH P t T (.bool false) bytes) (hx:evF F x=some (.int ki (m:Nat))) (hy:evF F y=some (.int kj (m:Nat))) (hm:m<=1099511627776) (hb:Nat.ble bytes 16=true) (hd:Nat.ble (d+1) n=true)
    (next:∀b,OwnOk (some ⟨b,0,none⟩) m m->AC P ops rest Q n ((d,.slice (some ⟨b,0,none⟩) m m)::F) w0 (rowW (some ⟨b,0,none⟩) T 1 m m (bL (List.replicate m false))::L)) :
    AC P ops (⟨some d,.makeSlice t x y,ty,p,af,none⟩::rest) Q n F w0 L:=AC.makeRow ht hx hy hm hb hd λb ho=>by
  have h:=next b ho
  unfold bL at h
  rw [List.map_replicate] at h
  exact h
end
section
variable {P:Program} {n:Nat} {F:List (Nat×Value)} {w0:BE} {L:List As} {x:Operand} {d:Option Tmp} {t:TypeId} {p:String} {af:Array Edge} {g:Option (Nat×Bool)}
end
end

section
section
variable {ts:List T3} {ps:List Pt} {p:Int} {i:Nat}
end
end
section
section
variable {p q r s u w:Pt}
end
section
variable {a b c d e f u:Pt}
end
end
section
abbrev M3:=List Pt×List T3×List T3
def aQ (M:M3):Prop:=M.1.length+(Bv M.2.1).length<=4096/\4*M.2.1.length<=8192
instance (M:M3):Decidable (aQ M):=inferInstanceAs (Decidable (_/\_))
theorem H9 (ts:List T3):(Bv ts).length<=3*ts.length:=by rw [JF];exact JD _
structure cV (ps:List Pt) (ts ss:List T3) (e:Nat) where
  m:MX ps ts ss
instance {ps:List Pt} {ts ss:List T3} {e:Nat}:CO (cV ps ts ss e):=⟨λx=>.tuple #[aG (IM x.m),vN e],λx=>CO.rows x.m,λx y hy=>CO.ro x.m y hy⟩
section
variable {P:Program} {ops:Array Oper} {rest:List Oper} {Q:Exit->Act->World->Prop} {n d:Nat} {F:List (Nat×Value)} {w0:BE} {S:Nat->Prop} {L:List As} {t:TypeId} {p:String} {af:Array Edge} {y:Operand} {f:FuncId} {xs:List Operand} {args:List Value} {tys:Array TypeId} {ps:List Pt} {ts ss:List T3} {e:Nat}
end
def ar (ts:List T3):List Value:=vI (-1)::vN 0::vN 1::rowsL Am ts
structure MB (ps:List Pt) (ts ss:List T3) where
  a:RX (rowsL CG ps) ps.length
  b:RX (ar ts) (1+ts.length)
  c:RX (rowsL Am ss) ss.length
def cr {ps:List Pt} {ts ss:List T3} (x:MB ps ts ss):List Value:=[x.a.val,x.b.val,x.c.val]
theorem ZM {ps:List Pt} {ts ss:List T3} {x:MB ps ts ss} {y:As} (hy:y∈[x.a.row,x.b.row,x.c.row]):y.ro=true:=by
  simp only [List.mem_cons,List.not_mem_nil,or_false] at hy
  rcases hy with rfl|rfl|rfl<;>rfl
instance {ps:List Pt} {ts ss:List T3}:CO (MB ps ts ss):=⟨λx=>aG (cr x),λx=>[x.a.row,x.b.row,x.c.row],λx y hy=>ZM hy⟩
end
section
def zL (l:List Int):List Value:=l.map λ(d:Int)=>.int .i64 d
theorem B6 (l:List Int):(zL l).length=l.length:=by simp [zL]
theorem G6 {l:List Int} {j:Nat} (h:j<l.length):(zL l)[j*1]?=some (.int .i64 (l.getD j 0)):=by simp [zL,h]
def He {α β:Type} (b:Nat) (enc:α->Value) (eV:β->Value) (kvs:List (α×β)):As:=⟨some b,λo=>o=.map (entsM enc eV kvs 0).toArray kvs.length,true⟩
section
variable {α β:Type} [DecidableEq α] {enc:α->Value} {eV:β->Value} {ok:α->Prop} {P:Program} {kt:TypeId} {n:Nat} {F:List (Nat×Value)} {w0:BE} {L:List As} {d:Option Tmp} {tx et t b:Nat} {pp:String} {af:Array Edge} {g:Option (Nat×Bool)} {mp kp:Operand}
theorem FH (K:Ir P kt enc ok) (i:Nat) {kvs:List (α×β)} {x:α} {z0:β} {co:Bool} (hx:evF F mp=some (.map (some b))) (hk:evF F kp=some (enc x)) (ht:P.underlying tx=some (.map kt et)) (hz:∀w,(zeroValue et).run P w=.ok (eV z0) w) (hi:L[i]?=some (He b enc eV kvs)) (hm:GM ok kvs) (hok:ok x) :
    Ex P n F w0 L ⟨d,.lookup tx mp kp co,t,pp,af,g⟩ (if co then .tuple #[eV ((Ac kvs x).getD z0),.bool (Ac kvs x).isSome] else eV ((Ac kvs x).getD z0)):=λA w ha hw=>by
  obtain ⟨_,o,ho,hp⟩:=hw.2.1 _ (List.mem_of_getElem? hi) b rfl
  have ho:w.heap[b]?=some (.map (entsM enc eV kvs 0).toArray kvs.length):=by rw [ho,hp]
  obtain ⟨lx,hlx⟩:=K.key x hok
  have hc:=λem=>K.law.check w em hlx
  rcases FE (eV:=eV) K hm hok w with ⟨h1,_,h2⟩|⟨j,v,_,h1,h2⟩
  · simp only [execOp,ha.ev hx,ha.ev hk,Instr.lookup,Sem.run_bind,run_underlying ht,Bz ho,Result.andThen_ok,Sem.run_pure,hc,List.toList_toArray,h2,hz,h1,Option.getD_none,Option.isSome_none]
  · simp only [execOp,ha.ev hx,ha.ev hk,Instr.lookup,Sem.run_bind,run_underlying ht,Bz ho,Result.andThen_ok,Sem.run_pure,hc,List.toList_toArray,h2,h1,Option.getD_some,Option.isSome_some]
end
def Uv (t:T3):P2:=Cx t.2.1 t.2.2
def bI (ts:List T3) (ms:List Int) (k:P2):Prop:=∃z∈ms,0<=z/\z<(ts.length:Int)/\k=Uv (ts.getD z.toNat (0,0,0))
inductive Y5 (ts:List T3) (S:P2->Prop):P2->Prop
  | start {k:P2}:S k->Y5 ts S k
  | up {t:T3} {k:P2}:t∈ts->Y5 ts S k->(k=Cx t.1 t.2.1\/k=Cx t.2.2 t.1)->Y5 ts S (Uv t)
section
variable {ts:List T3} {ms:List Int} {i:Nat} {kvs:List (P2×Nat)}
end
structure HC (ts:List T3) (ms:List Int) where
  b:Nat
  kvs:List (P2×Nat)
  ok:GM N9 kvs
  one:∀k,Ac kvs k=none\/Ac kvs k=some 1
  all:∀k,Ac kvs k=some 1↔Y5 ts (bI ts ms) k
instance {ts:List T3} {ms:List Int}:CO (HC ts ms):=⟨λx=>.map (some x.b),λx=>[He x.b D5 vN x.kvs],λx y hy=>by rcases List.mem_singleton.1 hy with rfl;rfl⟩
structure DX (ts:List T3) (ms:List Int) where
  l:List E4
  r:RX (rowsL B1 l) l.length
  p:E4->Bool
  el:l=(Bv ts).filter p
  all:∀e,p e=true↔Y5 ts (bI ts ms) (e.a,e.b)
instance {ts:List T3} {ms:List Int}:CO (DX ts ms):=⟨λx=>x.r.val,λx=>[x.r.row],λx y hy=>by rcases List.mem_singleton.1 hy with rfl;rfl⟩
end
section
def Bw (ts:List T3):Nat->List (P2×Nat)
  | 0=>[]
  | s+1=>A9 (Bw ts s) (BQ ts s) (s/3)
def BV (ts:List T3):Nat->Bool
  | 0=>true
  | s+1=>BV ts s&&(Ac (Bw ts s) (BQ ts s)).isNone
section
variable {ts:List T3} {N t r s:Nat}
theorem H0 (hr:r<3):A9 (Bw ts (3*t+r)) (Bl (ts.getD t (0,0,0)) r,Bl (ts.getD t (0,0,0)) ((r+1)%3)) t=Bw ts (3*t+r+1):=by
  show _=A9 (Bw ts (3*t+r)) (BQ ts (3*t+r)) ((3*t+r)/3)
  rw [CB hr,show (3*t+r)/3=t by omega]
theorem H6 (hr:r<3) (h:BV ts (3*t+r)=true) (hn:(Ac (Bw ts (3*t+r)) (Bl (ts.getD t (0,0,0)) r,Bl (ts.getD t (0,0,0)) ((r+1)%3))).isSome=false):BV ts (3*t+r+1)=true:=by
  show (BV ts (3*t+r)&&_)=true
  rw [h,CB hr,<-Option.not_isSome,hn];rfl
theorem L8:∀n,s<=n->BV ts n=true->BV ts s=true
  | 0,h,k=>by rw [show s=0 by omega];rfl
  | n+1,h,k=>by
    have k:(BV ts n&&_)=true:=k
    rcases Nat.lt_or_ge s (n+1) with h1|h1
    · exact L8 n Z (Bool.and_eq_true _ _▸k).1
    · rw [show s=n+1 by omega];exact k
theorem MN (hr:r<3) (ht:t<ts.length) (hn:(Ac (Bw ts (3*t+r)) (Bl (ts.getD t (0,0,0)) r,Bl (ts.getD t (0,0,0)) ((r+1)%3))).isSome=true):BV ts (3*ts.length)=false:=by
  cases h:BV ts (3*ts.length) with
  | false=>rfl
  | true =>
    have h1:=L8 (s:=3*t+r+1) _ Z h
    have h1:(BV ts (3*t+r)&&_)=true:=h1
    rw [CB hr,<-Option.not_isSome,hn,Bool.and_eq_true] at h1
    exact absurd h1.2 (by decide)
theorem DQ (hn:A_ N ts=true) (hN:N<=4611686018427387904):∀s,s<=3*ts.length->GM N9 (Bw ts s)
  | 0,_=>⟨λp hp=>(by cases hp),List.Pairwise.nil⟩
  | s+1,h=>(DQ hn hN s Z).put (by have:=Hb hn (u:=s) Z;exact ⟨Z,Z⟩)
end
structure SX (ts:List T3) (o:Bool) where
  b:Nat
  kvs:List (P2×Nat)
  ok:GM N9 kvs
  fin:o=true->kvs=Bw ts (3*ts.length)
instance {ts:List T3} {o:Bool}:CO (SX ts o):=⟨λx=>.tuple #[.map (some x.b),.bool o],λx=>[He x.b D5 vN x.kvs],λx y hy=>by rcases List.mem_singleton.1 hy with rfl;rfl⟩
theorem K9 {S:Nat->Prop} {W w:World} {L:List As} {ts:List T3} {o:Bool} (hw:BM ⟨W,none⟩ w L) (i:Nat) {b:Nat} {kvs:List (P2×Nat)} (hi:L[i]?=some (Bm b D5 vN kvs)) (h:GM N9 kvs) (hf:o=true->kvs=Bw ts (3*ts.length)) {v:Value} (hv:v=.tuple #[.map (some b),.bool o]):Al (SX ts o) S W (.returned v) w:=by
  refine ⟨⟨b,kvs,h,hf⟩,by rw [hv];rfl,hw.out,λy hy=>?_⟩
  rcases List.mem_singleton.1 hy with rfl
  have h1:=hw.2.1 _ (List.mem_of_getElem? hi) b rfl
  refine ⟨λc e=>?_,λc e=>?_⟩
  · injection e with e;subst e;exact h1.2
  · injection e with e;subst e
    rcases h1.1 with h2|h2|h2
    · cases h2
    · exact .inl h2
    · cases h2
def Ds (kvs:List (P2×Nat)) (s:T3):T3:=match Ac kvs (s.1,s.2.1) with
  | some t=>(s.1,s.2.1,t)
  | none=>(s.2.1,s.1,(Ac kvs (s.2.1,s.1)).getD 0)
def Mr (kvs:List (P2×Nat)) (rs:List T3) (i:Nat):List T3:=(rs.take i).map (Ds kvs)
def Ab (ts:List T3):List T3:=(Au ts).map (Ds (Bw ts (3*ts.length)))
theorem LR {kvs:List (P2×Nat)} {rs:List T3} {i:Nat} (h:i<rs.length):Mr kvs rs (i+1)=Mr kvs rs i++[Ds kvs (rs.getD i (0,0,0))]:=by
  unfold Mr
  rw [Rw h,List.map_append];rfl
theorem GD {kvs:List (P2×Nat)} {s:T3} (h:(Ac kvs (s.1,s.2.1)).isSome=true):Ds kvs s=(s.1,s.2.1,(Ac kvs (s.1,s.2.1)).getD 0):=by
  obtain ⟨t,e⟩:=Option.isSome_iff_exists.1 h
  unfold Ds;rw [e];rfl
theorem HV {kvs:List (P2×Nat)} {s:T3} (h:(Ac kvs (s.1,s.2.1)).isSome=false):Ds kvs s=(s.2.1,s.1,(Ac kvs (s.2.1,s.1)).getD 0):=by
  have e:Ac kvs (s.1,s.2.1)=none:=by rw [<-Option.isNone_iff_eq_none,<-Option.not_isSome,h];rfl
  unfold Ds;rw [e]
theorem TJ {kvs:List (P2×Nat)} {rs:List T3} (i:Nat):(Mr kvs rs i).length<=i:=by unfold Mr;rw [List.length_map];exact List.length_take_le _ _
theorem Sl {ts:List T3} {kvs:List (P2×Nat)} (h:kvs=Bw ts (3*ts.length)):Mr kvs (Au ts) (Au ts).length=Ab ts:=by unfold Mr Ab;rw [h,List.take_length]
theorem Hj {ts:List T3}:(Au ts).length<=3*ts.length:=by
  have h1:=Ns (ts:=ts) (Bv ts).length
  have h2:=H9 ts
  show (HU ts (Bv ts).length).length<=_
  omega
end
section
section
variable {P:Program} {Q:Exit->Act->World->Prop} {n:Nat} {F:List (Nat×Value)} {w0:BE} {L:List As} {c x y:Code}
def Vz {α β γ δ ε ζ η:Type} (n:Nat) (w0:BE) (J:α->β->γ->δ->ε->ζ->η->Prop) (FI:α->β->γ->δ->ε->ζ->η->List (Nat×Value)) (LI:α->β->γ->δ->ε->ζ->η->List As) (m:α->β->γ->δ->ε->ζ->η->Nat) (i:α) (j:β) (k:γ) (l:δ) (o:ε) (q:ζ) (r:η) (Q:Exit->Act->World->Prop):Exit->Act->World->Prop :=
  Exit.then (λa w=>∃i' j' k' l' o' q' r',J i' j' k' l' o' q' r'/\m i' j' k' l' o' q' r'<m i j k l o q r/\Cp n a (FI i' j' k' l' o' q' r')/\BM w0 w (LI i' j' k' l' o' q' r')) Q
theorem AE.loop7 {α β γ δ ε ζ η:Type} (J:α->β->γ->δ->ε->ζ->η->Prop) (FI:α->β->γ->δ->ε->ζ->η->List (Nat×Value)) (LI:α->β->γ->δ->ε->ζ->η->List As) (m:α->β->γ->δ->ε->ζ->η->Nat) (round:∀i j k l o q r,J i j k l o q r->AE P c (Vz n w0 J FI LI m i j k l o q r Q) n (FI i j k l o q r) w0 (LI i j k l o q r))
    (i:α) (j:β) (k:γ) (l:δ) (o:ε) (q:ζ) (r:η) (h:J i j k l o q r):AE P (.loop c) Q n (FI i j k l o q r) w0 (LI i j k l o q r) :=
  AE.loop (σ:=α×β×γ×δ×ε×ζ×η) (λs=>J s.1 s.2.1 s.2.2.1 s.2.2.2.1 s.2.2.2.2.1 s.2.2.2.2.2.1 s.2.2.2.2.2.2) (λs=>FI s.1 s.2.1 s.2.2.1 s.2.2.2.1 s.2.2.2.2.1 s.2.2.2.2.2.1 s.2.2.2.2.2.2) (λs=>LI s.1 s.2.1 s.2.2.1 s.2.2.2.1 s.2.2.2.2.1 s.2.2.2.2.2.1 s.2.2.2.2.2.2) (λs=>m s.1 s.2.1 s.2.2.1 s.2.2.2.1 s.2.2.2.2.1 s.2.2.2.2.2.1 s.2.2.2.2.2.2) (λs hs a w ha hw=>by
    refine Code.wp_mono (λe a' w' hq=>?_) (round s.1 s.2.1 s.2.2.1 s.2.2.2.1 s.2.2.2.2.1 s.2.2.2.2.2.1 s.2.2.2.2.2.2 hs a w ha hw)
    cases e<;>first
      | (obtain ⟨i',j',k',l',o',q',r',h1,h2,h3,h4⟩:=hq;exact ⟨(i',j',k',l',o',q',r'),h1,h2,h3,h4⟩)
      | exact hq) (i,j,k,l,o,q,r) h
theorem AE.lp7 {α β γ δ ε ζ η:Type} {J:α->β->γ->δ->ε->ζ->η->Prop} {FI:α->β->γ->δ->ε->ζ->η->List (Nat×Value)} {LI:α->β->γ->δ->ε->ζ->η->List As} {m:α->β->γ->δ->ε->ζ->η->Nat} (_:Tg J) (_:Tg FI) (_:Tg LI) (_:Tg m) (i:α) (j:β) (k:γ) (l:δ) (o:ε) (q:ζ) (r:η) (h:J i j k l o q r) (hs:C_ (FI i j k l o q r) F) (hl:(LI i j k l o q r).Sublist L)
    (round:∀i j k l o q r,J i j k l o q r->AE P c (Vz n w0 J FI LI m i j k l o q r Q) n (FI i j k l o q r) w0 (LI i j k l o q r)):AE P (.loop c) Q n F w0 L:=AE.sub hs hl (AE.loop7 J FI LI m round i j k l o q r h)
theorem OkQ.round7 {α β γ δ ε ζ η:Type} {J:α->β->γ->δ->ε->ζ->η->Prop} {FI:α->β->γ->δ->ε->ζ->η->List (Nat×Value)} {LI:α->β->γ->δ->ε->ζ->η->List As} {m:α->β->γ->δ->ε->ζ->η->Nat} {i:α} {j:β} {k:γ} {l:δ} {o:ε} {q:ζ} {r:η} (i':α) (j':β) (k':γ) (l':δ) (o':ε) (q':ζ) (r':η) (hJ:J i' j' k' l' o' q' r') (hm:m i' j' k' l' o' q' r'<m i j k l o q r) (hs:C_ (FI i' j' k' l' o' q' r') F) (hl:(LI i' j' k' l' o' q' r').Sublist L):OkQ (Vz n w0 J FI LI m i j k l o q r Q) .normal n F w0 L:=λ_ _ ha hw=>⟨i',j',k',l',o',q',r',hJ,hm,ha.sub hs,hw.weak hl⟩
theorem OkQ.round7_exit {α β γ δ ε ζ η:Type} {J:α->β->γ->δ->ε->ζ->η->Prop} {FI:α->β->γ->δ->ε->ζ->η->List (Nat×Value)} {LI:α->β->γ->δ->ε->ζ->η->List As} {m:α->β->γ->δ->ε->ζ->η->Nat} {i:α} {j:β} {k:γ} {l:δ} {o:ε} {q:ζ} {r:η} {id:Nat} (h:OkQ Q (.exit id) n F w0 L):OkQ (Vz n w0 J FI LI m i j k l o q r Q) (.exit id) n F w0 L:=h
end
end
end Go.Proofs.YtpgncndhhhllfaaGreat
