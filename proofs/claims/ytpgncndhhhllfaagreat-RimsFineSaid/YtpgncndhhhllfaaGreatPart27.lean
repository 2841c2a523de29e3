import Derived.Test.YtpgncndhhhllfaaGreatPart05
import Derived.Test.YtpgncndhhhllfaaGreatPart16
import Derived.Test.YtpgncndhhhllfaaGreatPart18
import Derived.Test.YtpgncndhhhllfaaGreatPart20
import Derived.Test.YtpgncndhhhllfaaGreatPart24
import Derived.Test.YtpgncndhhhllfaaGreatPart26
namespace Go.Proofs.YtpgncndhhhllfaaGreat
open Go Go.RowKit Go.Proofs.Tryz
set_option linter.unusedVariables false
set_option linter.unusedSimpArgs false
section
theorem HP {α:Type} {R:α->α->Prop} (ha:∀x y,R x y->¬R y x) {l l':List α} (h:l.Pairwise R) (h':l'.Pairwise R) (hm:∀x,x∈l↔x∈l'):l=l':=by
  have nd:∀{l:List α},l.Pairwise R->l.Nodup:=λ{l} h=>h.imp λ{x y} hxy e=>by subst e;exact ha _ _ hxy hxy
  exact List.Perm.eq_of_pairwise (le:=R) (λx y _ _ h1 h2=>absurd h2 (ha x y h1)) h h' ((List.perm_ext_iff_of_nodup (nd h) (nd h')).2 hm)
abbrev T3:=Tq3
section
variable {ts ts':List T3} {N:Nat}
theorem KS {t:T3} (h:Py N t=true):t.1≠t.2.1/\t.2.1≠t.2.2/\t.2.2≠t.1:=by
  simp only [Py,Bool.and_eq_true,Bool.not_eq_true',decide_eq_false_iff_not,decide_eq_true_eq] at h
  exact ⟨h.1.1.2,h.1.2,h.2⟩
theorem Fb (hn:BI N ts=true) {u:Nat} (hu:u<3*ts.length):(BH ts u).1≠(BH ts u).2:=by
  obtain ⟨hab,hbc,hca⟩:=KS (CW hn (show u/3<ts.length by omega))
  have h3:u%3=0\/u%3=1\/u%3=2:=by omega
  unfold BH
  rcases h3 with h3|h3|h3<;>rw [h3]
  · exact hab
  · exact hbc
  · exact hca
theorem IC (hn:BI N ts=true) {u:Nat} (hu:u<3*ts.length):(BH ts u).1<N/\(BH ts u).2<N:=by
  have h:=CW hn (show u/3<ts.length by omega)
  exact ⟨M1 h _,M1 h _⟩
theorem Ff.uniq {s a b:Nat} {y z:Int} (h:Ff ts s a b y) (k:Ff ts s a b z):y=z:=by
  rcases h with ⟨h1,h2⟩|⟨u,h1,h2,h3,h4⟩<;>rcases k with ⟨k1,k2⟩|⟨v,k1,k2,k3,k4⟩
  · omega
  · exact absurd k3 (h2 v k1)
  · exact absurd h3 (k2 u h1)
  · rcases Nat.lt_trichotomy u v with h|h|h
    · exact absurd h3 (k4 u h)
    · rw [h2,k2,h]
    · exact absurd k3 (h4 v h)
theorem Du (hn:BI N ts=true) (hN:N<=4611686018427387904) {e:E4}:e∈Bd ts↔ZV ts (3*ts.length) (e.a,e.b) e:=by
  have hd:∀u,u<3*ts.length->(BH ts u).1≠(BH ts u).2:=λu hu=>Fb hn hu
  refine ⟨λh=>YB hn hN hd h,λh=>?_⟩
  obtain ⟨i1,i2⟩:=Jb hd _ (Nat.le_refl _)
  cases hg:Ae (Ce ts (3*ts.length)) (e.a,e.b) with
  | none =>
    obtain ⟨u,hu,hs⟩:=h.some
    have h3:=i2 _ hg h.lt u hu
    rcases hs with hs|hs
    · exact absurd hs h3.1
    · exact absurd hs h3.2
  | some e' =>
    have h3:=i1 _ _ hg
    have e1:e'=e:=by
      have a1:=h3.ea;have a2:=h3.eb;have a3:=h3.l.uniq h.l;have a4:=h3.r.uniq h.r
      cases e;cases e';simp only at a1 a2 a3 a4;subst a1 a2 a3 a4;rfl
    rw [e1] at hg
    unfold Bd
    exact (Dh _).mem_iff.2 (List.mem_map.2 ⟨_,Kq hg,rfl⟩)
def Wu (x y:E4):Prop:=x.a<y.a\/(x.a=y.a/\x.b<y.b)
theorem Wu.asymm (x y:E4) (h:Wu x y):¬Wu y x:=by unfold Wu at *;omega
theorem Ha (hn:BI N ts=true) (hN:N<=4611686018427387904):(Bd ts).Pairwise Wu:=by
  have h1:Lw ((Ce ts (3*ts.length)).map (·.2)):=ME (FK hn hN _ (Nat.le_refl _)) (J9 ts _)
  have h2:Lw (Bd ts):=(List.Perm.pairwise_iff (R:=λx y:E4=>¬(x.a=y.a/\x.b=y.b)) (λh k=>h ⟨k.1.symm,k.2.symm⟩) (Dh _)).2 h1
  exact (List.Pairwise.and (GN _) h2).imp λ{x y} h=>by
    have h3:=Jq.1 h.1
    have h4:=h.2
    unfold Wu
    omega
def Wm (ts:List T3) (j a b:Nat):Prop:=∃r,r<3/\BH ts (3*j+r)=(a,b)
def dO (ts:List T3) (n a b:Nat) (z:Int):Prop:=(z = -1/\∀j,j<n->¬Wm ts j a b)\/∃j,j<n/\z=(j:Int)/\Wm ts j a b/\∀i,i<j->¬Wm ts i a b
theorem Vg {n a b:Nat} {z:Int} (h:dO ts n a b z):Ff ts (3*n) a b z:=by
  rcases h with ⟨h1,h2⟩|⟨j,h1,h2,⟨r,hr,h3⟩,h4⟩
  · exact .inl ⟨h1,λu hu k=>h2 (u/3) Z ⟨u%3,Z,by rw [show 3*(u/3)+u%3=u by omega];exact k⟩⟩
  · have key:∀m,m<=3->(∀q,q<m->BH ts (3*j+q)≠(a,b))\/∃q,q<m/\BH ts (3*j+q)=(a,b)/\∀p,p<q->BH ts (3*j+p)≠(a,b):=by
      intro m
      induction m with
      | zero=>intro _;exact .inl λq hq=>absurd hq (Nat.not_lt_zero _)
      | succ m ih =>
        intro hm
        rcases ih Z with h|⟨q,h5,h6,h7⟩
        · by_cases k:BH ts (3*j+m)=(a,b)
          · exact .inr ⟨m,Z,k,h⟩
          · refine .inl λq hq=>?_
            rcases Nat.lt_or_ge q m with h8|h8
            · exact h q h8
            · rw [show q=m by omega];exact k
        · exact .inr ⟨q,Z,h6,h7⟩
    rcases key 3 (Nat.le_refl _) with k|⟨q,h5,h6,h7⟩
    · exact absurd h3 (k r hr)
    · refine .inr ⟨3*j+q,Z,by rw [h2];congr 1;omega,h6,λv hv k=>?_⟩
      rcases Nat.lt_or_ge v (3*j) with h8|h8
      · exact h4 (v/3) Z ⟨v%3,Z,by rw [show 3*(v/3)+v%3=v by omega];exact k⟩
      · exact h7 (v-3*j) Z (by rw [show 3*j+(v-3*j)=v by omega];exact k)
theorem CN {j r:Nat} (hr:r<3):BH ts (3*j+r)=(Bw (ts.getD j (0,0,0)) r,Bw (ts.getD j (0,0,0)) ((r+1)%3)):=by
  unfold BH
  rw [show (3*j+r)/3=j by omega,show (3*j+r)%3=r by omega]
def Ej (ts:List T3) (u:Nat):P2:=DC (BH ts u).1 (BH ts u).2
def Co (ts:List T3):Nat->List (P2×Nat)
  | 0=>[]
  | s+1=>BG (Co ts s) (Ej ts s) ((Ae (Co ts s) (Ej ts s)).getD 0+1)
def HY (ts:List T3):List P2:=ts.flatMap λt=>[DC t.1 t.2.1,DC t.2.1 t.2.2,DC t.2.2 t.1]
theorem Fm (k:P2):∀s,(Ae (Co ts s) k).getD 0=((List.range s).map (Ej ts)).count k
  | 0=>rfl
  | s+1=>by
    rw [Co,Cc,List.range_succ,List.map_append,List.count_append,List.map_singleton,List.count_singleton]
    by_cases h:k=Ej ts s
    · subst h
      rw [if_pos rfl,Option.getD_some,Fm _ s];simp
    · rw [if_neg h,Fm k s,if_neg (by simpa using λe=>h e.symm)];rfl
theorem IZ {t i:Nat} (hi:i<3):Co ts (3*t+i+1)=BG (Co ts (3*t+i)) (DC (Bw (ts.getD t (0,0,0)) i) (Bw (ts.getD t (0,0,0)) ((i+1)%3))) ((Ae (Co ts (3*t+i)) (DC (Bw (ts.getD t (0,0,0)) i) (Bw (ts.getD t (0,0,0)) ((i+1)%3)))).getD 0+1):=by
  rw [Co]
  unfold Ej
  rw [CN hi]
theorem Ms (s:Nat) (k:P2):(Ae (Co ts s) k).getD 0<=s:=by
  rw [Fm]
  exact Nat.le_trans List.count_le_length (by simp)
theorem FD (hn:BI N ts=true) (hN:N<=4611686018427387904):∀s,s<=3*ts.length->G8 O3 (Co ts s)
  | 0,_=>G8.nil
  | s+1,hs=>by
    obtain ⟨h1,h2⟩:=IC hn (show s<3*ts.length by omega)
    exact (FD hn hN s Z).put (Dy (Nat.lt_of_lt_of_le h1 hN) (Nat.lt_of_lt_of_le h2 hN))
theorem Ez:(List.range (3*ts.length)).map (Ej ts)=HY ts:=by
  have key:∀n,n<=ts.length->(List.range (3*n)).map (Ej ts)=HY (ts.take n):=by
    intro n
    induction n with
    | zero=>intro _;rfl
    | succ n ih =>
      intro hn
      have e1:List.range (3*(n+1))=List.range (3*n)++[3*n,3*n+1,3*n+2]:=by
        rw [show 3*(n+1)=3*n+1+1+1 by omega,List.range_succ,List.range_succ,List.range_succ];simp
      have e2:ts.take (n+1)=ts.take n++[ts.getD n (0,0,0)]:=by
        rw [List.take_add_one,List.getElem?_eq_getElem (show n<ts.length by omega),List.getD,List.getElem?_eq_getElem (show n<ts.length by omega)];rfl
      have k0:=CN (ts:=ts) (j:=n) (show 0<3 by decide)
      have k1:=CN (ts:=ts) (j:=n) (show 1<3 by decide)
      have k2:=CN (ts:=ts) (j:=n) (show 2<3 by decide)
      rw [e1,e2,List.map_append,ih Z]
      unfold HY
      rw [List.flatMap_append]
      congr 1
      simp only [List.map_cons,List.map_nil,List.flatMap_cons,List.flatMap_nil,List.append_nil,Ej]
      rw [show 3*n=3*n+0 by omega,k0,show 3*n+0+1=3*n+1 by omega,k1,show 3*n+0+2=3*n+2 by omega,k2]
      rfl
  have h:=key ts.length (Nat.le_refl _)
  rwa [List.take_length] at h
def Uu (ts:List T3) (k:P2):Nat:=(Ae (Co ts (3*ts.length)) k).getD 0
theorem RR (k:P2):Uu ts k=(HY ts).count k:=by unfold Uu;rw [Fm,Ez]
def Hi (ts:List T3) (i:Nat):List T3:=(((Bd ts).take i).filter λe=>decide (Uu ts (e.a,e.b)=1)).map λe=>(e.a,e.b,0)
def A6 (ts:List T3):List T3:=Hi ts (Bd ts).length
theorem Uo {i:Nat} (hi:i<(Bd ts).length) (h:Uu ts (((Bd ts).getD i ⟨0,0,0,0⟩).a,((Bd ts).getD i ⟨0,0,0,0⟩).b)=1):Hi ts (i+1)=Hi ts i++[(((Bd ts).getD i ⟨0,0,0,0⟩).a,((Bd ts).getD i ⟨0,0,0,0⟩).b,0)]:=by
  rw [List.getD,List.getElem?_eq_getElem hi] at h ⊢
  unfold Hi
  rw [List.take_add_one,List.getElem?_eq_getElem hi,List.filter_append,List.map_append]
  simp only [Option.toList_some,Option.getD_some] at h ⊢
  rw [List.filter_cons,if_pos (decide_eq_true h)];rfl
theorem Xh {i:Nat} (hi:i<(Bd ts).length) (h:¬Uu ts (((Bd ts).getD i ⟨0,0,0,0⟩).a,((Bd ts).getD i ⟨0,0,0,0⟩).b)=1):Hi ts (i+1)=Hi ts i:=by
  rw [List.getD,List.getElem?_eq_getElem hi] at h
  unfold Hi
  rw [List.take_add_one,List.getElem?_eq_getElem hi,List.filter_append,List.map_append]
  simp only [Option.toList_some,Option.getD_some] at h ⊢
  rw [List.filter_cons,if_neg (by simpa using h)];simp
theorem OJ (i:Nat):(Hi ts i).length<=i:=by
  unfold Hi
  rw [List.length_map]
  exact Nat.le_trans (List.length_filter_le _ _) (List.length_take_le _ _)
theorem IB (hn:BI N ts=true) (hN:N<=4611686018427387904) {a b:Nat}:(a,b)∈HY ts↔∃e∈Bd ts,e.a=a/\e.b=b:=by
  rw [<-Ez,List.mem_map]
  constructor
  · rintro ⟨u,hu,hk⟩
    have hu:=List.mem_range.1 hu
    have hne:=Fb hn hu
    unfold Ej DC at hk
    injection hk with h1 h2
    have hlt:a<b:=by omega
    have hd:BH ts u=(a,b)\/BH ts u=(b,a):=by
      rcases Nat.lt_or_ge (BH ts u).1 (BH ts u).2 with h|h
      · exact .inl (Prod.ext Z Z)
      · exact .inr (Prod.ext Z Z)
    obtain ⟨i1,i2⟩:=Jb (λu hu=>Fb hn hu) _ (Nat.le_refl _)
    cases hg:Ae (Ce ts (3*ts.length)) (a,b) with
    | none =>
      have h3:=i2 _ hg hlt u hu
      rcases hd with hd|hd
      · exact absurd hd h3.1
      · exact absurd hd h3.2
    | some e =>
      have h3:=i1 _ _ hg
      refine ⟨e,?_,h3.ea,h3.eb⟩
      unfold Bd
      exact (Dh _).mem_iff.2 (List.mem_map.2 ⟨_,Kq hg,rfl⟩)
  · rintro ⟨e,he,rfl,rfl⟩
    have h:=(Du hn hN).1 he
    obtain ⟨u,hu,hs⟩:=h.some
    have hlt:=h.lt
    simp only at hlt hs
    refine ⟨u,List.mem_range.2 hu,?_⟩
    unfold Ej DC
    rcases hs with hs|hs<;>rw [hs]<;>exact Prod.ext (by simp only;omega) (by simp only;omega)
def Yf (x y:T3):Prop:=x.1<y.1\/(x.1=y.1/\x.2.1<y.2.1)
theorem Yf.asymm (x y:T3) (h:Yf x y):¬Yf y x:=by unfold Yf at *;omega
theorem I_ (hn:BI N ts=true) (hN:N<=4611686018427387904):(A6 ts).Pairwise Yf:=by
  unfold A6 Hi
  rw [List.pairwise_map,List.take_length]
  exact (Ha hn hN).filter _
theorem Ka (hn:BI N ts=true) (hN:N<=4611686018427387904) {s:T3}:s∈A6 ts↔(HY ts).count (s.1,s.2.1)=1/\s.2.2=0:=by
  unfold A6 Hi
  rw [List.take_length,List.mem_map]
  constructor
  · rintro ⟨e,he,rfl⟩
    obtain ⟨h1,h2⟩:=List.mem_filter.1 he
    exact ⟨by rw [<-RR];exact of_decide_eq_true h2,rfl⟩
  · rintro ⟨h1,h2⟩
    have hm:(s.1,s.2.1)∈HY ts:=List.count_pos_iff.1 Z
    obtain ⟨e,he,ea,eb⟩:=(IB hn hN).1 hm
    refine ⟨e,List.mem_filter.2 ⟨he,decide_eq_true (by rw [RR,ea,eb];exact h1)⟩,?_⟩
    exact Prod.ext ea (Prod.ext eb h2.symm)
end
end
section
abbrev E0:E4:=⟨0,0,0,0⟩
def W6 (N:Nat) (es:List E4):Nat->List (P2×Nat)
  | 0=>[]
  | i+1=>BG (W6 N es i) (DC (es.getD i E0).a (es.getD i E0).b) (N+i)
def ZO (N:Nat) (ss:List T3):Nat->List (P2×Nat)
  | 0=>[]
  | k+1=>if (ss.getD (ss.length-1-k) (0,0,0)).1<N/\(ss.getD (ss.length-1-k) (0,0,0)).2.1<N then BG (ZO N ss k) (DC (ss.getD (ss.length-1-k) (0,0,0)).1 (ss.getD (ss.length-1-k) (0,0,0)).2.1) (ss.getD (ss.length-1-k) (0,0,0)).2.2 else ZO N ss k
def XM (N:Nat) (ss:List T3) (es:List E4):Nat->List (P2×Nat)
  | 0=>ZO N ss ss.length
  | i+1=>BG (BG (XM N ss es i) (DC (es.getD i E0).a (N+i)) ((Ae (XM N ss es i) (DC (es.getD i E0).a (es.getD i E0).b)).getD 0)) (DC (es.getD i E0).b (N+i)) ((Ae (XM N ss es i) (DC (es.getD i E0).a (es.getD i E0).b)).getD 0)
def dj (N:Nat) (ss:List T3) (es:List E4) (a b:Nat):Nat:=(Ae (XM N ss es es.length) (DC a b)).getD 0
def eY (ps:List Pt) (e:E4):Pt:=Y5 (Nh ps e.a+Nh ps e.b) (1/2)
def bB (ps:List Pt) (es:List E4):Nat->List Pt
  | 0=>ps
  | i+1=>bB ps es i++[eY ps (es.getD i E0)]
def dK (ps:List Pt) (es:List E4):List Pt:=bB ps es es.length
def dq (N:Nat) (ss:List T3) (es:List E4) (ts:List T3):List T3:=(A6 ts).map λs=>(s.1,s.2.1,dj N ss es s.1 s.2.1)
section
variable {N M i:Nat} {es:List E4} {ts:List T3} {t:T3} {ss rs:List T3} {ps:List Pt}
theorem CU {α:Type} {l:List α} {d:α} {i:Nat} (h:i<l.length):l.take (i+1)=l.take i++[l.getD i d]:=by
  rw [List.take_add_one,List.getElem?_eq_getElem h,List.getD,List.getElem?_eq_getElem h];rfl
theorem G2 (hn:BI N ts=true) (hN:N<=4611686018427387904) {e:E4} (he:e∈Bd ts):e.a<e.b/\e.b<N:=by
  have h:=(Du hn hN).1 he
  obtain ⟨u,hu,hs⟩:=h.some
  have h2:=IC hn hu
  have hlt:=h.lt
  simp only at hlt hs
  rcases hs with hs|hs<;>rw [hs] at h2<;>simp only at h2<;>omega
theorem N_ (hn:BI N ts=true) (hN:N<=4611686018427387904):∀e∈Bd ts,e.a<N/\e.b<N:=λe he=>by
  have:=G2 hn hN he;omega
theorem YG (hn:BI N ts=true) (hN:N<=4611686018427387904) {s:T3} (hs:s∈A6 ts):s.1<N/\s.2.1<N:=by
  unfold A6 Hi at hs
  rw [List.take_length,List.mem_map] at hs
  obtain ⟨e,he,rfl⟩:=hs
  exact N_ hn hN e (List.mem_filter.1 he).1
end
end
section
set_option maxRecDepth 100000
theorem Ud (p:Option Addr) (n cp:Nat) (h:n<=cp) (w:World)  :Calls prog 71 #[(Value.slice p n cp)] w (A9 w (Value.slice p n n)):=by
 refine Aq (args:=[(Value.slice p n cp)]) func71 O O (Ad O) (AE.subF (sL [0] O) (q4 (AI O (AC.nil (q2 (AM O (AM O (AJ (v:=(vN n)) (AF O underlying29) O (AM O (AJ (v:=(vN n)) (AF O underlying29) O (AJ (v:=(Value.slice p n n)) (DY (m:=n) O O O underlying29 sizeOf70 Z) O ?_)))))))))))
 exact AI O (AC.nil (OkQ.subF (sL [2] O) (OkQ.then_ (AE.ret (AV O (Ah (v:=(Value.slice p n n)) O) (λw hw=>⟨rfl,hw.out⟩))))))
end
section
theorem Zh (a b:T3):(((a.1:Int) == (b.1:Int))&&(((a.2.1:Int) == (b.2.1:Int))&&(((a.2.2:Int) == (b.2.2:Int))&&true)))=decide (a=b):=by
  obtain ⟨a1,a2,a3⟩:=a
  obtain ⟨b1,b2,b3⟩:=b
  rw [Bool.eq_iff_iff]
  simp
  constructor<;>(rintro ⟨h1,h2,h3⟩;refine ⟨?_,?_,?_⟩<;>omega)
theorem Ln (b n:Nat):Aw (some ⟨b,0,none⟩) n n:=⟨λe=>(by cases e),λa e=>(by injection e with e;subst e;rfl),Nat.le_refl _⟩
theorem bP {T:T3} {r:Nat} (h:r<3):(AZ T)[r]?=some (vN (Bw T r)):=by
  have e:r=0\/r=1\/r=2:=by omega
  rcases e with rfl|rfl|rfl<;>rfl
theorem Pp {T:T3} {r:Nat} (h:r<3):(AZ T)[0+r*1]?=some (vN (Bw T r)):=by rw [Nat.zero_add,Nat.mul_one];exact bP h
section
variable {P:Program} {ops:Array Oper} {rest:List Oper} {Q:Exit->Act->World->Prop} {n:Nat} {F:List (Nat×Value)} {w0:BL} {S:Nat->Prop} {L:List As} {ps:List Pt} {ts ss:List T3}
theorem UA {w:World} {i b:Nat} {T:TypeId} {cs:List Value} (hw:BS w0 w L) (hi:L[i]?=some (Af b T cs)) (hex:w0.ex=none):w0.w.heap.size<=b:=by
  rcases (hw.2.1 _ (List.mem_of_getElem? hi) b rfl).1 with h1|h1|h1
  · cases h1
  · exact h1
  · rw [hex] at h1;cases h1
theorem AC.litM2 {b1 b2 U1 U2:Nat} {cs1 cs2:List Value} (LL:MX ps ts []->List As) (i j:Nat) (hn:i≠j) (h1:L[i]?=some (Af b1 U1 cs1)) (h2:L[j]?=some (Af b2 U2 cs2)) (hex:w0.ex=none)
    (e:(cs1,cs2)=(rowsL Bf ps,rowsL AZ ts))
    (hL:AK none (rowsL AZ [])::(L.set i (AK (some ⟨b1,0,none⟩) cs1)).set j (AK (some ⟨b2,0,none⟩) cs2)=LL ⟨⟨some ⟨b1,0,none⟩,ps.length,Ln _ _⟩,⟨some ⟨b2,0,none⟩,ts.length,Ln _ _⟩,⟨none,0,OwnOk.none.row⟩⟩)
    (next:∀mm:MX ps ts [],At w0 S mm->AC P ops rest Q n F w0 (LL mm)):AC P ops rest Q n F w0 L:=λa w ha hw=>by
  have n1:=UA hw h1 hex
  have n2:=UA hw h2 hex
  have w1:=hw.freeze (x:=Af b1 U1 cs1) (y:=AK (some ⟨b1,0,none⟩) cs1) h1 rfl (λo hp=>Il hp) (λe=>by cases e)
  have w2:=w1.freeze (i:=j) (x:=Af b2 U2 cs2) (y:=AK (some ⟨b2,0,none⟩) cs2) (by rw [List.getElem?_set_ne hn];exact h2) rfl (λo hp=>Il hp) (λe=>by cases e)
  have w3:=w2.addRo (a:=AK none (rowsL AZ [])) (GJ.refl _ _) rfl (λb e=>by cases e) (λb e=>by cases e)
  rw [hL] at w3
  refine next _ (λy hy b eb=>?_) a w ha w3
  have hy:y∈[AK (some ⟨b1,0,none⟩) (rowsL Bf ps),AK (some ⟨b2,0,none⟩) (rowsL AZ ts),AK none (rowsL AZ [])]:=hy
  simp only [List.mem_cons,List.not_mem_nil,or_false] at hy
  rcases hy with rfl|rfl|rfl
  · injection eb with eb;subst eb;exact .inl (by assumption)
  · injection eb with eb;subst eb;exact .inl (by assumption)
  · cases eb
end
theorem aM {α:Type} [Cf α] {w0:BL} {w:World} {S:Nat->Prop} {L:List As} (hw:BS w0 w L) (is:List Nat) {a:α} (hi:(is.map λi=>L[i]?)=(Cf.rows a).map some) (ha:At w0 S a):Ro (SL w0 S L) w a:=λy hy=>by
  have h1:some y∈(is.map λi=>L[i]?):=by rw [hi];exact List.mem_map.2 ⟨y,hy,rfl⟩
  obtain ⟨i,_,h2⟩:=List.mem_map.1 h1
  have hm:=List.mem_of_getElem? h2
  exact ⟨λb e=>(hw.2.1 y hm b e).2,λb e=>⟨⟨y,hm,Cf.ro a y hy,e⟩,ha y hy b e⟩⟩
end
def eG (p q:Pt):Prop:=p.x<q.x\/(p.x=q.x/\p.y<q.y)
instance (p q:Pt):Decidable (eG p q):=by unfold eG;infer_instance
abbrev T2:=P2×P2×P2
def YV (u v c:Nat):List T2 :=
  let x:=2*u;let y:=2*v
  if c=0 then [((x,y),(x+2,y),(x+2,y+2)),((x,y),(x+2,y+2),(x,y+2))]
  else if c=1 then [((x,y),(x+2,y),(x,y+2)),((x+2,y),(x+2,y+2),(x,y+2))]
  else if c=2 then [((x,y),(x+2,y),(x+1,y+1)),((x+2,y),(x+2,y+2),(x+1,y+1)),((x+2,y+2),(x,y+2),(x+1,y+1)),((x,y+2),(x,y),(x+1,y+1))] else []
def XR (way i:Nat):Nat:=if way<3\/(way=7/\i=0) then 0 else if way<5 then 1 else if way<7 then 2 else 3
theorem Sf (nx way i:Nat):Cl nx way i=YV (i%nx) (i/nx) (XR way i):=by
  unfold Cl YV XR
  simp only
  split
  · rfl
  · split
    · rfl
    · split<;>rfl
theorem Rc (way i:Nat):XR way i<4:=by
  unfold XR
  split
  · omega
  · split
    · omega
    · split<;>omega
def KN:List (Tq3):=[0,1,2].flatMap λu=>[0,1,2].flatMap λv=>[0,1,2,3].map λc=>(u,v,c)
theorem Hq {u v c:Nat} (hu:u<=2) (hv:v<=2) (hc:c<4):(u,v,c)∈KN:=by
  have h1:u=0\/u=1\/u=2:=by omega
  have h2:v=0\/v=1\/v=2:=by omega
  have h3:c=0\/c=1\/c=2\/c=3:=by omega
  rcases h1 with rfl|rfl|rfl<;>rcases h2 with rfl|rfl|rfl<;>rcases h3 with rfl|rfl|rfl|rfl<;>decide
section
def cK (t:Tq3) (p:Nat):Bool:=t.1 == p||t.2.1 == p||t.2.2 == p
section
variable {ps:List Pt} {ts:List (Tq3)}
end
end
section
def bL (us:List Bool):List Value:=us.map Value.bool
theorem Gg (us:List Bool):(bL us).length=us.length:=List.length_map _
theorem aT (us:List Bool) (j:Nat) (v:Bool):(bL us).set j (.bool v)=bL (us.set j v):=by unfold bL;rw [List.map_set]
theorem HX {us:List Bool} {j:Nat} (h:j<us.length):(bL us)[j*1]?=some (.bool (us.getD j false)):=by simp [bL,h]
section
variable {P:Program} {ops:Array Oper} {rest:List Oper} {Q:Exit->Act->World->Prop} {n d i z m c:Nat} {F:List (Nat×Value)} {w0:BL} {L L':List As} {t ty T:TypeId} {p:String} {af:Array Edge} {x y:Operand} {cs vs:List Value} {q:Option Addr} {v:Value}
theorem AC.makeBool {ki kj:IntKind} {bytes:Nat} (ht:Ix P t T (.bool false) bytes) (hx:evF F x=some (.int ki (m:Nat))) (hy:evF F y=some (.int kj (m:Nat))) (hm:m<=1099511627776) (hb:Nat.ble bytes 16=true) (hd:Nat.ble (d+1) n=true)
    (next:∀b,OwnOk (some ⟨b,0,none⟩) m m->AC P ops rest Q n ((d,.slice (some ⟨b,0,none⟩) m m)::F) w0 (rowW (some ⟨b,0,none⟩) T 1 m m (bL (List.replicate m false))::L)) :
    AC P ops (⟨some d,.makeSlice t x y,ty,p,af,none⟩::rest) Q n F w0 L:=AC.makeRow ht hx hy hm hb hd λb ho=>by
  have h:=next b ho
  unfold bL at h
  rw [List.map_replicate] at h
  exact h
end
section
variable {P:Program} {n:Nat} {F:List (Nat×Value)} {w0:BL} {L:List As} {x:Operand} {d:Option Tmp} {t:TypeId} {p:String} {af:Array Edge} {g:Option (Nat×Bool)}
end
end
def O6 (ps:List Pt) (t:T3):Rat:=E2 (Nh ps t.1) (Nh ps t.2.1) (Nh ps t.2.2)*(1/2)
def Kl (ps:List Pt) (ts:List T3):Nat->Rat
  | 0=>0
  | i+1=>Kl ps ts i+O6 ps (ts.getD i (0,0,0))
def D0:List Rat->Rat
  | []=>0
  | x::r=>x+D0 r
theorem Kp (a b:List Rat):D0 (a++b)=D0 a+D0 b:=by
  induction a with
  | nil=>simp only [List.nil_append,D0];grind
  | cons x r ih=>simp only [List.cons_append,D0,ih];grind
theorem Nj (ps:List Pt) (ts:List T3):∀i,i<=ts.length->Kl ps ts i=D0 ((ts.take i).map (O6 ps))
  | 0,_=>by simp [Kl,D0]
  | i+1,h=>by
    rw [CU (d:=(0,0,0)) (show i<ts.length by omega),List.map_append,Kp,<-Nj ps ts i Z]
    simp only [Kl,List.map_cons,List.map_nil,D0]
    grind
theorem UI (ps:List Pt) (ts:List T3):Kl ps ts ts.length=D0 (ts.map (O6 ps)):=by rw [Nj _ _ _ (Nat.le_refl _),List.take_length]
theorem MK {α:Type} (f:α->Rat) (g:α->List Rat):∀l:List α,(∀x∈l,D0 (g x)=f x)->D0 (l.flatMap g)=D0 (l.map f)
  | [],_=>rfl
  | x::r,h=>by
    rw [List.flatMap_cons,Kp,List.map_cons,D0,h x List.mem_cons_self,MK f g r λy hy=>h y (List.mem_cons_of_mem _ hy)]
section
section
variable {ts:List T3} {ps:List Pt} {p:Int} {i:Nat}
theorem OF {α:Type} (f g:α->Rat):∀l:List α,D0 (l.map λx=>f x+g x)=D0 (l.map f)+D0 (l.map g)
  | []=>by simp only [List.map_nil,D0];grind
  | x::r=>by simp only [List.map_cons,D0,OF f g r];grind
end
end
section
section
variable {p q r s u w:Pt}
end
section
variable {a b c d e f u:Pt}
end
end
section
abbrev M3:=List Pt×List T3×List T3
def dM (M:M3):Prop:=M.1.length+(Bd M.2.1).length<=4096/\4*M.2.1.length<=8192
instance (M:M3):Decidable (dM M):=inferInstanceAs (Decidable (_/\_))
theorem J2 (ts:List T3):(Bd ts).length<=3*ts.length:=by rw [Jh];exact Jm _
structure eJ (ps:List Pt) (ts ss:List T3) (e:Nat) where
  m:MX ps ts ss
instance {ps:List Pt} {ts ss:List T3} {e:Nat}:Cf (eJ ps ts ss e):=⟨λx=>.tuple #[aG (Bp x.m),vN e],λx=>Cf.rows x.m,λx y hy=>Cf.ro x.m y hy⟩
section
variable {P:Program} {ops:Array Oper} {rest:List Oper} {Q:Exit->Act->World->Prop} {n d:Nat} {F:List (Nat×Value)} {w0:BL} {S:Nat->Prop} {L:List As} {t:TypeId} {p:String} {af:Array Edge} {y:Operand} {f:FuncId} {xs:List Operand} {args:List Value} {tys:Array TypeId} {ps:List Pt} {ts ss:List T3} {e:Nat}
end
def c9 (ts:List T3):List Value:=vI (-1)::vN 0::vN 1::rowsL AZ ts
structure MB (ps:List Pt) (ts ss:List T3) where
  a:RX (rowsL Bf ps) ps.length
  b:RX (c9 ts) (1+ts.length)
  c:RX (rowsL AZ ss) ss.length
def eI {ps:List Pt} {ts ss:List T3} (x:MB ps ts ss):List Value:=[x.a.val,x.b.val,x.c.val]
theorem cJ {ps:List Pt} {ts ss:List T3} {x:MB ps ts ss} {y:As} (hy:y∈[x.a.row,x.b.row,x.c.row]):y.ro=true:=by
  simp only [List.mem_cons,List.not_mem_nil,or_false] at hy
  rcases hy with rfl|rfl|rfl<;>rfl
instance {ps:List Pt} {ts ss:List T3}:Cf (MB ps ts ss):=⟨λx=>aG (eI x),λx=>[x.a.row,x.b.row,x.c.row],λx y hy=>cJ hy⟩
end
section
def zL (l:List Int):List Value:=l.map λ(d:Int)=>.int .i64 d
theorem CG (l:List Int):(zL l).length=l.length:=by simp [zL]
theorem HO {l:List Int} {j:Nat} (h:j<l.length):(zL l)[j*1]?=some (.int .i64 (l.getD j 0)):=by simp [zL,h]
def II {α β:Type} (b:Nat) (enc:α->Value) (eV:β->Value) (kvs:List (α×β)):As:=⟨some b,λo=>o=.map (entsM enc eV kvs 0).toArray kvs.length,true⟩
section
variable {α β:Type} [DecidableEq α] {enc:α->Value} {eV:β->Value} {ok:α->Prop} {P:Program} {kt:TypeId} {n:Nat} {F:List (Nat×Value)} {w0:BL} {L:List As} {d:Option Tmp} {tx et t b:Nat} {pp:String} {af:Array Edge} {g:Option (Nat×Bool)} {mp kp:Operand}
theorem F0 (K:JO P kt enc ok) (i:Nat) {kvs:List (α×β)} {x:α} {z0:β} {co:Bool} (hx:evF F mp=some (.map (some b))) (hk:evF F kp=some (enc x)) (ht:P.underlying tx=some (.map kt et)) (hz:∀w,(zeroValue et).run P w=.ok (eV z0) w) (hi:L[i]?=some (II b enc eV kvs)) (hm:G8 ok kvs) (hok:ok x) :
    Ex P n F w0 L ⟨d,.lookup tx mp kp co,t,pp,af,g⟩ (if co then .tuple #[eV ((Ae kvs x).getD z0),.bool (Ae kvs x).isSome] else eV ((Ae kvs x).getD z0)):=λA w ha hw=>by
  obtain ⟨_,o,ho,hp⟩:=hw.2.1 _ (List.mem_of_getElem? hi) b rfl
  have ho:w.heap[b]?=some (.map (entsM enc eV kvs 0).toArray kvs.length):=by rw [ho,hp]
  obtain ⟨lx,hlx⟩:=K.key x hok
  have hc:=λem=>K.law.check w em hlx
  rcases FS (eV:=eV) K hm hok w with ⟨h1,_,h2⟩|⟨j,v,_,h1,h2⟩
  · simp only [execOp,ha.ev hx,ha.ev hk,Instr.lookup,Sem.run_bind,run_underlying ht,B6 ho,Result.andThen_ok,Sem.run_pure,hc,List.toList_toArray,h2,hz,h1,Option.getD_none,Option.isSome_none]
  · simp only [execOp,ha.ev hx,ha.ev hk,Instr.lookup,Sem.run_bind,run_underlying ht,B6 ho,Result.andThen_ok,Sem.run_pure,hc,List.toList_toArray,h2,h1,Option.getD_some,Option.isSome_some]
end
def Vx (t:T3):P2:=DC t.2.1 t.2.2
def dS (ts:List T3) (ms:List Int) (k:P2):Prop:=∃z∈ms,0<=z/\z<(ts.length:Int)/\k=Vx (ts.getD z.toNat (0,0,0))
inductive aa (ts:List T3) (S:P2->Prop):P2->Prop
  | start {k:P2}:S k->aa ts S k
  | up {t:T3} {k:P2}:t∈ts->aa ts S k->(k=DC t.1 t.2.1\/k=DC t.2.2 t.1)->aa ts S (Vx t)
section
variable {ts:List T3} {ms:List Int} {i:Nat} {kvs:List (P2×Nat)}
end
structure HC (ts:List T3) (ms:List Int) where
  b:Nat
  kvs:List (P2×Nat)
  ok:G8 O3 kvs
  one:∀k,Ae kvs k=none\/Ae kvs k=some 1
  all:∀k,Ae kvs k=some 1↔aa ts (dS ts ms) k
instance {ts:List T3} {ms:List Int}:Cf (HC ts ms):=⟨λx=>.map (some x.b),λx=>[II x.b Ee vN x.kvs],λx y hy=>by rcases List.mem_singleton.1 hy with rfl;rfl⟩
structure DX (ts:List T3) (ms:List Int) where
  l:List E4
  r:RX (rowsL B8 l) l.length
  p:E4->Bool
  el:l=(Bd ts).filter p
  all:∀e,p e=true↔aa ts (dS ts ms) (e.a,e.b)
instance {ts:List T3} {ms:List Int}:Cf (DX ts ms):=⟨λx=>x.r.val,λx=>[x.r.row],λx y hy=>by rcases List.mem_singleton.1 hy with rfl;rfl⟩
end
section
def B4 (ts:List T3):Nat->List (P2×Nat)
  | 0=>[]
  | s+1=>BG (B4 ts s) (BH ts s) (s/3)
def Bc (ts:List T3):Nat->Bool
  | 0=>true
  | s+1=>Bc ts s&&(Ae (B4 ts s) (BH ts s)).isNone
section
variable {ts:List T3} {N t r s:Nat}
theorem Id (hr:r<3):BG (B4 ts (3*t+r)) (Bw (ts.getD t (0,0,0)) r,Bw (ts.getD t (0,0,0)) ((r+1)%3)) t=B4 ts (3*t+r+1):=by
  show _=BG (B4 ts (3*t+r)) (BH ts (3*t+r)) ((3*t+r)/3)
  rw [CN hr,show (3*t+r)/3=t by omega]
theorem IV (hr:r<3) (h:Bc ts (3*t+r)=true) (hn:(Ae (B4 ts (3*t+r)) (Bw (ts.getD t (0,0,0)) r,Bw (ts.getD t (0,0,0)) ((r+1)%3))).isSome=false):Bc ts (3*t+r+1)=true:=by
  show (Bc ts (3*t+r)&&_)=true
  rw [h,CN hr,<-Option.not_isSome,hn];rfl
theorem M9:∀n,s<=n->Bc ts n=true->Bc ts s=true
  | 0,h,k=>by rw [show s=0 by omega];rfl
  | n+1,h,k=>by
    have k:(Bc ts n&&_)=true:=k
    rcases Nat.lt_or_ge s (n+1) with h1|h1
    · exact M9 n Z (Bool.and_eq_true _ _▸k).1
    · rw [show s=n+1 by omega];exact k
theorem NW (hr:r<3) (ht:t<ts.length) (hn:(Ae (B4 ts (3*t+r)) (Bw (ts.getD t (0,0,0)) r,Bw (ts.getD t (0,0,0)) ((r+1)%3))).isSome=true):Bc ts (3*ts.length)=false:=by
  cases h:Bc ts (3*ts.length) with
  | false=>rfl
  | true =>
    have h1:=M9 (s:=3*t+r+1) _ Z h
    have h1:(Bc ts (3*t+r)&&_)=true:=h1
    rw [CN hr,<-Option.not_isSome,hn,Bool.and_eq_true] at h1
    exact absurd h1.2 (by decide)
theorem Do (hn:BI N ts=true) (hN:N<=4611686018427387904):∀s,s<=3*ts.length->G8 O3 (B4 ts s)
  | 0,_=>⟨λp hp=>(by cases hp),List.Pairwise.nil⟩
  | s+1,h=>(Do hn hN s Z).put (by have:=IC hn (u:=s) Z;exact ⟨Z,Z⟩)
end
structure SX (ts:List T3) (o:Bool) where
  b:Nat
  kvs:List (P2×Nat)
  ok:G8 O3 kvs
  fin:o=true->kvs=B4 ts (3*ts.length)
instance {ts:List T3} {o:Bool}:Cf (SX ts o):=⟨λx=>.tuple #[.map (some x.b),.bool o],λx=>[II x.b Ee vN x.kvs],λx y hy=>by rcases List.mem_singleton.1 hy with rfl;rfl⟩
theorem OO {S:Nat->Prop} {W w:World} {L:List As} {ts:List T3} {o:Bool} (hw:BS ⟨W,none⟩ w L) (i:Nat) {b:Nat} {kvs:List (P2×Nat)} (hi:L[i]?=some (Bu b Ee vN kvs)) (h:G8 O3 kvs) (hf:o=true->kvs=B4 ts (3*ts.length)) {v:Value} (hv:v=.tuple #[.map (some b),.bool o]):Am (SX ts o) S W (.returned v) w:=by
  refine ⟨⟨b,kvs,h,hf⟩,by rw [hv];rfl,hw.out,λy hy=>?_⟩
  rcases List.mem_singleton.1 hy with rfl
  have h1:=hw.2.1 _ (List.mem_of_getElem? hi) b rfl
  refine ⟨λc e=>?_,λc e=>?_⟩
  · injection e with e;subst e;exact h1.2
  · injection e with e;subst e
    rcases h1.1 with h2|h2|h2
    · cases h2
    · exact .inl h2
    · cases h2
def EM (kvs:List (P2×Nat)) (s:T3):T3:=match Ae kvs (s.1,s.2.1) with
  | some t=>(s.1,s.2.1,t)
  | none=>(s.2.1,s.1,(Ae kvs (s.2.1,s.1)).getD 0)
def Nn (kvs:List (P2×Nat)) (rs:List T3) (i:Nat):List T3:=(rs.take i).map (EM kvs)
def AX (ts:List T3):List T3:=(A6 ts).map (EM (B4 ts (3*ts.length)))
theorem MD {kvs:List (P2×Nat)} {rs:List T3} {i:Nat} (h:i<rs.length):Nn kvs rs (i+1)=Nn kvs rs i++[EM kvs (rs.getD i (0,0,0))]:=by
  unfold Nn
  rw [Ly h,List.map_append];rfl
theorem Gk {kvs:List (P2×Nat)} {s:T3} (h:(Ae kvs (s.1,s.2.1)).isSome=true):EM kvs s=(s.1,s.2.1,(Ae kvs (s.1,s.2.1)).getD 0):=by
  obtain ⟨t,e⟩:=Option.isSome_iff_exists.1 h
  unfold EM;rw [e];rfl
theorem IP {kvs:List (P2×Nat)} {s:T3} (h:(Ae kvs (s.1,s.2.1)).isSome=false):EM kvs s=(s.2.1,s.1,(Ae kvs (s.2.1,s.1)).getD 0):=by
  have e:Ae kvs (s.1,s.2.1)=none:=by rw [<-Option.isNone_iff_eq_none,<-Option.not_isSome,h];rfl
  unfold EM;rw [e]
theorem UY {kvs:List (P2×Nat)} {rs:List T3} (i:Nat):(Nn kvs rs i).length<=i:=by unfold Nn;rw [List.length_map];exact List.length_take_le _ _
theorem Vv {ts:List T3} {kvs:List (P2×Nat)} (h:kvs=B4 ts (3*ts.length)):Nn kvs (A6 ts) (A6 ts).length=AX ts:=by unfold Nn AX;rw [h,List.take_length]
theorem IM {ts:List T3}:(A6 ts).length<=3*ts.length:=by
  have h1:=OJ (ts:=ts) (Bd ts).length
  have h2:=J2 ts
  show (Hi ts (Bd ts).length).length<=_
  omega
end
section
section
variable {P:Program} {Q:Exit->Act->World->Prop} {n:Nat} {F:List (Nat×Value)} {w0:BL} {L:List As} {c x y:Code}
def YN {α β γ δ ε ζ η:Type} (n:Nat) (w0:BL) (J:α->β->γ->δ->ε->ζ->η->Prop) (FI:α->β->γ->δ->ε->ζ->η->List (Nat×Value)) (LI:α->β->γ->δ->ε->ζ->η->List As) (m:α->β->γ->δ->ε->ζ->η->Nat) (i:α) (j:β) (k:γ) (l:δ) (o:ε) (q:ζ) (r:η) (Q:Exit->Act->World->Prop):Exit->Act->World->Prop :=
  Exit.then (λa w=>∃i' j' k' l' o' q' r',J i' j' k' l' o' q' r'/\m i' j' k' l' o' q' r'<m i j k l o q r/\C2 n a (FI i' j' k' l' o' q' r')/\BS w0 w (LI i' j' k' l' o' q' r')) Q
theorem AE.loop7 {α β γ δ ε ζ η:Type} (J:α->β->γ->δ->ε->ζ->η->Prop) (FI:α->β->γ->δ->ε->ζ->η->List (Nat×Value)) (LI:α->β->γ->δ->ε->ζ->η->List As) (m:α->β->γ->δ->ε->ζ->η->Nat) (round:∀i j k l o q r,J i j k l o q r->AE P c (YN n w0 J FI LI m i j k l o q r Q) n (FI i j k l o q r) w0 (LI i j k l o q r))
    (i:α) (j:β) (k:γ) (l:δ) (o:ε) (q:ζ) (r:η) (h:J i j k l o q r):AE P (.loop c) Q n (FI i j k l o q r) w0 (LI i j k l o q r) :=
  AE.loop (σ:=α×β×γ×δ×ε×ζ×η) (λs=>J s.1 s.2.1 s.2.2.1 s.2.2.2.1 s.2.2.2.2.1 s.2.2.2.2.2.1 s.2.2.2.2.2.2) (λs=>FI s.1 s.2.1 s.2.2.1 s.2.2.2.1 s.2.2.2.2.1 s.2.2.2.2.2.1 s.2.2.2.2.2.2) (λs=>LI s.1 s.2.1 s.2.2.1 s.2.2.2.1 s.2.2.2.2.1 s.2.2.2.2.2.1 s.2.2.2.2.2.2) (λs=>m s.1 s.2.1 s.2.2.1 s.2.2.2.1 s.2.2.2.2.1 s.2.2.2.2.2.1 s.2.2.2.2.2.2) (λs hs a w ha hw=>by
    refine Code.wp_mono (λe a' w' hq=>?_) (round s.1 s.2.1 s.2.2.1 s.2.2.2.1 s.2.2.2.2.1 s.2.2.2.2.2.1 s.2.2.2.2.2.2 hs a w ha hw)
    cases e<;>first
      | (obtain ⟨i',j',k',l',o',q',r',h1,h2,h3,h4⟩:=hq;exact ⟨(i',j',k',l',o',q',r'),h1,h2,h3,h4⟩)
      | exact hq) (i,j,k,l,o,q,r) h
theorem AE.lp7 {α β γ δ ε ζ η:Type} {J:α->β->γ->δ->ε->ζ->η->Prop} {FI:α->β->γ->δ->ε->ζ->η->List (Nat×Value)} {LI:α->β->γ->δ->ε->ζ->η->List As} {m:α->β->γ->δ->ε->ζ->η->Nat} (_:Tg J) (_:Tg FI) (_:Tg LI) (_:Tg m) (i:α) (j:β) (k:γ) (l:δ) (o:ε) (q:ζ) (r:η) (h:J i j k l o q r) (hs:DT (FI i j k l o q r) F) (hl:(LI i j k l o q r).Sublist L)
    (round:∀i j k l o q r,J i j k l o q r->AE P c (YN n w0 J FI LI m i j k l o q r Q) n (FI i j k l o q r) w0 (LI i j k l o q r)):AE P (.loop c) Q n F w0 L:=AE.sub hs hl (AE.loop7 J FI LI m round i j k l o q r h)
theorem OkQ.round7 {α β γ δ ε ζ η:Type} {J:α->β->γ->δ->ε->ζ->η->Prop} {FI:α->β->γ->δ->ε->ζ->η->List (Nat×Value)} {LI:α->β->γ->δ->ε->ζ->η->List As} {m:α->β->γ->δ->ε->ζ->η->Nat} {i:α} {j:β} {k:γ} {l:δ} {o:ε} {q:ζ} {r:η} (i':α) (j':β) (k':γ) (l':δ) (o':ε) (q':ζ) (r':η) (hJ:J i' j' k' l' o' q' r') (hm:m i' j' k' l' o' q' r'<m i j k l o q r) (hs:DT (FI i' j' k' l' o' q' r') F) (hl:(LI i' j' k' l' o' q' r').Sublist L):OkQ (YN n w0 J FI LI m i j k l o q r Q) .normal n F w0 L:=λ_ _ ha hw=>⟨i',j',k',l',o',q',r',hJ,hm,ha.sub hs,hw.weak hl⟩
theorem OkQ.round7_exit {α β γ δ ε ζ η:Type} {J:α->β->γ->δ->ε->ζ->η->Prop} {FI:α->β->γ->δ->ε->ζ->η->List (Nat×Value)} {LI:α->β->γ->δ->ε->ζ->η->List As} {m:α->β->γ->δ->ε->ζ->η->Nat} {i:α} {j:β} {k:γ} {l:δ} {o:ε} {q:ζ} {r:η} {id:Nat} (h:OkQ Q (.exit id) n F w0 L):OkQ (YN n w0 J FI LI m i j k l o q r Q) (.exit id) n F w0 L:=h
end
end
end Go.Proofs.YtpgncndhhhllfaaGreat
