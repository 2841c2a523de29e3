import Derived.Test.YtfbomiejpbchdaaGreatPart31
import Derived.Test.YtfbomiejpbchdaaGreatPart37
import Derived.Test.YtfbomiejpbchdaaGreatPart38
import Derived.Test.YtfbomiejpbchdaaGreatPart39
import Derived.Test.YtfbomiejpbchdaaGreatPart41
namespace Go.Proofs.YtfbomiejpbchdaaGreat
open Go Go.RowKit Go.Proofs.Tryz
set_option linter.unusedVariables false
set_option linter.unusedSimpArgs false
section
abbrev WV (ts:List T3):List (P2×Nat):=Nb ts (3*ts.length)
def Ps (k:P2):P2:=(k.2,k.1)
def aY (t:T3) (k:P2):Nat:=t.1+t.2.1+t.2.2-k.1-k.2
def M0 (ts:List T3) (k:P2):P2:=(k.2,aY (ts.getD ((Ae (WV ts) k).getD 0) (0,0,0)) k)
def isS (ts:List T3) (k:P2):Prop:=(Ae (WV ts) k).isSome=true
def VS (ts:List T3) (k:P2):Prop:=isS ts k/\¬isS ts (Ps k)
def QB (ts:List T3):Nat->P2->Option P2
  | 0,_=>none
  | f+1,k=>if (Ae (WV ts) (Ps (M0 ts k))).isSome then QB ts f (Ps (M0 ts k)) else some (M0 ts k)
def RP (ts:List T3) (k:P2):P2:=(QB ts (3*ts.length) k).getD (0,0)
section
variable {ts:List T3} {N:Nat} {k k0:P2} {i:Nat}
theorem Ib {n:Nat}:∀s,Ae (Nb ts s) k=some n->∃u,u<s/\B4 ts u=k/\n=u/3
  | 0,h=>by cases h
  | s+1,h=>by
    have h:Ae (BU (Nb ts s) (B4 ts s) (s/3)) k=some n:=h
    rw [Bw] at h
    split at h
    · rename_i e
      injection h with h
      exact ⟨s,Z,e.symm,h.symm⟩
    · obtain ⟨u,h1,h2,h3⟩:=Ib s h
      exact ⟨u,Z,h2,h3⟩
theorem H9 {u:Nat}:∀s,u<s->(Ae (Nb ts s) (B4 ts u)).isSome=true
  | 0,h=>absurd h (Nat.not_lt_zero _)
  | s+1,h=>by
    show (Ae (BU (Nb ts s) (B4 ts s) (s/3)) (B4 ts u)).isSome=true
    rw [Bw]
    split
    · rfl
    · rename_i e
      rcases Nat.lt_or_ge u s with h1|h1
      · exact H9 s h1
      · exact absurd (by rw [show u=s by omega]) e
theorem MM {u v n:Nat} (ho:Hr ts n=true) (hu:u<n) (hv:v<n) (h:B4 ts u=B4 ts v):u=v:=by
  have key:∀{u v:Nat},u<v->v<n->B4 ts u=B4 ts v->False:=λ{u v} h1 h2 h=>by
    have h3:=Qe (s:=v+1) _ Z ho
    have h3:(Hr ts v&&(Ae (Nb ts v) (B4 ts v)).isNone)=true:=h3
    rw [Bool.and_eq_true] at h3
    have h4:=H9 (ts:=ts) v h1
    rw [h] at h4
    rw [<-Option.not_isSome,h4] at h3
    exact absurd h3.2 (by decide)
  rcases Nat.lt_trichotomy u v with h1|h1|h1
  · exact (key h1 hv h).elim
  · exact h1
  · exact (key h1 hu h.symm).elim
theorem Sk {u:Nat} (ho:Hr ts (3*ts.length)=true) (hu:u<3*ts.length):Ae (WV ts) (B4 ts u)=some (u/3):=by
  obtain ⟨n,h⟩:=Option.isSome_iff_exists.1 (H9 (ts:=ts) _ hu)
  obtain ⟨v,h1,h2,h3⟩:=Ib _ h
  have e:=MM ho hu h1 h2.symm
  rw [show Ae (WV ts) (B4 ts u)=some n from h,h3,e]
theorem HM:isS ts k↔∃u,u<3*ts.length/\B4 ts u=k:=by
  constructor
  · intro h
    obtain ⟨n,h⟩:=Option.isSome_iff_exists.1 h
    obtain ⟨u,h1,h2,_⟩:=Ib _ h
    exact ⟨u,h1,h2⟩
  · rintro ⟨u,h1,rfl⟩
    exact H9 _ h1
def VY (u:Nat):Nat:=3*(u/3)+(u%3+1)%3
theorem Wr {u v:Nat} (h:VY u=VY v):u=v:=by unfold VY at h;omega
theorem O_ {u:Nat} (h:u<3*ts.length):VY u<3*ts.length:=by unfold VY;omega
theorem NE (ho:Hr ts (3*ts.length)=true) {u:Nat} (hu:u<3*ts.length):M0 ts (B4 ts u)=B4 ts (VY u):=by
  unfold M0
  rw [Sk ho hu,Option.getD_some]
  have hd:(VY u)/3=u/3:=by unfold VY;omega
  have hm:(VY u)%3=(u%3+1)%3:=by unfold VY;omega
  unfold aY B4
  rw [hd,hm]
  generalize ts.getD (u/3) (0,0,0)=t
  have e:u%3=0\/u%3=1\/u%3=2:=by omega
  rcases e with e|e|e<;>rw [e]<;>refine Prod.ext rfl ?_
  · show t.1+t.2.1+t.2.2-t.1-t.2.1=t.2.2;omega
  · show t.1+t.2.1+t.2.2-t.2.1-t.2.2=t.1;omega
  · show t.1+t.2.1+t.2.2-t.2.2-t.1=t.2.1;omega
theorem S_ (ho:Hr ts (3*ts.length)=true) (h:isS ts k):isS ts (M0 ts k):=by
  obtain ⟨u,hu,rfl⟩:=HM.1 h
  rw [NE ho hu]
  exact HM.2 ⟨_,O_ hu,rfl⟩
theorem WI (ho:Hr ts (3*ts.length)=true) {k':P2} (h:isS ts k) (h':isS ts k') (e:M0 ts k=M0 ts k'):k=k':=by
  obtain ⟨u,hu,rfl⟩:=HM.1 h
  obtain ⟨v,hv,rfl⟩:=HM.1 h'
  rw [NE ho hu,NE ho hv] at e
  rw [Wr (MM ho (O_ hu) (O_ hv) e)]
theorem Np (k:P2):Ps (Ps k)=k:=rfl
theorem WB {a b:P2} (h:Ps a=Ps b):a=b:=by rw [<-Np a,h,Np]
theorem MN {α:Type} [DecidableEq α] {l m:List α} (hn:l.Nodup) (hs:∀x∈l,x∈m):l.length<=m.length:=by
  induction l generalizing m with
  | nil=>exact Nat.zero_le _
  | cons x r ih =>
    have hx:=hs x List.mem_cons_self
    have hn2:=List.nodup_cons.1 hn
    have h:=ih (m:=m.erase x) hn2.2 λy hy=>by
      have:y≠x:=λe=>hn2.1 (e▸hy)
      exact (List.mem_erase_of_ne this).2 (hs y (List.mem_cons_of_mem _ hy))
    rw [List.length_erase_of_mem hx] at h
    have:=List.length_pos_of_mem hx
    simp only [List.length_cons];omega
def TK (ts:List T3):List P2:=(List.range (3*ts.length)).map (B4 ts)
theorem N4 (h:isS ts k):k∈TK ts:=by
  obtain ⟨u,hu,rfl⟩:=HM.1 h
  exact List.mem_map.2 ⟨u,List.mem_range.2 hu,rfl⟩
theorem Ny:(TK ts).length=3*ts.length:=by simp [TK]
structure Hw (ts:List T3) (k0:P2) (i:Nat) (k:P2):Prop where
  chain:∃s:Nat->P2,s 0=k0/\s i=k/\(∀j,j<=i->isS ts (s j))/\∀j,j<i->s (j+1)=Ps (M0 ts (s j))
theorem Hw.zero (h:isS ts k0):Hw ts k0 0 k0:=⟨λ_=>k0,rfl,rfl,λ_ _=>h,λ_ h=>absurd h (Nat.not_lt_zero _)⟩
theorem Hw.isS (h:Hw ts k0 i k):isS ts k:=by
  obtain ⟨s,_,h2,h3,_⟩:=h.chain
  rw [<-h2];exact h3 i (Nat.le_refl _)
theorem Hw.succ (h:Hw ts k0 i k) (hs:(Ae (WV ts) (Ps (M0 ts k))).isSome=true):Hw ts k0 (i+1) (Ps (M0 ts k)):=by
  obtain ⟨s,h1,h2,h3,h4⟩:=h.chain
  refine ⟨λj=>if j<=i then s j else Ps (M0 ts k),by simp [h1],if_neg Z,λj hj=>?_,λj hj=>?_⟩
  · show Go.Proofs.YtfbomiejpbchdaaGreat.isS ts (if j<=i then s j else _)
    split
    · exact h3 j ‹_›
    · exact hs
  · show (if j+1<=i then s (j+1) else _)=Ps (M0 ts (if j<=i then s j else _))
    rw [if_pos (show j<=i by omega)]
    split
    · exact h4 j Z
    · rw [show j=i by omega,h2]
theorem Hw.lt (ho:Hr ts (3*ts.length)=true) (h0:VS ts k0) (h:Hw ts k0 i k):i<3*ts.length:=by
  obtain ⟨s,h1,h2,h3,h4⟩:=h.chain
  have ne:∀d a,a+d+1<=i->s a≠s (a+d+1):=λd a=>by
    induction a with
    | zero =>
      intro hd e
      rw [h1,h4 (0+d) Z] at e
      refine h0.2 ?_
      rw [e,Np]
      exact S_ ho (h3 _ Z)
    | succ a ih =>
      intro hd e
      rw [h4 a Z,show a+1+d+1=(a+d+1)+1 by omega,h4 (a+d+1) Z] at e
      exact ih Z (WI ho (h3 _ Z) (h3 _ Z) (WB e))
  have hnd:((List.range (i+1)).map s).Nodup:=by
    refine List.pairwise_map.2 (List.Pairwise.imp_of_mem ?_ List.pairwise_lt_range)
    intro a b ha hb hab
    have:=ne (b-a-1) a (by have:=List.mem_range.1 hb;omega)
    rw [show a+(b-a-1)+1=b by omega] at this
    exact this
  have h5:=MN (m:=TK ts) hnd λx hx=>by
    obtain ⟨j,hj,rfl⟩:=List.mem_map.1 hx
    exact N4 (h3 j (by have:=List.mem_range.1 hj;omega))
  rw [Ny,List.length_map,List.length_range] at h5
  omega
theorem Hw.fuel (h:Hw ts k0 i k) (f:Nat):QB ts (f+i) k0=QB ts f k:=by
  obtain ⟨s,h1,h2,h3,h4⟩:=h.chain
  subst h1 h2
  have key:∀j,j<=i->QB ts (f+i) (s 0)=QB ts (f+(i-j)) (s j):=λj=>by
    induction j with
    | zero=>intro _;rfl
    | succ j ih =>
      intro hj
      rw [ih Z,show f+(i-j)=(f+(i-(j+1)))+1 by omega]
      have h5:(Ae (WV ts) (Ps (M0 ts (s j)))).isSome=true:=by rw [<-h4 j Z];exact h3 (j+1) hj
      show (if _ then _ else _)=_
      rw [if_pos h5,<-h4 j Z]
  have:=key i (Nat.le_refl _)
  rwa [Nat.sub_self,Nat.add_zero] at this
theorem Hw.stop (ho:Hr ts (3*ts.length)=true) (h0:VS ts k0) (h:Hw ts k0 i k) (hs:¬(Ae (WV ts) (Ps (M0 ts k))).isSome=true):RP ts k0=M0 ts k/\VS ts (M0 ts k):=by
  have hlt:=h.lt ho h0
  have h1:=h.fuel (3*ts.length-i)
  rw [show 3*ts.length-i+i=3*ts.length by omega,show 3*ts.length-i=(3*ts.length-i-1)+1 by omega] at h1
  have h2:QB ts (3*ts.length-i-1+1) k=some (M0 ts k):=by
    show (if _ then _ else _)=_
    rw [if_neg hs]
  refine ⟨?_,S_ ho h.isS,hs⟩
  unfold RP
  rw [h1,h2];rfl
theorem WT (ho:Hr ts (3*ts.length)=true) (h0:VS ts k0):VS ts (RP ts k0):=by
  have key:∀d i k,3*ts.length-i=d->Hw ts k0 i k->VS ts (RP ts k0):=λd=>by
    induction d with
    | zero=>intro i k hd h;have:=h.lt ho h0;omega
    | succ d ih =>
      intro i k hd h
      by_cases hs:(Ae (WV ts) (Ps (M0 ts k))).isSome=true
      · exact ih _ _ Z (h.succ hs)
      · have h1:=h.stop ho h0 hs
        rw [h1.1];exact h1.2
  exact key _ 0 k0 O (Hw.zero h0.1)
end
def Zk (ts:List T3):Nat->List (P2×Nat)->P2->List Nat->Option (List (P2×Nat)×List Nat)
  | 0,_,_,_=>none
  | f+1,dn,k,l=>if (Ae dn k).getD 0=0 then Zk ts f (BU dn k 1) (RP ts k) (l++[k.1]) else some (dn,l)
def aW (ts:List T3) (dn:List (P2×Nat)) (k:P2):List (P2×Nat)×List Nat:=(Zk ts (3*ts.length+1) dn k []).getD ([],[])
structure Ux (ts:List T3) (dn:List (P2×Nat)):Prop where
  ok:Hq JU dn
  bd:∀k n,Ae dn k=some n->VS ts k/\n=1
section
variable {ts:List T3} {N:Nat} {k k0:P2} {i:Nat} {dn dn0:List (P2×Nat)} {l:List Nat}
theorem Ux.nil:Ux ts []:=⟨Hq.nil,λk n h=>by cases h⟩
theorem Ux.len (h:Ux ts dn):dn.length<=3*ts.length:=by
  have h1:(dn.map (·.1)).Nodup:=List.pairwise_map.2 (h.ok.once.imp λ{a b} h e=>h e)
  have h2:=MN (m:=TK ts) h1 λx hx=>by
    obtain ⟨p,hp,rfl⟩:=List.mem_map.1 hx
    obtain ⟨j,hj,h3⟩:=List.getElem_of_mem hp
    exact N4 (h.bd _ _ (J4 (x:=p.1) (v:=p.2) h.ok.once (by rw [List.getElem?_eq_getElem hj,h3]))).1.1
  rwa [Ny,List.length_map] at h2
theorem Ux.put (h:Ux ts dn) (hk:VS ts k) (hok:JU k):Ux ts (BU dn k 1):=⟨h.ok.put hok,λx n hx=>by
  rw [Bw] at hx
  split at hx
  · rename_i e
    injection hx with hx
    rw [e];exact ⟨hk,hx.symm⟩
  · exact h.bd _ _ hx⟩
theorem Ux.zero (h:Ux ts dn) (e:(Ae dn k).getD 0=0):Ae dn k=none:=by
  cases hg:Ae dn k with
  | none=>rfl
  | some n=>rw [hg,(h.bd _ _ hg).2] at e;cases e
theorem P0 {α β:Type} [DecidableEq α] {kvs:List (α×β)} {x:α} {y:β} (h:Ae kvs x=none):(BU kvs x y).length=kvs.length+1:=by
  induction kvs with
  | nil=>rfl
  | cons p r ih =>
    obtain ⟨k,v⟩:=p
    unfold Ae at h
    split at h
    · cases h
    · rename_i e
      unfold BU
      rw [if_neg e,List.length_cons,ih h];rfl
theorem Xf (hn:CN N ts=true) (hN:N<=4611686018427387904) (h:isS ts k):JU k:=by
  obtain ⟨u,hu,rfl⟩:=HM.1 h
  have:=NP hn hu
  exact ⟨Z,Z⟩
structure VL (ts:List T3) (dn0:List (P2×Nat)) (k0:P2) (i:Nat) (dn:List (P2×Nat)) (k:P2) (l:List Nat):Prop where
  fuel:∀f,Zk ts (f+i) dn0 k0 []=Zk ts f dn k l
  bd:VS ts k
  di:Ux ts dn
  len:dn.length=dn0.length+i
  ll:l.length=i
  at0:i=0->dn=dn0/\k=k0
theorem VL.zero (h:Ux ts dn0) (hb:VS ts k0):VL ts dn0 k0 0 dn0 k0 []:=⟨λ_=>rfl,hb,h,rfl,rfl,λ_=>⟨rfl,rfl⟩⟩
theorem VL.succ (hn:CN N ts=true) (hN:N<=4611686018427387904) (ho:Hr ts (3*ts.length)=true) (h:VL ts dn0 k0 i dn k l) (e:(Ae dn k).getD 0=0):VL ts dn0 k0 (i+1) (BU dn k 1) (RP ts k) (l++[k.1]) :=
  ⟨λf=>by
    rw [show f+(i+1)=f+1+i by omega,h.fuel (f+1)]
    show (if _ then _ else _)=_
    rw [if_pos e],WT ho h.bd,h.di.put h.bd (Xf hn hN h.bd.1),by rw [P0 (h.di.zero e),h.len];omega,by rw [List.length_append,h.ll];rfl,λh=>by omega⟩
theorem VL.le (h:VL ts dn0 k0 i dn k l):i<=3*ts.length:=by
  have h1:=h.di.len
  have:=h.len
  omega
theorem VL.lt (hn:CN N ts=true) (hN:N<=4611686018427387904) (ho:Hr ts (3*ts.length)=true) (h:VL ts dn0 k0 i dn k l) (e:(Ae dn k).getD 0=0):i<3*ts.length:=by
  have:=(h.succ hn hN ho e).le
  omega
theorem VL.stop (h:VL ts dn0 k0 i dn k l) (e:¬(Ae dn k).getD 0=0):aW ts dn0 k0=(dn,l):=by
  have h1:=h.fuel (3*ts.length+1-i)
  have:=h.le
  rw [show 3*ts.length+1-i+i=3*ts.length+1 by omega,show 3*ts.length+1-i=(3*ts.length-i)+1 by omega] at h1
  have h2:Zk ts (3*ts.length-i+1) dn k l=some (dn,l):=by
    show (if _ then _ else _)=_
    rw [if_neg e]
  unfold aW
  rw [h1,h2];rfl
end
section
variable {ts:List T3} {N i:Nat} {dn dn2:List (P2×Nat)} {wq:T3} {l:List Nat}
end
end
section
theorem YT {c:T2} (h:0<B3 c.1 c.2.1 c.2.2):∃x y:Rat,VR c x y:=by
  obtain ⟨⟨a1,a2⟩,⟨b1,b2⟩,⟨c1,c2⟩⟩:=c
  have h2:(0:Rat)<(B3 (a1,a2) (b1,b2) (c1,c2):Int):=by exact_mod_cast h
  have e:((B3 (a1,a2) (b1,b2) (c1,c2):Int):Rat)=((b1:Rat)-a1)*((c2:Rat)-a2)-((b2:Rat)-a2)*((c1:Rat)-a1):=by
    simp only [B3,Rat.intCast_sub,Rat.intCast_mul,Rat.intCast_natCast]
  rw [e] at h2
  refine ⟨((a1:Rat)+b1+c1)/3,((a2:Rat)+b2+c2)/3,?_,?_,?_⟩<;>simp only [Jt]<;>grind
section
variable {ps:List Pt} {ts:List T3}
theorem Uo {m:MQ} {pl:List P2} {n:T3} {t:Nat} (h:JF m pl n t) {r:Nat} (hr:r<3):pl.getD (Eh n r) (0,0)=Ay m t r:=by
  have e:r=0\/r=1\/r=2:=by omega
  rcases e with rfl|rfl|rfl
  · exact h.a.2
  · exact h.b.2
  · exact h.c.2
end
end
section
def UD (A B:P2) (t:T2):Bool:=decide (B3 A B t.1<=0)&&decide (B3 A B t.2.1<=0)&&decide (B3 A B t.2.2<=0)
def TU (s t:T2):Bool:=UD s.1 s.2.1 t||UD s.2.1 s.2.2 t||UD s.2.2 s.1 t
def VJ (s t:T2):Bool:=s == t||(TU s t||TU t s)
def Tk:Bool:=Gz.all λp=>Gz.all λq=>(decide (p.1=q.1/\p.2.1=q.2.1/\p.2.2≠q.2.2))||(RA p.1 p.2.1 p.2.2).all λs=>(RA q.1 q.2.1 q.2.2).all λt=>VJ s t
theorem Lm:Tk=true:=by decide +kernel
theorem Tz {m:MQ} {s t:T2} (hs:s∈BD m) (ht:t∈BD m):VJ s t=true:=by
  obtain ⟨i,hi,h1⟩:=EM m _ s hs
  obtain ⟨j,hj,h2⟩:=EM m _ t ht
  have hx:=I6 m
  have hy:=Ie m
  have b:∀k,k<GD m*Rm m->k%GD m<=2/\k/GD m<=2:=λk hk=>by
    have a1:=Nat.mod_lt k (show 0<GD m by omega)
    have a2:k/GD m<Rm m:=Nat.div_lt_of_lt_mul hk
    omega
  rw [Mi] at h1 h2
  have h:=List.all_eq_true.1 (List.all_eq_true.1 Lm _ (E9 (b i hi).1 (b i hi).2 (J5 (Gh m i) i))) _ (E9 (b j hj).1 (b j hj).2 (J5 (Gh m j) j))
  rw [Bool.or_eq_true,decide_eq_true_eq] at h
  rcases h with ⟨e1,e2,e3⟩|h
  · exfalso
    have e:i=j:=by rw [<-Nat.div_add_mod i (GD m),<-Nat.div_add_mod j (GD m),show i%GD m=j%GD m from e1,show i/GD m=j/GD m from e2]
    subst e
    exact e3 O
  · exact List.all_eq_true.1 (List.all_eq_true.1 h s h1) t h2
theorem Nu {A B:P2} {t:T2} (h:UD A B t=true):∀q,q<3->B3 A B (Cz t q)<=0:=by
  simp only [UD,Bool.and_eq_true,decide_eq_true_eq] at h
  intro q hq
  have e:q=0\/q=1\/q=2:=by omega
  rcases e with rfl|rfl|rfl
  · exact h.1.1
  · exact h.1.2
  · exact h.2
theorem YU {s t:T2} (h:TU s t=true) (hp:0<B3 s.1 s.2.1 s.2.2):∃A B X:P2,0<B3 A B X/\(∀q,q<3->0<=B3 A B (Cz s q))/\∀q,q<3->B3 A B (Cz t q)<=0:=by
  have hs:∀A B C:P2,0<B3 A B C->(A=s.1/\B=s.2.1/\C=s.2.2\/A=s.2.1/\B=s.2.2/\C=s.1\/A=s.2.2/\B=s.1/\C=s.2.1)->∀q,q<3->0<=B3 A B (Cz s q):=λA B C hc he q hq=>by
    have e:q=0\/q=1\/q=2:=by omega
    have s1:=(DI A B).2.1
    have s2:=(DI A B).2.2
    rcases he with ⟨rfl,rfl,rfl⟩|⟨rfl,rfl,rfl⟩|⟨rfl,rfl,rfl⟩<;>rcases e with rfl|rfl|rfl<;>simp only [Cz,if_true]<;>first|exact Int.le_of_lt hc|(simp;first|exact Int.le_of_lt hc|(rw [s1];exact Int.le_refl 0)|(have:=(DI s.1 s.2.1);have:=(DI s.2.1 s.2.2);have:=(DI s.2.2 s.1);unfold B3 at *;omega)|(unfold B3;grind))
  simp only [TU,Bool.or_eq_true] at h
  rcases h with (h|h)|h
  · exact ⟨_,_,_,hp,hs _ _ _ hp (.inl ⟨rfl,rfl,rfl⟩),Nu h⟩
  · have hp':0<B3 s.2.1 s.2.2 s.1:=by rw [FC];exact hp
    exact ⟨_,_,_,hp',hs _ _ _ hp' (.inr (.inl ⟨rfl,rfl,rfl⟩)),Nu h⟩
  · have hp':0<B3 s.2.2 s.1 s.2.1:=by rw [FC,FC];exact hp
    exact ⟨_,_,_,hp',hs _ _ _ hp' (.inr (.inr ⟨rfl,rfl,rfl⟩)),Nu h⟩
def Ln (ps:List Pt) (s t:T3):Prop:=∃(u:Pt) (k:Rat),u≠⟨0,0⟩/\ZZ u k (cor ps s.1) (cor ps s.2.1) (cor ps s.2.2) (cor ps t.1) (cor ps t.2.1) (cor ps t.2.2)
theorem Ln.symm {ps:List Pt} {s t:T3} (h:Ln ps s t):Ln ps t s:=by
  obtain ⟨u,k,hu,⟨h1,h2,h3⟩,h4,h5,h6⟩:=h
  have ng:∀a,dt ⟨-u.x,-u.y⟩ a = -dt u a:=λa=>by unfold dt;grind
  refine ⟨⟨-u.x,-u.y⟩,-k,λe=>hu ?_,⟨?_,?_,?_⟩,?_,?_,?_⟩
  · obtain ⟨x,y⟩:=u
    injection e with e1 e2
    simp only at e1 e2
    rw [show x=0 by grind,show y=0 by grind]
  all_goals rw [ng];grind
section
variable {ps:List Pt} {ts:List T3}
theorem U_ (g:F0 ps ts) {i j:Nat} (hi:i<ts.length) (hj:j<ts.length) (hne:i≠j):Ln ps (ts.getD i (0,0,0)) (ts.getD j (0,0,0)):=by
  obtain ⟨m,pl,l⟩:=g.lattice
  obtain ⟨c,hc,hT⟩:=Ob (Fm m.a m.b m.c m.d) (B_ m)
  have hlen:=l.inv.tl
  have dz:T2:=((0,0),(0,0),(0,0))
  have key:∀i j,i<ts.length->j<ts.length->TU ((BD m).getD i ((0,0),(0,0),(0,0))) ((BD m).getD j ((0,0),(0,0),(0,0)))=true->Ln ps (ts.getD i (0,0,0)) (ts.getD j (0,0,0)):=λi j hi hj h=>by
    obtain ⟨A,B,X,hX,hs,ht⟩:=YU h (HO m _ (l.cell hi)).1
    have pt:∀k,k<ts.length->∀r,r<3->∃q,q<3/\cor ps (Eh (ts.getD k (0,0,0)) r)=PQ (mapM m) (B_ m) ((Cz ((BD m).getD k ((0,0),(0,0),(0,0))) q).1:Rat) ((Cz ((BD m).getD k ((0,0),(0,0),(0,0))) q).2:Rat):=λk hk r hr=>by
      have hat:=l.inv.at_ k Z
      have e:=Uo hat hr
      have hlt:Eh (ts.getD k (0,0,0)) r<pl.length:=by
        have er:r=0\/r=1\/r=2:=by omega
        rcases er with rfl|rfl|rfl
        · exact hat.a.1
        · exact hat.b.1
        · exact hat.c.1
      refine ⟨I3 m k r,Nat.mod_lt _ (by decide),?_⟩
      show ps.getD _ ⟨0,0⟩=_
      rw [l.at_ _ hlt,JQ,e]
      rfl
    have q2:∀C:P2,AJ (CT (Gg (mapM m) (B_ m) A)) (CT (Gg (mapM m) (B_ m) B)) (PQ (mapM m) (B_ m) (C.1:Rat) (C.2:Rat))=c*((B3 A B C:Int):Rat):=λC=>by
      rw [show mapM m=Gi m.a m.b m.c m.d from rfl,hT]
      congr 1
      simp only [Jt,B3,Rat.intCast_sub,Rat.intCast_mul,Rat.intCast_natCast]
    have dq:∀P:Pt,AJ (CT (Gg (mapM m) (B_ m) A)) (CT (Gg (mapM m) (B_ m) B)) P=dt (Ez (CT (Gg (mapM m) (B_ m) B)) (CT (Gg (mapM m) (B_ m) A))) P-dt (Ez (CT (Gg (mapM m) (B_ m) B)) (CT (Gg (mapM m) (B_ m) A))) (CT (Gg (mapM m) (B_ m) A)):=λP=>by
      simp only [Ci,dt,Ez];grind
    have lf:∀r,r<3->dt (Ez (CT (Gg (mapM m) (B_ m) B)) (CT (Gg (mapM m) (B_ m) A))) (CT (Gg (mapM m) (B_ m) A))<=dt (Ez (CT (Gg (mapM m) (B_ m) B)) (CT (Gg (mapM m) (B_ m) A))) (cor ps (Eh (ts.getD i (0,0,0)) r)):=λr hr=>by
      obtain ⟨q,hq,e⟩:=pt i hi r hr
      have h1:=dq (cor ps (Eh (ts.getD i (0,0,0)) r))
      rw [e,q2] at h1
      rw [e]
      have h2:(0:Rat)<=((B3 A B (Cz ((BD m).getD i ((0,0),(0,0),(0,0))) q):Int):Rat):=by exact_mod_cast hs q hq
      have h3:=Rat.mul_nonneg (Rat.le_of_lt hc) h2
      grind
    have rt:∀r,r<3->dt (Ez (CT (Gg (mapM m) (B_ m) B)) (CT (Gg (mapM m) (B_ m) A))) (cor ps (Eh (ts.getD j (0,0,0)) r))<=dt (Ez (CT (Gg (mapM m) (B_ m) B)) (CT (Gg (mapM m) (B_ m) A))) (CT (Gg (mapM m) (B_ m) A)):=λr hr=>by
      obtain ⟨q,hq,e⟩:=pt j hj r hr
      have h1:=dq (cor ps (Eh (ts.getD j (0,0,0)) r))
      rw [e,q2] at h1
      rw [e]
      have h2:(0:Rat) <= -((B3 A B (Cz ((BD m).getD j ((0,0),(0,0),(0,0))) q):Int):Rat):=by
        have h9:((B3 A B (Cz ((BD m).getD j ((0,0),(0,0),(0,0))) q):Int):Rat)<=0:=by exact_mod_cast ht q hq
        grind
      have h3:=Rat.mul_nonneg (Rat.le_of_lt hc) h2
      grind
    refine ⟨_,_,λe=>?_,⟨lf 0 (by decide),lf 1 (by decide),lf 2 (by decide)⟩,rt 0 (by decide),rt 1 (by decide),rt 2 (by decide)⟩
    have h1:=dq (PQ (mapM m) (B_ m) (X.1:Rat) (X.2:Rat))
    rw [q2,e] at h1
    have h2:(0:Rat)<((B3 A B X:Int):Rat):=by exact_mod_cast hX
    have h3:=Rat.mul_pos hc h2
    unfold dt at h1
    grind
  have h3:=Tz (l.cell hi) (l.cell hj)
  simp only [VJ,Bool.or_eq_true,beq_iff_eq] at h3
  rcases h3 with h3|h3|h3
  · exfalso
    obtain ⟨x,y,ho⟩:=YT (HO m _ (l.cell hi)).1
    refine Mc m (show i<(BD m).length by omega) (show j<(BD m).length by omega) hne ((0,0),(0,0),(0,0)) x y ho ?_
    rw [<-h3]
    exact ⟨by have:=ho.1;grind,by have:=ho.2.1;grind,by have:=ho.2.2;grind⟩
  · exact key i j hi hj h3
  · exact (key j i hj hi h3).symm
end
end
section
def Su (t:T3):List P2:=[BY t.1 t.2.1,BY t.2.1 t.2.2,BY t.2.2 t.1]
def G0 (md:List (P2×Nat)) (k:P2):List P2:=match Ae md k with
  | none=>[k]
  | some n=>[(k.1,n),(k.2,n)]
structure R0 (md:List (P2×Nat)) (N:Nat):Prop where
  new:∀k n,Ae md k=some n->N<=n
  inj:∀k k' n,Ae md k=some n->Ae md k'=some n->k=k'
def ZY (md:List (P2×Nat)) (N:Nat) (κ:P2):Prop:=∀k:P2,k.1<k.2->k.2<N->κ ∉ G0 md k
def O2 (md:List (P2×Nat)) (n:Nat) (k:P2):List P2:=match Ae md k with
  | none=>[]
  | some n'=>[BY n n']
section
variable {md:List (P2×Nat)} {N M n a b c e p:Nat} {k κ:P2} {T:T3} {ts ts':List T3}
theorem DR (h:Ae md k=none):G0 md k=[k]:=by unfold G0;rw [h]
theorem Ef (h:Ae md k=some n):G0 md k=[(k.1,n),(k.2,n)]:=by unfold G0;rw [h]
theorem Ut (h:Ae md (BY a b)=some n):(G0 md (BY a b)).count κ=[((a:Nat),n),(b,n)].count κ:=by
  rw [Ef h]
  unfold BY
  rcases Nat.le_total a b with h1|h1
  · rw [Nat.min_eq_left h1,Nat.max_eq_right h1]
  · rw [Nat.min_eq_right h1,Nat.max_eq_left h1]
    simp only [List.count_cons,List.count_nil]
    omega
theorem GI (h:p<N) (hn:N<=n):BY n p=(p,n)/\BY p n=(p,n):=by
  unfold BY
  rw [Nat.min_eq_right Z,Nat.max_eq_left Z,Nat.min_eq_left Z,Nat.max_eq_right Z];exact ⟨rfl,rfl⟩
theorem Qn (hM:R0 md N) (hn:N<=n) (hc:c<N) (he:e<N):((CB md 1 (n,c,e)).flatMap Su).count κ=[((c:Nat),n),(e,n)].count κ+(G0 md (BY c e)).count κ+2*(O2 md n (BY c e)).count κ:=by
  cases hb:Ae md (Bh (n,c,e)) with
  | none =>
    have hb':Ae md (BY c e)=none:=hb
    rw [Ep hb,DR hb']
    unfold O2
    rw [hb']
    show ([BY n c,BY c e,BY e n]:List P2).count κ=_
    rw [(GI hc hn).1,(GI he hn).2]
    simp only [List.count_cons,List.count_nil]
    omega
  | some n' =>
    have hb':Ae md (BY c e)=some n':=hb
    have hn':=hM.new _ _ hb'
    rw [E3 hb,Ut hb']
    unfold O2
    rw [hb']
    show ([BY n' n,BY n c,BY c n',BY n' e,BY e n,BY n n']:List P2).count κ=_
    rw [(GI hc hn).1,(GI hc hn').2,(GI he hn').1,(GI he hn).2,Tq n' n]
    simp only [List.count_cons,List.count_nil]
    omega
theorem Vx (h:κ∈G0 md k):κ.1=k.1\/κ.1=k.2:=by
  cases hg:Ae md k with
  | none=>rw [DR hg,List.mem_singleton] at h;exact .inl (by rw [h])
  | some n =>
    rw [Ef hg] at h
    simp only [List.mem_cons,List.not_mem_nil,or_false] at h
    rcases h with rfl|rfl
    · exact .inl O
    · exact .inr O
theorem Xx (hM:R0 md N) (hT:Yv N T) (hcl:Ae md (Bh T)=none->Ae md (BY T.1 T.2.1)=none/\Ae md (BY T.2.2 T.1)=none):∃I:List P2,(∀κ,((CB md 2 T).flatMap Su).count κ=((Su T).flatMap (G0 md)).count κ+2*I.count κ)/\∀κ∈I,ZY md N κ:=by
  obtain ⟨p0,p1,p2⟩:=T
  obtain ⟨⟨a0,a1,a2⟩,d1,d2,d3⟩:=hT
  simp only at a0 a1 a2 d1 d2 d3
  cases hb:Ae md (Bh (p0,p1,p2)) with
  | none =>
    obtain ⟨h1,h2⟩:=hcl hb
    have hb':Ae md (BY p1 p2)=none:=hb
    refine ⟨[],λκ=>?_,λκ h=>by cases h⟩
    rw [Ep hb]
    show ([BY p0 p1,BY p1 p2,BY p2 p0]:List P2).count κ=(G0 md (BY p0 p1)++(G0 md (BY p1 p2)++(G0 md (BY p2 p0)++[]))).count κ+2*0
    rw [DR h1,DR hb',DR h2]
    rfl
  | some n =>
    have hb':Ae md (BY p1 p2)=some n:=hb
    have hn:=hM.new _ _ hb'
    refine ⟨(p0,n)::(O2 md n (BY p0 p1)++O2 md n (BY p2 p0)),λκ=>?_,λκ h k h1 h2 hk=>?_⟩
    · rw [E3 hb,List.flatMap_append,List.count_append]
      show ((CB md 1 (n,p0,p1)).flatMap Su).count κ+((CB md 1 (n,p2,p0)).flatMap Su).count κ=(G0 md (BY p0 p1)++(G0 md (BY p1 p2)++(G0 md (BY p2 p0)++[]))).count κ+_
      rw [Qn hM hn a0 a1,Qn hM hn a2 a0]
      simp only [List.count_append,List.count_cons,List.count_nil,Ut hb']
      omega
    · have inn:∀kk,κ∈O2 md n kk->False:=λkk hh=>by
        unfold O2 at hh
        split at hh
        · cases hh
        · rename_i n' hg
          rw [List.mem_singleton] at hh
          have:=hM.new _ _ hg
          have h3:κ.1=min n n':=by rw [hh];rfl
          rcases Vx hk with h4|h4<;>omega
      rcases List.mem_cons.1 h with rfl|h
      · cases hg:Ae md k with
        | none =>
          rw [DR hg,List.mem_singleton] at hk
          rw [<-hk] at h2
          simp only at h2
          omega
        | some n' =>
          rw [Ef hg] at hk
          have hnn:n=n'/\(p0=k.1\/p0=k.2):=by
            simp only [List.mem_cons,List.not_mem_nil,or_false,Prod.mk.injEq] at hk
            omega
          obtain ⟨rfl,h3⟩:=hnn
          have:=hM.inj _ _ _ hg hb'
          rw [this] at h3
          unfold BY at h3
          simp only at h3
          omega
      · exact (List.mem_append.1 h).elim (inn _) (inn _)
theorem Vy {ch:T3->List T3} (h:∀t∈ts,∃I:List P2,(∀κ,((ch t).flatMap Su).count κ=((Su t).flatMap (G0 md)).count κ+2*I.count κ)/\∀κ∈I,ZY md N κ):∃I:List P2,(∀κ,(DE (ts.flatMap ch)).count κ=((DE ts).flatMap (G0 md)).count κ+2*I.count κ)/\∀κ∈I,ZY md N κ:=by
  induction ts with
  | nil=>exact ⟨[],λκ=>rfl,λκ h=>by cases h⟩
  | cons t r ih =>
    obtain ⟨I1,a1,b1⟩:=h t List.mem_cons_self
    obtain ⟨I2,a2,b2⟩:=ih λt ht=>h t (List.mem_cons_of_mem _ ht)
    refine ⟨I1++I2,λκ=>?_,λκ hk=>(List.mem_append.1 hk).elim (b1 κ) (b2 κ)⟩
    have e1:DE ((t::r).flatMap ch)=(ch t).flatMap Su++DE (r.flatMap ch):=by
      show List.flatMap Su ((t::r).flatMap ch)=_
      rw [List.flatMap_cons,List.flatMap_append];rfl
    have e2:(DE (t::r)).flatMap (G0 md)=(Su t).flatMap (G0 md)++(DE r).flatMap (G0 md):=by
      show List.flatMap (G0 md) ((t::r).flatMap Su)=_
      rw [List.flatMap_cons,List.flatMap_append];rfl
    rw [e1,e2,List.count_append,List.count_append,List.count_append,a1,a2]
    omega
theorem UW {l:List P2} {f:P2->List P2} (k0:P2) (h1:(f k0).count κ=1) (h2:∀k∈l,k≠k0->κ ∉ f k):(l.flatMap f).count κ=l.count k0:=by
  induction l with
  | nil=>rfl
  | cons k r ih =>
    rw [List.flatMap_cons,List.count_append,ih λk hk=>h2 k (List.mem_cons_of_mem _ hk)]
    by_cases e:k=k0
    · subst e
      rw [h1,List.count_cons_self,Nat.add_comm]
    · rw [List.count_eq_zero.2 (h2 k List.mem_cons_self e),List.count_cons_of_ne e,Nat.zero_add]
theorem Yj (hM:R0 md N) {k':P2} (hk:k.2<N) (hk':k'.2<N) (h:κ∈G0 md k) (h':κ∈G0 md k'):k=k':=by
  cases hg:Ae md k with
  | none =>
    rw [DR hg,List.mem_singleton] at h
    cases hg':Ae md k' with
    | none=>rw [DR hg',List.mem_singleton] at h';rw [<-h,h']
    | some n' =>
      rw [Ef hg'] at h'
      have:=hM.new _ _ hg'
      have h2:κ.2=n':=by
        simp only [List.mem_cons,List.not_mem_nil,or_false] at h'
        rcases h' with rfl|rfl<;>rfl
      rw [h] at h2
      omega
  | some n =>
    rw [Ef hg] at h
    have:=hM.new _ _ hg
    have h2:κ.2=n:=by
      simp only [List.mem_cons,List.not_mem_nil,or_false] at h
      rcases h with rfl|rfl<;>rfl
    cases hg':Ae md k' with
    | none =>
      rw [DR hg',List.mem_singleton] at h'
      rw [h'] at h2
      omega
    | some n' =>
      rw [Ef hg'] at h'
      have h3:κ.2=n':=by
        simp only [List.mem_cons,List.not_mem_nil,or_false] at h'
        rcases h' with rfl|rfl<;>rfl
      exact hM.inj _ _ _ hg (by rw [hg',<-h3,h2])
theorem UG (h:k.1<k.2):(G0 md k).Nodup:=by
  cases hg:Ae md k with
  | none=>rw [DR hg];simp
  | some n =>
    rw [Ef hg]
    simp only [List.nodup_cons,List.mem_singleton,List.not_mem_nil,not_false_eq_true,List.nodup_nil,and_true,Prod.mk.injEq]
    omega
theorem Vt (h:k.1<k.2) (hm:κ∈G0 md k):(G0 md k).count κ=1:=by
  have h1:=List.count_pos_iff.2 hm
  have h2:=List.nodup_iff_count.1 (UG (md:=md) h) κ
  omega
theorem Wf (hM:R0 md N) (hk:∀k∈DE ts,k.1<k.2/\k.2<N) (hn':CN M ts'=true) (hM':M<=4611686018427387904) (hc:∃I:List P2,(∀κ,(DE ts').count κ=((DE ts).flatMap (G0 md)).count κ+2*I.count κ)/\∀κ∈I,ZY md N κ) {s:T3} :
    s∈B0 ts'↔(∃k,(DE ts).count k=1/\(s.1,s.2.1)∈G0 md k)/\s.2.2=0:=by
  obtain ⟨I,h1,h2⟩:=hc
  have hs:=h1 (s.1,s.2.1)
  have key:∀k∈DE ts,(s.1,s.2.1)∈G0 md k->((DE ts).flatMap (G0 md)).count (s.1,s.2.1)=(DE ts).count k:=λk hkk hm=>UW k (Vt (hk k hkk).1 hm) λk' hk' hne hm'=>hne (Yj hM (hk k' hk').2 (hk k hkk).2 hm' hm)
  rw [VB hn' hM']
  constructor
  · rintro ⟨h,h0⟩
    have h3:((DE ts).flatMap (G0 md)).count (s.1,s.2.1)=1:=by omega
    obtain ⟨k,hkk,hm⟩:=List.mem_flatMap.1 (List.count_pos_iff.1 (show 0<_ by rw [h3];decide))
    exact ⟨⟨k,by rw [<-key k hkk hm,h3],hm⟩,h0⟩
  · rintro ⟨⟨k,h3,hm⟩,h0⟩
    have hkk:k∈DE ts:=List.count_pos_iff.1 (by rw [h3];decide)
    have h4:I.count (s.1,s.2.1)=0:=List.count_eq_zero.2 λh5=>h2 _ h5 k (hk k hkk).1 (hk k hkk).2 hm
    exact ⟨by rw [hs,key k hkk hm,h3,h4],h0⟩
end
end
section
def bz (l:Nat):Int×Int×Int:=if l=0 then (2,0,0) else if l=1 then (0,2,0) else if l=2 then (0,0,2) else if l=3 then (1,1,0) else if l=4 then (0,1,1) else (1,0,1)
def D3 (i j k:Nat):Int:=(bz i).1*((bz j).2.1*(bz k).2.2-(bz j).2.2*(bz k).2.1)-(bz i).2.1*((bz j).1*(bz k).2.2-(bz j).2.2*(bz k).1)+(bz i).2.2*((bz j).1*(bz k).2.1-(bz j).2.1*(bz k).1)
def Yw (a b:Pt):Pt:=Cb (a+b) (1/2)
def LP (a b c:Pt) (l:Nat):Pt:=if l=0 then a else if l=1 then b else if l=2 then c else if l=3 then Yw a b else if l=4 then Yw b c else Yw c a
def Gm (fam:List T3) (l:Nat):Bool:=fam.any λL=>Cd L l
def Wn (i j:Nat) (M:T3):Bool:=decide (D3 i j M.1<=0)&&decide (D3 i j M.2.1<=0)&&decide (D3 i j M.2.2<=0)
def RK (L M:T3):Bool:=Wn L.1 L.2.1 M||Wn L.2.1 L.2.2 M||Wn L.2.2 L.1 M
def XN (L:T3) (l:Nat):Bool:=decide (0<=D3 l L.2.1 L.2.2)&&decide (0<=D3 L.1 l L.2.2)&&decide (0<=D3 L.1 L.2.1 l)
structure QG (fam:List T3):Prop where
  lt:∀L∈fam,L.1<6/\L.2.1<6/\L.2.2<6
  pos:∀L∈fam,0<D3 L.1 L.2.1 L.2.2
  sep:fam.Pairwise λL M=>(RK L M||RK M L)=true
  cls:∀L∈fam,∀l,l<6->Gm fam l=true->XN L l=true->Cd L l=true
  cor:∀l,l<3->Gm fam l=true
instance (fam:List T3):Decidable (∀l,l<6->Gm fam l=true->∀L∈fam,XN L l=true->Cd L l=true):=inferInstance
theorem Ss {fam:List T3} (h:((fam.all λL=>decide (L.1<6)&&decide (L.2.1<6)&&decide (L.2.2<6)&&decide (0<D3 L.1 L.2.1 L.2.2)&&(List.range 6).all λl=>!Gm fam l||!XN L l||Cd L l)&&(List.range 3).all (Gm fam))=true) (hs:fam.Pairwise λL M=>(RK L M||RK M L)=true):QG fam:=by
  rw [Bool.and_eq_true] at h
  have h1:=List.all_eq_true.1 h.1
  simp only [Bool.and_eq_true,decide_eq_true_eq] at h1
  refine ⟨λL hL=>?_,λL hL=>?_,hs,λL hL l hl hu hc=>?_,λl hl=>?_⟩
  · have:=h1 L hL;exact ⟨this.1.1.1.1,this.1.1.1.2,this.1.1.2⟩
  · exact (h1 L hL).1.2
  · have:=List.all_eq_true.1 (h1 L hL).2 l (List.mem_range.2 hl)
    rw [hu,hc] at this
    simpa using this
  · exact List.all_eq_true.1 h.2 l (List.mem_range.2 hl)
def M8 (x y z:Bool):List T3:=if !y then [(0,1,2)] else (if x then [(3,4,0),(3,1,4)] else [(4,0,1)])++(if z then [(5,4,2),(5,0,4)] else [(4,2,0)])
theorem W0 (x y z:Bool):QG (M8 x y z):=by cases x<;>cases y<;>cases z<;>exact Ss (by decide) (by decide)
section
variable {a b c q:Pt} {l i j k:Nat}
theorem Qx (hl:l<6):(LP a b c l).x*2=((bz l).1:Rat)*a.x+((bz l).2.1:Rat)*b.x+((bz l).2.2:Rat)*c.x/\(LP a b c l).y*2=((bz l).1:Rat)*a.y+((bz l).2.1:Rat)*b.y+((bz l).2.2:Rat)*c.y/\((bz l).1:Rat)+((bz l).2.1:Rat)+((bz l).2.2:Rat)=2:=by
  have e:l=0\/l=1\/l=2\/l=3\/l=4\/l=5:=by omega
  rcases e with rfl|rfl|rfl|rfl|rfl|rfl<;>simp [LP,bz,Yw,QO,Q2,UU,TR]<;>refine ⟨?_,?_,?_⟩<;>grind
theorem W5 {P Q R:Pt} {p1 p2 p3 q1 q2 q3 r1 r2 r3:Rat} (hx:P.x*2=p1*a.x+p2*b.x+p3*c.x) (hy:P.y*2=p1*a.y+p2*b.y+p3*c.y) (hp:p1+p2+p3=2)
    (kx:Q.x*2=q1*a.x+q2*b.x+q3*c.x) (ky:Q.y*2=q1*a.y+q2*b.y+q3*c.y) (kq:q1+q2+q3=2) (mx:R.x*2=r1*a.x+r2*b.x+r3*c.x) (my:R.y*2=r1*a.y+r2*b.y+r3*c.y) (mr:r1+r2+r3=2) :
    AJ P Q R*8=(p1*(q2*r3-q3*r2)-p2*(q1*r3-q3*r1)+p3*(q1*r2-q2*r1))*AJ a b c:=by
  have e1:p3=2-p1-p2:=by grind
  have e2:q3=2-q1-q2:=by grind
  have e3:r3=2-r1-r2:=by grind
  subst e1;subst e2;subst e3
  have ux:(Q.x-P.x)*2=(q1-p1)*(a.x-c.x)+(q2-p2)*(b.x-c.x):=by grind
  have uy:(Q.y-P.y)*2=(q1-p1)*(a.y-c.y)+(q2-p2)*(b.y-c.y):=by grind
  have vx:(R.x-P.x)*2=(r1-p1)*(a.x-c.x)+(r2-p2)*(b.x-c.x):=by grind
  have vy:(R.y-P.y)*2=(r1-p1)*(a.y-c.y)+(r2-p2)*(b.y-c.y):=by grind
  have e:AJ P Q R*4=((Q.x-P.x)*2)*((R.y-P.y)*2)-((Q.y-P.y)*2)*((R.x-P.x)*2):=by simp only [Ci];grind
  have e':AJ P Q R*4=((q1-p1)*(r2-p2)-(q2-p2)*(r1-p1))*AJ a b c:=by
    rw [e,ux,uy,vx,vy]
    simp only [Ci]
    generalize q1-p1=s1
    generalize q2-p2=s2
    generalize r1-p1=s3
    generalize r2-p2=s4
    grind
  have e4:p1*(q2*(2-r1-r2)-(2-q1-q2)*r2)-p2*(q1*(2-r1-r2)-(2-q1-q2)*r1)+(2-p1-p2)*(q1*r2-q2*r1)=((q1-p1)*(r2-p2)-(q2-p2)*(r1-p1))*2:=by grind
  rw [e4]
  have:AJ P Q R*8=AJ P Q R*4*2:=by grind
  rw [this,e']
  grind
theorem FO (hi:i<6) (hj:j<6) (hk:k<6):AJ (LP a b c i) (LP a b c j) (LP a b c k)*8=((D3 i j k:Int):Rat)*AJ a b c:=by
  obtain ⟨x1,y1,s1⟩:=Qx (a:=a) (b:=b) (c:=c) hi
  obtain ⟨x2,y2,s2⟩:=Qx (a:=a) (b:=b) (c:=c) hj
  obtain ⟨x3,y3,s3⟩:=Qx (a:=a) (b:=b) (c:=c) hk
  rw [W5 x1 y1 s1 x2 y2 s2 x3 y3 s3]
  congr 1
  unfold D3
  simp only [Rat.intCast_add,Rat.intCast_sub,Rat.intCast_mul]
theorem Py (hT:0<AJ a b c) (hi:i<6) (hj:j<6) (hk:k<6) (h:0<=AJ (LP a b c i) (LP a b c j) (LP a b c k)):0<=D3 i j k:=by
  have e:=FO (a:=a) (b:=b) (c:=c) hi hj hk
  have h1:0<=AJ a b c*((D3 i j k:Int):Rat):=by rw [Rat.mul_comm,<-e];grind
  have h2:=Hb hT h1
  exact_mod_cast h2
theorem HB (hT:0<AJ a b c) (hi:i<6) (hj:j<6) (hk:k<6) (h:0<=D3 i j k):0<=AJ (LP a b c i) (LP a b c j) (LP a b c k):=by
  have e:=FO (a:=a) (b:=b) (c:=c) hi hj hk
  have h1:(0:Rat)<=((D3 i j k:Int):Rat):=by exact_mod_cast h
  have h2:=Rat.mul_nonneg h1 (Rat.le_of_lt hT)
  grind
theorem GE (hT:0<AJ a b c) (hi:i<6) (hj:j<6) (hk:k<6) (h:D3 i j k<=0):AJ (LP a b c i) (LP a b c j) (LP a b c k)<=0:=by
  have e:=FO (a:=a) (b:=b) (c:=c) hi hj hk
  have h1:(0:Rat) <= -((D3 i j k:Int):Rat):=by
    have:((D3 i j k:Int):Rat)<=0:=by exact_mod_cast h
    grind
  have h2:=Rat.mul_nonneg h1 (Rat.le_of_lt hT)
  grind
theorem Wh (hT:0<AJ a b c) (hi:i<6) (hj:j<6) (hk:k<6) (h:0<D3 i j k):0<AJ (LP a b c i) (LP a b c j) (LP a b c k):=by
  have e:=FO (a:=a) (b:=b) (c:=c) hi hj hk
  have h1:(0:Rat)<((D3 i j k:Int):Rat):=by exact_mod_cast h
  have h2:=Rat.mul_pos h1 hT
  grind
theorem QV (hT:0<AJ a b c) (hi:i<6) (hj:j<6) (h:LP a b c i=LP a b c j):i=j:=by
  have key:∀u v:Nat,u<6->v<6->D3 i u v=D3 j u v:=λu v hu hv=>by
    have e1:=FO (a:=a) (b:=b) (c:=c) hi hu hv
    have e2:=FO (a:=a) (b:=b) (c:=c) hj hu hv
    rw [h,e2] at e1
    have h1:(((D3 i u v:Int):Rat)-((D3 j u v:Int):Rat))*AJ a b c=0:=by grind
    rcases Rat.mul_eq_zero.1 h1 with h2|h2
    · have h3:((D3 i u v:Int):Rat)=((D3 j u v:Int):Rat):=by grind
      exact_mod_cast h3
    · rw [h2] at hT;exact absurd hT Rat.lt_irrefl
  have k1:=key 1 2 (by decide) (by decide)
  have k2:=key 2 0 (by decide) (by decide)
  have k3:=key 0 1 (by decide) (by decide)
  have ei:i=0\/i=1\/i=2\/i=3\/i=4\/i=5:=by omega
  have ej:j=0\/j=1\/j=2\/j=3\/j=4\/j=5:=by omega
  rcases ei with rfl|rfl|rfl|rfl|rfl|rfl<;>rcases ej with rfl|rfl|rfl|rfl|rfl|rfl<;>first|rfl|(revert k1 k2 k3;decide)
theorem Z6 (P Q R q u v:Pt):AJ u v q*AJ P Q R=AJ q Q R*AJ u v P+AJ P q R*AJ u v Q+AJ P Q q*AJ u v R:=by simp only [Ci];grind
theorem WC {P Q R u v:Pt} (hT:0<AJ P Q R) (h1:0<=AJ q Q R) (h2:0<=AJ P q R) (h3:0<=AJ P Q q) (k1:0<=AJ u v P) (k2:0<=AJ u v Q) (k3:0<=AJ u v R):0<=AJ u v q:=by
  have e:=Z6 P Q R q u v
  have m1:=Rat.mul_nonneg h1 k1
  have m2:=Rat.mul_nonneg h2 k2
  have m3:=Rat.mul_nonneg h3 k3
  exact Hd hT (by rw [e];grind)
end
theorem NU {u a b c:Pt} {k:Rat} {l:Nat} (hl:l<6) (h1:k<=dt u a) (h2:k<=dt u b) (h3:k<=dt u c):k<=dt u (LP a b c l):=by
  obtain ⟨x1,y1,s1⟩:=Qx (a:=a) (b:=b) (c:=c) hl
  have e:dt u (LP a b c l)*2=((bz l).1:Rat)*dt u a+((bz l).2.1:Rat)*dt u b+((bz l).2.2:Rat)*dt u c:=by
    have e0:dt u (LP a b c l)*2=u.x*((LP a b c l).y*2)-u.y*((LP a b c l).x*2):=by unfold dt;grind
    rw [e0,x1,y1];unfold dt;grind
  have z:(0:Rat)<=((bz l).1:Rat)/\(0:Rat)<=((bz l).2.1:Rat)/\(0:Rat)<=((bz l).2.2:Rat):=by
    have e:l=0\/l=1\/l=2\/l=3\/l=4\/l=5:=by omega
    rcases e with rfl|rfl|rfl|rfl|rfl|rfl<;>exact ⟨by decide,by decide,by decide⟩
  have m1:=Rat.mul_nonneg z.1 (show 0<=dt u a-k by grind)
  have m2:=Rat.mul_nonneg z.2.1 (show 0<=dt u b-k by grind)
  have m3:=Rat.mul_nonneg z.2.2 (show 0<=dt u c-k by grind)
  have s2:((bz l).1:Rat)*k+((bz l).2.1:Rat)*k+((bz l).2.2:Rat)*k=2*k:=by rw [<-s1];grind
  generalize ((bz l).1:Rat)=p1 at *
  generalize ((bz l).2.1:Rat)=p2 at *
  generalize ((bz l).2.2:Rat)=p3 at *
  clear x1 y1 z s1
  grind
theorem Nt {u a b c:Pt} {k:Rat} {l:Nat} (hl:l<6) (h1:dt u a<=k) (h2:dt u b<=k) (h3:dt u c<=k):dt u (LP a b c l)<=k:=by
  have ng:∀a,dt ⟨-u.x,-u.y⟩ a = -dt u a:=λa=>by unfold dt;grind
  have h:=NU (u:=⟨-u.x,-u.y⟩) (k := -k) (a:=a) (b:=b) (c:=c) hl (by rw [ng];grind) (by rw [ng];grind) (by rw [ng];grind)
  rw [ng] at h
  grind
end
end Go.Proofs.YtfbomiejpbchdaaGreat
