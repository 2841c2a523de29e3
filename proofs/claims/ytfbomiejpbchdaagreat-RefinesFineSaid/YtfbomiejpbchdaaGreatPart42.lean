import Derived.Test.YtfbomiejpbchdaaGreatPart34
import Derived.Test.YtfbomiejpbchdaaGreatPart37
import Derived.Test.YtfbomiejpbchdaaGreatPart38
import Derived.Test.YtfbomiejpbchdaaGreatPart41
namespace Go.Proofs.YtfbomiejpbchdaaGreat
open Go Go.RowKit
set_option linter.unusedVariables false
set_option linter.unusedSimpArgs false
section
abbrev W9 (ts:List T3):List (P2×Nat):=NV ts (3*ts.length)
def Ow (k:P2):P2:=(k.2,k.1)
def Zz (t:T3) (k:P2):Nat:=t.1+t.2.1+t.2.2-k.1-k.2
def MY (ts:List T3) (k:P2):P2:=(k.2,Zz (ts.getD ((Ar (W9 ts) k).getD 0) (0,0,0)) k)
def isS (ts:List T3) (k:P2):Prop:=(Ar (W9 ts) k).isSome=true
def VI (ts:List T3) (k:P2):Prop:=isS ts k/\¬isS ts (Ow k)
def PX (ts:List T3):Nat->P2->Option P2
  | 0,_=>none
  | f+1,k=>if (Ar (W9 ts) (Ow (MY ts k))).isSome then PX ts f (Ow (MY ts k)) else some (MY ts k)
def Rt (ts:List T3) (k:P2):P2:=(PX ts (3*ts.length) k).getD (0,0)
section
variable {ts:List T3} {N:Nat} {k k0:P2} {i:Nat}
theorem Ib {n:Nat}:∀s,Ar (NV ts s) k=some n->∃u,u<s/\Bw ts u=k/\n=u/3
  | 0,h=>by cases h
  | s+1,h=>by
    have h:Ar (BZ (NV ts s) (Bw ts s) (s/3)) k=some n:=h
    rw [B6] at h
    split at h
    · rename_i e
      injection h with h
      exact ⟨s,by omega,e.symm,h.symm⟩
    · obtain ⟨u,h1,h2,h3⟩:=Ib s h
      exact ⟨u,by omega,h2,h3⟩
theorem II {u:Nat}:∀s,u<s->(Ar (NV ts s) (Bw ts u)).isSome=true
  | 0,h=>absurd h (Nat.not_lt_zero _)
  | s+1,h=>by
    show (Ar (BZ (NV ts s) (Bw ts s) (s/3)) (Bw ts u)).isSome=true
    rw [B6]
    split
    · rfl
    · rename_i e
      rcases Nat.lt_or_ge u s with h1|h1
      · exact II s h1
      · exact absurd (by rw [show u=s by omega]) e
theorem Lh {u v n:Nat} (ho:HT ts n=true) (hu:u<n) (hv:v<n) (h:Bw ts u=Bw ts v):u=v:=by
  have key:∀{u v:Nat},u<v->v<n->Bw ts u=Bw ts v->False:=λ{u v} h1 h2 h=>by
    have h3:=Qb (s:=v+1) _ (by omega) ho
    have h3:(HT ts v&&(Ar (NV ts v) (Bw ts v)).isNone)=true:=h3
    rw [Bool.and_eq_true] at h3
    have h4:=II (ts:=ts) v h1
    rw [h] at h4
    rw [<-Option.not_isSome,h4] at h3
    exact absurd h3.2 (by decide)
  rcases Nat.lt_trichotomy u v with h1|h1|h1
  · exact (key h1 hv h).elim
  · exact h1
  · exact (key h1 hu h.symm).elim
theorem Se {u:Nat} (ho:HT ts (3*ts.length)=true) (hu:u<3*ts.length):Ar (W9 ts) (Bw ts u)=some (u/3):=by
  obtain ⟨n,h⟩:=Option.isSome_iff_exists.1 (II (ts:=ts) _ hu)
  obtain ⟨v,h1,h2,h3⟩:=Ib _ h
  have e:=Lh ho hu h1 h2.symm
  rw [show Ar (W9 ts) (Bw ts u)=some n from h,h3,e]
theorem HF:isS ts k↔∃u,u<3*ts.length/\Bw ts u=k:=by
  constructor
  · intro h
    obtain ⟨n,h⟩:=Option.isSome_iff_exists.1 h
    obtain ⟨u,h1,h2,_⟩:=Ib _ h
    exact ⟨u,h1,h2⟩
  · rintro ⟨u,h1,rfl⟩
    exact II _ h1
def VK (u:Nat):Nat:=3*(u/3)+(u%3+1)%3
theorem Vv {u v:Nat} (h:VK u=VK v):u=v:=by unfold VK at h;omega
theorem PU {u:Nat} (h:u<3*ts.length):VK u<3*ts.length:=by unfold VK;omega
theorem ND (ho:HT ts (3*ts.length)=true) {u:Nat} (hu:u<3*ts.length):MY ts (Bw ts u)=Bw ts (VK u):=by
  unfold MY
  rw [Se ho hu,Option.getD_some]
  have hd:(VK u)/3=u/3:=by unfold VK;omega
  have hm:(VK u)%3=(u%3+1)%3:=by unfold VK;omega
  unfold Zz Bw
  rw [hd,hm]
  generalize ts.getD (u/3) (0,0,0)=t
  have e:u%3=0\/u%3=1\/u%3=2:=by omega
  rcases e with e|e|e<;>rw [e]<;>refine Prod.ext rfl ?_
  · show t.1+t.2.1+t.2.2-t.1-t.2.1=t.2.2;omega
  · show t.1+t.2.1+t.2.2-t.2.1-t.2.2=t.1;omega
  · show t.1+t.2.1+t.2.2-t.2.2-t.1=t.2.1;omega
theorem To (ho:HT ts (3*ts.length)=true) (h:isS ts k):isS ts (MY ts k):=by
  obtain ⟨u,hu,rfl⟩:=HF.1 h
  rw [ND ho hu]
  exact HF.2 ⟨_,PU hu,rfl⟩
theorem Wa (ho:HT ts (3*ts.length)=true) {k':P2} (h:isS ts k) (h':isS ts k') (e:MY ts k=MY ts k'):k=k':=by
  obtain ⟨u,hu,rfl⟩:=HF.1 h
  obtain ⟨v,hv,rfl⟩:=HF.1 h'
  rw [ND ho hu,ND ho hv] at e
  rw [Vv (Lh ho (PU hu) (PU hv) e)]
theorem Mv (k:P2):Ow (Ow k)=k:=rfl
theorem WO {a b:P2} (h:Ow a=Ow b):a=b:=by rw [<-Mv a,h,Mv]
theorem MN {α:Type} [DecidableEq α] {l m:List α} (hn:l.Nodup) (hs:∀x∈l,x∈m):l.length<=m.length:=by
  induction l generalizing m with
  | nil=>exact Nat.zero_le _
  | cons x r ih =>
    have hx:=hs x List.mem_cons_self
    have hn2:=List.nodup_cons.1 hn
    have h:=ih (m:=m.erase x) hn2.2 λy hy=>by
      have:y≠x:=λe=>hn2.1 (e▸hy)
      exact (List.mem_erase_of_ne this).2 (hs y (List.mem_cons_of_mem _ hy))
    rw [List.length_erase_of_mem hx] at h
    have:=List.length_pos_of_mem hx
    simp only [List.length_cons];omega
def UC (ts:List T3):List P2:=(List.range (3*ts.length)).map (Bw ts)
theorem OE (h:isS ts k):k∈UC ts:=by
  obtain ⟨u,hu,rfl⟩:=HF.1 h
  exact List.mem_map.2 ⟨u,List.mem_range.2 hu,rfl⟩
theorem Ob:(UC ts).length=3*ts.length:=by simp [UC]
structure Hd (ts:List T3) (k0:P2) (i:Nat) (k:P2):Prop where
  chain:∃s:Nat->P2,s 0=k0/\s i=k/\(∀j,j<=i->isS ts (s j))/\∀j,j<i->s (j+1)=Ow (MY ts (s j))
theorem Hd.zero (h:isS ts k0):Hd ts k0 0 k0:=⟨λ_=>k0,rfl,rfl,λ_ _=>h,λ_ h=>absurd h (Nat.not_lt_zero _)⟩
theorem Hd.isS (h:Hd ts k0 i k):isS ts k:=by
  obtain ⟨s,_,h2,h3,_⟩:=h.chain
  rw [<-h2];exact h3 i (Nat.le_refl _)
theorem Hd.succ (h:Hd ts k0 i k) (hs:(Ar (W9 ts) (Ow (MY ts k))).isSome=true):Hd ts k0 (i+1) (Ow (MY ts k)):=by
  obtain ⟨s,h1,h2,h3,h4⟩:=h.chain
  refine ⟨λj=>if j<=i then s j else Ow (MY ts k),by simp [h1],if_neg (by omega),λj hj=>?_,λj hj=>?_⟩
  · show Go.Proofs.YtfbomiejpbchdaaGreat.isS ts (if j<=i then s j else _)
    split
    · exact h3 j ‹_›
    · exact hs
  · show (if j+1<=i then s (j+1) else _)=Ow (MY ts (if j<=i then s j else _))
    rw [if_pos (show j<=i by omega)]
    split
    · exact h4 j (by omega)
    · rw [show j=i by omega,h2]
theorem Hd.lt (ho:HT ts (3*ts.length)=true) (h0:VI ts k0) (h:Hd ts k0 i k):i<3*ts.length:=by
  obtain ⟨s,h1,h2,h3,h4⟩:=h.chain
  have ne:∀d a,a+d+1<=i->s a≠s (a+d+1):=λd a=>by
    induction a with
    | zero =>
      intro hd e
      rw [h1,h4 (0+d) (by omega)] at e
      refine h0.2 ?_
      rw [e,Mv]
      exact To ho (h3 _ (by omega))
    | succ a ih =>
      intro hd e
      rw [h4 a (by omega),show a+1+d+1=(a+d+1)+1 by omega,h4 (a+d+1) (by omega)] at e
      exact ih (by omega) (Wa ho (h3 _ (by omega)) (h3 _ (by omega)) (WO e))
  have hnd:((List.range (i+1)).map s).Nodup:=by
    refine List.pairwise_map.2 (List.Pairwise.imp_of_mem ?_ List.pairwise_lt_range)
    intro a b ha hb hab
    have:=ne (b-a-1) a (by have:=List.mem_range.1 hb;omega)
    rw [show a+(b-a-1)+1=b by omega] at this
    exact this
  have h5:=MN (m:=UC ts) hnd λx hx=>by
    obtain ⟨j,hj,rfl⟩:=List.mem_map.1 hx
    exact OE (h3 j (by have:=List.mem_range.1 hj;omega))
  rw [Ob,List.length_map,List.length_range] at h5
  omega
theorem Hd.fuel (h:Hd ts k0 i k) (f:Nat):PX ts (f+i) k0=PX ts f k:=by
  obtain ⟨s,h1,h2,h3,h4⟩:=h.chain
  subst h1 h2
  have key:∀j,j<=i->PX ts (f+i) (s 0)=PX ts (f+(i-j)) (s j):=λj=>by
    induction j with
    | zero=>intro _;rfl
    | succ j ih =>
      intro hj
      rw [ih (by omega),show f+(i-j)=(f+(i-(j+1)))+1 by omega]
      have h5:(Ar (W9 ts) (Ow (MY ts (s j)))).isSome=true:=by rw [<-h4 j (by omega)];exact h3 (j+1) hj
      show (if _ then _ else _)=_
      rw [if_pos h5,<-h4 j (by omega)]
  have:=key i (Nat.le_refl _)
  rwa [Nat.sub_self,Nat.add_zero] at this
theorem Hd.stop (ho:HT ts (3*ts.length)=true) (h0:VI ts k0) (h:Hd ts k0 i k) (hs:¬(Ar (W9 ts) (Ow (MY ts k))).isSome=true):Rt ts k0=MY ts k/\VI ts (MY ts k):=by
  have hlt:=h.lt ho h0
  have h1:=h.fuel (3*ts.length-i)
  rw [show 3*ts.length-i+i=3*ts.length by omega,show 3*ts.length-i=(3*ts.length-i-1)+1 by omega] at h1
  have h2:PX ts (3*ts.length-i-1+1) k=some (MY ts k):=by
    show (if _ then _ else _)=_
    rw [if_neg hs]
  refine ⟨?_,To ho h.isS,hs⟩
  unfold Rt
  rw [h1,h2];rfl
theorem WW (ho:HT ts (3*ts.length)=true) (h0:VI ts k0):VI ts (Rt ts k0):=by
  have key:∀d i k,3*ts.length-i=d->Hd ts k0 i k->VI ts (Rt ts k0):=λd=>by
    induction d with
    | zero=>intro i k hd h;have:=h.lt ho h0;omega
    | succ d ih =>
      intro i k hd h
      by_cases hs:(Ar (W9 ts) (Ow (MY ts k))).isSome=true
      · exact ih _ _ (by omega) (h.succ hs)
      · have h1:=h.stop ho h0 hs
        rw [h1.1];exact h1.2
  exact key _ 0 k0 rfl (Hd.zero h0.1)
end
def Yn (ts:List T3):Nat->List (P2×Nat)->P2->List Nat->Option (List (P2×Nat)×List Nat)
  | 0,_,_,_=>none
  | f+1,dn,k,l=>if (Ar dn k).getD 0=0 then Yn ts f (BZ dn k 1) (Rt ts k) (l++[k.1]) else some (dn,l)
def Z0 (ts:List T3) (dn:List (P2×Nat)) (k:P2):List (P2×Nat)×List Nat:=(Yn ts (3*ts.length+1) dn k []).getD ([],[])
structure Uj (ts:List T3) (dn:List (P2×Nat)):Prop where
  ok:I0 NR dn
  bd:∀k n,Ar dn k=some n->VI ts k/\n=1
section
variable {ts:List T3} {N:Nat} {k k0:P2} {i:Nat} {dn dn0:List (P2×Nat)} {l:List Nat}
theorem Uj.nil:Uj ts []:=⟨I0.nil,λk n h=>by cases h⟩
theorem Uj.len (h:Uj ts dn):dn.length<=3*ts.length:=by
  have h1:(dn.map (·.1)).Nodup:=List.pairwise_map.2 (h.ok.once.imp λ{a b} h e=>h e)
  have h2:=MN (m:=UC ts) h1 λx hx=>by
    obtain ⟨p,hp,rfl⟩:=List.mem_map.1 hx
    obtain ⟨j,hj,h3⟩:=List.getElem_of_mem hp
    exact OE (h.bd _ _ (Jf (x:=p.1) (v:=p.2) h.ok.once (by rw [List.getElem?_eq_getElem hj,h3]))).1.1
  rwa [Ob,List.length_map] at h2
theorem Uj.put (h:Uj ts dn) (hk:VI ts k) (hok:NR k):Uj ts (BZ dn k 1):=⟨h.ok.put hok,λx n hx=>by
  rw [B6] at hx
  split at hx
  · rename_i e
    injection hx with hx
    rw [e];exact ⟨hk,hx.symm⟩
  · exact h.bd _ _ hx⟩
theorem Uj.zero (h:Uj ts dn) (e:(Ar dn k).getD 0=0):Ar dn k=none:=by
  cases hg:Ar dn k with
  | none=>rfl
  | some n=>rw [hg,(h.bd _ _ hg).2] at e;cases e
theorem O9 {α β:Type} [DecidableEq α] {kvs:List (α×β)} {x:α} {y:β} (h:Ar kvs x=none):(BZ kvs x y).length=kvs.length+1:=by
  induction kvs with
  | nil=>rfl
  | cons p r ih =>
    obtain ⟨k,v⟩:=p
    unfold Ar at h
    split at h
    · cases h
    · rename_i e
      unfold BZ
      rw [if_neg e,List.length_cons,ih h];rfl
theorem Xz (hn:B5 N ts=true) (hN:N<=4611686018427387904) (h:isS ts k):NR k:=by
  obtain ⟨u,hu,rfl⟩:=HF.1 h
  have:=Me hn hu
  exact ⟨by omega,by omega⟩
structure U9 (ts:List T3) (dn0:List (P2×Nat)) (k0:P2) (i:Nat) (dn:List (P2×Nat)) (k:P2) (l:List Nat):Prop where
  fuel:∀f,Yn ts (f+i) dn0 k0 []=Yn ts f dn k l
  bd:VI ts k
  di:Uj ts dn
  len:dn.length=dn0.length+i
  ll:l.length=i
  at0:i=0->dn=dn0/\k=k0
theorem U9.zero (h:Uj ts dn0) (hb:VI ts k0):U9 ts dn0 k0 0 dn0 k0 []:=⟨λ_=>rfl,hb,h,rfl,rfl,λ_=>⟨rfl,rfl⟩⟩
theorem U9.succ (hn:B5 N ts=true) (hN:N<=4611686018427387904) (ho:HT ts (3*ts.length)=true) (h:U9 ts dn0 k0 i dn k l) (e:(Ar dn k).getD 0=0):U9 ts dn0 k0 (i+1) (BZ dn k 1) (Rt ts k) (l++[k.1]) :=
  ⟨λf=>by
    rw [show f+(i+1)=f+1+i by omega,h.fuel (f+1)]
    show (if _ then _ else _)=_
    rw [if_pos e],WW ho h.bd,h.di.put h.bd (Xz hn hN h.bd.1),by rw [O9 (h.di.zero e),h.len];omega,by rw [List.length_append,h.ll];rfl,λh=>by omega⟩
theorem U9.le (h:U9 ts dn0 k0 i dn k l):i<=3*ts.length:=by
  have h1:=h.di.len
  have:=h.len
  omega
theorem U9.lt (hn:B5 N ts=true) (hN:N<=4611686018427387904) (ho:HT ts (3*ts.length)=true) (h:U9 ts dn0 k0 i dn k l) (e:(Ar dn k).getD 0=0):i<3*ts.length:=by
  have:=(h.succ hn hN ho e).le
  omega
theorem U9.stop (h:U9 ts dn0 k0 i dn k l) (e:¬(Ar dn k).getD 0=0):Z0 ts dn0 k0=(dn,l):=by
  have h1:=h.fuel (3*ts.length+1-i)
  have:=h.le
  rw [show 3*ts.length+1-i+i=3*ts.length+1 by omega,show 3*ts.length+1-i=(3*ts.length-i)+1 by omega] at h1
  have h2:Yn ts (3*ts.length-i+1) dn k l=some (dn,l):=by
    show (if _ then _ else _)=_
    rw [if_neg e]
  unfold Z0
  rw [h1,h2];rfl
end
section
variable {ts:List T3} {N i:Nat} {dn dn2:List (P2×Nat)} {wq:T3} {l:List Nat}
end
end
section
theorem Xp {c:T2} (h:0<Bu c.1 c.2.1 c.2.2):∃x y:Rat,VF c x y:=by
  obtain ⟨⟨a1,a2⟩,⟨b1,b2⟩,⟨c1,c2⟩⟩:=c
  have h2:(0:Rat)<(Bu (a1,a2) (b1,b2) (c1,c2):Int):=by exact_mod_cast h
  have e:((Bu (a1,a2) (b1,b2) (c1,c2):Int):Rat)=((b1:Rat)-a1)*((c2:Rat)-a2)-((b2:Rat)-a2)*((c1:Rat)-a1):=by
    simp only [Bu,Rat.intCast_sub,Rat.intCast_mul,Rat.intCast_natCast]
  rw [e] at h2
  refine ⟨((a1:Rat)+b1+c1)/3,((a2:Rat)+b2+c2)/3,?_,?_,?_⟩<;>simp only [Jq]<;>grind
section
variable {ps:List Pt} {ts:List T3}
theorem UL {m:MQ} {pl:List P2} {n:T3} {t:Nat} (h:JA m pl n t) {r:Nat} (hr:r<3):pl.getD (Ef n r) (0,0)=Ax m t r:=by
  have e:r=0\/r=1\/r=2:=by omega
  rcases e with rfl|rfl|rfl
  · exact h.a.2
  · exact h.b.2
  · exact h.c.2
end
end
section
def Tw (A B:P2) (t:T2):Bool:=decide (Bu A B t.1<=0)&&decide (Bu A B t.2.1<=0)&&decide (Bu A B t.2.2<=0)
def Ud (s t:T2):Bool:=Tw s.1 s.2.1 t||Tw s.2.1 s.2.2 t||Tw s.2.2 s.1 t
def SV (s t:T2):Bool:=s == t||(Ud s t||Ud t s)
def Uy:Bool:=Gu.all λp=>Gu.all λq=>(decide (p.1=q.1/\p.2.1=q.2.1/\p.2.2≠q.2.2))||(RF p.1 p.2.1 p.2.2).all λs=>(RF q.1 q.2.1 q.2.2).all λt=>SV s t
theorem La:Uy=true:=by decide +kernel
theorem Ty {m:MQ} {s t:T2} (hs:s∈BD m) (ht:t∈BD m):SV s t=true:=by
  obtain ⟨i,hi,h1⟩:=ED m _ s hs
  obtain ⟨j,hj,h2⟩:=ED m _ t ht
  have hx:=Iz m
  have hy:=In m
  have b:∀k,k<Fy m*Rk m->k%Fy m<=2/\k/Fy m<=2:=λk hk=>by
    have a1:=Nat.mod_lt k (show 0<Fy m by omega)
    have a2:k/Fy m<Rk m:=Nat.div_lt_of_lt_mul hk
    omega
  rw [Ll] at h1 h2
  have h:=List.all_eq_true.1 (List.all_eq_true.1 La _ (Er (b i hi).1 (b i hi).2 (Je (GY m i) i))) _ (Er (b j hj).1 (b j hj).2 (Je (GY m j) j))
  rw [Bool.or_eq_true,decide_eq_true_eq] at h
  rcases h with ⟨e1,e2,e3⟩|h
  · exfalso
    have e:i=j:=by rw [<-Nat.div_add_mod i (Fy m),<-Nat.div_add_mod j (Fy m),show i%Fy m=j%Fy m from e1,show i/Fy m=j/Fy m from e2]
    subst e
    exact e3 rfl
  · exact List.all_eq_true.1 (List.all_eq_true.1 h s h1) t h2
theorem Mq {A B:P2} {t:T2} (h:Tw A B t=true):∀q,q<3->Bu A B (Cx t q)<=0:=by
  simp only [Tw,Bool.and_eq_true,decide_eq_true_eq] at h
  intro q hq
  have e:q=0\/q=1\/q=2:=by omega
  rcases e with rfl|rfl|rfl
  · exact h.1.1
  · exact h.1.2
  · exact h.2
theorem Xw {s t:T2} (h:Ud s t=true) (hp:0<Bu s.1 s.2.1 s.2.2):∃A B X:P2,0<Bu A B X/\(∀q,q<3->0<=Bu A B (Cx s q))/\∀q,q<3->Bu A B (Cx t q)<=0:=by
  have hs:∀A B C:P2,0<Bu A B C->(A=s.1/\B=s.2.1/\C=s.2.2\/A=s.2.1/\B=s.2.2/\C=s.1\/A=s.2.2/\B=s.1/\C=s.2.1)->∀q,q<3->0<=Bu A B (Cx s q):=λA B C hc he q hq=>by
    have e:q=0\/q=1\/q=2:=by omega
    have s1:=(DB A B).2.1
    have s2:=(DB A B).2.2
    rcases he with ⟨rfl,rfl,rfl⟩|⟨rfl,rfl,rfl⟩|⟨rfl,rfl,rfl⟩<;>rcases e with rfl|rfl|rfl<;>simp only [Cx,if_true]<;>first|exact Int.le_of_lt hc|(simp;first|exact Int.le_of_lt hc|(rw [s1];exact Int.le_refl 0)|(have:=(DB s.1 s.2.1);have:=(DB s.2.1 s.2.2);have:=(DB s.2.2 s.1);unfold Bu at *;omega)|(unfold Bu;grind))
  simp only [Ud,Bool.or_eq_true] at h
  rcases h with (h|h)|h
  · exact ⟨_,_,_,hp,hs _ _ _ hp (.inl ⟨rfl,rfl,rfl⟩),Mq h⟩
  · have hp':0<Bu s.2.1 s.2.2 s.1:=by rw [E5];exact hp
    exact ⟨_,_,_,hp',hs _ _ _ hp' (.inr (.inl ⟨rfl,rfl,rfl⟩)),Mq h⟩
  · have hp':0<Bu s.2.2 s.1 s.2.1:=by rw [E5,E5];exact hp
    exact ⟨_,_,_,hp',hs _ _ _ hp' (.inr (.inr ⟨rfl,rfl,rfl⟩)),Mq h⟩
def Ln (ps:List Pt) (s t:T3):Prop:=∃(u:Pt) (k:Rat),u≠⟨0,0⟩/\ZD u k (cor ps s.1) (cor ps s.2.1) (cor ps s.2.2) (cor ps t.1) (cor ps t.2.1) (cor ps t.2.2)
theorem Ln.symm {ps:List Pt} {s t:T3} (h:Ln ps s t):Ln ps t s:=by
  obtain ⟨u,k,hu,⟨h1,h2,h3⟩,h4,h5,h6⟩:=h
  have ng:∀a,dt ⟨-u.x,-u.y⟩ a = -dt u a:=λa=>by unfold dt;grind
  refine ⟨⟨-u.x,-u.y⟩,-k,λe=>hu ?_,⟨?_,?_,?_⟩,?_,?_,?_⟩
  · obtain ⟨x,y⟩:=u
    injection e with e1 e2
    simp only at e1 e2
    rw [show x=0 by grind,show y=0 by grind]
  all_goals rw [ng];grind
section
variable {ps:List Pt} {ts:List T3}
theorem Ua (g:ET ps ts) {i j:Nat} (hi:i<ts.length) (hj:j<ts.length) (hne:i≠j):Ln ps (ts.getD i (0,0,0)) (ts.getD j (0,0,0)):=by
  obtain ⟨m,pl,l⟩:=g.lattice
  obtain ⟨c,hc,hT⟩:=OR (Fb m.a m.b m.c m.d) (B3 m)
  have hlen:=l.inv.tl
  have dz:T2:=((0,0),(0,0),(0,0))
  have key:∀i j,i<ts.length->j<ts.length->Ud ((BD m).getD i ((0,0),(0,0),(0,0))) ((BD m).getD j ((0,0),(0,0),(0,0)))=true->Ln ps (ts.getD i (0,0,0)) (ts.getD j (0,0,0)):=λi j hi hj h=>by
    obtain ⟨A,B,X,hX,hs,ht⟩:=Xw h (G5 m _ (l.cell hi)).1
    have pt:∀k,k<ts.length->∀r,r<3->∃q,q<3/\cor ps (Ef (ts.getD k (0,0,0)) r)=PQ (mapM m) (B3 m) ((Cx ((BD m).getD k ((0,0),(0,0),(0,0))) q).1:Rat) ((Cx ((BD m).getD k ((0,0),(0,0),(0,0))) q).2:Rat):=λk hk r hr=>by
      have hat:=l.inv.at_ k (by omega)
      have e:=UL hat hr
      have hlt:Ef (ts.getD k (0,0,0)) r<pl.length:=by
        have er:r=0\/r=1\/r=2:=by omega
        rcases er with rfl|rfl|rfl
        · exact hat.a.1
        · exact hat.b.1
        · exact hat.c.1
      refine ⟨Iq m k r,Nat.mod_lt _ (by decide),?_⟩
      show ps.getD _ ⟨0,0⟩=_
      rw [l.at_ _ hlt,I4,e]
      rfl
    have q2:∀C:P2,AQ (CJ (GZ (mapM m) (B3 m) A)) (CJ (GZ (mapM m) (B3 m) B)) (PQ (mapM m) (B3 m) (C.1:Rat) (C.2:Rat))=c*((Bu A B C:Int):Rat):=λC=>by
      rw [show mapM m=GX m.a m.b m.c m.d from rfl,hT]
      congr 1
      simp only [Jq,Bu,Rat.intCast_sub,Rat.intCast_mul,Rat.intCast_natCast]
    have dq:∀P:Pt,AQ (CJ (GZ (mapM m) (B3 m) A)) (CJ (GZ (mapM m) (B3 m) B)) P=dt (Ew (CJ (GZ (mapM m) (B3 m) B)) (CJ (GZ (mapM m) (B3 m) A))) P-dt (Ew (CJ (GZ (mapM m) (B3 m) B)) (CJ (GZ (mapM m) (B3 m) A))) (CJ (GZ (mapM m) (B3 m) A)):=λP=>by
      simp only [Cb,dt,Ew];grind
    have lf:∀r,r<3->dt (Ew (CJ (GZ (mapM m) (B3 m) B)) (CJ (GZ (mapM m) (B3 m) A))) (CJ (GZ (mapM m) (B3 m) A))<=dt (Ew (CJ (GZ (mapM m) (B3 m) B)) (CJ (GZ (mapM m) (B3 m) A))) (cor ps (Ef (ts.getD i (0,0,0)) r)):=λr hr=>by
      obtain ⟨q,hq,e⟩:=pt i hi r hr
      have h1:=dq (cor ps (Ef (ts.getD i (0,0,0)) r))
      rw [e,q2] at h1
      rw [e]
      have h2:(0:Rat)<=((Bu A B (Cx ((BD m).getD i ((0,0),(0,0),(0,0))) q):Int):Rat):=by exact_mod_cast hs q hq
      have h3:=Rat.mul_nonneg (Rat.le_of_lt hc) h2
      grind
    have rt:∀r,r<3->dt (Ew (CJ (GZ (mapM m) (B3 m) B)) (CJ (GZ (mapM m) (B3 m) A))) (cor ps (Ef (ts.getD j (0,0,0)) r))<=dt (Ew (CJ (GZ (mapM m) (B3 m) B)) (CJ (GZ (mapM m) (B3 m) A))) (CJ (GZ (mapM m) (B3 m) A)):=λr hr=>by
      obtain ⟨q,hq,e⟩:=pt j hj r hr
      have h1:=dq (cor ps (Ef (ts.getD j (0,0,0)) r))
      rw [e,q2] at h1
      rw [e]
      have h2:(0:Rat) <= -((Bu A B (Cx ((BD m).getD j ((0,0),(0,0),(0,0))) q):Int):Rat):=by
        have h9:((Bu A B (Cx ((BD m).getD j ((0,0),(0,0),(0,0))) q):Int):Rat)<=0:=by exact_mod_cast ht q hq
        grind
      have h3:=Rat.mul_nonneg (Rat.le_of_lt hc) h2
      grind
    refine ⟨_,_,λe=>?_,⟨lf 0 (by decide),lf 1 (by decide),lf 2 (by decide)⟩,rt 0 (by decide),rt 1 (by decide),rt 2 (by decide)⟩
    have h1:=dq (PQ (mapM m) (B3 m) (X.1:Rat) (X.2:Rat))
    rw [q2,e] at h1
    have h2:(0:Rat)<((Bu A B X:Int):Rat):=by exact_mod_cast hX
    have h3:=Rat.mul_pos hc h2
    unfold dt at h1
    grind
  have h3:=Ty (l.cell hi) (l.cell hj)
  simp only [SV,Bool.or_eq_true,beq_iff_eq] at h3
  rcases h3 with h3|h3|h3
  · exfalso
    obtain ⟨x,y,ho⟩:=Xp (G5 m _ (l.cell hi)).1
    refine Lj m (show i<(BD m).length by omega) (show j<(BD m).length by omega) hne ((0,0),(0,0),(0,0)) x y ho ?_
    rw [<-h3]
    exact ⟨by have:=ho.1;grind,by have:=ho.2.1;grind,by have:=ho.2.2;grind⟩
  · exact key i j hi hj h3
  · exact (key j i hj hi h3).symm
end
end
def ZU (md:List (P2×Nat)):Nat->T3->List T3
  | 0,c=>[c]
  | d+1,c=>match Ar md (Nu c) with
    | none=>[c]
    | some n=>ZU md d (n,c.1,c.2.1)++ZU md d (n,c.2.2,c.1)
def aK (n p:Nat):List Nat:=List.replicate n p
section
section
variable {N:Nat} {es:List E4} {T:T3}
theorem Fr {k:P2} {n:Nat}:∀i,Ar (Ed N es i) k=some n->∃j,j<i/\Bh (es.getD j E0).a (es.getD j E0).b=k/\n=N+j
  | 0,h=>by cases h
  | i+1,h=>by
    have h:Ar (BZ (Ed N es i) (Bh (es.getD i E0).a (es.getD i E0).b) (N+i)) k=some n:=h
    rw [B6] at h
    split at h
    · rename_i e
      injection h with h
      exact ⟨i,by omega,e.symm,h.symm⟩
    · obtain ⟨j,h1,h2,h3⟩:=Fr i h
      exact ⟨j,by omega,h2,h3⟩
theorem XS {k k':P2} {n n' i:Nat} (h:Ar (Ed N es i) k=some n) (h':Ar (Ed N es i) k'=some n') (hk:k≠k'):n≠n':=λe=>by
  obtain ⟨j,_,h1,h2⟩:=Fr i h
  obtain ⟨j',_,h1',h2'⟩:=Fr i h'
  have:j=j':=by omega
  subst this
  exact hk (h1.symm.trans h1')
theorem KL (a b:Nat):Bh a b=Bh b a:=by unfold Bh;rw [Nat.min_comm,Nat.max_comm]
def aJ (M:Nat) (t:T3):Prop:=(t.1<M/\t.2.1<M/\t.2.2<M)/\t.1≠t.2.1/\t.2.1≠t.2.2/\t.2.2≠t.1
theorem Qa {ss:List T3} (hb:∀j,j<ss.length->(ss.getD j (0,0,0)).1<N/\(ss.getD j (0,0,0)).2.1<N) (hd:∀i j,i<ss.length->j<ss.length->Bh (ss.getD i (0,0,0)).1 (ss.getD i (0,0,0)).2.1=Bh (ss.getD j (0,0,0)).1 (ss.getD j (0,0,0)).2.1->i=j) :
    ∀k,k<=ss.length->∀j,ss.length-k<=j->j<ss.length->Ar (FH N ss k) (Bh (ss.getD j (0,0,0)).1 (ss.getD j (0,0,0)).2.1)=some (ss.getD j (0,0,0)).2.2
  | 0,_,j,h1,h2=>by omega
  | k+1,hk,j,h1,h2=>by
    rw [<-OH (hb (ss.length-1-k) (by omega)),B6]
    split
    · rename_i e
      rw [hd _ _ h2 (by omega) e]
    · rename_i e
      refine Qa hb hd k (by omega) j ?_ h2
      rcases Nat.lt_or_ge j (ss.length-k) with h3|h3
      · exact absurd (by rw [show j=ss.length-1-k by omega]) e
      · exact h3
end
end
section
section
variable {m:MQ} {ts:List T3} {a b N:Nat}
theorem H1 {s:T3}:∀j,s∈JM m ts a j↔s.1=a/\a<s.2.1/\s.2.1<a+1+j/\IB ts s.1 s.2.1 ts.length=1/\s=WU m s.1 s.2.1
  | 0=>⟨λh=>(by cases h),λh=>(by omega)⟩
  | j+1=>by
    show s∈JM m ts a j++(if _ then _ else _)↔_
    rw [List.mem_append,H1 j]
    constructor
    · rintro (h|h)
      · exact ⟨h.1,h.2.1,by omega,h.2.2.2⟩
      · split at h
        · rename_i hc
          rw [List.mem_singleton] at h
          subst h
          exact ⟨rfl,(by show a<a+1+j;omega),(by show a+1+j<a+1+(j+1);omega),hc,rfl⟩
        · cases h
    · rintro ⟨h1,h2,h3,h4,h5⟩
      rcases Nat.lt_or_ge s.2.1 (a+1+j) with h6|h6
      · exact .inl ⟨h1,h2,h6,h4,h5⟩
      · have e:s.2.1=a+1+j:=by omega
        rw [h1,e] at h4 h5
        rw [if_pos h4]
        exact .inr (List.mem_singleton.2 h5)
theorem Dh {s:T3}:∀A,s∈Du m ts N A↔s.1<A/\s.1<s.2.1/\s.2.1<N/\IB ts s.1 s.2.1 ts.length=1/\s=WU m s.1 s.2.1
  | 0=>⟨λh=>(by cases h),λh=>(by omega)⟩
  | A+1=>by
    show s∈Du m ts N A++JM m ts A (N-(A+1))↔_
    rw [List.mem_append,Dh A,H1]
    constructor
    · rintro (h|h)
      · exact ⟨by omega,h.2⟩
      · exact ⟨by omega,by omega,by omega,h.2.2.2⟩
    · rintro ⟨h1,h2,h3,h4⟩
      rcases Nat.lt_or_ge s.1 A with h5|h5
      · exact .inl ⟨h5,h2,h3,h4⟩
      · exact .inr ⟨by omega,by omega,by omega,h4⟩
theorem Gl:∀j,(JM m ts a j).Pairwise YS
  | 0=>List.Pairwise.nil
  | j+1=>by
    show (JM m ts a j++(if _ then _ else _)).Pairwise YS
    split
    · refine List.pairwise_append.2 ⟨Gl j,List.pairwise_singleton _ _,λx hx y hy=>?_⟩
      rw [List.mem_singleton] at hy
      subst hy
      have h:=(H1 j).1 hx
      exact .inr ⟨h.1,(by show x.2.1<a+1+j;exact h.2.2.1)⟩
    · rw [List.append_nil];exact Gl j
theorem HM:∀A,(Du m ts N A).Pairwise YS
  | 0=>List.Pairwise.nil
  | A+1=>List.pairwise_append.2 ⟨HM A,Gl _,λx hx y hy=>.inl (by
      have h1:=(Dh A).1 hx
      have h2:=(H1 _).1 hy
      omega)⟩
theorem NY {x y:Nat} (hab:a<b) (hxy:x≠y):Bh x y=(a,b)↔(x=a/\y=b)\/(x=b/\y=a):=by
  unfold Bh
  rw [Prod.mk.injEq]
  omega
theorem Vt {t:T3} (hab:a<b) (h:t.1≠t.2.1/\t.2.1≠t.2.2/\t.2.2≠t.1):[Bh t.1 t.2.1,Bh t.2.1 t.2.2,Bh t.2.2 t.1].count (a,b)=if GW t a=true/\GW t b=true then 1 else 0:=by
  obtain ⟨h1,h2,h3⟩:=h
  simp only [List.count_cons,List.count_nil,beq_iff_eq,NY hab h1,NY hab h2,NY hab h3,GW,Bool.or_eq_true,decide_eq_true_eq]
  split<;>split<;>split<;>split<;>omega
theorem QN (hn:B5 N ts=true) (hab:a<b):∀i,i<=ts.length->IB ts a b i=((ts.take i).flatMap λt=>[Bh t.1 t.2.1,Bh t.2.1 t.2.2,Bh t.2.2 t.1]).count (a,b)
  | 0,_=>rfl
  | i+1,hi=>by
    rw [MT (by omega),List.flatMap_append,List.count_append,<-QN hn hab i (by omega)]
    have h:=Mg (Cv hn (show i<ts.length by omega))
    have e:=Vt hab h
    show IB ts a b i+(if _ then 1 else 0)=_
    rw [<-e]
    simp [List.flatMap]
theorem N9 (hn:B5 N ts=true) (hab:a<b):IB ts a b ts.length=(Ck ts).count (a,b):=by
  rw [QN hn hab _ (Nat.le_refl _),List.take_length];rfl
theorem SQ (hn:B5 N ts=true) (hN:N<=4611686018427387904) (h:(a,b)∈Ck ts):a<b/\b<N:=by
  obtain ⟨e,he,rfl,rfl⟩:=(Fi hn hN).1 h
  exact D8 hn hN he
end
end
section
def Z1 (md:List (P2×Nat)) (ts:List T3):List T3:=ts.flatMap (ZU md 2)
def Z6 (md:List (P2×Nat)) (ts:List T3):Nat->List Nat
  | 0=>[]
  | i+1=>Z6 md ts i++aK (ZU md 2 (ts.getD i (0,0,0))).length i
section
variable {md:List (P2×Nat)} {ts ss:List T3} {i N:Nat} {es:List E4}
theorem Xj {t:T3} (h:Lk N t=true):aJ N t:=⟨DH h,Mg h⟩
end
structure Z8 (ps:List Pt) (ts ss:List T3) (ms:List Int) where
  l:List E4
  p:E4->Bool
  el:l=(BT ts).filter p
  all:∀e,p e=true↔Nc ts (WC ts ms) (e.a,e.b)
  x:W4 (FF ps l) (Z1 (Ed ps.length l l.length) ts) (Lb ps.length ss l (Z1 (Ed ps.length l l.length) ts)) (Z6 (Ed ps.length l l.length) ts ts.length) 0
instance {ps:List Pt} {ts ss:List T3} {ms:List Int}:D9 (Z8 ps ts ss ms):=⟨λb=>D9.val b.x,λb=>D9.rows b.x,λb y hy=>D9.ro b.x y hy⟩
section
variable {ts ss:List T3} {N:Nat} {es:List E4} {ms:List Int}
theorem OU {l:List E4} (hs:l.Pairwise X9) (hl:∀e∈l,e.a<e.b) {e:E4} (he:e∈l):∃n,Ar (Ed N l l.length) (e.a,e.b)=some n:=by
  obtain ⟨j,hj,rfl⟩:=List.getElem_of_mem he
  have h:=H4 (N:=N) hs hl _ (Nat.le_refl _) hj
  rw [List.getD,List.getElem?_eq_getElem hj] at h
  exact ⟨_,h⟩
structure XW (ts:List T3) (ms:List Int) (l:List E4):Prop where
  ex:∃p:E4->Bool,l=(BT ts).filter p/\∀e,p e=true↔Nc ts (WC ts ms) (e.a,e.b)
theorem DX.cut (u:DX ts ms):XW ts ms u.l:=⟨u.p,u.el,u.all⟩
theorem XW.mem {l:List E4} (h:XW ts ms l) {e:E4}:e∈l↔e∈BT ts/\Nc ts (WC ts ms) (e.a,e.b):=by
  obtain ⟨p,h1,h2⟩:=h.ex
  rw [h1,List.mem_filter,h2]
end
section
variable {P:Program} {ops:Array Oper} {rest:List Oper} {Q:Exit->Act->World->Prop} {n d:Nat} {F:List (Nat×Value)} {w0:BP} {S:Nat->Prop} {L:List As} {t:TypeId} {p:String} {af:Array Edge} {y:Operand} {f:FuncId} {xs:List Operand} {args:List Value} {tys:Array TypeId} {ps:List Pt} {ts ss:List T3} {ms:List Int}
end
end
section
def XK (t:T3):List P2:=[Bh t.1 t.2.1,Bh t.2.1 t.2.2,Bh t.2.2 t.1]
def HN (md:List (P2×Nat)) (k:P2):List P2:=match Ar md k with
  | none=>[k]
  | some n=>[(k.1,n),(k.2,n)]
structure VT (md:List (P2×Nat)) (N:Nat):Prop where
  new:∀k n,Ar md k=some n->N<=n
  inj:∀k k' n,Ar md k=some n->Ar md k'=some n->k=k'
def Xo (md:List (P2×Nat)) (N:Nat) (κ:P2):Prop:=∀k:P2,k.1<k.2->k.2<N->κ ∉ HN md k
section
variable {md:List (P2×Nat)} {N M n a b c e p:Nat} {k κ:P2} {T:T3} {ts ts':List T3}
theorem Fp (h:Ar md k=none):HN md k=[k]:=by unfold HN;rw [h]
theorem FB (h:Ar md k=some n):HN md k=[(k.1,n),(k.2,n)]:=by unfold HN;rw [h]
theorem Px (h:Ar md (Bh a b)=some n):(HN md (Bh a b)).count κ=[((a:Nat),n),(b,n)].count κ:=by
  rw [FB h]
  unfold Bh
  rcases Nat.le_total a b with h1|h1
  · rw [Nat.min_eq_left h1,Nat.max_eq_right h1]
  · rw [Nat.min_eq_right h1,Nat.max_eq_left h1]
    simp only [List.count_cons,List.count_nil]
    omega
theorem GM (h:p<N) (hn:N<=n):Bh n p=(p,n)/\Bh p n=(p,n):=by
  unfold Bh
  rw [Nat.min_eq_right (by omega),Nat.max_eq_left (by omega),Nat.min_eq_left (by omega),Nat.max_eq_right (by omega)];exact ⟨rfl,rfl⟩
theorem Vm (h:κ∈HN md k):κ.1=k.1\/κ.1=k.2:=by
  cases hg:Ar md k with
  | none=>rw [Fp hg,List.mem_singleton] at h;exact .inl (by rw [h])
  | some n =>
    rw [FB hg] at h
    simp only [List.mem_cons,List.not_mem_nil,or_false] at h
    rcases h with rfl|rfl
    · exact .inl rfl
    · exact .inr rfl
theorem WE {ch:T3->List T3} (h:∀t∈ts,∃I:List P2,(∀κ,((ch t).flatMap XK).count κ=((XK t).flatMap (HN md)).count κ+2*I.count κ)/\∀κ∈I,Xo md N κ):∃I:List P2,(∀κ,(Ck (ts.flatMap ch)).count κ=((Ck ts).flatMap (HN md)).count κ+2*I.count κ)/\∀κ∈I,Xo md N κ:=by
  induction ts with
  | nil=>exact ⟨[],λκ=>rfl,λκ h=>by cases h⟩
  | cons t r ih =>
    obtain ⟨I1,a1,b1⟩:=h t List.mem_cons_self
    obtain ⟨I2,a2,b2⟩:=ih λt ht=>h t (List.mem_cons_of_mem _ ht)
    refine ⟨I1++I2,λκ=>?_,λκ hk=>(List.mem_append.1 hk).elim (b1 κ) (b2 κ)⟩
    have e1:Ck ((t::r).flatMap ch)=(ch t).flatMap XK++Ck (r.flatMap ch):=by
      show List.flatMap XK ((t::r).flatMap ch)=_
      rw [List.flatMap_cons,List.flatMap_append];rfl
    have e2:(Ck (t::r)).flatMap (HN md)=(XK t).flatMap (HN md)++(Ck r).flatMap (HN md):=by
      show List.flatMap (HN md) ((t::r).flatMap XK)=_
      rw [List.flatMap_cons,List.flatMap_append];rfl
    rw [e1,e2,List.count_append,List.count_append,List.count_append,a1,a2]
    omega
theorem Uh {l:List P2} {f:P2->List P2} (k0:P2) (h1:(f k0).count κ=1) (h2:∀k∈l,k≠k0->κ ∉ f k):(l.flatMap f).count κ=l.count k0:=by
  induction l with
  | nil=>rfl
  | cons k r ih =>
    rw [List.flatMap_cons,List.count_append,ih λk hk=>h2 k (List.mem_cons_of_mem _ hk)]
    by_cases e:k=k0
    · subst e
      rw [h1,List.count_cons_self,Nat.add_comm]
    · rw [List.count_eq_zero.2 (h2 k List.mem_cons_self e),List.count_cons_of_ne e,Nat.zero_add]
theorem XZ (hM:VT md N) {k':P2} (hk:k.2<N) (hk':k'.2<N) (h:κ∈HN md k) (h':κ∈HN md k'):k=k':=by
  cases hg:Ar md k with
  | none =>
    rw [Fp hg,List.mem_singleton] at h
    cases hg':Ar md k' with
    | none=>rw [Fp hg',List.mem_singleton] at h';rw [<-h,h']
    | some n' =>
      rw [FB hg'] at h'
      have:=hM.new _ _ hg'
      have h2:κ.2=n':=by
        simp only [List.mem_cons,List.not_mem_nil,or_false] at h'
        rcases h' with rfl|rfl<;>rfl
      rw [h] at h2
      omega
  | some n =>
    rw [FB hg] at h
    have:=hM.new _ _ hg
    have h2:κ.2=n:=by
      simp only [List.mem_cons,List.not_mem_nil,or_false] at h
      rcases h with rfl|rfl<;>rfl
    cases hg':Ar md k' with
    | none =>
      rw [Fp hg',List.mem_singleton] at h'
      rw [h'] at h2
      omega
    | some n' =>
      rw [FB hg'] at h'
      have h3:κ.2=n':=by
        simp only [List.mem_cons,List.not_mem_nil,or_false] at h'
        rcases h' with rfl|rfl<;>rfl
      exact hM.inj _ _ _ hg (by rw [hg',<-h3,h2])
theorem UT (h:k.1<k.2):(HN md k).Nodup:=by
  cases hg:Ar md k with
  | none=>rw [Fp hg];simp
  | some n =>
    rw [FB hg]
    simp only [List.nodup_cons,List.mem_singleton,List.not_mem_nil,not_false_eq_true,List.nodup_nil,and_true,Prod.mk.injEq]
    omega
theorem Wy (h:k.1<k.2) (hm:κ∈HN md k):(HN md k).count κ=1:=by
  have h1:=List.count_pos_iff.2 hm
  have h2:=List.nodup_iff_count.1 (UT (md:=md) h) κ
  omega
theorem WK (hM:VT md N) (hk:∀k∈Ck ts,k.1<k.2/\k.2<N) (hn':B5 M ts'=true) (hM':M<=4611686018427387904) (hc:∃I:List P2,(∀κ,(Ck ts').count κ=((Ck ts).flatMap (HN md)).count κ+2*I.count κ)/\∀κ∈I,Xo md N κ) {s:T3} :
    s∈Bt ts'↔(∃k,(Ck ts).count k=1/\(s.1,s.2.1)∈HN md k)/\s.2.2=0:=by
  obtain ⟨I,h1,h2⟩:=hc
  have hs:=h1 (s.1,s.2.1)
  have key:∀k∈Ck ts,(s.1,s.2.1)∈HN md k->((Ck ts).flatMap (HN md)).count (s.1,s.2.1)=(Ck ts).count k:=λk hkk hm=>Uh k (Wy (hk k hkk).1 hm) λk' hk' hne hm'=>hne (XZ hM (hk k' hk').2 (hk k hkk).2 hm' hm)
  rw [Sl hn' hM']
  constructor
  · rintro ⟨h,h0⟩
    have h3:((Ck ts).flatMap (HN md)).count (s.1,s.2.1)=1:=by omega
    obtain ⟨k,hkk,hm⟩:=List.mem_flatMap.1 (List.count_pos_iff.1 (show 0<_ by rw [h3];decide))
    exact ⟨⟨k,by rw [<-key k hkk hm,h3],hm⟩,h0⟩
  · rintro ⟨⟨k,h3,hm⟩,h0⟩
    have hkk:k∈Ck ts:=List.count_pos_iff.1 (by rw [h3];decide)
    have h4:I.count (s.1,s.2.1)=0:=List.count_eq_zero.2 λh5=>h2 _ h5 k (hk k hkk).1 (hk k hkk).2 hm
    exact ⟨by rw [hs,key k hkk hm,h3,h4],h0⟩
end
end
end Go.Proofs.YtfbomiejpbchdaaGreat
