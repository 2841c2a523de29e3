import Derived.Test.YtpgncndhhhllfaaGreatPart27
namespace Go.Proofs.YtpgncndhhhllfaaGreat
open Go Go.RowKit Go.Proofs.Tryz
set_option linter.unusedVariables false
set_option linter.unusedSimpArgs false
section
abbrev Hh (ts:List T3):List (P2×Nat):=B4 ts (3*ts.length)
def F8 (k:P2):P2:=(k.2,k.1)
def Gi (t:T3) (k:P2):Nat:=t.1+t.2.1+t.2.2-k.1-k.2
def FP (ts:List T3) (k:P2):P2:=(k.2,Gi (ts.getD ((Ae (Hh ts) k).getD 0) (0,0,0)) k)
def isS (ts:List T3) (k:P2):Prop:=(Ae (Hh ts) k).isSome=true
def E7 (ts:List T3) (k:P2):Prop:=isS ts k/\¬isS ts (F8 k)
def PW (ts:List T3):Nat->P2->Option P2
  | 0,_=>none
  | f+1,k=>if (Ae (Hh ts) (F8 (FP ts k))).isSome then PW ts f (F8 (FP ts k)) else some (FP ts k)
def DW (ts:List T3) (k:P2):P2:=(PW ts (3*ts.length) k).getD (0,0)
section
variable {ts:List T3} {N:Nat} {k k0:P2} {i:Nat}
theorem Gs {n:Nat}:∀s,Ae (B4 ts s) k=some n->∃u,u<s/\BH ts u=k/\n=u/3
  | 0,h=>by cases h
  | s+1,h=>by
    have h:Ae (BG (B4 ts s) (BH ts s) (s/3)) k=some n:=h
    rw [Cc] at h
    split at h
    · rename_i e
      injection h with h
      exact ⟨s,Z,e.symm,h.symm⟩
    · obtain ⟨u,h1,h2,h3⟩:=Gs s h
      exact ⟨u,Z,h2,h3⟩
theorem H5 {u:Nat}:∀s,u<s->(Ae (B4 ts s) (BH ts u)).isSome=true
  | 0,h=>absurd h (Nat.not_lt_zero _)
  | s+1,h=>by
    show (Ae (BG (B4 ts s) (BH ts s) (s/3)) (BH ts u)).isSome=true
    rw [Cc]
    split
    · rfl
    · rename_i e
      rcases Nat.lt_or_ge u s with h1|h1
      · exact H5 s h1
      · exact absurd (by rw [show u=s by omega]) e
theorem G3 {u v n:Nat} (ho:Bc ts n=true) (hu:u<n) (hv:v<n) (h:BH ts u=BH ts v):u=v:=by
  have key:∀{u v:Nat},u<v->v<n->BH ts u=BH ts v->False:=λ{u v} h1 h2 h=>by
    have h3:=M9 (s:=v+1) _ Z ho
    have h3:(Bc ts v&&(Ae (B4 ts v) (BH ts v)).isNone)=true:=h3
    rw [Bool.and_eq_true] at h3
    have h4:=H5 (ts:=ts) v h1
    rw [h] at h4
    rw [<-Option.not_isSome,h4] at h3
    exact absurd h3.2 (by decide)
  rcases Nat.lt_trichotomy u v with h1|h1|h1
  · exact (key h1 hv h).elim
  · exact h1
  · exact (key h1 hu h.symm).elim
theorem H8 {u:Nat} (ho:Bc ts (3*ts.length)=true) (hu:u<3*ts.length):Ae (Hh ts) (BH ts u)=some (u/3):=by
  obtain ⟨n,h⟩:=Option.isSome_iff_exists.1 (H5 (ts:=ts) _ hu)
  obtain ⟨v,h1,h2,h3⟩:=Gs _ h
  have e:=G3 ho hu h1 h2.symm
  rw [show Ae (Hh ts) (BH ts u)=some n from h,h3,e]
theorem CB:isS ts k↔∃u,u<3*ts.length/\BH ts u=k:=by
  constructor
  · intro h
    obtain ⟨n,h⟩:=Option.isSome_iff_exists.1 h
    obtain ⟨u,h1,h2,_⟩:=Gs _ h
    exact ⟨u,h1,h2⟩
  · rintro ⟨u,h1,rfl⟩
    exact H5 _ h1
def Ww (u:Nat):Nat:=3*(u/3)+(u%3+1)%3
theorem Yd {u v:Nat} (h:Ww u=Ww v):u=v:=by unfold Ww at h;omega
theorem QH {u:Nat} (h:u<3*ts.length):Ww u<3*ts.length:=by unfold Ww;omega
theorem Mt (ho:Bc ts (3*ts.length)=true) {u:Nat} (hu:u<3*ts.length):FP ts (BH ts u)=BH ts (Ww u):=by
  unfold FP
  rw [H8 ho hu,Option.getD_some]
  have hd:(Ww u)/3=u/3:=by unfold Ww;omega
  have hm:(Ww u)%3=(u%3+1)%3:=by unfold Ww;omega
  unfold Gi BH
  rw [hd,hm]
  generalize ts.getD (u/3) (0,0,0)=t
  have e:u%3=0\/u%3=1\/u%3=2:=by omega
  rcases e with e|e|e<;>rw [e]<;>refine Prod.ext rfl ?_
  · show t.1+t.2.1+t.2.2-t.1-t.2.1=t.2.2;omega
  · show t.1+t.2.1+t.2.2-t.2.1-t.2.2=t.1;omega
  · show t.1+t.2.1+t.2.2-t.2.2-t.1=t.2.1;omega
theorem QQ (ho:Bc ts (3*ts.length)=true) (h:isS ts k):isS ts (FP ts k):=by
  obtain ⟨u,hu,rfl⟩:=CB.1 h
  rw [Mt ho hu]
  exact CB.2 ⟨_,QH hu,rfl⟩
theorem NS (ho:Bc ts (3*ts.length)=true) {k':P2} (h:isS ts k) (h':isS ts k') (e:FP ts k=FP ts k'):k=k':=by
  obtain ⟨u,hu,rfl⟩:=CB.1 h
  obtain ⟨v,hv,rfl⟩:=CB.1 h'
  rw [Mt ho hu,Mt ho hv] at e
  rw [Yd (G3 ho (QH hu) (QH hv) e)]
theorem Jv (k:P2):F8 (F8 k)=k:=rfl
theorem Q2 {a b:P2} (h:F8 a=F8 b):a=b:=by rw [<-Jv a,h,Jv]
theorem Gz {α:Type} [DecidableEq α] {l m:List α} (hn:l.Nodup) (hs:∀x∈l,x∈m):l.length<=m.length:=by
  induction l generalizing m with
  | nil=>exact Nat.zero_le _
  | cons x r ih =>
    have hx:=hs x List.mem_cons_self
    have hn2:=List.nodup_cons.1 hn
    have h:=ih (m:=m.erase x) hn2.2 λy hy=>by
      have:y≠x:=λe=>hn2.1 (e▸hy)
      exact (List.mem_erase_of_ne this).2 (hs y (List.mem_cons_of_mem _ hy))
    rw [List.length_erase_of_mem hx] at h
    have:=List.length_pos_of_mem hx
    simp only [List.length_cons];omega
def Uz (ts:List T3):List P2:=(List.range (3*ts.length)).map (BH ts)
theorem Nv (h:isS ts k):k∈Uz ts:=by
  obtain ⟨u,hu,rfl⟩:=CB.1 h
  exact List.mem_map.2 ⟨u,List.mem_range.2 hu,rfl⟩
theorem Ot:(Uz ts).length=3*ts.length:=by simp [Uz]
structure Eh (ts:List T3) (k0:P2) (i:Nat) (k:P2):Prop where
  chain:∃s:Nat->P2,s 0=k0/\s i=k/\(∀j,j<=i->isS ts (s j))/\∀j,j<i->s (j+1)=F8 (FP ts (s j))
theorem Eh.zero (h:isS ts k0):Eh ts k0 0 k0:=⟨λ_=>k0,rfl,rfl,λ_ _=>h,λ_ h=>absurd h (Nat.not_lt_zero _)⟩
theorem Eh.isS (h:Eh ts k0 i k):isS ts k:=by
  obtain ⟨s,_,h2,h3,_⟩:=h.chain
  rw [<-h2];exact h3 i (Nat.le_refl _)
theorem Eh.succ (h:Eh ts k0 i k) (hs:(Ae (Hh ts) (F8 (FP ts k))).isSome=true):Eh ts k0 (i+1) (F8 (FP ts k)):=by
  obtain ⟨s,h1,h2,h3,h4⟩:=h.chain
  refine ⟨λj=>if j<=i then s j else F8 (FP ts k),by simp [h1],if_neg Z,λj hj=>?_,λj hj=>?_⟩
  · show Go.Proofs.YtpgncndhhhllfaaGreat.isS ts (if j<=i then s j else _)
    split
    · exact h3 j ‹_›
    · exact hs
  · show (if j+1<=i then s (j+1) else _)=F8 (FP ts (if j<=i then s j else _))
    rw [if_pos (show j<=i by omega)]
    split
    · exact h4 j Z
    · rw [show j=i by omega,h2]
theorem Eh.lt (ho:Bc ts (3*ts.length)=true) (h0:E7 ts k0) (h:Eh ts k0 i k):i<3*ts.length:=by
  obtain ⟨s,h1,h2,h3,h4⟩:=h.chain
  have ne:∀d a,a+d+1<=i->s a≠s (a+d+1):=λd a=>by
    induction a with
    | zero =>
      intro hd e
      rw [h1,h4 (0+d) Z] at e
      refine h0.2 ?_
      rw [e,Jv]
      exact QQ ho (h3 _ Z)
    | succ a ih =>
      intro hd e
      rw [h4 a Z,show a+1+d+1=(a+d+1)+1 by omega,h4 (a+d+1) Z] at e
      exact ih Z (NS ho (h3 _ Z) (h3 _ Z) (Q2 e))
  have hnd:((List.range (i+1)).map s).Nodup:=by
    refine List.pairwise_map.2 (List.Pairwise.imp_of_mem ?_ List.pairwise_lt_range)
    intro a b ha hb hab
    have:=ne (b-a-1) a (by have:=List.mem_range.1 hb;omega)
    rw [show a+(b-a-1)+1=b by omega] at this
    exact this
  have h5:=Gz (m:=Uz ts) hnd λx hx=>by
    obtain ⟨j,hj,rfl⟩:=List.mem_map.1 hx
    exact Nv (h3 j (by have:=List.mem_range.1 hj;omega))
  rw [Ot,List.length_map,List.length_range] at h5
  omega
theorem Eh.fuel (h:Eh ts k0 i k) (f:Nat):PW ts (f+i) k0=PW ts f k:=by
  obtain ⟨s,h1,h2,h3,h4⟩:=h.chain
  subst h1 h2
  have key:∀j,j<=i->PW ts (f+i) (s 0)=PW ts (f+(i-j)) (s j):=λj=>by
    induction j with
    | zero=>intro _;rfl
    | succ j ih =>
      intro hj
      rw [ih Z,show f+(i-j)=(f+(i-(j+1)))+1 by omega]
      have h5:(Ae (Hh ts) (F8 (FP ts (s j)))).isSome=true:=by rw [<-h4 j Z];exact h3 (j+1) hj
      show (if _ then _ else _)=_
      rw [if_pos h5,<-h4 j Z]
  have:=key i (Nat.le_refl _)
  rwa [Nat.sub_self,Nat.add_zero] at this
theorem Eh.stop (ho:Bc ts (3*ts.length)=true) (h0:E7 ts k0) (h:Eh ts k0 i k) (hs:¬(Ae (Hh ts) (F8 (FP ts k))).isSome=true):DW ts k0=FP ts k/\E7 ts (FP ts k):=by
  have hlt:=h.lt ho h0
  have h1:=h.fuel (3*ts.length-i)
  rw [show 3*ts.length-i+i=3*ts.length by omega,show 3*ts.length-i=(3*ts.length-i-1)+1 by omega] at h1
  have h2:PW ts (3*ts.length-i-1+1) k=some (FP ts k):=by
    show (if _ then _ else _)=_
    rw [if_neg hs]
  refine ⟨?_,QQ ho h.isS,hs⟩
  unfold DW
  rw [h1,h2];rfl
theorem Qv (ho:Bc ts (3*ts.length)=true) (h0:E7 ts k0):E7 ts (DW ts k0):=by
  have key:∀d i k,3*ts.length-i=d->Eh ts k0 i k->E7 ts (DW ts k0):=λd=>by
    induction d with
    | zero=>intro i k hd h;have:=h.lt ho h0;omega
    | succ d ih =>
      intro i k hd h
      by_cases hs:(Ae (Hh ts) (F8 (FP ts k))).isSome=true
      · exact ih _ _ Z (h.succ hs)
      · have h1:=h.stop ho h0 hs
        rw [h1.1];exact h1.2
  exact key _ 0 k0 O (Eh.zero h0.1)
end
def am (ts:List T3):Nat->List (P2×Nat)->P2->List Nat->Option (List (P2×Nat)×List Nat)
  | 0,_,_,_=>none
  | f+1,dn,k,l=>if (Ae dn k).getD 0=0 then am ts f (BG dn k 1) (DW ts k) (l++[k.1]) else some (dn,l)
def Tr (ts:List T3) (dn:List (P2×Nat)) (k:P2):List (P2×Nat)×List Nat:=(am ts (3*ts.length+1) dn k []).getD ([],[])
structure Lf (ts:List T3) (dn:List (P2×Nat)):Prop where
  ok:G8 O3 dn
  bd:∀k n,Ae dn k=some n->E7 ts k/\n=1
section
variable {ts:List T3} {N:Nat} {k k0:P2} {i:Nat} {dn dn0:List (P2×Nat)} {l:List Nat}
theorem Lf.nil:Lf ts []:=⟨G8.nil,λk n h=>by cases h⟩
theorem Lf.len (h:Lf ts dn):dn.length<=3*ts.length:=by
  have h1:(dn.map (·.1)).Nodup:=List.pairwise_map.2 (h.ok.once.imp λ{a b} h e=>h e)
  have h2:=Gz (m:=Uz ts) h1 λx hx=>by
    obtain ⟨p,hp,rfl⟩:=List.mem_map.1 hx
    obtain ⟨j,hj,h3⟩:=List.getElem_of_mem hp
    exact Nv (h.bd _ _ (Jw (x:=p.1) (v:=p.2) h.ok.once (by rw [List.getElem?_eq_getElem hj,h3]))).1.1
  rwa [Ot,List.length_map] at h2
theorem Lf.put (h:Lf ts dn) (hk:E7 ts k) (hok:O3 k):Lf ts (BG dn k 1):=⟨h.ok.put hok,λx n hx=>by
  rw [Cc] at hx
  split at hx
  · rename_i e
    injection hx with hx
    rw [e];exact ⟨hk,hx.symm⟩
  · exact h.bd _ _ hx⟩
theorem Lf.zero (h:Lf ts dn) (e:(Ae dn k).getD 0=0):Ae dn k=none:=by
  cases hg:Ae dn k with
  | none=>rfl
  | some n=>rw [hg,(h.bd _ _ hg).2] at e;cases e
theorem Pq {α β:Type} [DecidableEq α] {kvs:List (α×β)} {x:α} {y:β} (h:Ae kvs x=none):(BG kvs x y).length=kvs.length+1:=by
  induction kvs with
  | nil=>rfl
  | cons p r ih =>
    obtain ⟨k,v⟩:=p
    unfold Ae at h
    split at h
    · cases h
    · rename_i e
      unfold BG
      rw [if_neg e,List.length_cons,ih h];rfl
theorem Mn (hn:BI N ts=true) (hN:N<=4611686018427387904) (h:isS ts k):O3 k:=by
  obtain ⟨u,hu,rfl⟩:=CB.1 h
  have:=IC hn hu
  exact ⟨Z,Z⟩
structure Px (ts:List T3) (dn0:List (P2×Nat)) (k0:P2) (i:Nat) (dn:List (P2×Nat)) (k:P2) (l:List Nat):Prop where
  fuel:∀f,am ts (f+i) dn0 k0 []=am ts f dn k l
  bd:E7 ts k
  di:Lf ts dn
  len:dn.length=dn0.length+i
  ll:l.length=i
  at0:i=0->dn=dn0/\k=k0
theorem Px.zero (h:Lf ts dn0) (hb:E7 ts k0):Px ts dn0 k0 0 dn0 k0 []:=⟨λ_=>rfl,hb,h,rfl,rfl,λ_=>⟨rfl,rfl⟩⟩
theorem Px.succ (hn:BI N ts=true) (hN:N<=4611686018427387904) (ho:Bc ts (3*ts.length)=true) (h:Px ts dn0 k0 i dn k l) (e:(Ae dn k).getD 0=0):Px ts dn0 k0 (i+1) (BG dn k 1) (DW ts k) (l++[k.1]) :=
  ⟨λf=>by
    rw [show f+(i+1)=f+1+i by omega,h.fuel (f+1)]
    show (if _ then _ else _)=_
    rw [if_pos e],Qv ho h.bd,h.di.put h.bd (Mn hn hN h.bd.1),by rw [Pq (h.di.zero e),h.len];omega,by rw [List.length_append,h.ll];rfl,λh=>by omega⟩
theorem Px.le (h:Px ts dn0 k0 i dn k l):i<=3*ts.length:=by
  have h1:=h.di.len
  have:=h.len
  omega
theorem Px.lt (hn:BI N ts=true) (hN:N<=4611686018427387904) (ho:Bc ts (3*ts.length)=true) (h:Px ts dn0 k0 i dn k l) (e:(Ae dn k).getD 0=0):i<3*ts.length:=by
  have:=(h.succ hn hN ho e).le
  omega
theorem Px.stop (h:Px ts dn0 k0 i dn k l) (e:¬(Ae dn k).getD 0=0):Tr ts dn0 k0=(dn,l):=by
  have h1:=h.fuel (3*ts.length+1-i)
  have:=h.le
  rw [show 3*ts.length+1-i+i=3*ts.length+1 by omega,show 3*ts.length+1-i=(3*ts.length-i)+1 by omega] at h1
  have h2:am ts (3*ts.length-i+1) dn k l=some (dn,l):=by
    show (if _ then _ else _)=_
    rw [if_neg e]
  unfold Tr
  rw [h1,h2];rfl
end
def D4 (l:List Nat):Nat->Nat
  | 0=>0
  | i+1=>if l.getD i 0<l.getD (D4 l i) 0\/l.getD i 0=l.getD (D4 l i) 0/\l.getD ((i+1)%l.length) 0<l.getD ((D4 l i+1)%l.length) 0 then i else D4 l i
theorem Jp {l:List Nat}:∀i,i<=l.length->0<l.length->D4 l i<l.length
  | 0,_,h=>h
  | i+1,h,h0=>by
    unfold D4
    split
    · omega
    · exact Jp i Z h0
def Dc (l:List Nat):List Nat:=l.drop (D4 l l.length)++l.take (D4 l l.length)
theorem Ou (l:List Nat):(Dc l).length=l.length:=by
  unfold Dc
  rw [List.length_append,List.length_drop,List.length_take];omega
def EO (ts:List T3):Nat->List (P2×Nat)×List (List Nat)
  | 0=>([],[])
  | i+1=>if 0<(Ae (EO ts i).1 (((AX ts).getD i (0,0,0)).1,((AX ts).getD i (0,0,0)).2.1)).getD 0 then EO ts i
    else ((Tr ts (EO ts i).1 (((AX ts).getD i (0,0,0)).1,((AX ts).getD i (0,0,0)).2.1)).1,(EO ts i).2++[Dc (Tr ts (EO ts i).1 (((AX ts).getD i (0,0,0)).1,((AX ts).getD i (0,0,0)).2.1)).2])
def cmpL:List Nat->List Nat->Int
  | [],[]=>0
  | [],_::_ => -1
  | _::_,[]=>1
  | x::r,y::s=>if x<y then -1 else if y<x then 1 else cmpL r s
theorem MT:∀a,cmpL a a=0
  | []=>rfl
  | x::r=>by unfold cmpL;rw [if_neg (Nat.lt_irrefl _),if_neg (Nat.lt_irrefl _)];exact MT r
theorem Di:∀a b,cmpL b a = - cmpL a b
  | [],[]=>rfl
  | [],_::_=>rfl
  | _::_,[]=>rfl
  | x::r,y::s=>by
    unfold cmpL
    rcases Nat.lt_trichotomy x y with h|h|h
    · rw [if_neg Z,if_pos h,if_pos h];rfl
    · subst h
      rw [if_neg (Nat.lt_irrefl _),if_neg (Nat.lt_irrefl _),if_neg (Nat.lt_irrefl _),if_neg (Nat.lt_irrefl _)]
      exact Di r s
    · rw [if_pos h,if_neg Z,if_pos h]
theorem Fa:∀a b,cmpL a b=0->a=b
  | [],[],_=>rfl
  | [],_::_,h=>by cases h
  | _::_,[],h=>by cases h
  | x::r,y::s,h=>by
    unfold cmpL at h
    rcases Nat.lt_trichotomy x y with h1|h1|h1
    · rw [if_pos h1] at h;cases h
    · subst h1
      rw [if_neg (Nat.lt_irrefl _),if_neg (Nat.lt_irrefl _)] at h
      rw [Fa r s h]
    · rw [if_neg Z,if_pos h1] at h;cases h
theorem Ft:∀a b c,cmpL a b<0->cmpL b c<0->cmpL a c<0
  | [],[],_,h,_=>by cases h
  | [],_::_,[],_,h=>by cases h
  | [],_::_,_::_,_,_=>by show (-1:Int)<0;decide
  | _::_,[],_,h,_=>by cases h
  | _::_,_::_,[],_,h=>by cases h
  | x::r,y::s,z::t,h1,h2=>by
    unfold cmpL at h1 h2 ⊢
    by_cases hxy:x<y
    · by_cases hyz:y<z
      · rw [if_pos Z];decide
      · rw [if_neg hyz] at h2
        by_cases hzy:z<y
        · rw [if_pos hzy] at h2;omega
        · rw [if_pos Z];decide
    · rw [if_neg hxy] at h1
      by_cases hyx:y<x
      · rw [if_pos hyx] at h1;omega
      · rw [if_neg hyx] at h1
        have e:x=y:=by omega
        subst e
        by_cases hyz:x<z
        · rw [if_pos hyz];decide
        · rw [if_neg hyz] at h2 ⊢
          by_cases hzy:z<x
          · rw [if_pos hzy] at h2;omega
          · rw [if_neg hzy] at h2 ⊢
            exact Ft r s t h1 h2
theorem Gt {a b:List Nat} {i:Nat} (ha:i<a.length) (hb:i<b.length):cmpL (a.drop i) (b.drop i)=if a.getD i 0<b.getD i 0 then -1 else if b.getD i 0<a.getD i 0 then 1 else cmpL (a.drop (i+1)) (b.drop (i+1)):=by
  rw [List.drop_eq_getElem_cons ha,List.drop_eq_getElem_cons hb,List.getD,List.getD,List.getElem?_eq_getElem ha,List.getElem?_eq_getElem hb];rfl
theorem TT {a b:List Nat} {i:Nat} (ha:i<a.length) (hb:b.length<=i):cmpL (a.drop i) (b.drop i)=1:=by
  rw [List.drop_eq_getElem_cons ha,List.drop_eq_nil_of_le hb];rfl
theorem Of {a b:List Nat} {i:Nat} (ha:a.length<=i) (hi:i<=a.length) (hb:i<=b.length):cmpL (a.drop i) (b.drop i)=if a.length<b.length then -1 else 0:=by
  rw [List.drop_eq_nil_of_le ha]
  split
  · rw [List.drop_eq_getElem_cons (show i<b.length by omega)];rfl
  · rw [List.drop_eq_nil_of_le Z];rfl
theorem Wd {ts:List T3} {N:Nat} {k:P2} (hn:BI N ts=true) (ho:Bc ts (3*ts.length)=true) (h:isS ts k):(Ae (Hh ts) k).getD 0<ts.length/\k.1<N/\k.2<N/\k.1+k.2<=(ts.getD ((Ae (Hh ts) k).getD 0) (0,0,0)).1+(ts.getD ((Ae (Hh ts) k).getD 0) (0,0,0)).2.1+(ts.getD ((Ae (Hh ts) k).getD 0) (0,0,0)).2.2:=by
  obtain ⟨u,hu,rfl⟩:=CB.1 h
  have h1:=IC hn hu
  rw [H8 ho hu,Option.getD_some]
  refine ⟨Z,h1.1,h1.2,?_⟩
  unfold BH
  generalize ts.getD (u/3) (0,0,0)=t
  have e:u%3=0\/u%3=1\/u%3=2:=by omega
  rcases e with e|e|e<;>rw [e]
  · show t.1+t.2.1<=_;omega
  · show t.2.1+t.2.2<=_;omega
  · show t.2.2+t.1<=_;omega
theorem IL {l:List Nat} {i b:Nat} (hb:b=D4 l i) (h:l.getD i 0<l.getD b 0):i=D4 l (i+1):=by unfold D4;rw [<-hb,if_pos (.inl h)]
theorem Hv {l:List Nat} {i b:Nat} (hb:b=D4 l i) (h:l.getD i 0=l.getD b 0) (h2:l.getD ((i+1)%l.length) 0<l.getD ((b+1)%l.length) 0):i=D4 l (i+1):=by unfold D4;rw [<-hb,if_pos (.inr ⟨h,h2⟩)]
theorem Ji {l:List Nat} {i b:Nat} (hb:b=D4 l i) (h:¬l.getD i 0<l.getD b 0) (h2:¬l.getD i 0=l.getD b 0):b=D4 l (i+1):=by unfold D4;rw [<-hb,if_neg (λh9=>h9.elim h (λh8=>h2 h8.1))]
theorem Jg {l:List Nat} {i b:Nat} (hb:b=D4 l i) (h:¬l.getD i 0<l.getD b 0) (h2:¬l.getD ((i+1)%l.length) 0<l.getD ((b+1)%l.length) 0):b=D4 l (i+1):=by unfold D4;rw [<-hb,if_neg (λh9=>h9.elim h (λh8=>h2 h8.2))]
theorem Rf (l:List Nat):((inL l).all λu=>u.oneCell')=true:=by
  unfold inL
  induction l with
  | nil=>rfl
  | cons x r ih=>exact ih
theorem Vd (l:List Nat) (b:Nat):inL (l.drop b)=(inL l).drop b:=by simp [inL,List.map_drop]
theorem Oz (l:List Nat) (b:Nat):inL (l.take b)=(inL l).take b:=by simp [inL,List.map_take]
theorem KE {a:Addr} {lo c z:Nat} (h:lo<c):PJ (some a) lo c z=some (a.add (lo*z)):=by unfold PJ;rw [if_neg Z];rfl
theorem Rr {p:Option Addr} {n c b:Nat} (h:Aw p n c) (hb:b<n):Aw (PJ p b c 1) (n-b) (c-b):=by
  have hle:=h.le
  cases hp:p with
  | none=>subst hp;have:=h.nil rfl;omega
  | some a =>
    subst hp
    have hs:=h.spot a rfl
    rw [KE Z]
    refine ⟨λe=>(by cases e),λa' e=>?_,Z⟩
    injection e with e
    subst e
    obtain ⟨x,y,z⟩:=a
    subst hs
    rw [Addr.add_lit]
theorem dv {S:Nat->Prop} {w:World} {l:List Nat} {n:Nat} {y:RX (inL l) n} (h:Ro S w y) {b:Nat} (hb:b<n):Ro S w (⟨PJ y.p b y.c 1,y.c-b,Rr y.ok hb⟩:RX (inL (l.drop b)) (n-b)):=λz hz=>by
  rcases List.mem_singleton.1 hz with rfl
  obtain ⟨h1,h2⟩:=h y.row (List.mem_singleton.2 rfl)
  obtain ⟨p,c,ok⟩:=y
  have hle:=ok.le
  cases p with
  | none=>have:=ok.nil rfl;omega
  | some a =>
    have hs:=ok.spot a rfl
    obtain ⟨x,off,z⟩:=a
    subst hs
    have ef:(AK (PJ (some ⟨x,off,none⟩) b c 1) (inL (l.drop b))).foot=some x:=by rw [KE Z,Addr.add_lit];rfl
    refine ⟨λd e=>?_,λd e=>h2 d (by rw [<-e];exact ef.symm)⟩
    obtain ⟨o,ho,hp⟩:=h1 x rfl
    have ed:x=d:=by have e2:(AK (PJ (some ⟨x,off,none⟩) b c 1) (inL (l.drop b))).foot=some d:=e;rw [ef] at e2;injection e2
    subst ed
    refine ⟨o,ho,?_⟩
    obtain ⟨cur,T,fr,rfl,hc⟩:=hp
    have hc:(cur.toList.drop off).take (inL l).length=inL l:=hc
    show G7 (pO (PJ (some ⟨x,off,none⟩) b c 1)) (inL (l.drop b)) _
    rw [KE Z,Addr.add_lit,Vd]
    refine ⟨cur,T,fr,rfl,?_⟩
    show (cur.toList.drop (off+b*1)).take _=_
    rw [Nat.mul_one,<-List.drop_drop,List.length_drop]
    conv=>rhs;rw [<-hc]
    rw [List.drop_take]
theorem bX {w0:BL} {L:List As} {q:Option Addr} {l:List Nat} {k n c m:Nat} (hi:L[k]?=some (AK q (inL l))) (hok:Aw q n c) (hm:m<=n):aJ w0 L q m (inL (l.take m)):=λw hw hm0=>by
  obtain ⟨a,ha,h⟩:=ZW hi hok w hw Z
  refine ⟨a,ha,λj u hu=>h j u ?_⟩
  rw [Oz] at hu
  rw [List.getElem?_take] at hu
  split at hu
  · exact hu
  · cases hu
section
variable {ts:List T3} {N i:Nat} {dn dn2:List (P2×Nat)} {wq:T3} {l:List Nat}
theorem Kv (hw:wq=(AX ts).getD i (0,0,0)) (hd:dn=(EO ts i).1) (h:0<(Ae dn (wq.1,wq.2.1)).getD 0):EO ts (i+1)=EO ts i:=by
  subst hw hd
  show (if _ then _ else _)=_
  rw [if_pos h]
theorem M_ (hw:wq=(AX ts).getD i (0,0,0)) (hd:dn=(EO ts i).1) (h:¬0<(Ae dn (wq.1,wq.2.1)).getD 0) (hg:Tr ts dn (wq.1,wq.2.1)=(dn2,l)):EO ts (i+1)=(dn2,(EO ts i).2++[Dc l]):=by
  subst hw hd
  show (if _ then _ else _)=_
  rw [if_neg h,hg]
theorem Qp:∀i,0<i->0<(EO ts i).2.length
  | 0,h=>absurd h (Nat.lt_irrefl _)
  | i+1,_=>by
    show 0<(if _ then EO ts i else _:List (P2×Nat)×List (List Nat)).2.length
    split
    · rename_i h
      rcases Nat.eq_zero_or_pos i with e|e
      · subst e;exact absurd h (by show ¬0<(Ae ([]:List (P2×Nat)) _).getD 0;exact Nat.lt_irrefl _)
      · exact Qp i e
    · simp
theorem Sb {n:Nat} {f:Nat->P2} {k:P2} {u v:Nat} (hu:u<n) (hv:v<n) (huv:u≠v) (h1:f u=k) (h2:f v=k):2<=((List.range n).map f).count k:=by
  rw [List.count,List.countP_map,List.countP_eq_length_filter]
  have:=Gz (l:=[u,v]) (m:=(List.range n).filter ((λx=>x == k)∘f)) (by simp [huv]) λx hx=>by
    simp only [List.mem_cons,List.not_mem_nil,or_false] at hx
    refine List.mem_filter.2 ?_
    rcases hx with rfl|rfl
    · exact ⟨List.mem_range.2 hu,by simp [h1]⟩
    · exact ⟨List.mem_range.2 hv,by simp [h2]⟩
  simpa using this
theorem Vk (hn:BI N ts=true) (hN:N<=4611686018427387904) {s:T3} (hs:s∈A6 ts):E7 ts ((EM (Hh ts) s).1,(EM (Hh ts) s).2.1):=by
  have h:=((Ka hn hN).1 hs).1
  have hm:(s.1,s.2.1)∈HY ts:=List.count_pos_iff.1 Z
  have hlt:s.1<s.2.1:=by
    obtain ⟨e,he,ea,eb⟩:=(IB hn hN).1 hm
    have:=G2 hn hN he
    omega
  have key:∀{u:Nat},(BH ts u=(s.1,s.2.1)\/BH ts u=(s.2.1,s.1))->Ej ts u=(s.1,s.2.1):=λ{u} h=>by
    unfold Ej DC
    rcases h with h|h<;>rw [h]<;>exact Prod.ext (by simp only;omega) (by simp only;omega)
  have hone:¬(isS ts (s.1,s.2.1)/\isS ts (s.2.1,s.1)):=λ⟨h1,h2⟩=>by
    obtain ⟨u,hu,e1⟩:=CB.1 h1
    obtain ⟨v,hv,e2⟩:=CB.1 h2
    have:=Sb (f:=Ej ts) hu hv (λe=>by subst e;rw [e1] at e2;injection e2;omega) (key (.inl e1)) (key (.inr e2))
    rw [Ez] at this
    omega
  cases hg:Ae (Hh ts) (s.1,s.2.1) with
  | some t =>
    have e:EM (Hh ts) s=(s.1,s.2.1,t):=by unfold EM;rw [hg]
    rw [e]
    have h1:isS ts (s.1,s.2.1):=by unfold isS;rw [hg];rfl
    exact ⟨h1,λh2=>hone ⟨h1,h2⟩⟩
  | none =>
    have e:EM (Hh ts) s=(s.2.1,s.1,(Ae (Hh ts) (s.2.1,s.1)).getD 0):=by unfold EM;rw [hg]
    rw [e]
    have hno:¬isS ts (s.1,s.2.1):=by unfold isS;rw [hg];exact λh=>by cases h
    refine ⟨?_,hno⟩
    rw [<-Ez,List.mem_map] at hm
    obtain ⟨u,hu,hk⟩:=hm
    have hu:=List.mem_range.1 hu
    unfold Ej DC at hk
    injection hk with k1 k2
    rcases Nat.lt_or_ge (BH ts u).1 (BH ts u).2 with h1|h1
    · exact absurd (CB.2 ⟨u,hu,Prod.ext (by show (BH ts u).1=_;omega) (by show (BH ts u).2=_;omega)⟩) hno
    · exact CB.2 ⟨u,hu,Prod.ext (by show (BH ts u).1=s.2.1;omega) (by show (BH ts u).2=s.1;omega)⟩
theorem Pm (hn:BI N ts=true) (hN:N<=4611686018427387904) (hi:i<(AX ts).length) (hw:wq=(AX ts).getD i (0,0,0)):E7 ts (wq.1,wq.2.1):=by
  have hm:wq∈AX ts:=by rw [hw,List.getD,List.getElem?_eq_getElem hi];exact List.getElem_mem hi
  unfold AX at hm
  obtain ⟨s,hs,rfl⟩:=List.mem_map.1 hm
  exact Vk hn hN hs
theorem Kb:(AX ts).length=(A6 ts).length:=by unfold AX;rw [List.length_map]
end
end
section
def Ve (s:T2):List (P2×P2):=[(s.1,s.2.1),(s.2.1,s.2.2),(s.2.2,s.1)]
def VF (s t:T2):Bool:=s == t||(Ve s).all λe=>(Ve t).all λf=>!(e == f)
def U5:Bool:=KN.all λp=>KN.all λq=>(decide (p.1=q.1/\p.2.1=q.2.1/\p.2.2≠q.2.2))||(YV p.1 p.2.1 p.2.2).all λs=>(YV q.1 q.2.1 q.2.2).all λt=>VF s t
theorem LY:U5=true:=by decide +kernel
theorem UL {m:MQ} {s t:T2} (hs:s∈BK m) (ht:t∈BK m):VF s t=true:=by
  obtain ⟨i,hi,h1⟩:=Fp m _ s hs
  obtain ⟨j,hj,h2⟩:=Fp m _ t ht
  have hx:=LH m
  have hy:=J7 m
  have b:∀k,k<Hz m*Ub m->k%Hz m<=2/\k/Hz m<=2:=λk hk=>by
    have a1:=Nat.mod_lt k (show 0<Hz m by omega)
    have a2:k/Hz m<Ub m:=Nat.div_lt_of_lt_mul hk
    omega
  rw [Sf] at h1 h2
  have h:=List.all_eq_true.1 (List.all_eq_true.1 LY _ (Hq (b i hi).1 (b i hi).2 (Rc (G4 m i) i))) _ (Hq (b j hj).1 (b j hj).2 (Rc (G4 m j) j))
  rw [Bool.or_eq_true,decide_eq_true_eq] at h
  rcases h with ⟨e1,e2,e3⟩|h
  · exfalso
    have e:i=j:=by rw [<-Nat.div_add_mod i (Hz m),<-Nat.div_add_mod j (Hz m),show i%Hz m=j%Hz m from e1,show i/Hz m=j/Hz m from e2]
    subst e
    exact e3 O
  · exact List.all_eq_true.1 (List.all_eq_true.1 h s h1) t h2
theorem Zz {c:T2} (h:0<DV c.1 c.2.1 c.2.2):∃x y:Rat,Ws c x y:=by
  obtain ⟨⟨a1,a2⟩,⟨b1,b2⟩,⟨c1,c2⟩⟩:=c
  have h2:(0:Rat)<(DV (a1,a2) (b1,b2) (c1,c2):Int):=by exact_mod_cast h
  have e:((DV (a1,a2) (b1,b2) (c1,c2):Int):Rat)=((b1:Rat)-a1)*((c2:Rat)-a2)-((b2:Rat)-a2)*((c1:Rat)-a1):=by
    simp only [DV,Rat.intCast_sub,Rat.intCast_mul,Rat.intCast_natCast]
  rw [e] at h2
  refine ⟨((a1:Rat)+b1+c1)/3,((a2:Rat)+b2+c2)/3,?_,?_,?_⟩<;>simp only [Nf]<;>grind
section
variable {ps:List Pt} {ts:List T3}
theorem Yj (c:T2) {k:Nat} (hk:k<3):(comp c k,comp c ((k+1)%3))∈Ve c:=by
  have e:k=0\/k=1\/k=2:=by omega
  rcases e with rfl|rfl|rfl<;>simp [Ve,comp]
theorem OG {m:MQ} {pl:List P2} {n:T3} {t:Nat} (h:MW m pl n t) {r:Nat} (hr:r<3):pl.getD (Bw n r) (0,0)=Av m t r:=by
  have e:r=0\/r=1\/r=2:=by omega
  rcases e with rfl|rfl|rfl
  · exact h.a.2
  · exact h.b.2
  · exact h.c.2
theorem Ol (g:HF ps ts) (hn:BI ps.length ts=true) {u v:Nat} (hu:u<3*ts.length) (hv:v<3*ts.length) (h:BH ts u=BH ts v):u=v:=by
  obtain ⟨m,pl,hi,_,_⟩:=g.lat
  have htl:=hi.tl
  have key:∀w,w<3*ts.length->(pl.getD (BH ts w).1 (0,0),pl.getD (BH ts w).2 (0,0))∈Ve ((BK m).getD (w/3) ((0,0),(0,0),(0,0))):=λw hw=>by
    have ha:=hi.at_ (w/3) Z
    have e1:=OG ha (Nat.mod_lt w (show 0<3 by decide))
    have e2:=OG ha (Nat.mod_lt (w%3+1) (show 0<3 by decide))
    unfold BH
    rw [e1,e2]
    unfold Av
    rw [show La m (w/3) ((w%3+1)%3)=(La m (w/3) (w%3)+1)%3 by unfold La;omega]
    exact Yj _ (by unfold La;exact Nat.mod_lt _ (by decide))
  have cell:∀w,w<3*ts.length->(BK m).getD (w/3) ((0,0),(0,0),(0,0))∈BK m:=λw hw=>by
    rw [List.getD,List.getElem?_eq_getElem Z];exact List.getElem_mem _
  have h1:=key u hu
  have h2:=key v hv
  rw [<-h] at h2
  have h3:=UL (cell u hu) (cell v hv)
  have h4:u/3=v/3:=by
    simp only [VF,Bool.or_eq_true,beq_iff_eq] at h3
    rcases h3 with h3|h3
    · by_cases e:u/3=v/3
      · exact e
      · exfalso
        obtain ⟨x,y,ho⟩:=Zz (Ih m _ (cell u hu)).1
        refine Lm m (show u/3<(BK m).length by omega) (show v/3<(BK m).length by omega) e ((0,0),(0,0),(0,0)) x y ho ?_
        rw [<-h3]
        exact ⟨by have:=ho.1;grind,by have:=ho.2.1;grind,by have:=ho.2.2;grind⟩
    · have h5:=List.all_eq_true.1 (List.all_eq_true.1 h3 _ h1) _ h2
      simp at h5
  have hne:=KS (CW hn (show u/3<ts.length by omega))
  have e1:(BH ts u).1=(BH ts v).1:=by rw [h]
  unfold BH at e1
  rw [<-h4] at e1
  generalize ts.getD (u/3) (0,0,0)=t at *
  have a:u%3=0\/u%3=1\/u%3=2:=by omega
  have b:v%3=0\/v%3=1\/v%3=2:=by omega
  have e2:u%3=v%3:=by
    rcases a with a|a|a<;>rcases b with b|b|b<;>rw [a,b]<;>rw [a,b] at e1<;>simp [Bw] at e1<;>omega
  omega
theorem PC (g:HF ps ts) (hn:BI ps.length ts=true):Bc ts (3*ts.length)=true:=by
  have key:∀n,n<=3*ts.length->Bc ts n=true:=λn=>by
    induction n with
    | zero=>intro _;rfl
    | succ n ih =>
      intro hle
      show (Bc ts n&&(Ae (B4 ts n) (BH ts n)).isNone)=true
      rw [ih Z,Bool.true_and]
      cases hg:Ae (B4 ts n) (BH ts n) with
      | none=>rfl
      | some z =>
        obtain ⟨u,h1,h2,_⟩:=Gs _ hg
        have:=Ol g hn Z Z h2
        omega
  exact key _ (Nat.le_refl _)
end
end
section
section
variable {ps:List Pt} {ts:List T3}
end
end
def cg (md:List (P2×Nat)):Nat->T3->List T3
  | 0,c=>[c]
  | d+1,c=>match Ae md (Vx c) with
    | none=>[c]
    | some n=>cg md d (n,c.1,c.2.1)++cg md d (n,c.2.2,c.1)
def eW (n p:Nat):List Nat:=List.replicate n p
section
section
variable {N:Nat} {es:List E4} {T:T3}
end
end
section
section
variable {m:MQ} {ts:List T3} {a b N:Nat}
theorem Mr {x y:Nat} (hab:a<b) (hxy:x≠y):DC x y=(a,b)↔(x=a/\y=b)\/(x=b/\y=a):=by
  unfold DC
  rw [Prod.mk.injEq]
  omega
theorem YR {t:T3} (hab:a<b) (h:t.1≠t.2.1/\t.2.1≠t.2.2/\t.2.2≠t.1):[DC t.1 t.2.1,DC t.2.1 t.2.2,DC t.2.2 t.1].count (a,b)=if C_ t a=true/\C_ t b=true then 1 else 0:=by
  obtain ⟨h1,h2,h3⟩:=h
  simp only [List.count_cons,List.count_nil,beq_iff_eq,Mr hab h1,Mr hab h2,Mr hab h3,C_,Bool.or_eq_true,decide_eq_true_eq]
  split<;>split<;>split<;>split<;>omega
theorem O0 (hn:BI N ts=true) (hN:N<=4611686018427387904) (h:(a,b)∈HY ts):a<b/\b<N:=by
  obtain ⟨e,he,rfl,rfl⟩:=(IB hn hN).1 h
  exact G2 hn hN he
end
end
section
def eE (md:List (P2×Nat)) (ts:List T3):List T3:=ts.flatMap (cg md 2)
def eC (md:List (P2×Nat)) (ts:List T3):Nat->List Nat
  | 0=>[]
  | i+1=>eC md ts i++eW (cg md 2 (ts.getD i (0,0,0))).length i
section
variable {md:List (P2×Nat)} {ts ss:List T3} {i N:Nat} {es:List E4}
end
structure ec (ps:List Pt) (ts ss:List T3) (ms:List Int) where
  l:List E4
  p:E4->Bool
  el:l=(Bd ts).filter p
  all:∀e,p e=true↔aa ts (dS ts ms) (e.a,e.b)
  x:dY (dK ps l) (eE (W6 ps.length l l.length) ts) (dq ps.length ss l (eE (W6 ps.length l l.length) ts)) (eC (W6 ps.length l l.length) ts ts.length) 0
instance {ps:List Pt} {ts ss:List T3} {ms:List Int}:Cf (ec ps ts ss ms):=⟨λb=>Cf.val b.x,λb=>Cf.rows b.x,λb y hy=>Cf.ro b.x y hy⟩
section
variable {ts ss:List T3} {N:Nat} {es:List E4} {ms:List Int}
end
section
variable {P:Program} {ops:Array Oper} {rest:List Oper} {Q:Exit->Act->World->Prop} {n d:Nat} {F:List (Nat×Value)} {w0:BL} {S:Nat->Prop} {L:List As} {t:TypeId} {p:String} {af:Array Edge} {y:Operand} {f:FuncId} {xs:List Operand} {args:List Value} {tys:Array TypeId} {ps:List Pt} {ts ss:List T3} {ms:List Int}
theorem AC.makeInt {m:Nat} {ty T:TypeId} {x y:Operand} {ki kj:IntKind} {bytes:Nat} (ht:Ix P t T (vN 0) bytes) (hx:evF F x=some (.int ki (m:Nat))) (hy:evF F y=some (.int kj (m:Nat))) (hm:m<=1099511627776) (hb:Nat.ble bytes 16=true) (hd:Nat.ble (d+1) n=true)
    (next:∀b,OwnOk (some ⟨b,0,none⟩) m m->AC P ops rest Q n ((d,.slice (some ⟨b,0,none⟩) m m)::F) w0 (rowW (some ⟨b,0,none⟩) T 1 m m (zL (List.replicate m 0))::L)) :
    AC P ops (⟨some d,.makeSlice t x y,ty,p,af,none⟩::rest) Q n F w0 L:=AC.makeRow ht hx hy hm hb hd λb ho=>by
  have h:=next b ho
  unfold zL at h
  rw [List.map_replicate] at h
  exact h
end
theorem HK (l:List Int) (j:Nat) (z:Int):(zL l).set j (.int .i64 z)=zL (l.set j z):=by unfold zL;rw [List.map_set]
end
section
section
variable {md:List (P2×Nat)} {N M n a b c e p:Nat} {k κ:P2} {T:T3} {ts ts':List T3}
end
end
section
def bz (l:Nat):Int×Int×Int:=if l=0 then (2,0,0) else if l=1 then (0,2,0) else if l=2 then (0,0,2) else if l=3 then (1,1,0) else if l=4 then (0,1,1) else (1,0,1)
def D3 (i j k:Nat):Int:=(bz i).1*((bz j).2.1*(bz k).2.2-(bz j).2.2*(bz k).2.1)-(bz i).2.1*((bz j).1*(bz k).2.2-(bz j).2.2*(bz k).1)+(bz i).2.2*((bz j).1*(bz k).2.1-(bz j).2.1*(bz k).1)
def dp (fam:List T3) (l:Nat):Bool:=fam.any λL=>cK L l
def cw (L:T3) (l:Nat):Bool:=decide (0<=D3 l L.2.1 L.2.2)&&decide (0<=D3 L.1 l L.2.2)&&decide (0<=D3 L.1 L.2.1 l)
instance (fam:List T3):Decidable (∀l,l<6->dp fam l=true->∀L∈fam,cw L l=true->cK L l=true):=inferInstance
section
variable {a b c q:Pt} {l i j k:Nat}
end
end
section
section
variable {ps ps':List Pt} {ts ts':List T3} {mv:Nat->Nat->Nat} {fam:T3->List T3} {t s c L:T3} {l k p:Nat}
end
end
section
section
variable {ps:List Pt} {ts ss:List T3} {c:T3}
end
end
section
section
variable {ps:List Pt} {ts us ss:List T3} {N:Nat}
theorem Sh {a b:List Rat} (h:a.Perm b):D0 a=D0 b:=by
  induction h with
  | nil=>rfl
  | cons x _ ih=>simp only [D0,ih]
  | swap x y l=>simp only [D0];grind
  | trans _ _ h1 h2=>rw [h1,h2]
theorem GU (ts:List T3) (a b:Nat):∀s,∃z,Ff ts s a b z
  | 0=>⟨-1,Ff.none λu hu=>absurd hu (Nat.not_lt_zero _)⟩
  | s+1=>by
    obtain ⟨z,h⟩:=GU ts a b s
    by_cases e:BH ts s=(a,b)
    · by_cases hz:z = -1
      · subst hz;exact ⟨_,h.take e⟩
      · exact ⟨z,h.keep hz⟩
    · exact ⟨z,h.skip e⟩
end
end
end Go.Proofs.YtpgncndhhhllfaaGreat
