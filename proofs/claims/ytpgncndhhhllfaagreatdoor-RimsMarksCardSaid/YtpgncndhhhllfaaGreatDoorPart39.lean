import Derived.Test.YtpgncndhhhllfaaGreatDoorPart37
import Derived.Test.YtpgncndhhhllfaaGreatDoorPart38
namespace Go.Proofs.YtpgncndhhhllfaaGreatDoor
open Go Go.RowKit Go.Proofs.Tryz
set_option linter.unusedVariables false
set_option linter.unusedSimpArgs false
section
abbrev J7 (ts:List T3):List (P2×Nat):=CL ts (3*ts.length)
def NR (k:P2):P2:=(k.2,k.1)
def Gr (t:T3) (k:P2):Nat:=t.1+t.2.1+t.2.2-k.1-k.2
def KE (ts:List T3) (k:P2):P2:=(k.2,Gr (ts.getD ((Ac (J7 ts) k).getD 0) (0,0,0)) k)
def isS (ts:List T3) (k:P2):Prop:=(Ac (J7 ts) k).isSome=true
def QZ (ts:List T3) (k:P2):Prop:=isS ts k/\¬isS ts (NR k)
def Nu (ts:List T3):Nat->P2->Option P2
  | 0,_=>none
  | f+1,k=>if (Ac (J7 ts) (NR (KE ts k))).isSome then Nu ts f (NR (KE ts k)) else some (KE ts k)
def NI (ts:List T3) (k:P2):P2:=(Nu ts (3*ts.length) k).getD (0,0)
section
variable {ts:List T3} {N:Nat} {k k0:P2} {i:Nat}
theorem Hf {n:Nat}:∀s,Ac (CL ts s) k=some n->∃u,u<s/\BV ts u=k/\n=u/3
  | 0,h=>by cases h
  | s+1,h=>by
    have h:Ac (Az (CL ts s) (BV ts s) (s/3)) k=some n:=h
    rw [CR] at h
    split at h
    · rename_i e
      injection h with h
      exact ⟨s,by omega,e.symm,h.symm⟩
    · obtain ⟨u,h1,h2,h3⟩:=Hf s h
      exact ⟨u,by omega,h2,h3⟩
theorem HA {u:Nat}:∀s,u<s->(Ac (CL ts s) (BV ts u)).isSome=true
  | 0,h=>absurd h (Nat.not_lt_zero _)
  | s+1,h=>by
    show (Ac (Az (CL ts s) (BV ts s) (s/3)) (BV ts u)).isSome=true
    rw [CR]
    split
    · rfl
    · rename_i e
      rcases Nat.lt_or_ge u s with h1|h1
      · exact HA s h1
      · exact absurd (by rw [show u=s by omega]) e
theorem Kl {u v n:Nat} (ho:Cl ts n=true) (hu:u<n) (hv:v<n) (h:BV ts u=BV ts v):u=v:=by
  have key:∀{u v:Nat},u<v->v<n->BV ts u=BV ts v->False:=λ{u v} h1 h2 h=>by
    have h3:=Lh (s:=v+1) _ (by omega) ho
    have h3:(Cl ts v&&(Ac (CL ts v) (BV ts v)).isNone)=true:=h3
    rw [Bool.and_eq_true] at h3
    have h4:=HA (ts:=ts) v h1
    rw [h] at h4
    rw [<-Option.not_isSome,h4] at h3
    exact absurd h3.2 (by decide)
  rcases Nat.lt_trichotomy u v with h1|h1|h1
  · exact (key h1 hv h).elim
  · exact h1
  · exact (key h1 hu h.symm).elim
theorem Lx {u:Nat} (ho:Cl ts (3*ts.length)=true) (hu:u<3*ts.length):Ac (J7 ts) (BV ts u)=some (u/3):=by
  obtain ⟨n,h⟩:=Option.isSome_iff_exists.1 (HA (ts:=ts) _ hu)
  obtain ⟨v,h1,h2,h3⟩:=Hf _ h
  have e:=Kl ho hu h1 h2.symm
  rw [show Ac (J7 ts) (BV ts u)=some n from h,h3,e]
theorem DR:isS ts k↔∃u,u<3*ts.length/\BV ts u=k:=by
  constructor
  · intro h
    obtain ⟨n,h⟩:=Option.isSome_iff_exists.1 h
    obtain ⟨u,h1,h2,_⟩:=Hf _ h
    exact ⟨u,h1,h2⟩
  · rintro ⟨u,h1,rfl⟩
    exact HA _ h1
def T7 (u:Nat):Nat:=3*(u/3)+(u%3+1)%3
theorem Uh {u v:Nat} (h:T7 u=T7 v):u=v:=by unfold T7 at h;omega
theorem Ng {u:Nat} (h:u<3*ts.length):T7 u<3*ts.length:=by unfold T7;omega
theorem Lj (ho:Cl ts (3*ts.length)=true) {u:Nat} (hu:u<3*ts.length):KE ts (BV ts u)=BV ts (T7 u):=by
  unfold KE
  rw [Lx ho hu,Option.getD_some]
  have hd:(T7 u)/3=u/3:=by unfold T7;omega
  have hm:(T7 u)%3=(u%3+1)%3:=by unfold T7;omega
  unfold Gr BV
  rw [hd,hm]
  generalize ts.getD (u/3) (0,0,0)=t
  have e:u%3=0\/u%3=1\/u%3=2:=by omega
  rcases e with e|e|e<;>rw [e]<;>refine Prod.ext rfl ?_
  · show t.1+t.2.1+t.2.2-t.1-t.2.1=t.2.2;omega
  · show t.1+t.2.1+t.2.2-t.2.1-t.2.2=t.1;omega
  · show t.1+t.2.1+t.2.2-t.2.2-t.1=t.2.1;omega
theorem S0 (ho:Cl ts (3*ts.length)=true) (h:isS ts k):isS ts (KE ts k):=by
  obtain ⟨u,hu,rfl⟩:=DR.1 h
  rw [Lj ho hu]
  exact DR.2 ⟨_,Ng hu,rfl⟩
theorem VR (ho:Cl ts (3*ts.length)=true) {k':P2} (h:isS ts k) (h':isS ts k') (e:KE ts k=KE ts k'):k=k':=by
  obtain ⟨u,hu,rfl⟩:=DR.1 h
  obtain ⟨v,hv,rfl⟩:=DR.1 h'
  rw [Lj ho hu,Lj ho hv] at e
  rw [Uh (Kl ho (Ng hu) (Ng hv) e)]
theorem K1 (k:P2):NR (NR k)=k:=rfl
theorem UB {a b:P2} (h:NR a=NR b):a=b:=by rw [<-K1 a,h,K1]
theorem Hd {α:Type} [DecidableEq α] {l m:List α} (hn:l.Nodup) (hs:∀x∈l,x∈m):l.length<=m.length:=by
  induction l generalizing m with
  | nil=>exact Nat.zero_le _
  | cons x r ih =>
    have hx:=hs x List.mem_cons_self
    have hn2:=List.nodup_cons.1 hn
    have h:=ih (m:=m.erase x) hn2.2 λy hy=>by
      have:y≠x:=λe=>hn2.1 (e▸hy)
      exact (List.mem_erase_of_ne this).2 (hs y (List.mem_cons_of_mem _ hy))
    rw [List.length_erase_of_mem hx] at h
    have:=List.length_pos_of_mem hx
    simp only [List.length_cons];omega
def Tf (ts:List T3):List P2:=(List.range (3*ts.length)).map (BV ts)
theorem MC (h:isS ts k):k∈Tf ts:=by
  obtain ⟨u,hu,rfl⟩:=DR.1 h
  exact List.mem_map.2 ⟨u,List.mem_range.2 hu,rfl⟩
theorem NC:(Tf ts).length=3*ts.length:=by simp [Tf]
structure Fq (ts:List T3) (k0:P2) (i:Nat) (k:P2):Prop where
  chain:∃s:Nat->P2,s 0=k0/\s i=k/\(∀j,j<=i->isS ts (s j))/\∀j,j<i->s (j+1)=NR (KE ts (s j))
theorem Fq.zero (h:isS ts k0):Fq ts k0 0 k0:=⟨λ_=>k0,rfl,rfl,λ_ _=>h,λ_ h=>absurd h (Nat.not_lt_zero _)⟩
theorem Fq.isS (h:Fq ts k0 i k):isS ts k:=by
  obtain ⟨s,_,h2,h3,_⟩:=h.chain
  rw [<-h2];exact h3 i (Nat.le_refl _)
theorem Fq.succ (h:Fq ts k0 i k) (hs:(Ac (J7 ts) (NR (KE ts k))).isSome=true):Fq ts k0 (i+1) (NR (KE ts k)):=by
  obtain ⟨s,h1,h2,h3,h4⟩:=h.chain
  refine ⟨λj=>if j<=i then s j else NR (KE ts k),by simp [h1],if_neg (by omega),λj hj=>?_,λj hj=>?_⟩
  · show Go.Proofs.YtpgncndhhhllfaaGreatDoor.isS ts (if j<=i then s j else _)
    split
    · exact h3 j ‹_›
    · exact hs
  · show (if j+1<=i then s (j+1) else _)=NR (KE ts (if j<=i then s j else _))
    rw [if_pos (show j<=i by omega)]
    split
    · exact h4 j (by omega)
    · rw [show j=i by omega,h2]
theorem Fq.lt (ho:Cl ts (3*ts.length)=true) (h0:QZ ts k0) (h:Fq ts k0 i k):i<3*ts.length:=by
  obtain ⟨s,h1,h2,h3,h4⟩:=h.chain
  have ne:∀d a,a+d+1<=i->s a≠s (a+d+1):=λd a=>by
    induction a with
    | zero =>
      intro hd e
      rw [h1,h4 (0+d) (by omega)] at e
      refine h0.2 ?_
      rw [e,K1]
      exact S0 ho (h3 _ (by omega))
    | succ a ih =>
      intro hd e
      rw [h4 a (by omega),show a+1+d+1=(a+d+1)+1 by omega,h4 (a+d+1) (by omega)] at e
      exact ih (by omega) (VR ho (h3 _ (by omega)) (h3 _ (by omega)) (UB e))
  have hnd:((List.range (i+1)).map s).Nodup:=by
    refine List.pairwise_map.2 (List.Pairwise.imp_of_mem ?_ List.pairwise_lt_range)
    intro a b ha hb hab
    have:=ne (b-a-1) a (by have:=List.mem_range.1 hb;omega)
    rw [show a+(b-a-1)+1=b by omega] at this
    exact this
  have h5:=Hd (m:=Tf ts) hnd λx hx=>by
    obtain ⟨j,hj,rfl⟩:=List.mem_map.1 hx
    exact MC (h3 j (by have:=List.mem_range.1 hj;omega))
  rw [NC,List.length_map,List.length_range] at h5
  omega
theorem Fq.fuel (h:Fq ts k0 i k) (f:Nat):Nu ts (f+i) k0=Nu ts f k:=by
  obtain ⟨s,h1,h2,h3,h4⟩:=h.chain
  subst h1 h2
  have key:∀j,j<=i->Nu ts (f+i) (s 0)=Nu ts (f+(i-j)) (s j):=λj=>by
    induction j with
    | zero=>intro _;rfl
    | succ j ih =>
      intro hj
      rw [ih (by omega),show f+(i-j)=(f+(i-(j+1)))+1 by omega]
      have h5:(Ac (J7 ts) (NR (KE ts (s j)))).isSome=true:=by rw [<-h4 j (by omega)];exact h3 (j+1) hj
      show (if _ then _ else _)=_
      rw [if_pos h5,<-h4 j (by omega)]
  have:=key i (Nat.le_refl _)
  rwa [Nat.sub_self,Nat.add_zero] at this
theorem Fq.stop (ho:Cl ts (3*ts.length)=true) (h0:QZ ts k0) (h:Fq ts k0 i k) (hs:¬(Ac (J7 ts) (NR (KE ts k))).isSome=true):NI ts k0=KE ts k/\QZ ts (KE ts k):=by
  have hlt:=h.lt ho h0
  have h1:=h.fuel (3*ts.length-i)
  rw [show 3*ts.length-i+i=3*ts.length by omega,show 3*ts.length-i=(3*ts.length-i-1)+1 by omega] at h1
  have h2:Nu ts (3*ts.length-i-1+1) k=some (KE ts k):=by
    show (if _ then _ else _)=_
    rw [if_neg hs]
  refine ⟨?_,S0 ho h.isS,hs⟩
  unfold NI
  rw [h1,h2];rfl
theorem UO (ho:Cl ts (3*ts.length)=true) (h0:QZ ts k0):QZ ts (NI ts k0):=by
  have key:∀d i k,3*ts.length-i=d->Fq ts k0 i k->QZ ts (NI ts k0):=λd=>by
    induction d with
    | zero=>intro i k hd h;have:=h.lt ho h0;omega
    | succ d ih =>
      intro i k hd h
      by_cases hs:(Ac (J7 ts) (NR (KE ts k))).isSome=true
      · exact ih _ _ (by omega) (h.succ hs)
      · have h1:=h.stop ho h0 hs
        rw [h1.1];exact h1.2
  exact key _ 0 k0 rfl (Fq.zero h0.1)
end
def YB (ts:List T3):Nat->List (P2×Nat)->P2->List Nat->Option (List (P2×Nat)×List Nat)
  | 0,_,_,_=>none
  | f+1,dn,k,l=>if (Ac dn k).getD 0=0 then YB ts f (Az dn k 1) (NI ts k) (l++[k.1]) else some (dn,l)
def X2 (ts:List T3) (dn:List (P2×Nat)) (k:P2):List (P2×Nat)×List Nat:=(YB ts (3*ts.length+1) dn k []).getD ([],[])
structure Qv (ts:List T3) (dn:List (P2×Nat)):Prop where
  ok:F_ Kp dn
  bd:∀k n,Ac dn k=some n->QZ ts k/\n=1
section
variable {ts:List T3} {N:Nat} {k k0:P2} {i:Nat} {dn dn0:List (P2×Nat)} {l:List Nat}
theorem Qv.nil:Qv ts []:=⟨F_.nil,λk n h=>by cases h⟩
theorem Qv.len (h:Qv ts dn):dn.length<=3*ts.length:=by
  have h1:(dn.map (·.1)).Nodup:=List.pairwise_map.2 (h.ok.once.imp λ{a b} h e=>h e)
  have h2:=Hd (m:=Tf ts) h1 λx hx=>by
    obtain ⟨p,hp,rfl⟩:=List.mem_map.1 hx
    obtain ⟨j,hj,h3⟩:=List.getElem_of_mem hp
    exact MC (h.bd _ _ (Ic (x:=p.1) (v:=p.2) h.ok.once (by rw [List.getElem?_eq_getElem hj,h3]))).1.1
  rwa [NC,List.length_map] at h2
theorem Qv.put (h:Qv ts dn) (hk:QZ ts k) (hok:Kp k):Qv ts (Az dn k 1):=⟨h.ok.put hok,λx n hx=>by
  rw [CR] at hx
  split at hx
  · rename_i e
    injection hx with hx
    rw [e];exact ⟨hk,hx.symm⟩
  · exact h.bd _ _ hx⟩
theorem Qv.zero (h:Qv ts dn) (e:(Ac dn k).getD 0=0):Ac dn k=none:=by
  cases hg:Ac dn k with
  | none=>rfl
  | some n=>rw [hg,(h.bd _ _ hg).2] at e;cases e
theorem NZ {α β:Type} [DecidableEq α] {kvs:List (α×β)} {x:α} {y:β} (h:Ac kvs x=none):(Az kvs x y).length=kvs.length+1:=by
  induction kvs with
  | nil=>rfl
  | cons p r ih =>
    obtain ⟨k,v⟩:=p
    unfold Ac at h
    split at h
    · cases h
    · rename_i e
      unfold Az
      rw [if_neg e,List.length_cons,ih h];rfl
theorem Ll (hn:By N ts=true) (hN:N<=4611686018427387904) (h:isS ts k):Kp k:=by
  obtain ⟨u,hu,rfl⟩:=DR.1 h
  have:=Gy hn hu
  exact ⟨by omega,by omega⟩
structure Q2 (ts:List T3) (dn0:List (P2×Nat)) (k0:P2) (i:Nat) (dn:List (P2×Nat)) (k:P2) (l:List Nat):Prop where
  fuel:∀f,YB ts (f+i) dn0 k0 []=YB ts f dn k l
  bd:QZ ts k
  di:Qv ts dn
  len:dn.length=dn0.length+i
  ll:l.length=i
  at0:i=0->dn=dn0/\k=k0
theorem Q2.zero (h:Qv ts dn0) (hb:QZ ts k0):Q2 ts dn0 k0 0 dn0 k0 []:=⟨λ_=>rfl,hb,h,rfl,rfl,λ_=>⟨rfl,rfl⟩⟩
theorem Q2.succ (hn:By N ts=true) (hN:N<=4611686018427387904) (ho:Cl ts (3*ts.length)=true) (h:Q2 ts dn0 k0 i dn k l) (e:(Ac dn k).getD 0=0):Q2 ts dn0 k0 (i+1) (Az dn k 1) (NI ts k) (l++[k.1]) :=
  ⟨λf=>by
    rw [show f+(i+1)=f+1+i by omega,h.fuel (f+1)]
    show (if _ then _ else _)=_
    rw [if_pos e],UO ho h.bd,h.di.put h.bd (Ll hn hN h.bd.1),by rw [NZ (h.di.zero e),h.len];omega,by rw [List.length_append,h.ll];rfl,λh=>by omega⟩
theorem Q2.le (h:Q2 ts dn0 k0 i dn k l):i<=3*ts.length:=by
  have h1:=h.di.len
  have:=h.len
  omega
theorem Q2.lt (hn:By N ts=true) (hN:N<=4611686018427387904) (ho:Cl ts (3*ts.length)=true) (h:Q2 ts dn0 k0 i dn k l) (e:(Ac dn k).getD 0=0):i<3*ts.length:=by
  have:=(h.succ hn hN ho e).le
  omega
theorem Q2.stop (h:Q2 ts dn0 k0 i dn k l) (e:¬(Ac dn k).getD 0=0):X2 ts dn0 k0=(dn,l):=by
  have h1:=h.fuel (3*ts.length+1-i)
  have:=h.le
  rw [show 3*ts.length+1-i+i=3*ts.length+1 by omega,show 3*ts.length+1-i=(3*ts.length-i)+1 by omega] at h1
  have h2:YB ts (3*ts.length-i+1) dn k l=some (dn,l):=by
    show (if _ then _ else _)=_
    rw [if_neg e]
  unfold X2
  rw [h1,h2];rfl
end
def ET (l:List Nat):Nat->Nat
  | 0=>0
  | i+1=>if l.getD i 0<l.getD (ET l i) 0\/l.getD i 0=l.getD (ET l i) 0/\l.getD ((i+1)%l.length) 0<l.getD ((ET l i+1)%l.length) 0 then i else ET l i
theorem PS {l:List Nat}:∀i,i<=l.length->0<l.length->ET l i<l.length
  | 0,_,h=>h
  | i+1,h,h0=>by
    unfold ET
    split
    · omega
    · exact PS i (by omega) h0
def E5 (l:List Nat):List Nat:=l.drop (ET l l.length)++l.take (ET l l.length)
theorem L0 (l:List Nat):(E5 l).length=l.length:=by
  unfold E5
  rw [List.length_append,List.length_drop,List.length_take];omega
def GN (ts:List T3):Nat->List (P2×Nat)×List (List Nat)
  | 0=>([],[])
  | i+1=>if 0<(Ac (GN ts i).1 (((B3 ts).getD i (0,0,0)).1,((B3 ts).getD i (0,0,0)).2.1)).getD 0 then GN ts i
    else ((X2 ts (GN ts i).1 (((B3 ts).getD i (0,0,0)).1,((B3 ts).getD i (0,0,0)).2.1)).1,(GN ts i).2++[E5 (X2 ts (GN ts i).1 (((B3 ts).getD i (0,0,0)).1,((B3 ts).getD i (0,0,0)).2.1)).2])
def cmpL:List Nat->List Nat->Int
  | [],[]=>0
  | [],_::_ => -1
  | _::_,[]=>1
  | x::r,y::s=>if x<y then -1 else if y<x then 1 else cmpL r s
theorem Kt:∀a,cmpL a a=0
  | []=>rfl
  | x::r=>by unfold cmpL;rw [if_neg (Nat.lt_irrefl _),if_neg (Nat.lt_irrefl _)];exact Kt r
theorem De:∀a b,cmpL b a = - cmpL a b
  | [],[]=>rfl
  | [],_::_=>rfl
  | _::_,[]=>rfl
  | x::r,y::s=>by
    unfold cmpL
    rcases Nat.lt_trichotomy x y with h|h|h
    · rw [if_neg (by omega),if_pos h,if_pos h];rfl
    · subst h
      rw [if_neg (Nat.lt_irrefl _),if_neg (Nat.lt_irrefl _),if_neg (Nat.lt_irrefl _),if_neg (Nat.lt_irrefl _)]
      exact De r s
    · rw [if_pos h,if_neg (by omega),if_pos h]
theorem Ez:∀a b,cmpL a b=0->a=b
  | [],[],_=>rfl
  | [],_::_,h=>by cases h
  | _::_,[],h=>by cases h
  | x::r,y::s,h=>by
    unfold cmpL at h
    rcases Nat.lt_trichotomy x y with h1|h1|h1
    · rw [if_pos h1] at h;cases h
    · subst h1
      rw [if_neg (Nat.lt_irrefl _),if_neg (Nat.lt_irrefl _)] at h
      rw [Ez r s h]
    · rw [if_neg (by omega),if_pos h1] at h;cases h
theorem FF:∀a b c,cmpL a b<0->cmpL b c<0->cmpL a c<0
  | [],[],_,h,_=>by cases h
  | [],_::_,[],_,h=>by cases h
  | [],_::_,_::_,_,_=>by show (-1:Int)<0;decide
  | _::_,[],_,h,_=>by cases h
  | _::_,_::_,[],_,h=>by cases h
  | x::r,y::s,z::t,h1,h2=>by
    unfold cmpL at h1 h2 ⊢
    by_cases hxy:x<y
    · by_cases hyz:y<z
      · rw [if_pos (by omega)];decide
      · rw [if_neg hyz] at h2
        by_cases hzy:z<y
        · rw [if_pos hzy] at h2;omega
        · rw [if_pos (by omega)];decide
    · rw [if_neg hxy] at h1
      by_cases hyx:y<x
      · rw [if_pos hyx] at h1;omega
      · rw [if_neg hyx] at h1
        have e:x=y:=by omega
        subst e
        by_cases hyz:x<z
        · rw [if_pos hyz];decide
        · rw [if_neg hyz] at h2 ⊢
          by_cases hzy:z<x
          · rw [if_pos hzy] at h2;omega
          · rw [if_neg hzy] at h2 ⊢
            exact FF r s t h1 h2
theorem Kk {a b:List Nat} {i:Nat} (ha:i<a.length) (hb:i<b.length):cmpL (a.drop i) (b.drop i)=if a.getD i 0<b.getD i 0 then -1 else if b.getD i 0<a.getD i 0 then 1 else cmpL (a.drop (i+1)) (b.drop (i+1)):=by
  rw [List.drop_eq_getElem_cons ha,List.drop_eq_getElem_cons hb,List.getD,List.getD,List.getElem?_eq_getElem ha,List.getElem?_eq_getElem hb];rfl
theorem Qw {a b:List Nat} {i:Nat} (ha:i<a.length) (hb:b.length<=i):cmpL (a.drop i) (b.drop i)=1:=by
  rw [List.drop_eq_getElem_cons ha,List.drop_eq_nil_of_le hb];rfl
theorem L9 {a b:List Nat} {i:Nat} (ha:a.length<=i) (hi:i<=a.length) (hb:i<=b.length):cmpL (a.drop i) (b.drop i)=if a.length<b.length then -1 else 0:=by
  rw [List.drop_eq_nil_of_le ha]
  split
  · rw [List.drop_eq_getElem_cons (show i<b.length by omega)];rfl
  · rw [List.drop_eq_nil_of_le (by omega)];rfl
theorem Ve {ts:List T3} {N:Nat} {k:P2} (hn:By N ts=true) (ho:Cl ts (3*ts.length)=true) (h:isS ts k):(Ac (J7 ts) k).getD 0<ts.length/\k.1<N/\k.2<N/\k.1+k.2<=(ts.getD ((Ac (J7 ts) k).getD 0) (0,0,0)).1+(ts.getD ((Ac (J7 ts) k).getD 0) (0,0,0)).2.1+(ts.getD ((Ac (J7 ts) k).getD 0) (0,0,0)).2.2:=by
  obtain ⟨u,hu,rfl⟩:=DR.1 h
  have h1:=Gy hn hu
  rw [Lx ho hu,Option.getD_some]
  refine ⟨by omega,h1.1,h1.2,?_⟩
  unfold BV
  generalize ts.getD (u/3) (0,0,0)=t
  have e:u%3=0\/u%3=1\/u%3=2:=by omega
  rcases e with e|e|e<;>rw [e]
  · show t.1+t.2.1<=_;omega
  · show t.2.1+t.2.2<=_;omega
  · show t.2.2+t.1<=_;omega
theorem HD {l:List Nat} {i b:Nat} (hb:b=ET l i) (h:l.getD i 0<l.getD b 0):i=ET l (i+1):=by unfold ET;rw [<-hb,if_pos (.inl h)]
theorem G8 {l:List Nat} {i b:Nat} (hb:b=ET l i) (h:l.getD i 0=l.getD b 0) (h2:l.getD ((i+1)%l.length) 0<l.getD ((b+1)%l.length) 0):i=ET l (i+1):=by unfold ET;rw [<-hb,if_pos (.inr ⟨h,h2⟩)]
theorem IU {l:List Nat} {i b:Nat} (hb:b=ET l i) (h:¬l.getD i 0<l.getD b 0) (h2:¬l.getD i 0=l.getD b 0):b=ET l (i+1):=by unfold ET;rw [<-hb,if_neg (λh9=>h9.elim h (λh8=>h2 h8.1))]
theorem Il {l:List Nat} {i b:Nat} (hb:b=ET l i) (h:¬l.getD i 0<l.getD b 0) (h2:¬l.getD ((i+1)%l.length) 0<l.getD ((b+1)%l.length) 0):b=ET l (i+1):=by unfold ET;rw [<-hb,if_neg (λh9=>h9.elim h (λh8=>h2 h8.2))]
theorem PR (l:List Nat):((inL l).all λu=>u.oneCell')=true:=by
  unfold inL
  induction l with
  | nil=>rfl
  | cons x r ih=>exact ih
theorem Re (l:List Nat) (b:Nat):inL (l.drop b)=(inL l).drop b:=by simp [inL,List.map_drop]
theorem M0 (l:List Nat) (b:Nat):inL (l.take b)=(inL l).take b:=by simp [inL,List.map_take]
theorem Ix {a:Addr} {lo c z:Nat} (h:lo<c):NS (some a) lo c z=some (a.add (lo*z)):=by unfold NS;rw [if_neg (by omega)];rfl
theorem Oi {p:Option Addr} {n c b:Nat} (h:A6 p n c) (hb:b<n):A6 (NS p b c 1) (n-b) (c-b):=by
  have hle:=h.le
  cases hp:p with
  | none=>subst hp;have:=h.nil rfl;omega
  | some a =>
    subst hp
    have hs:=h.spot a rfl
    rw [Ix (by omega)]
    refine ⟨λe=>(by cases e),λa' e=>?_,by omega⟩
    injection e with e
    subst e
    obtain ⟨x,y,z⟩:=a
    subst hs
    rw [Addr.add_lit]
theorem YP {S:Nat->Prop} {w:World} {l:List Nat} {n:Nat} {y:RX (inL l) n} (h:Ro S w y) {b:Nat} (hb:b<n):Ro S w (⟨NS y.p b y.c 1,y.c-b,Oi y.ok hb⟩:RX (inL (l.drop b)) (n-b)):=λz hz=>by
  rcases List.mem_singleton.1 hz with rfl
  obtain ⟨h1,h2⟩:=h y.row (List.mem_singleton.2 rfl)
  obtain ⟨p,c,ok⟩:=y
  have hle:=ok.le
  cases p with
  | none=>have:=ok.nil rfl;omega
  | some a =>
    have hs:=ok.spot a rfl
    obtain ⟨x,off,z⟩:=a
    subst hs
    have ef:(AI (NS (some ⟨x,off,none⟩) b c 1) (inL (l.drop b))).foot=some x:=by rw [Ix (by omega),Addr.add_lit];rfl
    refine ⟨λd e=>?_,λd e=>h2 d (by rw [<-e];exact ef.symm)⟩
    obtain ⟨o,ho,hp⟩:=h1 x rfl
    have ed:x=d:=by have e2:(AI (NS (some ⟨x,off,none⟩) b c 1) (inL (l.drop b))).foot=some d:=e;rw [ef] at e2;injection e2
    subst ed
    refine ⟨o,ho,?_⟩
    obtain ⟨cur,T,fr,rfl,hc⟩:=hp
    have hc:(cur.toList.drop off).take (inL l).length=inL l:=hc
    show FR (pO (NS (some ⟨x,off,none⟩) b c 1)) (inL (l.drop b)) _
    rw [Ix (by omega),Addr.add_lit,Re]
    refine ⟨cur,T,fr,rfl,?_⟩
    show (cur.toList.drop (off+b*1)).take _=_
    rw [Nat.mul_one,<-List.drop_drop,List.length_drop]
    conv=>rhs;rw [<-hc]
    rw [List.drop_take]
theorem Xx {w0:A7} {L:List As} {q:Option Addr} {l:List Nat} {k n c m:Nat} (hi:L[k]?=some (AI q (inL l))) (hok:A6 q n c) (hm:m<=n):We w0 L q m (inL (l.take m)):=λw hw hm0=>by
  obtain ⟨a,ha,h⟩:=K_ hi hok w hw (by omega)
  refine ⟨a,ha,λj u hu=>h j u ?_⟩
  rw [M0] at hu
  rw [List.getElem?_take] at hu
  split at hu
  · exact hu
  · cases hu
section
variable {ts:List T3} {N i:Nat} {dn dn2:List (P2×Nat)} {wq:T3} {l:List Nat}
theorem Ml (hw:wq=(B3 ts).getD i (0,0,0)) (hd:dn=(GN ts i).1) (h:0<(Ac dn (wq.1,wq.2.1)).getD 0):GN ts (i+1)=GN ts i:=by
  subst hw hd
  show (if _ then _ else _)=_
  rw [if_pos h]
theorem O4 (hw:wq=(B3 ts).getD i (0,0,0)) (hd:dn=(GN ts i).1) (h:¬0<(Ac dn (wq.1,wq.2.1)).getD 0) (hg:X2 ts dn (wq.1,wq.2.1)=(dn2,l)):GN ts (i+1)=(dn2,(GN ts i).2++[E5 l]):=by
  subst hw hd
  show (if _ then _ else _)=_
  rw [if_neg h,hg]
theorem Pd:∀i,0<i->0<(GN ts i).2.length
  | 0,h=>absurd h (Nat.lt_irrefl _)
  | i+1,_=>by
    show 0<(if _ then GN ts i else _:List (P2×Nat)×List (List Nat)).2.length
    split
    · rename_i h
      rcases Nat.eq_zero_or_pos i with e|e
      · subst e;exact absurd h (by show ¬0<(Ac ([]:List (P2×Nat)) _).getD 0;exact Nat.lt_irrefl _)
      · exact Pd i e
    · simp
theorem Pp {n:Nat} {f:Nat->P2} {k:P2} {u v:Nat} (hu:u<n) (hv:v<n) (huv:u≠v) (h1:f u=k) (h2:f v=k):2<=((List.range n).map f).count k:=by
  rw [List.count,List.countP_map,List.countP_eq_length_filter]
  have:=Hd (l:=[u,v]) (m:=(List.range n).filter ((λx=>x == k)∘f)) (by simp [huv]) λx hx=>by
    simp only [List.mem_cons,List.not_mem_nil,or_false] at hx
    refine List.mem_filter.2 ?_
    rcases hx with rfl|rfl
    · exact ⟨List.mem_range.2 hu,by simp [h1]⟩
    · exact ⟨List.mem_range.2 hv,by simp [h2]⟩
  simpa using this
theorem WJ (hn:By N ts=true) (hN:N<=4611686018427387904) {s:T3} (hs:s∈C6 ts):QZ ts ((Hi (J7 ts) s).1,(Hi (J7 ts) s).2.1):=by
  have h:=((Ty hn hN).1 hs).1
  have hm:(s.1,s.2.1)∈M5 ts:=List.count_pos_iff.1 (by omega)
  have hlt:s.1<s.2.1:=by
    obtain ⟨e,he,ea,eb⟩:=(Mx hn hN).1 hm
    have:=KT hn hN he
    omega
  have key:∀{u:Nat},(BV ts u=(s.1,s.2.1)\/BV ts u=(s.2.1,s.1))->HH ts u=(s.1,s.2.1):=λ{u} h=>by
    unfold HH C2
    rcases h with h|h<;>rw [h]<;>exact Prod.ext (by simp only;omega) (by simp only;omega)
  have hone:¬(isS ts (s.1,s.2.1)/\isS ts (s.2.1,s.1)):=λ⟨h1,h2⟩=>by
    obtain ⟨u,hu,e1⟩:=DR.1 h1
    obtain ⟨v,hv,e2⟩:=DR.1 h2
    have:=Pp (f:=HH ts) hu hv (λe=>by subst e;rw [e1] at e2;injection e2;omega) (key (.inl e1)) (key (.inr e2))
    rw [FL] at this
    omega
  cases hg:Ac (J7 ts) (s.1,s.2.1) with
  | some t =>
    have e:Hi (J7 ts) s=(s.1,s.2.1,t):=by unfold Hi;rw [hg]
    rw [e]
    have h1:isS ts (s.1,s.2.1):=by unfold isS;rw [hg];rfl
    exact ⟨h1,λh2=>hone ⟨h1,h2⟩⟩
  | none =>
    have e:Hi (J7 ts) s=(s.2.1,s.1,(Ac (J7 ts) (s.2.1,s.1)).getD 0):=by unfold Hi;rw [hg]
    rw [e]
    have hno:¬isS ts (s.1,s.2.1):=by unfold isS;rw [hg];exact λh=>by cases h
    refine ⟨?_,hno⟩
    rw [<-FL,List.mem_map] at hm
    obtain ⟨u,hu,hk⟩:=hm
    have hu:=List.mem_range.1 hu
    unfold HH C2 at hk
    injection hk with k1 k2
    rcases Nat.lt_or_ge (BV ts u).1 (BV ts u).2 with h1|h1
    · exact absurd (DR.2 ⟨u,hu,Prod.ext (by show (BV ts u).1=_;omega) (by show (BV ts u).2=_;omega)⟩) hno
    · exact DR.2 ⟨u,hu,Prod.ext (by show (BV ts u).1=s.2.1;omega) (by show (BV ts u).2=s.1;omega)⟩
theorem Wn (hn:By N ts=true) (hN:N<=4611686018427387904) (hi:i<(B3 ts).length) (hw:wq=(B3 ts).getD i (0,0,0)):QZ ts (wq.1,wq.2.1):=by
  have hm:wq∈B3 ts:=by rw [hw,List.getD,List.getElem?_eq_getElem hi];exact List.getElem_mem hi
  unfold B3 at hm
  obtain ⟨s,hs,rfl⟩:=List.mem_map.1 hm
  exact WJ hn hN hs
theorem TN:(B3 ts).length=(C6 ts).length:=by unfold B3;rw [List.length_map]
end
end
end Go.Proofs.YtpgncndhhhllfaaGreatDoor
