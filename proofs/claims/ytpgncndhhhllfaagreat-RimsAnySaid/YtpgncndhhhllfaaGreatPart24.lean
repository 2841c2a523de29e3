import Derived.Test.YtpgncndhhhllfaaGreatPart17
import Derived.Test.YtpgncndhhhllfaaGreatPart23
namespace Go.Proofs.YtpgncndhhhllfaaGreat
open Go Go.RowKit Go.Proofs.Tryz
set_option linter.unusedVariables false
set_option linter.unusedSimpArgs false
section
abbrev HE (ts:List T3):List (P2×Nat):=Bw ts (3*ts.length)
def Ff (k:P2):P2:=(k.2,k.1)
def Ft (t:T3) (k:P2):Nat:=t.1+t.2.1+t.2.2-k.1-k.2
def Eu (ts:List T3) (k:P2):P2:=(k.2,Ft (ts.getD ((Ac (HE ts) k).getD 0) (0,0,0)) k)
def isS (ts:List T3) (k:P2):Prop:=(Ac (HE ts) k).isSome=true
def Ea (ts:List T3) (k:P2):Prop:=isS ts k/\¬isS ts (Ff k)
def Ox (ts:List T3):Nat->P2->Option P2
  | 0,_=>none
  | f+1,k=>if (Ac (HE ts) (Ff (Eu ts k))).isSome then Ox ts f (Ff (Eu ts k)) else some (Eu ts k)
def DA (ts:List T3) (k:P2):P2:=(Ox ts (3*ts.length) k).getD (0,0)
section
variable {ts:List T3} {N:Nat} {k k0:P2} {i:Nat}
theorem Ga {n:Nat}:∀s,Ac (Bw ts s) k=some n->∃u,u<s/\BQ ts u=k/\n=u/3
  | 0,h=>by cases h
  | s+1,h=>by
    have h:Ac (A9 (Bw ts s) (BQ ts s) (s/3)) k=some n:=h
    rw [CP] at h
    split at h
    · rename_i e
      injection h with h
      exact ⟨s,Z,e.symm,h.symm⟩
    · obtain ⟨u,h1,h2,h3⟩:=Ga s h
      exact ⟨u,Z,h2,h3⟩
theorem Hk {u:Nat}:∀s,u<s->(Ac (Bw ts s) (BQ ts u)).isSome=true
  | 0,h=>absurd h (Nat.not_lt_zero _)
  | s+1,h=>by
    show (Ac (A9 (Bw ts s) (BQ ts s) (s/3)) (BQ ts u)).isSome=true
    rw [CP]
    split
    · rfl
    · rename_i e
      rcases Nat.lt_or_ge u s with h1|h1
      · exact Hk s h1
      · exact absurd (by rw [show u=s by omega]) e
theorem GP {u v n:Nat} (ho:BV ts n=true) (hu:u<n) (hv:v<n) (h:BQ ts u=BQ ts v):u=v:=by
  have key:∀{u v:Nat},u<v->v<n->BQ ts u=BQ ts v->False:=λ{u v} h1 h2 h=>by
    have h3:=L8 (s:=v+1) _ Z ho
    have h3:(BV ts v&&(Ac (Bw ts v) (BQ ts v)).isNone)=true:=h3
    rw [Bool.and_eq_true] at h3
    have h4:=Hk (ts:=ts) v h1
    rw [h] at h4
    rw [<-Option.not_isSome,h4] at h3
    exact absurd h3.2 (by decide)
  rcases Nat.lt_trichotomy u v with h1|h1|h1
  · exact (key h1 hv h).elim
  · exact h1
  · exact (key h1 hu h.symm).elim
theorem HK {u:Nat} (ho:BV ts (3*ts.length)=true) (hu:u<3*ts.length):Ac (HE ts) (BQ ts u)=some (u/3):=by
  obtain ⟨n,h⟩:=Option.isSome_iff_exists.1 (Hk (ts:=ts) _ hu)
  obtain ⟨v,h1,h2,h3⟩:=Ga _ h
  have e:=GP ho hu h1 h2.symm
  rw [show Ac (HE ts) (BQ ts u)=some n from h,h3,e]
theorem CR:isS ts k↔∃u,u<3*ts.length/\BQ ts u=k:=by
  constructor
  · intro h
    obtain ⟨n,h⟩:=Option.isSome_iff_exists.1 h
    obtain ⟨u,h1,h2,_⟩:=Ga _ h
    exact ⟨u,h1,h2⟩
  · rintro ⟨u,h1,rfl⟩
    exact Hk _ h1
def VX (u:Nat):Nat:=3*(u/3)+(u%3+1)%3
theorem Vs {u v:Nat} (h:VX u=VX v):u=v:=by unfold VX at h;omega
theorem OV {u:Nat} (h:u<3*ts.length):VX u<3*ts.length:=by unfold VX;omega
theorem MV (ho:BV ts (3*ts.length)=true) {u:Nat} (hu:u<3*ts.length):Eu ts (BQ ts u)=BQ ts (VX u):=by
  unfold Eu
  rw [HK ho hu,Option.getD_some]
  have hd:(VX u)/3=u/3:=by unfold VX;omega
  have hm:(VX u)%3=(u%3+1)%3:=by unfold VX;omega
  unfold Ft BQ
  rw [hd,hm]
  generalize ts.getD (u/3) (0,0,0)=t
  have e:u%3=0\/u%3=1\/u%3=2:=by omega
  rcases e with e|e|e<;>rw [e]<;>refine Prod.ext rfl ?_
  · show t.1+t.2.1+t.2.2-t.1-t.2.1=t.2.2;omega
  · show t.1+t.2.1+t.2.2-t.2.1-t.2.2=t.1;omega
  · show t.1+t.2.1+t.2.2-t.2.2-t.1=t.2.1;omega
theorem Pj (ho:BV ts (3*ts.length)=true) (h:isS ts k):isS ts (Eu ts k):=by
  obtain ⟨u,hu,rfl⟩:=CR.1 h
  rw [MV ho hu]
  exact CR.2 ⟨_,OV hu,rfl⟩
theorem MU (ho:BV ts (3*ts.length)=true) {k':P2} (h:isS ts k) (h':isS ts k') (e:Eu ts k=Eu ts k'):k=k':=by
  obtain ⟨u,hu,rfl⟩:=CR.1 h
  obtain ⟨v,hv,rfl⟩:=CR.1 h'
  rw [MV ho hu,MV ho hv] at e
  rw [Vs (GP ho (OV hu) (OV hv) e)]
theorem I5 (k:P2):Ff (Ff k)=k:=rfl
theorem QW {a b:P2} (h:Ff a=Ff b):a=b:=by rw [<-I5 a,h,I5]
theorem Gb {α:Type} [DecidableEq α] {l m:List α} (hn:l.Nodup) (hs:∀x∈l,x∈m):l.length<=m.length:=by
  induction l generalizing m with
  | nil=>exact Nat.zero_le _
  | cons x r ih =>
    have hx:=hs x List.mem_cons_self
    have hn2:=List.nodup_cons.1 hn
    have h:=ih (m:=m.erase x) hn2.2 λy hy=>by
      have:y≠x:=λe=>hn2.1 (e▸hy)
      exact (List.mem_erase_of_ne this).2 (hs y (List.mem_cons_of_mem _ hy))
    rw [List.length_erase_of_mem hx] at h
    have:=List.length_pos_of_mem hx
    simp only [List.length_cons];omega
def VE (ts:List T3):List P2:=(List.range (3*ts.length)).map (BQ ts)
theorem M7 (h:isS ts k):k∈VE ts:=by
  obtain ⟨u,hu,rfl⟩:=CR.1 h
  exact List.mem_map.2 ⟨u,List.mem_range.2 hu,rfl⟩
theorem NS:(VE ts).length=3*ts.length:=by simp [VE]
structure D_ (ts:List T3) (k0:P2) (i:Nat) (k:P2):Prop where
  chain:∃s:Nat->P2,s 0=k0/\s i=k/\(∀j,j<=i->isS ts (s j))/\∀j,j<i->s (j+1)=Ff (Eu ts (s j))
theorem D_.zero (h:isS ts k0):D_ ts k0 0 k0:=⟨λ_=>k0,rfl,rfl,λ_ _=>h,λ_ h=>absurd h (Nat.not_lt_zero _)⟩
theorem D_.isS (h:D_ ts k0 i k):isS ts k:=by
  obtain ⟨s,_,h2,h3,_⟩:=h.chain
  rw [<-h2];exact h3 i (Nat.le_refl _)
theorem D_.succ (h:D_ ts k0 i k) (hs:(Ac (HE ts) (Ff (Eu ts k))).isSome=true):D_ ts k0 (i+1) (Ff (Eu ts k)):=by
  obtain ⟨s,h1,h2,h3,h4⟩:=h.chain
  refine ⟨λj=>if j<=i then s j else Ff (Eu ts k),by simp [h1],if_neg Z,λj hj=>?_,λj hj=>?_⟩
  · show Go.Proofs.YtpgncndhhhllfaaGreat.isS ts (if j<=i then s j else _)
    split
    · exact h3 j ‹_›
    · exact hs
  · show (if j+1<=i then s (j+1) else _)=Ff (Eu ts (if j<=i then s j else _))
    rw [if_pos (show j<=i by omega)]
    split
    · exact h4 j Z
    · rw [show j=i by omega,h2]
theorem D_.lt (ho:BV ts (3*ts.length)=true) (h0:Ea ts k0) (h:D_ ts k0 i k):i<3*ts.length:=by
  obtain ⟨s,h1,h2,h3,h4⟩:=h.chain
  have ne:∀d a,a+d+1<=i->s a≠s (a+d+1):=λd a=>by
    induction a with
    | zero =>
      intro hd e
      rw [h1,h4 (0+d) Z] at e
      refine h0.2 ?_
      rw [e,I5]
      exact Pj ho (h3 _ Z)
    | succ a ih =>
      intro hd e
      rw [h4 a Z,show a+1+d+1=(a+d+1)+1 by omega,h4 (a+d+1) Z] at e
      exact ih Z (MU ho (h3 _ Z) (h3 _ Z) (QW e))
  have hnd:((List.range (i+1)).map s).Nodup:=by
    refine List.pairwise_map.2 (List.Pairwise.imp_of_mem ?_ List.pairwise_lt_range)
    intro a b ha hb hab
    have:=ne (b-a-1) a (by have:=List.mem_range.1 hb;omega)
    rw [show a+(b-a-1)+1=b by omega] at this
    exact this
  have h5:=Gb (m:=VE ts) hnd λx hx=>by
    obtain ⟨j,hj,rfl⟩:=List.mem_map.1 hx
    exact M7 (h3 j (by have:=List.mem_range.1 hj;omega))
  rw [NS,List.length_map,List.length_range] at h5
  omega
theorem D_.fuel (h:D_ ts k0 i k) (f:Nat):Ox ts (f+i) k0=Ox ts f k:=by
  obtain ⟨s,h1,h2,h3,h4⟩:=h.chain
  subst h1 h2
  have key:∀j,j<=i->Ox ts (f+i) (s 0)=Ox ts (f+(i-j)) (s j):=λj=>by
    induction j with
    | zero=>intro _;rfl
    | succ j ih =>
      intro hj
      rw [ih Z,show f+(i-j)=(f+(i-(j+1)))+1 by omega]
      have h5:(Ac (HE ts) (Ff (Eu ts (s j)))).isSome=true:=by rw [<-h4 j Z];exact h3 (j+1) hj
      show (if _ then _ else _)=_
      rw [if_pos h5,<-h4 j Z]
  have:=key i (Nat.le_refl _)
  rwa [Nat.sub_self,Nat.add_zero] at this
theorem D_.stop (ho:BV ts (3*ts.length)=true) (h0:Ea ts k0) (h:D_ ts k0 i k) (hs:¬(Ac (HE ts) (Ff (Eu ts k))).isSome=true):DA ts k0=Eu ts k/\Ea ts (Eu ts k):=by
  have hlt:=h.lt ho h0
  have h1:=h.fuel (3*ts.length-i)
  rw [show 3*ts.length-i+i=3*ts.length by omega,show 3*ts.length-i=(3*ts.length-i-1)+1 by omega] at h1
  have h2:Ox ts (3*ts.length-i-1+1) k=some (Eu ts k):=by
    show (if _ then _ else _)=_
    rw [if_neg hs]
  refine ⟨?_,Pj ho h.isS,hs⟩
  unfold DA
  rw [h1,h2];rfl
theorem Qr (ho:BV ts (3*ts.length)=true) (h0:Ea ts k0):Ea ts (DA ts k0):=by
  have key:∀d i k,3*ts.length-i=d->D_ ts k0 i k->Ea ts (DA ts k0):=λd=>by
    induction d with
    | zero=>intro i k hd h;have:=h.lt ho h0;omega
    | succ d ih =>
      intro i k hd h
      by_cases hs:(Ac (HE ts) (Ff (Eu ts k))).isSome=true
      · exact ih _ _ Z (h.succ hs)
      · have h1:=h.stop ho h0 hs
        rw [h1.1];exact h1.2
  exact key _ 0 k0 O (D_.zero h0.1)
end
def Zi (ts:List T3):Nat->List (P2×Nat)->P2->List Nat->Option (List (P2×Nat)×List Nat)
  | 0,_,_,_=>none
  | f+1,dn,k,l=>if (Ac dn k).getD 0=0 then Zi ts f (A9 dn k 1) (DA ts k) (l++[k.1]) else some (dn,l)
def VT (ts:List T3) (dn:List (P2×Nat)) (k:P2):List (P2×Nat)×List Nat:=(Zi ts (3*ts.length+1) dn k []).getD ([],[])
structure Kg (ts:List T3) (dn:List (P2×Nat)):Prop where
  ok:GM N9 dn
  bd:∀k n,Ac dn k=some n->Ea ts k/\n=1
section
variable {ts:List T3} {N:Nat} {k k0:P2} {i:Nat} {dn dn0:List (P2×Nat)} {l:List Nat}
theorem Kg.nil:Kg ts []:=⟨GM.nil,λk n h=>by cases h⟩
theorem Kg.len (h:Kg ts dn):dn.length<=3*ts.length:=by
  have h1:(dn.map (·.1)).Nodup:=List.pairwise_map.2 (h.ok.once.imp λ{a b} h e=>h e)
  have h2:=Gb (m:=VE ts) h1 λx hx=>by
    obtain ⟨p,hp,rfl⟩:=List.mem_map.1 hx
    obtain ⟨j,hj,h3⟩:=List.getElem_of_mem hp
    exact M7 (h.bd _ _ (I_ (x:=p.1) (v:=p.2) h.ok.once (by rw [List.getElem?_eq_getElem hj,h3]))).1.1
  rwa [NS,List.length_map] at h2
theorem Kg.put (h:Kg ts dn) (hk:Ea ts k) (hok:N9 k):Kg ts (A9 dn k 1):=⟨h.ok.put hok,λx n hx=>by
  rw [CP] at hx
  split at hx
  · rename_i e
    injection hx with hx
    rw [e];exact ⟨hk,hx.symm⟩
  · exact h.bd _ _ hx⟩
theorem Kg.zero (h:Kg ts dn) (e:(Ac dn k).getD 0=0):Ac dn k=none:=by
  cases hg:Ac dn k with
  | none=>rfl
  | some n=>rw [hg,(h.bd _ _ hg).2] at e;cases e
theorem O4 {α β:Type} [DecidableEq α] {kvs:List (α×β)} {x:α} {y:β} (h:Ac kvs x=none):(A9 kvs x y).length=kvs.length+1:=by
  induction kvs with
  | nil=>rfl
  | cons p r ih =>
    obtain ⟨k,v⟩:=p
    unfold Ac at h
    split at h
    · cases h
    · rename_i e
      unfold A9
      rw [if_neg e,List.length_cons,ih h];rfl
theorem Mg (hn:A_ N ts=true) (hN:N<=4611686018427387904) (h:isS ts k):N9 k:=by
  obtain ⟨u,hu,rfl⟩:=CR.1 h
  have:=Hb hn hu
  exact ⟨Z,Z⟩
structure Ot (ts:List T3) (dn0:List (P2×Nat)) (k0:P2) (i:Nat) (dn:List (P2×Nat)) (k:P2) (l:List Nat):Prop where
  fuel:∀f,Zi ts (f+i) dn0 k0 []=Zi ts f dn k l
  bd:Ea ts k
  di:Kg ts dn
  len:dn.length=dn0.length+i
  ll:l.length=i
  at0:i=0->dn=dn0/\k=k0
theorem Ot.zero (h:Kg ts dn0) (hb:Ea ts k0):Ot ts dn0 k0 0 dn0 k0 []:=⟨λ_=>rfl,hb,h,rfl,rfl,λ_=>⟨rfl,rfl⟩⟩
theorem Ot.succ (hn:A_ N ts=true) (hN:N<=4611686018427387904) (ho:BV ts (3*ts.length)=true) (h:Ot ts dn0 k0 i dn k l) (e:(Ac dn k).getD 0=0):Ot ts dn0 k0 (i+1) (A9 dn k 1) (DA ts k) (l++[k.1]) :=
  ⟨λf=>by
    rw [show f+(i+1)=f+1+i by omega,h.fuel (f+1)]
    show (if _ then _ else _)=_
    rw [if_pos e],Qr ho h.bd,h.di.put h.bd (Mg hn hN h.bd.1),by rw [O4 (h.di.zero e),h.len];omega,by rw [List.length_append,h.ll];rfl,λh=>by omega⟩
theorem Ot.le (h:Ot ts dn0 k0 i dn k l):i<=3*ts.length:=by
  have h1:=h.di.len
  have:=h.len
  omega
theorem Ot.lt (hn:A_ N ts=true) (hN:N<=4611686018427387904) (ho:BV ts (3*ts.length)=true) (h:Ot ts dn0 k0 i dn k l) (e:(Ac dn k).getD 0=0):i<3*ts.length:=by
  have:=(h.succ hn hN ho e).le
  omega
theorem Ot.stop (h:Ot ts dn0 k0 i dn k l) (e:¬(Ac dn k).getD 0=0):VT ts dn0 k0=(dn,l):=by
  have h1:=h.fuel (3*ts.length+1-i)
  have:=h.le
  rw [show 3*ts.length+1-i+i=3*ts.length+1 by omega,show 3*ts.length+1-i=(3*ts.length-i)+1 by omega] at h1
  have h2:Zi ts (3*ts.length-i+1) dn k l=some (dn,l):=by
    show (if _ then _ else _)=_
    rw [if_neg e]
  unfold VT
  rw [h1,h2];rfl
end
def De (l:List Nat):Nat->Nat
  | 0=>0
  | i+1=>if l.getD i 0<l.getD (De l i) 0\/l.getD i 0=l.getD (De l i) 0/\l.getD ((i+1)%l.length) 0<l.getD ((De l i+1)%l.length) 0 then i else De l i
theorem JC {l:List Nat}:∀i,i<=l.length->0<l.length->De l i<l.length
  | 0,_,h=>h
  | i+1,h,h0=>by
    unfold De
    split
    · omega
    · exact JC i Z h0
def DG (l:List Nat):List Nat:=l.drop (De l l.length)++l.take (De l l.length)
theorem Mn (l:List Nat):(DG l).length=l.length:=by
  unfold DG
  rw [List.length_append,List.length_drop,List.length_take];omega
def Dr (ts:List T3):Nat->List (P2×Nat)×List (List Nat)
  | 0=>([],[])
  | i+1=>if 0<(Ac (Dr ts i).1 (((Ab ts).getD i (0,0,0)).1,((Ab ts).getD i (0,0,0)).2.1)).getD 0 then Dr ts i
    else ((VT ts (Dr ts i).1 (((Ab ts).getD i (0,0,0)).1,((Ab ts).getD i (0,0,0)).2.1)).1,(Dr ts i).2++[DG (VT ts (Dr ts i).1 (((Ab ts).getD i (0,0,0)).1,((Ab ts).getD i (0,0,0)).2.1)).2])
def cmpL:List Nat->List Nat->Int
  | [],[]=>0
  | [],_::_ => -1
  | _::_,[]=>1
  | x::r,y::s=>if x<y then -1 else if y<x then 1 else cmpL r s
theorem LS:∀a,cmpL a a=0
  | []=>rfl
  | x::r=>by unfold cmpL;rw [if_neg (Nat.lt_irrefl _),if_neg (Nat.lt_irrefl _)];exact LS r
theorem DJ:∀a b,cmpL b a = - cmpL a b
  | [],[]=>rfl
  | [],_::_=>rfl
  | _::_,[]=>rfl
  | x::r,y::s=>by
    unfold cmpL
    rcases Nat.lt_trichotomy x y with h|h|h
    · rw [if_neg Z,if_pos h,if_pos h];rfl
    · subst h
      rw [if_neg (Nat.lt_irrefl _),if_neg (Nat.lt_irrefl _),if_neg (Nat.lt_irrefl _),if_neg (Nat.lt_irrefl _)]
      exact DJ r s
    · rw [if_pos h,if_neg Z,if_pos h]
theorem FC:∀a b,cmpL a b=0->a=b
  | [],[],_=>rfl
  | [],_::_,h=>by cases h
  | _::_,[],h=>by cases h
  | x::r,y::s,h=>by
    unfold cmpL at h
    rcases Nat.lt_trichotomy x y with h1|h1|h1
    · rw [if_pos h1] at h;cases h
    · subst h1
      rw [if_neg (Nat.lt_irrefl _),if_neg (Nat.lt_irrefl _)] at h
      rw [FC r s h]
    · rw [if_neg Z,if_pos h1] at h;cases h
theorem Fb:∀a b c,cmpL a b<0->cmpL b c<0->cmpL a c<0
  | [],[],_,h,_=>by cases h
  | [],_::_,[],_,h=>by cases h
  | [],_::_,_::_,_,_=>by show (-1:Int)<0;decide
  | _::_,[],_,h,_=>by cases h
  | _::_,_::_,[],_,h=>by cases h
  | x::r,y::s,z::t,h1,h2=>by
    unfold cmpL at h1 h2 ⊢
    by_cases hxy:x<y
    · by_cases hyz:y<z
      · rw [if_pos Z];decide
      · rw [if_neg hyz] at h2
        by_cases hzy:z<y
        · rw [if_pos hzy] at h2;omega
        · rw [if_pos Z];decide
    · rw [if_neg hxy] at h1
      by_cases hyx:y<x
      · rw [if_pos hyx] at h1;omega
      · rw [if_neg hyx] at h1
        have e:x=y:=by omega
        subst e
        by_cases hyz:x<z
        · rw [if_pos hyz];decide
        · rw [if_neg hyz] at h2 ⊢
          by_cases hzy:z<x
          · rw [if_pos hzy] at h2;omega
          · rw [if_neg hzy] at h2 ⊢
            exact Fb r s t h1 h2
theorem GW {a b:List Nat} {i:Nat} (ha:i<a.length) (hb:i<b.length):cmpL (a.drop i) (b.drop i)=if a.getD i 0<b.getD i 0 then -1 else if b.getD i 0<a.getD i 0 then 1 else cmpL (a.drop (i+1)) (b.drop (i+1)):=by
  rw [List.drop_eq_getElem_cons ha,List.drop_eq_getElem_cons hb,List.getD,List.getD,List.getElem?_eq_getElem ha,List.getElem?_eq_getElem hb];rfl
theorem SB {a b:List Nat} {i:Nat} (ha:i<a.length) (hb:b.length<=i):cmpL (a.drop i) (b.drop i)=1:=by
  rw [List.drop_eq_getElem_cons ha,List.drop_eq_nil_of_le hb];rfl
theorem NJ {a b:List Nat} {i:Nat} (ha:a.length<=i) (hi:i<=a.length) (hb:i<=b.length):cmpL (a.drop i) (b.drop i)=if a.length<b.length then -1 else 0:=by
  rw [List.drop_eq_nil_of_le ha]
  split
  · rw [List.drop_eq_getElem_cons (show i<b.length by omega)];rfl
  · rw [List.drop_eq_nil_of_le Z];rfl
theorem Sg {ts:List T3} {N:Nat} {k:P2} (hn:A_ N ts=true) (ho:BV ts (3*ts.length)=true) (h:isS ts k):(Ac (HE ts) k).getD 0<ts.length/\k.1<N/\k.2<N/\k.1+k.2<=(ts.getD ((Ac (HE ts) k).getD 0) (0,0,0)).1+(ts.getD ((Ac (HE ts) k).getD 0) (0,0,0)).2.1+(ts.getD ((Ac (HE ts) k).getD 0) (0,0,0)).2.2:=by
  obtain ⟨u,hu,rfl⟩:=CR.1 h
  have h1:=Hb hn hu
  rw [HK ho hu,Option.getD_some]
  refine ⟨Z,h1.1,h1.2,?_⟩
  unfold BQ
  generalize ts.getD (u/3) (0,0,0)=t
  have e:u%3=0\/u%3=1\/u%3=2:=by omega
  rcases e with e|e|e<;>rw [e]
  · show t.1+t.2.1<=_;omega
  · show t.2.1+t.2.2<=_;omega
  · show t.2.2+t.1<=_;omega
theorem HS {l:List Nat} {i b:Nat} (hb:b=De l i) (h:l.getD i 0<l.getD b 0):i=De l (i+1):=by unfold De;rw [<-hb,if_pos (.inl h)]
theorem HW {l:List Nat} {i b:Nat} (hb:b=De l i) (h:l.getD i 0=l.getD b 0) (h2:l.getD ((i+1)%l.length) 0<l.getD ((b+1)%l.length) 0):i=De l (i+1):=by unfold De;rw [<-hb,if_pos (.inr ⟨h,h2⟩)]
theorem JE {l:List Nat} {i b:Nat} (hb:b=De l i) (h:¬l.getD i 0<l.getD b 0) (h2:¬l.getD i 0=l.getD b 0):b=De l (i+1):=by unfold De;rw [<-hb,if_neg (λh9=>h9.elim h (λh8=>h2 h8.1))]
theorem I6 {l:List Nat} {i b:Nat} (hb:b=De l i) (h:¬l.getD i 0<l.getD b 0) (h2:¬l.getD ((i+1)%l.length) 0<l.getD ((b+1)%l.length) 0):b=De l (i+1):=by unfold De;rw [<-hb,if_neg (λh9=>h9.elim h (λh8=>h2 h8.2))]
theorem Q2 (l:List Nat):((inL l).all λu=>u.oneCell')=true:=by
  unfold inL
  induction l with
  | nil=>rfl
  | cons x r ih=>exact ih
theorem Tn (l:List Nat) (b:Nat):inL (l.drop b)=(inL l).drop b:=by simp [inL,List.map_drop]
theorem NC (l:List Nat) (b:Nat):inL (l.take b)=(inL l).take b:=by simp [inL,List.map_take]
theorem KU {a:Addr} {lo c z:Nat} (h:lo<c):OK (some a) lo c z=some (a.add (lo*z)):=by unfold OK;rw [if_neg Z];rfl
theorem Pz {p:Option Addr} {n c b:Nat} (h:Ar p n c) (hb:b<n):Ar (OK p b c 1) (n-b) (c-b):=by
  have hle:=h.le
  cases hp:p with
  | none=>subst hp;have:=h.nil rfl;omega
  | some a =>
    subst hp
    have hs:=h.spot a rfl
    rw [KU Z]
    refine ⟨λe=>(by cases e),λa' e=>?_,Z⟩
    injection e with e
    subst e
    obtain ⟨x,y,z⟩:=a
    subst hs
    rw [Addr.add_lit]
theorem aX {S:Nat->Prop} {w:World} {l:List Nat} {n:Nat} {y:RX (inL l) n} (h:Ro S w y) {b:Nat} (hb:b<n):Ro S w (⟨OK y.p b y.c 1,y.c-b,Pz y.ok hb⟩:RX (inL (l.drop b)) (n-b)):=λz hz=>by
  rcases List.mem_singleton.1 hz with rfl
  obtain ⟨h1,h2⟩:=h y.row (List.mem_singleton.2 rfl)
  obtain ⟨p,c,ok⟩:=y
  have hle:=ok.le
  cases p with
  | none=>have:=ok.nil rfl;omega
  | some a =>
    have hs:=ok.spot a rfl
    obtain ⟨x,off,z⟩:=a
    subst hs
    have ef:(AJ (OK (some ⟨x,off,none⟩) b c 1) (inL (l.drop b))).foot=some x:=by rw [KU Z,Addr.add_lit];rfl
    refine ⟨λd e=>?_,λd e=>h2 d (by rw [<-e];exact ef.symm)⟩
    obtain ⟨o,ho,hp⟩:=h1 x rfl
    have ed:x=d:=by have e2:(AJ (OK (some ⟨x,off,none⟩) b c 1) (inL (l.drop b))).foot=some d:=e;rw [ef] at e2;injection e2
    subst ed
    refine ⟨o,ho,?_⟩
    obtain ⟨cur,T,fr,rfl,hc⟩:=hp
    have hc:(cur.toList.drop off).take (inL l).length=inL l:=hc
    show G0 (pO (OK (some ⟨x,off,none⟩) b c 1)) (inL (l.drop b)) _
    rw [KU Z,Addr.add_lit,Tn]
    refine ⟨cur,T,fr,rfl,?_⟩
    show (cur.toList.drop (off+b*1)).take _=_
    rw [Nat.mul_one,<-List.drop_drop,List.length_drop]
    conv=>rhs;rw [<-hc]
    rw [List.drop_take]
theorem Z8 {w0:BE} {L:List As} {q:Option Addr} {l:List Nat} {k n c m:Nat} (hi:L[k]?=some (AJ q (inL l))) (hok:Ar q n c) (hm:m<=n):YN w0 L q m (inL (l.take m)):=λw hw hm0=>by
  obtain ⟨a,ha,h⟩:=R6 hi hok w hw Z
  refine ⟨a,ha,λj u hu=>h j u ?_⟩
  rw [NC] at hu
  rw [List.getElem?_take] at hu
  split at hu
  · exact hu
  · cases hu
section
variable {ts:List T3} {N i:Nat} {dn dn2:List (P2×Nat)} {wq:T3} {l:List Nat}
theorem JU (hw:wq=(Ab ts).getD i (0,0,0)) (hd:dn=(Dr ts i).1) (h:0<(Ac dn (wq.1,wq.2.1)).getD 0):Dr ts (i+1)=Dr ts i:=by
  subst hw hd
  show (if _ then _ else _)=_
  rw [if_pos h]
theorem Lr (hw:wq=(Ab ts).getD i (0,0,0)) (hd:dn=(Dr ts i).1) (h:¬0<(Ac dn (wq.1,wq.2.1)).getD 0) (hg:VT ts dn (wq.1,wq.2.1)=(dn2,l)):Dr ts (i+1)=(dn2,(Dr ts i).2++[DG l]):=by
  subst hw hd
  show (if _ then _ else _)=_
  rw [if_neg h,hg]
theorem Q0:∀i,0<i->0<(Dr ts i).2.length
  | 0,h=>absurd h (Nat.lt_irrefl _)
  | i+1,_=>by
    show 0<(if _ then Dr ts i else _:List (P2×Nat)×List (List Nat)).2.length
    split
    · rename_i h
      rcases Nat.eq_zero_or_pos i with e|e
      · subst e;exact absurd h (by show ¬0<(Ac ([]:List (P2×Nat)) _).getD 0;exact Nat.lt_irrefl _)
      · exact Q0 i e
    · simp
theorem RB {n:Nat} {f:Nat->P2} {k:P2} {u v:Nat} (hu:u<n) (hv:v<n) (huv:u≠v) (h1:f u=k) (h2:f v=k):2<=((List.range n).map f).count k:=by
  rw [List.count,List.countP_map,List.countP_eq_length_filter]
  have:=Gb (l:=[u,v]) (m:=(List.range n).filter ((λx=>x == k)∘f)) (by simp [huv]) λx hx=>by
    simp only [List.mem_cons,List.not_mem_nil,or_false] at hx
    refine List.mem_filter.2 ?_
    rcases hx with rfl|rfl
    · exact ⟨List.mem_range.2 hu,by simp [h1]⟩
    · exact ⟨List.mem_range.2 hv,by simp [h2]⟩
  simpa using this
theorem Ut (hn:A_ N ts=true) (hN:N<=4611686018427387904) {s:T3} (hs:s∈Au ts):Ea ts ((Ds (HE ts) s).1,(Ds (HE ts) s).2.1):=by
  have h:=((Jo hn hN).1 hs).1
  have hm:(s.1,s.2.1)∈G_ ts:=List.count_pos_iff.1 Z
  have hlt:s.1<s.2.1:=by
    obtain ⟨e,he,ea,eb⟩:=(HI hn hN).1 hm
    have:=II hn hN he
    omega
  have key:∀{u:Nat},(BQ ts u=(s.1,s.2.1)\/BQ ts u=(s.2.1,s.1))->ED ts u=(s.1,s.2.1):=λ{u} h=>by
    unfold ED Cx
    rcases h with h|h<;>rw [h]<;>exact Prod.ext (by simp only;omega) (by simp only;omega)
  have hone:¬(isS ts (s.1,s.2.1)/\isS ts (s.2.1,s.1)):=λ⟨h1,h2⟩=>by
    obtain ⟨u,hu,e1⟩:=CR.1 h1
    obtain ⟨v,hv,e2⟩:=CR.1 h2
    have:=RB (f:=ED ts) hu hv (λe=>by subst e;rw [e1] at e2;injection e2;omega) (key (.inl e1)) (key (.inr e2))
    rw [EP] at this
    omega
  cases hg:Ac (HE ts) (s.1,s.2.1) with
  | some t =>
    have e:Ds (HE ts) s=(s.1,s.2.1,t):=by unfold Ds;rw [hg]
    rw [e]
    have h1:isS ts (s.1,s.2.1):=by unfold isS;rw [hg];rfl
    exact ⟨h1,λh2=>hone ⟨h1,h2⟩⟩
  | none =>
    have e:Ds (HE ts) s=(s.2.1,s.1,(Ac (HE ts) (s.2.1,s.1)).getD 0):=by unfold Ds;rw [hg]
    rw [e]
    have hno:¬isS ts (s.1,s.2.1):=by unfold isS;rw [hg];exact λh=>by cases h
    refine ⟨?_,hno⟩
    rw [<-EP,List.mem_map] at hm
    obtain ⟨u,hu,hk⟩:=hm
    have hu:=List.mem_range.1 hu
    unfold ED Cx at hk
    injection hk with k1 k2
    rcases Nat.lt_or_ge (BQ ts u).1 (BQ ts u).2 with h1|h1
    · exact absurd (CR.2 ⟨u,hu,Prod.ext (by show (BQ ts u).1=_;omega) (by show (BQ ts u).2=_;omega)⟩) hno
    · exact CR.2 ⟨u,hu,Prod.ext (by show (BQ ts u).1=s.2.1;omega) (by show (BQ ts u).2=s.1;omega)⟩
theorem OS (hn:A_ N ts=true) (hN:N<=4611686018427387904) (hi:i<(Ab ts).length) (hw:wq=(Ab ts).getD i (0,0,0)):Ea ts (wq.1,wq.2.1):=by
  have hm:wq∈Ab ts:=by rw [hw,List.getD,List.getElem?_eq_getElem hi];exact List.getElem_mem hi
  unfold Ab at hm
  obtain ⟨s,hs,rfl⟩:=List.mem_map.1 hm
  exact Ut hn hN hs
theorem KQ:(Ab ts).length=(Au ts).length:=by unfold Ab;rw [List.length_map]
end
end
section
section
variable {ps:List Pt} {ts:List T3}
end
end
section
section
variable {ps:List Pt} {ts:List T3}
end
end
def aI (md:List (P2×Nat)):Nat->T3->List T3
  | 0,c=>[c]
  | d+1,c=>match Ac md (Uv c) with
    | none=>[c]
    | some n=>aI md d (n,c.1,c.2.1)++aI md d (n,c.2.2,c.1)
def cS (n p:Nat):List Nat:=List.replicate n p
section
section
variable {N:Nat} {es:List E4} {T:T3}
end
end
section
section
variable {m:MQ} {ts:List T3} {a b N:Nat}
theorem L1 {x y:Nat} (hab:a<b) (hxy:x≠y):Cx x y=(a,b)↔(x=a/\y=b)\/(x=b/\y=a):=by
  unfold Cx
  rw [Prod.mk.injEq]
  omega
theorem Wf {t:T3} (hab:a<b) (h:t.1≠t.2.1/\t.2.1≠t.2.2/\t.2.2≠t.1):[Cx t.1 t.2.1,Cx t.2.1 t.2.2,Cx t.2.2 t.1].count (a,b)=if D7 t a=true/\D7 t b=true then 1 else 0:=by
  obtain ⟨h1,h2,h3⟩:=h
  simp only [List.count_cons,List.count_nil,beq_iff_eq,L1 hab h1,L1 hab h2,L1 hab h3,D7,Bool.or_eq_true,decide_eq_true_eq]
  split<;>split<;>split<;>split<;>omega
theorem Nk (hn:A_ N ts=true) (hN:N<=4611686018427387904) (h:(a,b)∈G_ ts):a<b/\b<N:=by
  obtain ⟨e,he,rfl,rfl⟩:=(HI hn hN).1 h
  exact II hn hN he
end
end
section
def cJ (md:List (P2×Nat)) (ts:List T3):List T3:=ts.flatMap (aI md 2)
def b_ (md:List (P2×Nat)) (ts:List T3):Nat->List Nat
  | 0=>[]
  | i+1=>b_ md ts i++cS (aI md 2 (ts.getD i (0,0,0))).length i
section
variable {md:List (P2×Nat)} {ts ss:List T3} {i N:Nat} {es:List E4}
end
structure cw (ps:List Pt) (ts ss:List T3) (ms:List Int) where
  l:List E4
  p:E4->Bool
  el:l=(Bv ts).filter p
  all:∀e,p e=true↔Y5 ts (bI ts ms) (e.a,e.b)
  x:aS (bf ps l) (cJ (XH ps.length l l.length) ts) (ah ps.length ss l (cJ (XH ps.length l l.length) ts)) (b_ (XH ps.length l l.length) ts ts.length) 0
instance {ps:List Pt} {ts ss:List T3} {ms:List Int}:CO (cw ps ts ss ms):=⟨λb=>CO.val b.x,λb=>CO.rows b.x,λb y hy=>CO.ro b.x y hy⟩
section
variable {ts ss:List T3} {N:Nat} {es:List E4} {ms:List Int}
end
section
variable {P:Program} {ops:Array Oper} {rest:List Oper} {Q:Exit->Act->World->Prop} {n d:Nat} {F:List (Nat×Value)} {w0:BE} {S:Nat->Prop} {L:List As} {t:TypeId} {p:String} {af:Array Edge} {y:Operand} {f:FuncId} {xs:List Operand} {args:List Value} {tys:Array TypeId} {ps:List Pt} {ts ss:List T3} {ms:List Int}
theorem AC.makeInt {m:Nat} {ty T:TypeId} {x y:Operand} {ki kj:IntKind} {bytes:Nat} (ht:HH P t T (vN 0) bytes) (hx:evF F x=some (.int ki (m:Nat))) (hy:evF F y=some (.int kj (m:Nat))) (hm:m<=1099511627776) (hb:Nat.ble bytes 16=true) (hd:Nat.ble (d+1) n=true)
    (next:∀b,OwnOk (some ⟨b,0,none⟩) m m->AC P ops rest Q n ((d,.slice (some ⟨b,0,none⟩) m m)::F) w0 (rowW (some ⟨b,0,none⟩) T 1 m m (zL (List.replicate m 0))::L)) :
    AC P ops (⟨some d,.makeSlice t x y,ty,p,af,none⟩::rest) Q n F w0 L:=AC.makeRow ht hx hy hm hb hd λb ho=>by
  have h:=next b ho
  unfold zL at h
  rw [List.map_replicate] at h
  exact h
end
theorem G3 (l:List Int) (j:Nat) (z:Int):(zL l).set j (.int .i64 z)=zL (l.set j z):=by unfold zL;rw [List.map_set]
end
section
section
variable {md:List (P2×Nat)} {N M n a b c e p:Nat} {k κ:P2} {T:T3} {ts ts':List T3}
end
end
section
def bz (l:Nat):Int×Int×Int:=if l=0 then (2,0,0) else if l=1 then (0,2,0) else if l=2 then (0,0,2) else if l=3 then (1,1,0) else if l=4 then (0,1,1) else (1,0,1)
def D3 (i j k:Nat):Int:=(bz i).1*((bz j).2.1*(bz k).2.2-(bz j).2.2*(bz k).2.1)-(bz i).2.1*((bz j).1*(bz k).2.2-(bz j).2.2*(bz k).1)+(bz i).2.2*((bz j).1*(bz k).2.1-(bz j).2.1*(bz k).1)
def aU (fam:List T3) (l:Nat):Bool:=fam.any λL=>Zg L l
def bS (L:T3) (l:Nat):Bool:=decide (0<=D3 l L.2.1 L.2.2)&&decide (0<=D3 L.1 l L.2.2)&&decide (0<=D3 L.1 L.2.1 l)
instance (fam:List T3):Decidable (∀l,l<6->aU fam l=true->∀L∈fam,bS L l=true->Zg L l=true):=inferInstance
section
variable {a b c q:Pt} {l i j k:Nat}
end
end
section
section
variable {ps ps':List Pt} {ts ts':List T3} {mv:Nat->Nat->Nat} {fam:T3->List T3} {t s c L:T3} {l k p:Nat}
end
end
section
section
variable {ps:List Pt} {ts ss:List T3} {c:T3}
end
end
section
section
variable {ps:List Pt} {ts us ss:List T3} {N:Nat}
end
end
section
def Cv (t:T3) (a b:Nat):Bool:=(decide (t.1=a)&&decide (t.2.1=b))||((decide (t.2.1=a)&&decide (t.2.2=b))||(decide (t.2.2=a)&&decide (t.1=b)))
def Bb (ts:List T3) (a b:Nat):Nat->Int
  | 0 => -1
  | n+1=>if Bb ts a b n = -1 then (if Cv (ts.getD n (0,0,0)) a b=true then (n:Int) else -1) else Bb ts a b n
section
variable {ts:List T3} {a b t:Nat}
theorem GT:∀n,(∀j,j<n->Cv (ts.getD j (0,0,0)) a b=false)->Bb ts a b n = -1
  | 0,_=>rfl
  | n+1,h=>by
    rw [Bb,GT n λj hj=>h j Z,if_pos rfl,h n Z]
    rfl
theorem Hm:∀n,t<n->Cv (ts.getD t (0,0,0)) a b=true->(∀j,j<t->Cv (ts.getD j (0,0,0)) a b=false)->Bb ts a b n=(t:Int)
  | 0,h,_,_=>absurd h (Nat.not_lt_zero _)
  | n+1,h,h1,h2=>by
    rw [Bb]
    rcases Nat.lt_or_ge t n with k|k
    · rw [Hm n k h1 h2,if_neg Z]
    · have e:n=t:=by omega
      subst e
      rw [GT n h2,if_pos rfl,if_pos h1]
def F9 (ts:List T3) (t:Nat):Bool:=decide (Bb ts (ts.getD t (0,0,0)).1 (ts.getD t (0,0,0)).2.1 ts.length=(t:Int))&&(decide (Bb ts (ts.getD t (0,0,0)).2.1 (ts.getD t (0,0,0)).2.2 ts.length=(t:Int))&&decide (Bb ts (ts.getD t (0,0,0)).2.2 (ts.getD t (0,0,0)).1 ts.length=(t:Int)))
def Em (ts:List T3):Nat->Bool
  | 0=>true
  | t+1=>Em ts t&&F9 ts t
theorem OA (h:Em ts t=true) (h1:Bb ts (ts.getD t (0,0,0)).1 (ts.getD t (0,0,0)).2.1 ts.length=(t:Int)) (h2:Bb ts (ts.getD t (0,0,0)).2.1 (ts.getD t (0,0,0)).2.2 ts.length=(t:Int)) (h3:Bb ts (ts.getD t (0,0,0)).2.2 (ts.getD t (0,0,0)).1 ts.length=(t:Int)):Em ts (t+1)=true:=by
  rw [Em,h,F9,decide_eq_true h1,decide_eq_true h2,decide_eq_true h3];rfl
theorem MD:∀n,t<=n->Em ts n=true->Em ts t=true
  | 0,h,k=>by rw [show t=0 by omega];rfl
  | n+1,h,k=>by
    rcases Nat.lt_or_ge t (n+1) with q|q
    · exact MD n Z ((Bool.and_eq_true _ _▸k:Em ts n=true/\F9 ts n=true).1)
    · rw [show t=n+1 by omega];exact k
theorem L_ (ht:t<ts.length) (h:¬(Bb ts (ts.getD t (0,0,0)).1 (ts.getD t (0,0,0)).2.1 ts.length=(t:Int)/\Bb ts (ts.getD t (0,0,0)).2.1 (ts.getD t (0,0,0)).2.2 ts.length=(t:Int)/\Bb ts (ts.getD t (0,0,0)).2.2 (ts.getD t (0,0,0)).1 ts.length=(t:Int))):Em ts ts.length=false:=by
  cases e:Em ts ts.length with
  | false=>rfl
  | true =>
    have k:=MD ts.length (show t+1<=ts.length by omega) e
    have k2:F9 ts t=true:=(Bool.and_eq_true _ _▸(show (Em ts t&&F9 ts t)=true from k):Em ts t=true/\F9 ts t=true).2
    unfold F9 at k2
    simp only [Bool.and_eq_true,decide_eq_true_eq] at k2
    exact absurd ⟨k2.1,k2.2.1,k2.2.2⟩ h
end
def VO (t:T3) (a b:Nat):Bool:=Cv t a b||Cv t b a
def HD (ts:List T3) (a b:Nat):Nat->Nat
  | 0=>0
  | t+1=>if VO (ts.getD t (0,0,0)) a b=true then HD ts a b t+1 else HD ts a b t
def HY (ts:List T3) (a:Nat):Nat->List T3
  | 0=>[]
  | j+1=>if HD ts a (a+1+j) ts.length=1 then HY ts a j++[(a,a+1+j,0)] else HY ts a j
def PO (ts:List T3) (N:Nat):Nat->List T3
  | 0=>[]
  | a+1=>PO ts N a++HY ts a (N-(a+1))
section
variable {ts:List T3} {a b N t:Nat}
theorem Th (h:VO (ts.getD t (0,0,0)) a b=true):HD ts a b (t+1)=HD ts a b t+1:=if_pos h
theorem QA (h:¬VO (ts.getD t (0,0,0)) a b=true):HD ts a b (t+1)=HD ts a b t:=if_neg h
theorem UP {j:Nat} (hj:a+1<=j) (h:HD ts a j ts.length=1):HY ts a (j+1-(a+1))=HY ts a (j-(a+1))++[(a,j,0)]:=by
  rw [show j+1-(a+1)=(j-(a+1))+1 by omega,HY,if_pos (by rw [show a+1+(j-(a+1))=j by omega];exact h),show a+1+(j-(a+1))=j by omega]
theorem Vb {j:Nat} (hj:a+1<=j) (h:¬HD ts a j ts.length=1):HY ts a (j+1-(a+1))=HY ts a (j-(a+1)):=by
  rw [show j+1-(a+1)=(j-(a+1))+1 by omega,HY,if_neg (by rw [show a+1+(j-(a+1))=j by omega];exact h)]
theorem Fp {s:T3}:∀j,s∈HY ts a j↔s.1=a/\a<s.2.1/\s.2.1<a+1+j/\HD ts s.1 s.2.1 ts.length=1/\s.2.2=0
  | 0=>⟨λh=>(by cases h),λh=>Z⟩
  | j+1=>by
    rw [HY]
    split
    · rename_i hc
      rw [List.mem_append,Fp j,List.mem_singleton]
      constructor
      · rintro (h|rfl)
        · exact ⟨h.1,h.2.1,Z,h.2.2.2⟩
        · exact ⟨rfl,(by show a<a+1+j;omega),(by show a+1+j<a+1+(j+1);omega),hc,rfl⟩
      · rintro ⟨h1,h2,h3,h4,h5⟩
        rcases Nat.lt_or_ge s.2.1 (a+1+j) with h6|h6
        · exact .inl ⟨h1,h2,h6,h4,h5⟩
        · exact .inr (Prod.ext h1 (Prod.ext (show s.2.1=a+1+j by omega) h5))
    · rename_i hc
      rw [Fp j]
      constructor
      · exact λh=>⟨h.1,h.2.1,Z,h.2.2.2⟩
      · rintro ⟨h1,h2,h3,h4,h5⟩
        rcases Nat.lt_or_ge s.2.1 (a+1+j) with h6|h6
        · exact ⟨h1,h2,h6,h4,h5⟩
        · rw [h1,show s.2.1=a+1+j by omega] at h4;exact absurd h4 hc
theorem Fh {s:T3}:∀A,s∈PO ts N A↔s.1<A/\s.1<s.2.1/\s.2.1<N/\HD ts s.1 s.2.1 ts.length=1/\s.2.2=0
  | 0=>⟨λh=>(by cases h),λh=>Z⟩
  | A+1=>by
    rw [PO,List.mem_append,Fh A,Fp]
    constructor
    · rintro (h|h)
      · exact ⟨Z,h.2⟩
      · exact ⟨Z,Z,Z,h.2.2.2⟩
    · rintro ⟨h1,h2,h3,h4⟩
      rcases Nat.lt_or_ge s.1 A with h5|h5
      · exact .inl ⟨h5,h2,h3,h4⟩
      · exact .inr ⟨Z,Z,Z,h4⟩
theorem Fr:∀j,(HY ts a j).Pairwise V6
  | 0=>List.Pairwise.nil
  | j+1=>by
    rw [HY]
    split
    · refine List.pairwise_append.2 ⟨Fr j,List.pairwise_singleton _ _,λx hx y hy=>?_⟩
      rw [List.mem_singleton] at hy
      subst hy
      have h:=(Fp j).1 hx
      exact .inr ⟨h.1,(by show x.2.1<a+1+j;exact h.2.2.1)⟩
    · exact Fr j
theorem IX:∀A,(PO ts N A).Pairwise V6
  | 0=>List.Pairwise.nil
  | A+1=>List.pairwise_append.2 ⟨IX A,Fr _,λx hx y hy=>.inl (by
      have h1:=(Fh A).1 hx
      have h2:=(Fp _).1 hy
      omega)⟩
theorem V4 {T:T3} (hab:a<b) (h:T.1≠T.2.1/\T.2.1≠T.2.2/\T.2.2≠T.1):[Cx T.1 T.2.1,Cx T.2.1 T.2.2,Cx T.2.2 T.1].count (a,b)=if VO T a b=true then 1 else 0:=by
  rw [Wf hab h]
  have e:(D7 T a=true/\D7 T b=true)↔VO T a b=true:=by
    obtain ⟨x,y,z⟩:=T
    unfold D7 VO Cv
    simp only [Bool.or_eq_true,Bool.and_eq_true,decide_eq_true_eq,beq_iff_eq] at h ⊢
    omega
  simp only [e]
theorem Me (hn:A_ N ts=true) (hab:a<b):∀i,i<=ts.length->HD ts a b i=(G_ (ts.take i)).count (a,b)
  | 0,_=>rfl
  | i+1,h=>by
    have hi:i<ts.length:=by omega
    rw [DR (d:=(0,0,0)) hi]
    unfold G_
    rw [List.flatMap_append,List.count_append]
    have ih:=Me hn hab i Z
    unfold G_ at ih
    rw [<-ih]
    simp only [List.flatMap_cons,List.flatMap_nil,List.append_nil]
    rw [V4 hab (KC (CL hn hi)),HD]
    split<;>rfl
theorem MY (hn:A_ N ts=true) (hN:N<=4611686018427387904):PO ts N N=Au ts:=by
  refine Gu V6.asymm (IX N) (Ii hn hN) λs=>?_
  rw [Fh,Jo hn hN]
  constructor
  · rintro ⟨_,h2,_,h4,h5⟩
    rw [Me hn h2 _ (Nat.le_refl _),List.take_length] at h4
    exact ⟨h4,h5⟩
  · rintro ⟨h1,h2⟩
    have hm:(s.1,s.2.1)∈G_ ts:=List.count_pos_iff.1 Z
    obtain ⟨k1,k2⟩:=Nk hn hN hm
    exact ⟨Z,k1,k2,by rw [Me hn k1 _ (Nat.le_refl _),List.take_length];exact h1,h2⟩
end
def aE (ts:List T3) (s:T3):T3:=if Bb ts s.1 s.2.1 ts.length<0 then (s.2.1,s.1,(Bb ts s.2.1 s.1 ts.length).toNat) else (s.1,s.2.1,(Bb ts s.1 s.2.1 ts.length).toNat)
def J_ (ts:List T3) (i:Nat):List T3:=((Au ts).take i).map (aE ts)
section
variable {ts:List T3} {a b N t i:Nat}
theorem MP:∀n,(∃j,j<n/\Cv (ts.getD j (0,0,0)) a b=true)->0<=Bb ts a b n
  | 0,⟨j,h,_⟩=>absurd h (Nat.not_lt_zero _)
  | n+1,⟨j,h1,h2⟩=>by
    rw [Bb]
    split
    · rename_i e
      have hj:j=n:=by
        rcases Nat.lt_or_ge j n with k|k
        · have:=MP n ⟨j,k,h2⟩;omega
        · omega
      subst hj
      rw [if_pos h2]
      omega
    · rename_i e
      have:=fnd_ge n
      omega
where
  fnd_ge:∀n,-1<=Bb ts a b n
    | 0=>by show (-1:Int) <= -1;omega
    | n+1=>by
      have h:=fnd_ge n
      rw [Bb]
      split
      · split<;>omega
      · exact h
theorem LE:∀n,0<HD ts a b n->∃j,j<n/\VO (ts.getD j (0,0,0)) a b=true
  | 0,h=>absurd h (Nat.lt_irrefl _)
  | n+1,h=>by
    by_cases e:VO (ts.getD n (0,0,0)) a b=true
    · exact ⟨n,Z,e⟩
    · rw [QA e] at h
      obtain ⟨j,h1,h2⟩:=LE n h
      exact ⟨j,Z,h2⟩
theorem LG (hn:A_ N ts=true) (hN:N<=4611686018427387904) {s:T3} (hs:s∈Au ts) (h:Bb ts s.1 s.2.1 ts.length<0):0<=Bb ts s.2.1 s.1 ts.length:=by
  rw [<-MY hn hN,Fh] at hs
  obtain ⟨_,_,_,h4,_⟩:=hs
  obtain ⟨j,h1,h2⟩:=LE (a:=s.1) (b:=s.2.1) ts.length (by rw [h4];exact Nat.one_pos)
  refine MP _ ⟨j,h1,?_⟩
  unfold VO at h2
  rw [Bool.or_eq_true] at h2
  rcases h2 with h2|h2
  · have:=MP ts.length ⟨j,h1,h2⟩;omega
  · exact h2
theorem Kt (h:i<(Au ts).length):J_ ts (i+1)=J_ ts i++[aE ts ((Au ts).getD i (0,0,0))]:=by
  unfold J_
  rw [DR (d:=(0,0,0)) h,List.map_append]
  rfl
theorem TY (i:Nat):(J_ ts i).length<=i:=by unfold J_;rw [List.length_map];exact List.length_take_le _ _
theorem Pu {s:T3} (h:Bb ts s.1 s.2.1 ts.length<0):aE ts s=(s.2.1,s.1,(Bb ts s.2.1 s.1 ts.length).toNat):=if_pos h
theorem Qx {s:T3} (h:¬Bb ts s.1 s.2.1 ts.length<0):aE ts s=(s.1,s.2.1,(Bb ts s.1 s.2.1 ts.length).toNat):=if_neg h
end
def Je (ts:List T3) (p n:Nat):List Nat:=(List.range n).filter λt=>D7 (ts.getD t (0,0,0)) p
section
variable {ts:List T3} {p n:Nat}
theorem Wv (h:D7 (ts.getD n (0,0,0)) p=true):Je ts p (n+1)=Je ts p n++[n]:=by
  unfold Je;rw [List.range_succ,List.filter_append,List.filter_cons,if_pos h];rfl
theorem Xu (h:¬D7 (ts.getD n (0,0,0)) p=true):Je ts p (n+1)=Je ts p n:=by
  unfold Je;rw [List.range_succ,List.filter_append,List.filter_cons,if_neg h];simp
theorem QU (p n:Nat):(Je ts p n).length<=n:=by
  have h:=List.length_filter_le (λt=>D7 (ts.getD t (0,0,0)) p) (List.range n)
  rw [List.length_range] at h
  exact h
end
end
end Go.Proofs.YtpgncndhhhllfaaGreat
