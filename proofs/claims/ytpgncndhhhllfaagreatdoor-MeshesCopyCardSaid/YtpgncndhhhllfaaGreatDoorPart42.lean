import Derived.Test.YtpgncndhhhllfaaGreatDoorPart06
import Derived.Test.YtpgncndhhhllfaaGreatDoorPart21
import Derived.Test.YtpgncndhhhllfaaGreatDoorPart34
import Derived.Test.YtpgncndhhhllfaaGreatDoorPart37
import Derived.Test.YtpgncndhhhllfaaGreatDoorPart38
import Derived.Test.YtpgncndhhhllfaaGreatDoorPart41
namespace Go.Proofs.YtpgncndhhhllfaaGreatDoor
open Go Go.RowKit Go.Proofs.Tryz
set_option linter.unusedVariables false
set_option linter.unusedSimpArgs false
section
abbrev Ua (ts:List T3):List (P2×Nat):=Kk ts (3*ts.length)
def OB (k:P2):P2:=(k.2,k.1)
def YM (t:T3) (k:P2):Nat:=t.1+t.2.1+t.2.2-k.1-k.2
def Kj (ts:List T3) (k:P2):P2:=(k.2,YM (ts.getD ((BB (Ua ts) k).getD 0) (0,0,0)) k)
def isS (ts:List T3) (k:P2):Prop:=(BB (Ua ts) k).isSome=true
def TC (ts:List T3) (k:P2):Prop:=isS ts k/\¬isS ts (OB k)
def NK (ts:List T3):Nat->P2->Option P2
  | 0,_=>none
  | f+1,k=>if (BB (Ua ts) (OB (Kj ts k))).isSome then NK ts f (OB (Kj ts k)) else some (Kj ts k)
def PO (ts:List T3) (k:P2):P2:=(NK ts (3*ts.length) k).getD (0,0)
section
variable {ts:List T3} {N:Nat} {k k0:P2} {i:Nat}
theorem HT {n:Nat}:∀s,BB (Kk ts s) k=some n->∃u,u<s/\Bq ts u=k/\n=u/3
  | 0,h=>by cases h
  | s+1,h=>by
    have h:BB (BW (Kk ts s) (Bq ts s) (s/3)) k=some n:=h
    rw [C8] at h
    split at h
    · rename_i e
      injection h with h
      exact ⟨s,by omega,e.symm,h.symm⟩
    · obtain ⟨u,h1,h2,h3⟩:=HT s h
      exact ⟨u,by omega,h2,h3⟩
theorem HI {u:Nat}:∀s,u<s->(BB (Kk ts s) (Bq ts u)).isSome=true
  | 0,h=>absurd h (Nat.not_lt_zero _)
  | s+1,h=>by
    show (BB (BW (Kk ts s) (Bq ts s) (s/3)) (Bq ts u)).isSome=true
    rw [C8]
    split
    · rfl
    · rename_i e
      rcases Nat.lt_or_ge u s with h1|h1
      · exact HI s h1
      · exact absurd (by rw [show u=s by omega]) e
theorem Jz {u v n:Nat} (ho:GY ts n=true) (hu:u<n) (hv:v<n) (h:Bq ts u=Bq ts v):u=v:=by
  have key:∀{u v:Nat},u<v->v<n->Bq ts u=Bq ts v->False:=λ{u v} h1 h2 h=>by
    have h3:=Ol (s:=v+1) _ (by omega) ho
    have h3:(GY ts v&&(BB (Kk ts v) (Bq ts v)).isNone)=true:=h3
    rw [Bool.and_eq_true] at h3
    have h4:=HI (ts:=ts) v h1
    rw [h] at h4
    rw [<-Option.not_isSome,h4] at h3
    exact absurd h3.2 (by decide)
  rcases Nat.lt_trichotomy u v with h1|h1|h1
  · exact (key h1 hv h).elim
  · exact h1
  · exact (key h1 hu h.symm).elim
theorem Rg {u:Nat} (ho:GY ts (3*ts.length)=true) (hu:u<3*ts.length):BB (Ua ts) (Bq ts u)=some (u/3):=by
  obtain ⟨n,h⟩:=Option.isSome_iff_exists.1 (HI (ts:=ts) _ hu)
  obtain ⟨v,h1,h2,h3⟩:=HT _ h
  have e:=Jz ho hu h1 h2.symm
  rw [show BB (Ua ts) (Bq ts u)=some n from h,h3,e]
theorem F6:isS ts k↔∃u,u<3*ts.length/\Bq ts u=k:=by
  constructor
  · intro h
    obtain ⟨n,h⟩:=Option.isSome_iff_exists.1 h
    obtain ⟨u,h1,h2,_⟩:=HT _ h
    exact ⟨u,h1,h2⟩
  · rintro ⟨u,h1,rfl⟩
    exact HI _ h1
def TA (u:Nat):Nat:=3*(u/3)+(u%3+1)%3
theorem To {u v:Nat} (h:TA u=TA v):u=v:=by unfold TA at h;omega
theorem Nk {u:Nat} (h:u<3*ts.length):TA u<3*ts.length:=by unfold TA;omega
theorem LE (ho:GY ts (3*ts.length)=true) {u:Nat} (hu:u<3*ts.length):Kj ts (Bq ts u)=Bq ts (TA u):=by
  unfold Kj
  rw [Rg ho hu,Option.getD_some]
  have hd:(TA u)/3=u/3:=by unfold TA;omega
  have hm:(TA u)%3=(u%3+1)%3:=by unfold TA;omega
  unfold YM Bq
  rw [hd,hm]
  generalize ts.getD (u/3) (0,0,0)=t
  have e:u%3=0\/u%3=1\/u%3=2:=by omega
  rcases e with e|e|e<;>rw [e]<;>refine Prod.ext rfl ?_
  · show t.1+t.2.1+t.2.2-t.1-t.2.1=t.2.2;omega
  · show t.1+t.2.1+t.2.2-t.2.1-t.2.2=t.1;omega
  · show t.1+t.2.1+t.2.2-t.2.2-t.1=t.2.1;omega
theorem Rb (ho:GY ts (3*ts.length)=true) (h:isS ts k):isS ts (Kj ts k):=by
  obtain ⟨u,hu,rfl⟩:=F6.1 h
  rw [LE ho hu]
  exact F6.2 ⟨_,Nk hu,rfl⟩
theorem UT (ho:GY ts (3*ts.length)=true) {k':P2} (h:isS ts k) (h':isS ts k') (e:Kj ts k=Kj ts k'):k=k':=by
  obtain ⟨u,hu,rfl⟩:=F6.1 h
  obtain ⟨v,hv,rfl⟩:=F6.1 h'
  rw [LE ho hu,LE ho hv] at e
  rw [To (Jz ho (Nk hu) (Nk hv) e)]
theorem K7 (k:P2):OB (OB k)=k:=rfl
theorem TN {a b:P2} (h:OB a=OB b):a=b:=by rw [<-K7 a,h,K7]
theorem KC {α:Type} [DecidableEq α] {l m:List α} (hn:l.Nodup) (hs:∀x∈l,x∈m):l.length<=m.length:=by
  induction l generalizing m with
  | nil=>exact Nat.zero_le _
  | cons x r ih =>
    have hx:=hs x List.mem_cons_self
    have hn2:=List.nodup_cons.1 hn
    have h:=ih (m:=m.erase x) hn2.2 λy hy=>by
      have:y≠x:=λe=>hn2.1 (e▸hy)
      exact (List.mem_erase_of_ne this).2 (hs y (List.mem_cons_of_mem _ hy))
    rw [List.length_erase_of_mem hx] at h
    have:=List.length_pos_of_mem hx
    simp only [List.length_cons];omega
def SM (ts:List T3):List P2:=(List.range (3*ts.length)).map (Bq ts)
theorem MR (h:isS ts k):k∈SM ts:=by
  obtain ⟨u,hu,rfl⟩:=F6.1 h
  exact List.mem_map.2 ⟨u,List.mem_range.2 hu,rfl⟩
theorem MD:(SM ts).length=3*ts.length:=by simp [SM]
structure GV (ts:List T3) (k0:P2) (i:Nat) (k:P2):Prop where
  chain:∃s:Nat->P2,s 0=k0/\s i=k/\(∀j,j<=i->isS ts (s j))/\∀j,j<i->s (j+1)=OB (Kj ts (s j))
theorem GV.zero (h:isS ts k0):GV ts k0 0 k0:=⟨λ_=>k0,rfl,rfl,λ_ _=>h,λ_ h=>absurd h (Nat.not_lt_zero _)⟩
theorem GV.isS (h:GV ts k0 i k):isS ts k:=by
  obtain ⟨s,_,h2,h3,_⟩:=h.chain
  rw [<-h2];exact h3 i (Nat.le_refl _)
theorem GV.succ (h:GV ts k0 i k) (hs:(BB (Ua ts) (OB (Kj ts k))).isSome=true):GV ts k0 (i+1) (OB (Kj ts k)):=by
  obtain ⟨s,h1,h2,h3,h4⟩:=h.chain
  refine ⟨λj=>if j<=i then s j else OB (Kj ts k),by simp [h1],if_neg (by omega),λj hj=>?_,λj hj=>?_⟩
  · show Go.Proofs.YtpgncndhhhllfaaGreatDoor.isS ts (if j<=i then s j else _)
    split
    · exact h3 j ‹_›
    · exact hs
  · show (if j+1<=i then s (j+1) else _)=OB (Kj ts (if j<=i then s j else _))
    rw [if_pos (show j<=i by omega)]
    split
    · exact h4 j (by omega)
    · rw [show j=i by omega,h2]
theorem GV.lt (ho:GY ts (3*ts.length)=true) (h0:TC ts k0) (h:GV ts k0 i k):i<3*ts.length:=by
  obtain ⟨s,h1,h2,h3,h4⟩:=h.chain
  have ne:∀d a,a+d+1<=i->s a≠s (a+d+1):=λd a=>by
    induction a with
    | zero =>
      intro hd e
      rw [h1,h4 (0+d) (by omega)] at e
      refine h0.2 ?_
      rw [e,K7]
      exact Rb ho (h3 _ (by omega))
    | succ a ih =>
      intro hd e
      rw [h4 a (by omega),show a+1+d+1=(a+d+1)+1 by omega,h4 (a+d+1) (by omega)] at e
      exact ih (by omega) (UT ho (h3 _ (by omega)) (h3 _ (by omega)) (TN e))
  have hnd:((List.range (i+1)).map s).Nodup:=by
    refine List.pairwise_map.2 (List.Pairwise.imp_of_mem ?_ List.pairwise_lt_range)
    intro a b ha hb hab
    have:=ne (b-a-1) a (by have:=List.mem_range.1 hb;omega)
    rw [show a+(b-a-1)+1=b by omega] at this
    exact this
  have h5:=KC (m:=SM ts) hnd λx hx=>by
    obtain ⟨j,hj,rfl⟩:=List.mem_map.1 hx
    exact MR (h3 j (by have:=List.mem_range.1 hj;omega))
  rw [MD,List.length_map,List.length_range] at h5
  omega
theorem GV.fuel (h:GV ts k0 i k) (f:Nat):NK ts (f+i) k0=NK ts f k:=by
  obtain ⟨s,h1,h2,h3,h4⟩:=h.chain
  subst h1 h2
  have key:∀j,j<=i->NK ts (f+i) (s 0)=NK ts (f+(i-j)) (s j):=λj=>by
    induction j with
    | zero=>intro _;rfl
    | succ j ih =>
      intro hj
      rw [ih (by omega),show f+(i-j)=(f+(i-(j+1)))+1 by omega]
      have h5:(BB (Ua ts) (OB (Kj ts (s j)))).isSome=true:=by rw [<-h4 j (by omega)];exact h3 (j+1) hj
      show (if _ then _ else _)=_
      rw [if_pos h5,<-h4 j (by omega)]
  have:=key i (Nat.le_refl _)
  rwa [Nat.sub_self,Nat.add_zero] at this
theorem GV.stop (ho:GY ts (3*ts.length)=true) (h0:TC ts k0) (h:GV ts k0 i k) (hs:¬(BB (Ua ts) (OB (Kj ts k))).isSome=true):PO ts k0=Kj ts k/\TC ts (Kj ts k):=by
  have hlt:=h.lt ho h0
  have h1:=h.fuel (3*ts.length-i)
  rw [show 3*ts.length-i+i=3*ts.length by omega,show 3*ts.length-i=(3*ts.length-i-1)+1 by omega] at h1
  have h2:NK ts (3*ts.length-i-1+1) k=some (Kj ts k):=by
    show (if _ then _ else _)=_
    rw [if_neg hs]
  refine ⟨?_,Rb ho h.isS,hs⟩
  unfold PO
  rw [h1,h2];rfl
theorem Uk (ho:GY ts (3*ts.length)=true) (h0:TC ts k0):TC ts (PO ts k0):=by
  have key:∀d i k,3*ts.length-i=d->GV ts k0 i k->TC ts (PO ts k0):=λd=>by
    induction d with
    | zero=>intro i k hd h;have:=h.lt ho h0;omega
    | succ d ih =>
      intro i k hd h
      by_cases hs:(BB (Ua ts) (OB (Kj ts k))).isSome=true
      · exact ih _ _ (by omega) (h.succ hs)
      · have h1:=h.stop ho h0 hs
        rw [h1.1];exact h1.2
  exact key _ 0 k0 rfl (GV.zero h0.1)
end
def Wc (ts:List T3):Nat->List (P2×Nat)->P2->List Nat->Option (List (P2×Nat)×List Nat)
  | 0,_,_,_=>none
  | f+1,dn,k,l=>if (BB dn k).getD 0=0 then Wc ts f (BW dn k 1) (PO ts k) (l++[k.1]) else some (dn,l)
def YS (ts:List T3) (dn:List (P2×Nat)) (k:P2):List (P2×Nat)×List Nat:=(Wc ts (3*ts.length+1) dn k []).getD ([],[])
structure Q1 (ts:List T3) (dn:List (P2×Nat)):Prop where
  ok:Ja OD dn
  bd:∀k n,BB dn k=some n->TC ts k/\n=1
section
variable {ts:List T3} {N:Nat} {k k0:P2} {i:Nat} {dn dn0:List (P2×Nat)} {l:List Nat}
theorem Q1.nil:Q1 ts []:=⟨Ja.nil,λk n h=>by cases h⟩
theorem Q1.len (h:Q1 ts dn):dn.length<=3*ts.length:=by
  have h1:(dn.map (·.1)).Nodup:=List.pairwise_map.2 (h.ok.once.imp λ{a b} h e=>h e)
  have h2:=KC (m:=SM ts) h1 λx hx=>by
    obtain ⟨p,hp,rfl⟩:=List.mem_map.1 hx
    obtain ⟨j,hj,h3⟩:=List.getElem_of_mem hp
    exact MR (h.bd _ _ (IP (x:=p.1) (v:=p.2) h.ok.once (by rw [List.getElem?_eq_getElem hj,h3]))).1.1
  rwa [MD,List.length_map] at h2
theorem Q1.put (h:Q1 ts dn) (hk:TC ts k) (hok:OD k):Q1 ts (BW dn k 1):=⟨h.ok.put hok,λx n hx=>by
  rw [C8] at hx
  split at hx
  · rename_i e
    injection hx with hx
    rw [e];exact ⟨hk,hx.symm⟩
  · exact h.bd _ _ hx⟩
theorem Q1.zero (h:Q1 ts dn) (e:(BB dn k).getD 0=0):BB dn k=none:=by
  cases hg:BB dn k with
  | none=>rfl
  | some n=>rw [hg,(h.bd _ _ hg).2] at e;cases e
theorem Nj {α β:Type} [DecidableEq α] {kvs:List (α×β)} {x:α} {y:β} (h:BB kvs x=none):(BW kvs x y).length=kvs.length+1:=by
  induction kvs with
  | nil=>rfl
  | cons p r ih =>
    obtain ⟨k,v⟩:=p
    unfold BB at h
    split at h
    · cases h
    · rename_i e
      unfold BW
      rw [if_neg e,List.length_cons,ih h];rfl
theorem V9 (hn:DK N ts=true) (hN:N<=4611686018427387904) (h:isS ts k):OD k:=by
  obtain ⟨u,hu,rfl⟩:=F6.1 h
  have:=LF hn hu
  exact ⟨by omega,by omega⟩
structure Rk (ts:List T3) (dn0:List (P2×Nat)) (k0:P2) (i:Nat) (dn:List (P2×Nat)) (k:P2) (l:List Nat):Prop where
  fuel:∀f,Wc ts (f+i) dn0 k0 []=Wc ts f dn k l
  bd:TC ts k
  di:Q1 ts dn
  len:dn.length=dn0.length+i
  ll:l.length=i
  at0:i=0->dn=dn0/\k=k0
theorem Rk.zero (h:Q1 ts dn0) (hb:TC ts k0):Rk ts dn0 k0 0 dn0 k0 []:=⟨λ_=>rfl,hb,h,rfl,rfl,λ_=>⟨rfl,rfl⟩⟩
theorem Rk.succ (hn:DK N ts=true) (hN:N<=4611686018427387904) (ho:GY ts (3*ts.length)=true) (h:Rk ts dn0 k0 i dn k l) (e:(BB dn k).getD 0=0):Rk ts dn0 k0 (i+1) (BW dn k 1) (PO ts k) (l++[k.1]) :=
  ⟨λf=>by
    rw [show f+(i+1)=f+1+i by omega,h.fuel (f+1)]
    show (if _ then _ else _)=_
    rw [if_pos e],Uk ho h.bd,h.di.put h.bd (V9 hn hN h.bd.1),by rw [Nj (h.di.zero e),h.len];omega,by rw [List.length_append,h.ll];rfl,λh=>by omega⟩
theorem Rk.le (h:Rk ts dn0 k0 i dn k l):i<=3*ts.length:=by
  have h1:=h.di.len
  have:=h.len
  omega
theorem Rk.lt (hn:DK N ts=true) (hN:N<=4611686018427387904) (ho:GY ts (3*ts.length)=true) (h:Rk ts dn0 k0 i dn k l) (e:(BB dn k).getD 0=0):i<3*ts.length:=by
  have:=(h.succ hn hN ho e).le
  omega
theorem Rk.stop (h:Rk ts dn0 k0 i dn k l) (e:¬(BB dn k).getD 0=0):YS ts dn0 k0=(dn,l):=by
  have h1:=h.fuel (3*ts.length+1-i)
  have:=h.le
  rw [show 3*ts.length+1-i+i=3*ts.length+1 by omega,show 3*ts.length+1-i=(3*ts.length-i)+1 by omega] at h1
  have h2:Wc ts (3*ts.length-i+1) dn k l=some (dn,l):=by
    show (if _ then _ else _)=_
    rw [if_neg e]
  unfold YS
  rw [h1,h2];rfl
end
section
variable {ts:List T3} {N i:Nat} {dn dn2:List (P2×Nat)} {wq:T3} {l:List Nat}
end
end
section
section
variable {ps:List Pt} {ts:List T3}
end
end
section
def Ln (ps:List Pt) (s t:T3):Prop:=∃(u:Pt) (k:Rat),u≠⟨0,0⟩/\YA u k (C2 ps s.1) (C2 ps s.2.1) (C2 ps s.2.2) (C2 ps t.1) (C2 ps t.2.1) (C2 ps t.2.2)
theorem Ln.symm {ps:List Pt} {s t:T3} (h:Ln ps s t):Ln ps t s:=by
  obtain ⟨u,k,hu,⟨h1,h2,h3⟩,h4,h5,h6⟩:=h
  have ng:∀a,dt ⟨-u.x,-u.y⟩ a = -dt u a:=λa=>by unfold dt;grind
  refine ⟨⟨-u.x,-u.y⟩,-k,λe=>hu ?_,⟨?_,?_,?_⟩,?_,?_,?_⟩
  · obtain ⟨x,y⟩:=u
    injection e with e1 e2
    simp only at e1 e2
    rw [show x=0 by grind,show y=0 by grind]
  all_goals rw [ng];grind
section
variable {ps:List Pt} {ts:List T3}
end
end
def XK (md:List (P2×Nat)):Nat->T3->List T3
  | 0,c=>[c]
  | d+1,c=>match BB md (MS c) with
    | none=>[c]
    | some n=>XK md d (n,c.1,c.2.1)++XK md d (n,c.2.2,c.1)
def YW (n p:Nat):List Nat:=List.replicate n p
section
section
variable {N:Nat} {es:List E4} {T:T3}
end
end
section
section
variable {m:MQ} {ts:List T3} {a b N:Nat}
end
end
section
def YG (md:List (P2×Nat)) (ts:List T3):List T3:=ts.flatMap (XK md 2)
def YQ (md:List (P2×Nat)) (ts:List T3):Nat->List Nat
  | 0=>[]
  | i+1=>YQ md ts i++YW (XK md 2 (ts.getD i (0,0,0))).length i
section
variable {md:List (P2×Nat)} {ts ss:List T3} {i N:Nat} {es:List E4}
end
structure Ya (ps:List Pt) (ts ss:List T3) (ms:List Int) where
  l:List E4
  p:E4->Bool
  el:l=(B0 ts).filter p
  all:∀e,p e=true↔LR ts (UW ts ms) (e.a,e.b)
  x:XX (Xz ps l) (YG (TT ps.length l l.length) ts) (X3 ps.length ss l (YG (TT ps.length l l.length) ts)) (YQ (TT ps.length l l.length) ts ts.length) 0
instance {ps:List Pt} {ts ss:List T3} {ms:List Int}:Cy (Ya ps ts ss ms):=⟨λb=>Cy.val b.x,λb=>Cy.rows b.x,λb y hy=>Cy.ro b.x y hy⟩
section
variable {ts ss:List T3} {N:Nat} {es:List E4} {ms:List Int}
structure VT (ts:List T3) (ms:List Int) (l:List E4):Prop where
  ex:∃p:E4->Bool,l=(B0 ts).filter p/\∀e,p e=true↔LR ts (UW ts ms) (e.a,e.b)
theorem DX.cut (u:DX ts ms):VT ts ms u.l:=⟨u.p,u.el,u.all⟩
theorem VT.mem {l:List E4} (h:VT ts ms l) {e:E4}:e∈l↔e∈B0 ts/\LR ts (UW ts ms) (e.a,e.b):=by
  obtain ⟨p,h1,h2⟩:=h.ex
  rw [h1,List.mem_filter,h2]
end
section
variable {P:Program} {ops:Array Oper} {rest:List Oper} {Q:Exit->Act->World->Prop} {n d:Nat} {F:List (Nat×Value)} {w0:A_} {S:Nat->Prop} {L:List As} {t:TypeId} {p:String} {af:Array Edge} {y:Operand} {f:FuncId} {xs:List Operand} {args:List Value} {tys:Array TypeId} {ps:List Pt} {ts ss:List T3} {ms:List Int}
end
theorem Vw (a b:E4):(((a.a:Int) == (b.a:Int))&&(((a.b:Int) == (b.b:Int))&&((a.l == b.l)&&((a.r == b.r)&&true))))=decide (a=b):=by
  obtain ⟨a1,a2,a3,a4⟩:=a
  obtain ⟨b1,b2,b3,b4⟩:=b
  rw [Bool.eq_iff_iff]
  simp
  constructor<;>(rintro ⟨h1,h2,h3,h4⟩;refine ⟨?_,?_,?_,?_⟩<;>omega)
theorem U7 (D:Nat) (a b:E4):EK Tryz.prog (D+2) 91 (.agg (B6 a).toArray) (.agg (B6 b).toArray) (decide (a=b)):=by
  rw [<-Vw]
  exact EK.struct Tryz.underlying91 Tryz.stoodInHeld91 (GO.one (by decide) Tryz.isAgg3 rfl rfl (EK.int Tryz.underlying3) (GO.one (by decide) Tryz.isAgg3 rfl rfl (EK.int Tryz.underlying3) (GO.one (by decide) Tryz.isAgg3 rfl rfl (EK.int Tryz.underlying3) (GO.one (by decide) Tryz.isAgg3 rfl rfl (EK.int Tryz.underlying3) GO.nil))))
theorem Ir (D:Nat) {a b:E4} (h:a=b):EK Tryz.prog (D+2) 91 (.agg (B6 a).toArray) (.agg (B6 b).toArray) true:=by
  have:=U7 D a b;rwa [decide_eq_true h] at this
end
section
section
variable {md:List (P2×Nat)} {N M n a b c e p:Nat} {k κ:P2} {T:T3} {ts ts':List T3}
end
end
section
def bz (l:Nat):Int×Int×Int:=if l=0 then (2,0,0) else if l=1 then (0,2,0) else if l=2 then (0,0,2) else if l=3 then (1,1,0) else if l=4 then (0,1,1) else (1,0,1)
def D3 (i j k:Nat):Int:=(bz i).1*((bz j).2.1*(bz k).2.2-(bz j).2.2*(bz k).2.1)-(bz i).2.1*((bz j).1*(bz k).2.2-(bz j).2.2*(bz k).1)+(bz i).2.2*((bz j).1*(bz k).2.1-(bz j).2.1*(bz k).1)
def X9 (fam:List T3) (l:Nat):Bool:=fam.any λL=>FF L l
def XP (L:T3) (l:Nat):Bool:=decide (0<=D3 l L.2.1 L.2.2)&&decide (0<=D3 L.1 l L.2.2)&&decide (0<=D3 L.1 L.2.1 l)
instance (fam:List T3):Decidable (∀l,l<6->X9 fam l=true->∀L∈fam,XP L l=true->FF L l=true):=inferInstance
section
variable {a b c q:Pt} {l i j k:Nat}
end
end
section
section
variable {ps ps':List Pt} {ts ts':List T3} {mv:Nat->Nat->Nat} {fam:T3->List T3} {t s c L:T3} {l k p:Nat}
end
end
section
section
variable {ps:List Pt} {ts ss:List T3} {c:T3}
theorem At.swap {w0:A_} {S:Nat->Prop} {us:List T3} {x:MX ps us ss} {y:MX ps ts ss} (hx:At w0 S x) (hy:At w0 S y):At w0 S (⟨x.a,y.b,x.c⟩:MX ps ts ss):=λz hz b e=>by
  have hz:z∈[x.a.row,y.b.row,x.c.row]:=hz
  simp only [List.mem_cons,List.not_mem_nil,or_false] at hz
  rcases hz with rfl|rfl|rfl
  · exact hx _ (show x.a.row∈[x.a.row,x.b.row,x.c.row] by simp) b e
  · exact hy _ (show y.b.row∈[y.a.row,y.b.row,y.c.row] by simp) b e
  · exact hx _ (show x.c.row∈[x.a.row,x.b.row,x.c.row] by simp) b e
end
end
section
section
variable {ps:List Pt} {ts us ss:List T3} {N:Nat}
def XG (ps:List Pt) (s t:T3):Prop:=(!Dx (Bd ps s) (Bd ps t)&&!Dx (Bd ps t) (Bd ps s))=false
theorem XG.symm {s t:T3} (h:XG ps s t):XG ps t s:=by unfold XG at *;rw [Bool.and_comm];exact h
def k4 (e:E4):Nat×Nat×Bool×Bool:=(e.a,e.b,decide (e.l<0),decide (e.r<0))
theorem Hx.neg {s a b:Nat} {z:Int} (h:Hx ts s a b z):z<0↔¬∃u,u<s/\Bq ts u=(a,b):=by
  rcases h with ⟨h1,h2⟩|⟨u,h1,h2,h3,_⟩
  · exact ⟨λ_ ⟨u,hu,e⟩=>h2 u hu e,λ_=>by omega⟩
  · exact ⟨λh=>by omega,λh=>absurd ⟨u,h1,h3⟩ h⟩
end
end
section
section
variable {P:Program} {ops:Array Oper} {rest:List Oper} {Q:Exit->Act->World->Prop} {n:Nat} {F:List (Nat×Value)} {w0:A_} {L:List As} {S:Nat->Prop} {ps:List Pt} {ts us ss:List T3}
theorem AD.litT {b U:Nat} {cs:List Value} (LL:RX (rowsL BA ts) ts.length->List As) (i:Nat) (h:L[i]?=some (Ad b U cs)) (hex:w0.ex=none) (e:cs=rowsL BA ts)
    (hL:L.set i (AG (some ⟨b,0,none⟩) cs)=LL ⟨some ⟨b,0,none⟩,ts.length,F4 _ _⟩)
    (next:∀tt:RX (rowsL BA ts) ts.length,At w0 S tt->AD P ops rest Q n F w0 (LL tt)):AD P ops rest Q n F w0 L:=λa w ha hw=>by
  subst e
  have n1:=Kf hw h hex
  have w1:=hw.freeze (x:=Ad b U (rowsL BA ts)) (y:=AG (some ⟨b,0,none⟩) (rowsL BA ts)) h rfl (λo hp=>Eu hp) (λe=>by cases e)
  rw [hL] at w1
  refine next _ (λy hy c eb=>?_) a w ha w1
  rcases List.mem_singleton.1 hy with rfl
  injection eb with eb;subst eb;exact .inl (by assumption)
theorem At.withT {x:MX ps us ss} {t:RX (rowsL BA ts) ts.length} (hx:At w0 S x) (ht:At w0 S t):At w0 S (⟨x.a,t,x.c⟩:MX ps ts ss):=λz hz b e=>by
  have hz:z∈[x.a.row,t.row,x.c.row]:=hz
  simp only [List.mem_cons,List.not_mem_nil,or_false] at hz
  rcases hz with rfl|rfl|rfl
  · exact hx _ (show x.a.row∈[x.a.row,x.b.row,x.c.row] by simp) b e
  · exact ht _ (List.mem_singleton.2 rfl) b e
  · exact hx _ (show x.c.row∈[x.a.row,x.b.row,x.c.row] by simp) b e
end
def EY:List Pt:=[⟨0,0⟩,⟨1,0⟩,⟨1,1⟩,⟨0,1⟩]
def Cd:List T3:=[(0,1,2),(0,2,3)]
def NO:List T3:=[(0,1,2),(0,3,2)]
def Jn:List T3:=[(0,1,1),(0,3,0),(1,2,0),(2,3,0)]
theorem Nv (i:Nat):B3 (C2 EY i)<=1000:=VR (by decide +kernel) (by decide +kernel) i
theorem VA:∀i,i<Cd.length->∀k,k<i->(!Dx (Bd EY (Cd.getD i (0,0,0))) (Bd EY (Cd.getD k (0,0,0)))&&!Dx (Bd EY (Cd.getD k (0,0,0))) (Bd EY (Cd.getD i (0,0,0))))=false:=by decide +kernel
theorem VD:∀i,i<Cd.length->∀p,p<EY.length->FF (Cd.getD i (0,0,0)) p=false->NE EY (C2 EY p) (Cd.getD i (0,0,0))=0:=by decide +kernel
theorem Te:MM EY Cd Jn:=by
  refine ⟨by decide,by decide,by decide,by decide,Nv,by decide +kernel,by decide +kernel,by decide +kernel,λp hp=>?_,by decide +kernel,λi k hi hk=>VA i hi k hk,λi p hi hp=>VD i hi p hp,by decide +kernel,by decide +kernel⟩
  have hp:p<4:=hp
  have e:p=0\/p=1\/p=2\/p=3:=by omega
  rcases e with rfl|rfl|rfl|rfl
  · exact ⟨0,by decide,by decide +kernel⟩
  · exact ⟨0,by decide,by decide +kernel⟩
  · exact ⟨0,by decide,by decide +kernel⟩
  · exact ⟨1,by decide,by decide +kernel⟩
end
section
set_option maxRecDepth 100000
theorem Qi {ps:List Pt} {ts ss:List T3} (x:MX ps ts ss) (hnb:DK ps.length ts=true) (hp:ps.length<=4096) (htl:ts.length<=8192) (hsl:ss.length<=24576) (hz:∀k,B3 (C2 ps k)<=1000) (jb:Nat) (hjb:jb<ts.length) (hup:∀j,j<jb->(Am (C2 ps (ts.getD j (0,0,0)).1) (C2 ps (ts.getD j (0,0,0)).2.1) (C2 ps (ts.getD j (0,0,0)).2.2)).num.sign=1) (hbad:¬(Am (C2 ps (ts.getD jb (0,0,0)).1) (C2 ps (ts.getD jb (0,0,0)).2.1) (C2 ps (ts.getD jb (0,0,0)).2.2)).num.sign=1) (w:World) {S:Nat->Prop} (hx:Ro S w x):Calls Tryz.prog 68 #[(aG (DA x))] w (Al w (Value.bool false)):=by
 have lx:=Cx (W:=w) hx
 refine Aj (args:=[(aG (DA x))]) (L:=[AG x.a.p (rowsL Af ps),AG x.b.p (rowsL BA ts),AG x.c.p (rowsL BA ss)]) Tryz.func68 rfl rfl (AV rfl) (Ds hx Ax) (AE.subF (sL [0] rfl) (q4 (BU (cs:=DA x) rfl λb1=>asg' rfl (q3 (sL [1,2] rfl) ?_))))
 refine AK (v:=(pP b1 0)) (AA rfl Tryz.underlying30 rfl Tryz.sizeOf28 rfl) rfl (BJ 0 (Value.slice x.a.p ps.length x.a.c) CW rfl (AK (v:=(vN ps.length)) (AF rfl Tryz.underlying28) rfl (asg' rfl (q6 (sL [1,2,3] rfl) (q4 ?_)))))
 refine AK (v:=(pP b1 1)) (AA rfl Tryz.underlying30 rfl Tryz.sizeOf23 rfl) rfl (BJ 0 (Value.slice x.b.p ts.length x.b.c) DG rfl (AK (v:=(vN ts.length)) (AF rfl Tryz.underlying23) rfl (AQ rfl (AD.nil (AC.subF (sL [1,2,3,12,13,14] rfl) ?_)))))
 refine AC.then_ (AE.block ?_)
 refine AE.lp1 (tg λ(i:Nat)=>i<=jb) (tg λ(i:Nat)=>[(1,(pP b1 0)),(3,(vN ps.length)),(12,(Value.slice x.b.p ts.length x.b.c)),(13,(vN ts.length)),(14,(vN i))]) (tg λ(i:Nat)=>[Ad b1 30 (DA x),AG x.a.p (rowsL Af ps),AG x.b.p (rowsL BA ts),AG x.c.p (rowsL BA ss)]) (tg λ(i:Nat)=>ts.length-i) 0 (Nat.zero_le _) (sF rfl) sr (λi hJ=>?_)
 have hi:=hJ
 refine q4 (AK (Ai (c:=(decide (i<ts.length))) rfl rfl (CI (a:=i) (b:=ts.length))) rfl (AD.nil (q1 ?_)))
 refine AE.cond rfl (λhc0=>?_) (λhc0=>?_)
 ·replace hc0:=of_decide_eq_true hc0
  obtain ⟨T,hT⟩:∃q,q=ts.getD i (0,0,0):=⟨_,rfl⟩
  obtain ⟨g1,g2,g3⟩:=DV (DD hnb hc0)
  rw [<-hT] at g1 g2 g3
  have z0:B3 (ps.getD T.1 ⟨0,0⟩)<=1000:=hz _
  have z1:B3 (ps.getD T.2.1 ⟨0,0⟩)<=1000:=hz _
  have z2:B3 (ps.getD T.2.2 ⟨0,0⟩)<=1000:=hz _
  refine AE.skip (q1 (AE.block (q4 (AK (v:=(pP (pB x.b.p) (pO x.b.p+i*3))) (AO (j:=i) rfl rfl x.b.ok Tryz.underlying23 Tryz.sizeOf53 rfl (by omega)) rfl (AK (v:=(aG (BA (ts.getD i ((0,0,0):Nat×Nat×Nat))))) (AT (vs:=BA (ts.getD i ((0,0,0):Nat×Nat×Nat))) (i:=2) rfl rfl (A7.ne x.b.ok (by omega)) Gx (Aq Be _ _ _ (by omega)) (Be _)) rfl ?_)))))
  refine AD.retell (k:=17) (u:=(aG (BA T))) rfl (by rw [hT]) (al Ng rfl λb2=>A8 rfl Tryz.sizeOf53 rfl (q6 (sL [1,3,12,13,14,5] rfl) ?_))
  by_cases kj:i=jb
  ·skip
   refine CS [(0,true),(1,true),(2,true),(3,false),(4,true),(5,true),(6,true),(7,true),(8,true),(9,false),(10,true),(11,true),(12,true),(13,true),(14,true),(15,true),(16,false),(17,true),(18,true),(19,true),(20,true),(21,true),(22,true),(23,true),(24,true),(25,true),(26,true),(27,true),(28,true),(29,true),(30,true),(31,true),(32,true),(33,true),(34,true),(35,true),(36,true),(37,true),(38,false),(39,true),(40,true)] sr (Ap (v:=(pP b2 0)) rfl (AI (j:=0) rfl rfl Tryz.underlying53 Tryz.sizeOf3 rfl (by decide) rfl) (Ba 0 (vN T.1) Bo rfl (BT rfl (OkE.imp rfl (CN (args:=[(vN T.1),(vN ps.length)]) (v:=(Value.bool true)) Tryz.call85 (λw hw=>(by have h9:=By T.1 ps.length w;rw [decide_eq_true (by omega)] at h9;exact h9)) rfl ?_)))))
   refine OkE.back sr (Ap rfl (BF (c:=false) rfl rfl) (BT rfl (OkE.pas (v:=(pP b2 1)) rfl (AB rfl) (AI (j:=1) rfl rfl Tryz.underlying53 Tryz.sizeOf3 rfl (by decide) rfl) rfl rfl (OkE.pas (v:=(vN T.2.1)) rfl (AB rfl) (AL (i:=0) (v:=(vN T.2.1)) rfl rfl Bo.a rfl) rfl rfl (OkE.pas (v:=(vN ps.length)) rfl (AB rfl) (A9 rfl) rfl rfl ?_)))))
   refine OkE.imp rfl (AD.call (v:=(Value.bool true)) (AB rfl) (An (args:=[(vN T.2.1),(vN ps.length)]) rfl rfl Tryz.call85) (λw hw=>(by have h9:=By T.2.1 ps.length w;rw [decide_eq_true (by omega)] at h9;exact h9)) rfl (AV rfl) (OkE.back sr (OkE.pas (v:=(Value.bool false)) rfl (AB rfl) (BF (c:=false) rfl rfl) rfl rfl (Ap (v:=(Value.bool false)) rfl (AR rfl rfl) (BT rfl ?_)))))
   refine OkE.pas (v:=(pP b2 2)) rfl (AB rfl) (AI (j:=2) rfl rfl Tryz.underlying53 Tryz.sizeOf3 rfl (by decide) rfl) rfl rfl (OkE.pas (v:=(vN T.2.2)) rfl (AB rfl) (AL (i:=0) (v:=(vN T.2.2)) rfl rfl Bo.a rfl) rfl rfl (OkE.pas (v:=(vN ps.length)) rfl (AB rfl) (A9 rfl) rfl rfl (OkE.imp rfl (AD.call (v:=(Value.bool true)) (AB rfl) (An (args:=[(vN T.2.2),(vN ps.length)]) rfl rfl Tryz.call85) (λw hw=>(by have h9:=By T.2.2 ps.length w;rw [decide_eq_true (by omega)] at h9;exact h9)) rfl (AV rfl) (OkE.back sr ?_)))))
   refine OkE.pas (v:=(Value.bool false)) rfl (AB rfl) (BF (c:=false) rfl rfl) rfl rfl (Ap (v:=(Value.bool false)) rfl (AR rfl rfl) (BT rfl (OkE.pas (v:=(pP b1 0)) rfl (AB rfl) (AA rfl Tryz.underlying30 rfl Tryz.sizeOf28 rfl) rfl rfl (OkE.pas (v:=(Value.slice x.a.p ps.length x.a.c)) rfl (AB rfl) (AL (i:=1) (v:=(Value.slice x.a.p ps.length x.a.c)) rfl rfl CW.a rfl) rfl rfl (OkE.pas (v:=(pP b2 0)) rfl (AB rfl) (AI (j:=0) rfl rfl Tryz.underlying53 Tryz.sizeOf3 rfl (by decide) rfl) rfl rfl ?_)))))
   refine OkE.pas (v:=(vN T.1)) rfl (AB rfl) (AL (i:=0) (v:=(vN T.1)) rfl rfl Bo.a rfl) rfl rfl (OkE.pas (v:=(pP (pB x.a.p) (pO x.a.p+T.1*10))) rfl (AB rfl) (AO (j:=T.1) rfl rfl x.a.ok Tryz.underlying28 Tryz.sizeOf51 rfl (by omega)) rfl rfl (OkE.pas (v:=(aG (Af (ps.getD T.1 (⟨0,0⟩:Pt))))) rfl (AB rfl) (AT (vs:=Af (ps.getD T.1 (⟨0,0⟩:Pt))) (i:=2) rfl rfl (A7.ne x.a.ok (by omega)) BM (Aq Av _ _ _ (by omega)) (Av _)) rfl rfl (OkE.pas (v:=(pP b1 0)) rfl (AB rfl) (AA rfl Tryz.underlying30 rfl Tryz.sizeOf28 rfl) rfl rfl (OkE.pas (v:=(Value.slice x.a.p ps.length x.a.c)) rfl (AB rfl) (AL (i:=1) (v:=(Value.slice x.a.p ps.length x.a.c)) rfl rfl CW.a rfl) rfl rfl (OkE.pas (v:=(pP b2 1)) rfl (AB rfl) (AI (j:=1) rfl rfl Tryz.underlying53 Tryz.sizeOf3 rfl (by decide) rfl) rfl rfl ?_)))))
   refine OkE.pas (v:=(vN T.2.1)) rfl (AB rfl) (AL (i:=0) (v:=(vN T.2.1)) rfl rfl Bo.a rfl) rfl rfl (OkE.pas (v:=(pP (pB x.a.p) (pO x.a.p+T.2.1*10))) rfl (AB rfl) (AO (j:=T.2.1) rfl rfl x.a.ok Tryz.underlying28 Tryz.sizeOf51 rfl (by omega)) rfl rfl (OkE.pas (v:=(aG (Af (ps.getD T.2.1 (⟨0,0⟩:Pt))))) rfl (AB rfl) (AT (vs:=Af (ps.getD T.2.1 (⟨0,0⟩:Pt))) (i:=2) rfl rfl (A7.ne x.a.ok (by omega)) BM (Aq Av _ _ _ (by omega)) (Av _)) rfl rfl (OkE.pas (v:=(pP b1 0)) rfl (AB rfl) (AA rfl Tryz.underlying30 rfl Tryz.sizeOf28 rfl) rfl rfl (OkE.pas (v:=(Value.slice x.a.p ps.length x.a.c)) rfl (AB rfl) (AL (i:=1) (v:=(Value.slice x.a.p ps.length x.a.c)) rfl rfl CW.a rfl) rfl rfl (OkE.pas (v:=(pP b2 2)) rfl (AB rfl) (AI (j:=2) rfl rfl Tryz.underlying53 Tryz.sizeOf3 rfl (by decide) rfl) rfl rfl ?_)))))
   refine OkE.pas (v:=(vN T.2.2)) rfl (AB rfl) (AL (i:=0) (v:=(vN T.2.2)) rfl rfl Bo.a rfl) rfl rfl (OkE.pas (v:=(pP (pB x.a.p) (pO x.a.p+T.2.2*10))) rfl (AB rfl) (AO (j:=T.2.2) rfl rfl x.a.ok Tryz.underlying28 Tryz.sizeOf51 rfl (by omega)) rfl rfl (OkE.pas (v:=(aG (Af (ps.getD T.2.2 (⟨0,0⟩:Pt))))) rfl (AB rfl) (AT (vs:=Af (ps.getD T.2.2 (⟨0,0⟩:Pt))) (i:=2) rfl rfl (A7.ne x.a.ok (by omega)) BM (Aq Av _ _ _ (by omega)) (Av _)) rfl rfl (OkE.imp rfl (AD.call (v:=(vI ((Am (ps.getD T.1 (⟨0,0⟩:Pt)) (ps.getD T.2.1 (⟨0,0⟩:Pt)) (ps.getD T.2.2 (⟨0,0⟩:Pt))).num.sign))) (AB rfl) (An (args:=[(aG (Af (ps.getD T.1 (⟨0,0⟩:Pt)))),(aG (Af (ps.getD T.2.1 (⟨0,0⟩:Pt)))),(aG (Af (ps.getD T.2.2 (⟨0,0⟩:Pt))))]) rfl rfl Tryz.call121) (λw hw=>Gz (ps.getD T.1 (⟨0,0⟩:Pt)) (ps.getD T.2.1 (⟨0,0⟩:Pt)) (ps.getD T.2.2 (⟨0,0⟩:Pt)) (by omega) w) rfl (AV rfl) (OkE.back sr ?_)))))
   refine OkE.pas (v:=(Value.bool true)) rfl (AB rfl) (Bk (c:=true) rfl rfl (decide_eq_true (λh9=>hbad (by rw [<-kj,<-hT];exact h9)))) rfl rfl (Ap (v:=(Value.bool true)) rfl (AR rfl rfl) (OkE.nil (AC.subF (sL [1,3,12,13,14,5,58] rfl) (AC.then_ (AE.cond_true rfl ?_)))))
   refine q4 (asg' rfl (AD.nil (AC.subF (sL [1,3,12,13,14,5,2] rfl) (AC.then_ (AE.ret ?_)))))
   exact AC.in_ret (AC.then_ret (AC.round1_ret (AC.in_ret (AC.then_ret (AJ rfl (AS (v:=(Value.bool false)) rfl) (λw hw=>⟨rfl,hw.out⟩))))))
  ·skip
   refine CS [(0,true),(1,true),(2,true),(3,false),(4,true),(5,true),(6,true),(7,true),(8,true),(9,false),(10,true),(11,true),(12,true),(13,true),(14,true),(15,true),(16,false),(17,true),(18,true),(19,true),(20,true),(21,true),(22,true),(23,true),(24,true),(25,true),(26,true),(27,true),(28,true),(29,true),(30,true),(31,true),(32,true),(33,true),(34,true),(35,true),(36,true),(37,true),(38,false),(39,true),(40,true)] sr (Ap (v:=(pP b2 0)) rfl (AI (j:=0) rfl rfl Tryz.underlying53 Tryz.sizeOf3 rfl (by decide) rfl) (Ba 0 (vN T.1) Bo rfl (BT rfl (OkE.imp rfl (CN (args:=[(vN T.1),(vN ps.length)]) (v:=(Value.bool true)) Tryz.call85 (λw hw=>(by have h9:=By T.1 ps.length w;rw [decide_eq_true (by omega)] at h9;exact h9)) rfl ?_)))))
   refine OkE.back sr (Ap rfl (BF (c:=false) rfl rfl) (BT rfl (OkE.pas (v:=(pP b2 1)) rfl (AB rfl) (AI (j:=1) rfl rfl Tryz.underlying53 Tryz.sizeOf3 rfl (by decide) rfl) rfl rfl (OkE.pas (v:=(vN T.2.1)) rfl (AB rfl) (AL (i:=0) (v:=(vN T.2.1)) rfl rfl Bo.a rfl) rfl rfl (OkE.pas (v:=(vN ps.length)) rfl (AB rfl) (A9 rfl) rfl rfl ?_)))))
   refine OkE.imp rfl (AD.call (v:=(Value.bool true)) (AB rfl) (An (args:=[(vN T.2.1),(vN ps.length)]) rfl rfl Tryz.call85) (λw hw=>(by have h9:=By T.2.1 ps.length w;rw [decide_eq_true (by omega)] at h9;exact h9)) rfl (AV rfl) (OkE.back sr (OkE.pas (v:=(Value.bool false)) rfl (AB rfl) (BF (c:=false) rfl rfl) rfl rfl (Ap (v:=(Value.bool false)) rfl (AR rfl rfl) (BT rfl ?_)))))
   refine OkE.pas (v:=(pP b2 2)) rfl (AB rfl) (AI (j:=2) rfl rfl Tryz.underlying53 Tryz.sizeOf3 rfl (by decide) rfl) rfl rfl (OkE.pas (v:=(vN T.2.2)) rfl (AB rfl) (AL (i:=0) (v:=(vN T.2.2)) rfl rfl Bo.a rfl) rfl rfl (OkE.pas (v:=(vN ps.length)) rfl (AB rfl) (A9 rfl) rfl rfl (OkE.imp rfl (AD.call (v:=(Value.bool true)) (AB rfl) (An (args:=[(vN T.2.2),(vN ps.length)]) rfl rfl Tryz.call85) (λw hw=>(by have h9:=By T.2.2 ps.length w;rw [decide_eq_true (by omega)] at h9;exact h9)) rfl (AV rfl) (OkE.back sr ?_)))))
   refine OkE.pas (v:=(Value.bool false)) rfl (AB rfl) (BF (c:=false) rfl rfl) rfl rfl (Ap (v:=(Value.bool false)) rfl (AR rfl rfl) (BT rfl (OkE.pas (v:=(pP b1 0)) rfl (AB rfl) (AA rfl Tryz.underlying30 rfl Tryz.sizeOf28 rfl) rfl rfl (OkE.pas (v:=(Value.slice x.a.p ps.length x.a.c)) rfl (AB rfl) (AL (i:=1) (v:=(Value.slice x.a.p ps.length x.a.c)) rfl rfl CW.a rfl) rfl rfl (OkE.pas (v:=(pP b2 0)) rfl (AB rfl) (AI (j:=0) rfl rfl Tryz.underlying53 Tryz.sizeOf3 rfl (by decide) rfl) rfl rfl ?_)))))
   refine OkE.pas (v:=(vN T.1)) rfl (AB rfl) (AL (i:=0) (v:=(vN T.1)) rfl rfl Bo.a rfl) rfl rfl (OkE.pas (v:=(pP (pB x.a.p) (pO x.a.p+T.1*10))) rfl (AB rfl) (AO (j:=T.1) rfl rfl x.a.ok Tryz.underlying28 Tryz.sizeOf51 rfl (by omega)) rfl rfl (OkE.pas (v:=(aG (Af (ps.getD T.1 (⟨0,0⟩:Pt))))) rfl (AB rfl) (AT (vs:=Af (ps.getD T.1 (⟨0,0⟩:Pt))) (i:=2) rfl rfl (A7.ne x.a.ok (by omega)) BM (Aq Av _ _ _ (by omega)) (Av _)) rfl rfl (OkE.pas (v:=(pP b1 0)) rfl (AB rfl) (AA rfl Tryz.underlying30 rfl Tryz.sizeOf28 rfl) rfl rfl (OkE.pas (v:=(Value.slice x.a.p ps.length x.a.c)) rfl (AB rfl) (AL (i:=1) (v:=(Value.slice x.a.p ps.length x.a.c)) rfl rfl CW.a rfl) rfl rfl (OkE.pas (v:=(pP b2 1)) rfl (AB rfl) (AI (j:=1) rfl rfl Tryz.underlying53 Tryz.sizeOf3 rfl (by decide) rfl) rfl rfl ?_)))))
   refine OkE.pas (v:=(vN T.2.1)) rfl (AB rfl) (AL (i:=0) (v:=(vN T.2.1)) rfl rfl Bo.a rfl) rfl rfl (OkE.pas (v:=(pP (pB x.a.p) (pO x.a.p+T.2.1*10))) rfl (AB rfl) (AO (j:=T.2.1) rfl rfl x.a.ok Tryz.underlying28 Tryz.sizeOf51 rfl (by omega)) rfl rfl (OkE.pas (v:=(aG (Af (ps.getD T.2.1 (⟨0,0⟩:Pt))))) rfl (AB rfl) (AT (vs:=Af (ps.getD T.2.1 (⟨0,0⟩:Pt))) (i:=2) rfl rfl (A7.ne x.a.ok (by omega)) BM (Aq Av _ _ _ (by omega)) (Av _)) rfl rfl (OkE.pas (v:=(pP b1 0)) rfl (AB rfl) (AA rfl Tryz.underlying30 rfl Tryz.sizeOf28 rfl) rfl rfl (OkE.pas (v:=(Value.slice x.a.p ps.length x.a.c)) rfl (AB rfl) (AL (i:=1) (v:=(Value.slice x.a.p ps.length x.a.c)) rfl rfl CW.a rfl) rfl rfl (OkE.pas (v:=(pP b2 2)) rfl (AB rfl) (AI (j:=2) rfl rfl Tryz.underlying53 Tryz.sizeOf3 rfl (by decide) rfl) rfl rfl ?_)))))
   refine OkE.pas (v:=(vN T.2.2)) rfl (AB rfl) (AL (i:=0) (v:=(vN T.2.2)) rfl rfl Bo.a rfl) rfl rfl (OkE.pas (v:=(pP (pB x.a.p) (pO x.a.p+T.2.2*10))) rfl (AB rfl) (AO (j:=T.2.2) rfl rfl x.a.ok Tryz.underlying28 Tryz.sizeOf51 rfl (by omega)) rfl rfl (OkE.pas (v:=(aG (Af (ps.getD T.2.2 (⟨0,0⟩:Pt))))) rfl (AB rfl) (AT (vs:=Af (ps.getD T.2.2 (⟨0,0⟩:Pt))) (i:=2) rfl rfl (A7.ne x.a.ok (by omega)) BM (Aq Av _ _ _ (by omega)) (Av _)) rfl rfl (OkE.imp rfl (AD.call (v:=(vI ((Am (ps.getD T.1 (⟨0,0⟩:Pt)) (ps.getD T.2.1 (⟨0,0⟩:Pt)) (ps.getD T.2.2 (⟨0,0⟩:Pt))).num.sign))) (AB rfl) (An (args:=[(aG (Af (ps.getD T.1 (⟨0,0⟩:Pt)))),(aG (Af (ps.getD T.2.1 (⟨0,0⟩:Pt)))),(aG (Af (ps.getD T.2.2 (⟨0,0⟩:Pt))))]) rfl rfl Tryz.call121) (λw hw=>Gz (ps.getD T.1 (⟨0,0⟩:Pt)) (ps.getD T.2.1 (⟨0,0⟩:Pt)) (ps.getD T.2.2 (⟨0,0⟩:Pt)) (by omega) w) rfl (AV rfl) (OkE.back sr ?_)))))
   refine OkE.pas (v:=(Value.bool false)) rfl (AB rfl) (Bk (c:=false) rfl rfl (decide_eq_false (λh9=>h9 (by have h8:=hup i (by omega);rw [<-hT] at h8;exact h8)))) rfl rfl (Ap (v:=(Value.bool false)) rfl (AR rfl rfl) (OkE.nil (AC.subF (sL [1,3,12,13,14,5,58] rfl) (AC.then_ (AE.cond_false rfl ?_)))))
   refine AE.skip (AC.in_normal (AC.then_ (AE.region (AK (Ac (c:=((i+1:Nat):Int)) rfl rfl (Ae (a:=i) (b:=1) (by omega))) rfl (AQ rfl ?_)))))
   exact AD.nil (AC.subF (sL [1,3,12,13,14,5] rfl) (AC.round1 (i+1) (by omega) (by omega) (sF rfl) (sl sr)))
 ·replace hc0:=of_decide_eq_false hc0
  omega
theorem Pf {ps:List Pt} {ts ss:List T3} (x:MX ps ts ss) (hnb:DK ps.length ts=true) (hp:ps.length<=4096) (htl:ts.length<=8192) (hsl:ss.length<=24576) (hz:∀k,B3 (C2 ps k)<=1000) (jb:Nat) (hjb:jb<ts.length) (hup:∀j,j<jb->(Am (C2 ps (ts.getD j (0,0,0)).1) (C2 ps (ts.getD j (0,0,0)).2.1) (C2 ps (ts.getD j (0,0,0)).2.2)).num.sign=1) (hbad:¬(Am (C2 ps (ts.getD jb (0,0,0)).1) (C2 ps (ts.getD jb (0,0,0)).2.1) (C2 ps (ts.getD jb (0,0,0)).2.2)).num.sign=1) (w:World) {S:Nat->Prop} (hx:Ro S w x):Calls Tryz.prog 21 #[(aG (DA x))] w (Al w (vI 1)):=by
 have lx:=Cx (W:=w) hx
 refine Aj (args:=[(aG (DA x))]) (L:=[AG x.a.p (rowsL Af ps),AG x.b.p (rowsL BA ts),AG x.c.p (rowsL BA ss)]) Tryz.func21 rfl rfl (AV rfl) (Ds hx Ax) (AE.subF (sL [0] rfl) (q4 (BU (cs:=DA x) rfl λb1=>asg' rfl (q6 (sL [1,2] rfl) ?_))))
 refine AE.block (q4 (AK (v:=(pP b1 0)) (AA rfl Tryz.underlying30 rfl Tryz.sizeOf28 rfl) rfl (BJ 0 (Value.slice x.a.p ps.length x.a.c) CW rfl (AK (v:=(vN ps.length)) (AF rfl Tryz.underlying28) rfl (AK (Bb (c:=false) rfl rfl (decide_eq_false (by omega))) rfl ?_)))))
 refine AQ rfl (AD.step (v:=(pP b1 1)) (AB rfl) (AA rfl Tryz.underlying30 rfl Tryz.sizeOf23 rfl) rfl (AV rfl) (AD.step (v:=(Value.slice x.b.p ts.length x.b.c)) (AB rfl) (AL (i:=0) (v:=(Value.slice x.b.p ts.length x.b.c)) rfl rfl DG.a rfl) rfl (AV rfl) (AD.step (v:=(vN ts.length)) (AB rfl) (AF rfl Tryz.underlying23) rfl (AV rfl) (AD.step (v:=(Value.bool false)) (AB rfl) (Bb (c:=false) rfl rfl (decide_eq_false (by omega))) rfl (AV rfl) (AK (v:=(Value.bool false)) (AR rfl rfl) rfl ?_)))))
 refine AQ rfl (AD.step (v:=(pP b1 2)) (AB rfl) (AA rfl Tryz.underlying30 rfl Tryz.sizeOf24 rfl) rfl (AV rfl) (AD.step (v:=(Value.slice x.c.p ss.length x.c.c)) (AB rfl) (AL (i:=0) (v:=(Value.slice x.c.p ss.length x.c.c)) rfl rfl D5.a rfl) rfl (AV rfl) (AD.step (v:=(vN ss.length)) (AB rfl) (AF rfl Tryz.underlying24) rfl (AV rfl) (AD.step (v:=(Value.bool false)) (AB rfl) (Bb (c:=false) rfl rfl (decide_eq_false (by omega))) rfl (AV rfl) (AK (v:=(Value.bool false)) (AR rfl rfl) rfl ?_)))))
 refine asg' rfl (AD.nil (AC.subF (sL [1,2,3] rfl) (AC.then_ (AE.cond_false rfl (q4 ?_)))))
 refine BG 0 Bi rfl (CN Tryz.call68 (λw hw=>Qi x hnb hp htl hsl hz jb hjb hup hbad w (inS hw 1 rfl lx)) rfl (AK (BF (c:=true) rfl rfl) rfl (asg' rfl (AD.nil (AC.subF (sL [1,2,20] rfl) ?_)))))
 refine AC.then_ (AE.cond_true rfl (q4 (asg' rfl (AD.nil (AC.subF (sL [1,2] rfl) ?_)))))
 exact AC.then_ (AE.ret (AC.in_ret (AC.then_ret (AJ rfl (AS (v:=(vI 1)) rfl) (λw hw=>⟨rfl,hw.out⟩)))))
end
end Go.Proofs.YtpgncndhhhllfaaGreatDoor
