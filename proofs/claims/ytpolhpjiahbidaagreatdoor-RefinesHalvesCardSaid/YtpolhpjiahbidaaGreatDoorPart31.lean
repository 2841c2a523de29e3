import Derived.Test.YtpolhpjiahbidaaGreatDoorPart06
import Derived.Test.YtpolhpjiahbidaaGreatDoorPart23
import Derived.Test.YtpolhpjiahbidaaGreatDoorPart30
namespace Go.Proofs.YtpolhpjiahbidaaGreatDoor
open Go Go.RowKit Go.Proofs.Tryz
set_option linter.unusedVariables false
set_option linter.unusedSimpArgs false
section
section
variable {P:Program} {Q:Exit->Act->World->Prop} {n:Nat} {F:List (Nat×Value)} {w0:A_} {L:List As} {c x y:Code}
def UM {α β γ δ ε ζ η:Type} (n:Nat) (w0:A_) (J:α->β->γ->δ->ε->ζ->η->Prop) (FI:α->β->γ->δ->ε->ζ->η->List (Nat×Value)) (LI:α->β->γ->δ->ε->ζ->η->List As) (m:α->β->γ->δ->ε->ζ->η->Nat) (i:α) (j:β) (k:γ) (l:δ) (o:ε) (q:ζ) (r:η) (Q:Exit->Act->World->Prop):Exit->Act->World->Prop :=
  Exit.then (λa w=>∃i' j' k' l' o' q' r',J i' j' k' l' o' q' r'/\m i' j' k' l' o' q' r'<m i j k l o q r/\Cf n a (FI i' j' k' l' o' q' r')/\BB w0 w (LI i' j' k' l' o' q' r')) Q
theorem OkC.loop7 {α β γ δ ε ζ η:Type} (J:α->β->γ->δ->ε->ζ->η->Prop) (FI:α->β->γ->δ->ε->ζ->η->List (Nat×Value)) (LI:α->β->γ->δ->ε->ζ->η->List As) (m:α->β->γ->δ->ε->ζ->η->Nat) (round:∀i j k l o q r,J i j k l o q r->OkC P c (UM n w0 J FI LI m i j k l o q r Q) n (FI i j k l o q r) w0 (LI i j k l o q r))
    (i:α) (j:β) (k:γ) (l:δ) (o:ε) (q:ζ) (r:η) (h:J i j k l o q r):OkC P (.loop c) Q n (FI i j k l o q r) w0 (LI i j k l o q r) :=
  OkC.loop (σ:=α×β×γ×δ×ε×ζ×η) (λs=>J s.1 s.2.1 s.2.2.1 s.2.2.2.1 s.2.2.2.2.1 s.2.2.2.2.2.1 s.2.2.2.2.2.2) (λs=>FI s.1 s.2.1 s.2.2.1 s.2.2.2.1 s.2.2.2.2.1 s.2.2.2.2.2.1 s.2.2.2.2.2.2) (λs=>LI s.1 s.2.1 s.2.2.1 s.2.2.2.1 s.2.2.2.2.1 s.2.2.2.2.2.1 s.2.2.2.2.2.2) (λs=>m s.1 s.2.1 s.2.2.1 s.2.2.2.1 s.2.2.2.2.1 s.2.2.2.2.2.1 s.2.2.2.2.2.2) (λs hs a w ha hw=>by
    refine Code.wp_mono (λe a' w' hq=>?_) (round s.1 s.2.1 s.2.2.1 s.2.2.2.1 s.2.2.2.2.1 s.2.2.2.2.2.1 s.2.2.2.2.2.2 hs a w ha hw)
    cases e<;>first
      | (obtain ⟨i',j',k',l',o',q',r',h1,h2,h3,h4⟩:=hq;exact ⟨(i',j',k',l',o',q',r'),h1,h2,h3,h4⟩)
      | exact hq) (i,j,k,l,o,q,r) h
theorem OkC.lp7 {α β γ δ ε ζ η:Type} {J:α->β->γ->δ->ε->ζ->η->Prop} {FI:α->β->γ->δ->ε->ζ->η->List (Nat×Value)} {LI:α->β->γ->δ->ε->ζ->η->List As} {m:α->β->γ->δ->ε->ζ->η->Nat} (_:Tg J) (_:Tg FI) (_:Tg LI) (_:Tg m) (i:α) (j:β) (k:γ) (l:δ) (o:ε) (q:ζ) (r:η) (h:J i j k l o q r) (hs:C6 (FI i j k l o q r) F) (hl:(LI i j k l o q r).Sublist L)
    (round:∀i j k l o q r,J i j k l o q r->OkC P c (UM n w0 J FI LI m i j k l o q r Q) n (FI i j k l o q r) w0 (LI i j k l o q r)):OkC P (.loop c) Q n F w0 L:=OkC.sub hs hl (OkC.loop7 J FI LI m round i j k l o q r h)
theorem OkQ.round7 {α β γ δ ε ζ η:Type} {J:α->β->γ->δ->ε->ζ->η->Prop} {FI:α->β->γ->δ->ε->ζ->η->List (Nat×Value)} {LI:α->β->γ->δ->ε->ζ->η->List As} {m:α->β->γ->δ->ε->ζ->η->Nat} {i:α} {j:β} {k:γ} {l:δ} {o:ε} {q:ζ} {r:η} (i':α) (j':β) (k':γ) (l':δ) (o':ε) (q':ζ) (r':η) (hJ:J i' j' k' l' o' q' r') (hm:m i' j' k' l' o' q' r'<m i j k l o q r) (hs:C6 (FI i' j' k' l' o' q' r') F) (hl:(LI i' j' k' l' o' q' r').Sublist L):OkQ (UM n w0 J FI LI m i j k l o q r Q) .normal n F w0 L:=λ_ _ ha hw=>⟨i',j',k',l',o',q',r',hJ,hm,ha.sub hs,hw.weak hl⟩
theorem OkQ.round7_exit {α β γ δ ε ζ η:Type} {J:α->β->γ->δ->ε->ζ->η->Prop} {FI:α->β->γ->δ->ε->ζ->η->List (Nat×Value)} {LI:α->β->γ->δ->ε->ζ->η->List As} {m:α->β->γ->δ->ε->ζ->η->Nat} {i:α} {j:β} {k:γ} {l:δ} {o:ε} {q:ζ} {r:η} {id:Nat} (h:OkQ Q (.exit id) n F w0 L):OkQ (UM n w0 J FI LI m i j k l o q r Q) (.exit id) n F w0 L:=h
end
end
section
abbrev Zh (ts:List T3):List (P2×Nat):=N8 ts (3*ts.length)
def ZU (k:P2):P2:=(k.2,k.1)
def YS (ts:List T3) (k:P2):Prop:=(Az (Zh ts) k).isSome=true
def Zd (ts:List T3) (k:P2):Prop:=YS ts k/\¬YS ts (ZU k)
section
variable {ts:List T3} {N:Nat} {k k0:P2} {i:Nat}
theorem Ky {n:Nat}:∀s,Az (N8 ts s) k=some n->∃u,u<s/\B5 ts u=k/\n=u/3
  | 0,h=>by cases h
  | s+1,h=>by
    have h:Az (BL (N8 ts s) (B5 ts s) (s/3)) k=some n:=h
    rw [Cx] at h
    split at h
    · rename_i e
      injection h with h
      exact ⟨s,by omega,e.symm,h.symm⟩
    · obtain ⟨u,h1,h2,h3⟩:=Ky s h
      exact ⟨u,by omega,h2,h3⟩
theorem Mi {u:Nat}:∀s,u<s->(Az (N8 ts s) (B5 ts u)).isSome=true
  | 0,h=>absurd h (Nat.not_lt_zero _)
  | s+1,h=>by
    show (Az (BL (N8 ts s) (B5 ts s) (s/3)) (B5 ts u)).isSome=true
    rw [Cx]
    split
    · rfl
    · rename_i e
      rcases Nat.lt_or_ge u s with h1|h1
      · exact Mi s h1
      · exact absurd (by rw [show u=s by omega]) e
theorem Ui:YS ts k↔∃u,u<3*ts.length/\B5 ts u=k:=by
  constructor
  · intro h
    obtain ⟨n,h⟩:=Option.isSome_iff_exists.1 h
    obtain ⟨u,h1,h2,_⟩:=Ky _ h
    exact ⟨u,h1,h2⟩
  · rintro ⟨u,h1,rfl⟩
    exact Mi _ h1
theorem Pv {α:Type} [DecidableEq α] {l m:List α} (hn:l.Nodup) (hs:∀x∈l,x∈m):l.length<=m.length:=by
  induction l generalizing m with
  | nil=>exact Nat.zero_le _
  | cons x r ih =>
    have hx:=hs x List.mem_cons_self
    have hn2:=List.nodup_cons.1 hn
    have h:=ih (m:=m.erase x) hn2.2 λy hy=>by
      have:y≠x:=λe=>hn2.1 (e▸hy)
      exact (List.mem_erase_of_ne this).2 (hs y (List.mem_cons_of_mem _ hy))
    rw [List.length_erase_of_mem hx] at h
    have:=List.length_pos_of_mem hx
    simp only [List.length_cons];omega
def Us (ts:List T3):List P2:=(List.range (3*ts.length)).map (B5 ts)
theorem TH (h:YS ts k):k∈Us ts:=by
  obtain ⟨u,hu,rfl⟩:=Ui.1 h
  exact List.mem_map.2 ⟨u,List.mem_range.2 hu,rfl⟩
theorem So:(Us ts).length=3*ts.length:=by simp [Us]
end
structure ZN (ts:List T3) (dn:List (P2×Nat)):Prop where
  ok:G3 Li dn
  bd:∀k n,Az dn k=some n->Zd ts k/\n=1
section
variable {ts:List T3} {N:Nat} {k k0:P2} {i:Nat} {dn dn0:List (P2×Nat)} {l:List Nat}
theorem ZN.len (h:ZN ts dn):dn.length<=3*ts.length:=by
  have h1:(dn.map (·.1)).Nodup:=List.pairwise_map.2 (h.ok.once.imp λ{a b} h e=>h e)
  have h2:=Pv (m:=Us ts) h1 λx hx=>by
    obtain ⟨p,hp,rfl⟩:=List.mem_map.1 hx
    obtain ⟨j,hj,h3⟩:=List.getElem_of_mem hp
    exact TH (h.bd _ _ (It (x:=p.1) (v:=p.2) h.ok.once (by rw [List.getElem?_eq_getElem hj,h3]))).1.1
  rwa [So,List.length_map] at h2
end
section
variable {ts:List T3} {N i:Nat} {dn dn2:List (P2×Nat)} {wq:T3} {l:List Nat}
end
end
section
section
variable {ps:List Pt} {ts:List T3}
end
end
section
def Ln (ps:List Pt) (s t:T3):Prop:=∃(u:Pt) (k:Rat),u≠⟨0,0⟩/\Y_ u k (OP ps s.1) (OP ps s.2.1) (OP ps s.2.2) (OP ps t.1) (OP ps t.2.1) (OP ps t.2.2)
theorem Ln.symm {ps:List Pt} {s t:T3} (h:Ln ps s t):Ln ps t s:=by
  obtain ⟨u,k,hu,⟨h1,h2,h3⟩,h4,h5,h6⟩:=h
  have ng:∀a,dt ⟨-u.x,-u.y⟩ a = -dt u a:=λa=>by unfold dt;grind
  refine ⟨⟨-u.x,-u.y⟩,-k,λe=>hu ?_,⟨?_,?_,?_⟩,?_,?_,?_⟩
  · obtain ⟨x,y⟩:=u
    injection e with e1 e2
    simp only at e1 e2
    rw [show x=0 by grind,show y=0 by grind]
  all_goals rw [ng];grind
section
variable {ps:List Pt} {ts:List T3}
end
end
def YV (md:List (P2×Nat)):Nat->T3->List T3
  | 0,c=>[c]
  | d+1,c=>match Az md (Tt c) with
    | none=>[c]
    | some n=>YV md d (n,c.1,c.2.1)++YV md d (n,c.2.2,c.1)
def Zc (n p:Nat):List Nat:=List.replicate n p
section
section
variable {N:Nat} {es:List E4} {T:T3}
end
end
section
section
variable {m:MQ} {ts:List T3} {a b N:Nat}
theorem Lp {x y:Nat} (hab:a<b) (hxy:x≠y):Bz x y=(a,b)↔(x=a/\y=b)\/(x=b/\y=a):=by
  unfold Bz
  rw [Prod.mk.injEq]
  omega
theorem U5 {t:T3} (hab:a<b) (h:t.1≠t.2.1/\t.2.1≠t.2.2/\t.2.2≠t.1):[Bz t.1 t.2.1,Bz t.2.1 t.2.2,Bz t.2.2 t.1].count (a,b)=if Mp t a=true/\Mp t b=true then 1 else 0:=by
  obtain ⟨h1,h2,h3⟩:=h
  simp only [List.count_cons,List.count_nil,beq_iff_eq,Lp hab h1,Lp hab h2,Lp hab h3,Mp,Bool.or_eq_true,decide_eq_true_eq]
  split<;>split<;>split<;>split<;>omega
theorem SR (hn:B8 N ts=true) (hN:N<=4611686018427387904) (h:(a,b)∈GB ts):a<b/\b<N:=by
  obtain ⟨e,he,rfl,rfl⟩:=(Jq hn hN).1 h
  exact Hz hn hN he
end
end
section
def ZJ (md:List (P2×Nat)) (ts:List T3):List T3:=ts.flatMap (YV md 2)
def ZD (md:List (P2×Nat)) (ts:List T3):Nat->List Nat
  | 0=>[]
  | i+1=>ZD md ts i++Zc (YV md 2 (ts.getD i (0,0,0))).length i
section
variable {md:List (P2×Nat)} {ts ss:List T3} {i N:Nat} {es:List E4}
end
structure Ze (ps:List Pt) (ts ss:List T3) (ms:List Int) where
  l:List E4
  p:E4->Bool
  el:l=(BS ts).filter p
  all:∀e,p e=true↔XD ts (Yo ts ms) (e.a,e.b)
  x:V4 (RJ ps l) (ZJ (FQ ps.length l l.length) ts) (TI ps.length ss l (ZJ (FQ ps.length l l.length) ts)) (ZD (FQ ps.length l l.length) ts ts.length) 0
instance {ps:List Pt} {ts ss:List T3} {ms:List Int}:Ci (Ze ps ts ss ms):=⟨λb=>Ci.val b.x,λb=>Ci.rows b.x,λb y hy=>Ci.ro b.x y hy⟩
section
variable {ts ss:List T3} {N:Nat} {es:List E4} {ms:List Int}
end
section
variable {P:Program} {ops:Array Oper} {rest:List Oper} {Q:Exit->Act->World->Prop} {n d:Nat} {F:List (Nat×Value)} {w0:A_} {S:Nat->Prop} {L:List As} {t:TypeId} {p:String} {af:Array Edge} {y:Operand} {f:FuncId} {xs:List Operand} {args:List Value} {tys:Array TypeId} {ps:List Pt} {ts ss:List T3} {ms:List Int}
end
end
section
section
variable {md:List (P2×Nat)} {N M n a b c e p:Nat} {k κ:P2} {T:T3} {ts ts':List T3}
end
end
section
def bz (l:Nat):Int×Int×Int:=if l=0 then (2,0,0) else if l=1 then (0,2,0) else if l=2 then (0,0,2) else if l=3 then (1,1,0) else if l=4 then (0,1,1) else (1,0,1)
def D3 (i j k:Nat):Int:=(bz i).1*((bz j).2.1*(bz k).2.2-(bz j).2.2*(bz k).2.1)-(bz i).2.1*((bz j).1*(bz k).2.2-(bz j).2.2*(bz k).1)+(bz i).2.2*((bz j).1*(bz k).2.1-(bz j).2.1*(bz k).1)
def Yy (fam:List T3) (l:Nat):Bool:=fam.any λL=>Xf L l
def YW (L:T3) (l:Nat):Bool:=decide (0<=D3 l L.2.1 L.2.2)&&decide (0<=D3 L.1 l L.2.2)&&decide (0<=D3 L.1 L.2.1 l)
instance (fam:List T3):Decidable (∀l,l<6->Yy fam l=true->∀L∈fam,YW L l=true->Xf L l=true):=inferInstance
section
variable {a b c q:Pt} {l i j k:Nat}
end
end
section
section
variable {ps ps':List Pt} {ts ts':List T3} {mv:Nat->Nat->Nat} {fam:T3->List T3} {t s c L:T3} {l k p:Nat}
end
end
section
section
variable {ps:List Pt} {ts ss:List T3} {c:T3}
end
end
section
section
variable {ps:List Pt} {ts us ss:List T3} {N:Nat}
def YL (ps:List Pt) (s t:T3):Prop:=(!YA (US ps s) (US ps t)&&!YA (US ps t) (US ps s))=false
theorem YL.symm {s t:T3} (h:YL ps s t):YL ps t s:=by unfold YL at *;rw [Bool.and_comm];exact h
end
end
section
def Ic (t:T3) (a b:Nat):Bool:=(decide (t.1=a)&&decide (t.2.1=b))||((decide (t.2.1=a)&&decide (t.2.2=b))||(decide (t.2.2=a)&&decide (t.1=b)))
section
variable {ts:List T3} {a b t:Nat}
end
def Vz (t:T3) (a b:Nat):Bool:=Ic t a b||Ic t b a
def HN (ts:List T3) (a b:Nat):Nat->Nat
  | 0=>0
  | t+1=>if Vz (ts.getD t (0,0,0)) a b=true then HN ts a b t+1 else HN ts a b t
def HF (ts:List T3) (a:Nat):Nat->List T3
  | 0=>[]
  | j+1=>if HN ts a (a+1+j) ts.length=1 then HF ts a j++[(a,a+1+j,0)] else HF ts a j
def Nx (ts:List T3) (N:Nat):Nat->List T3
  | 0=>[]
  | a+1=>Nx ts N a++HF ts a (N-(a+1))
section
variable {ts:List T3} {a b N t:Nat}
theorem TP (h:Vz (ts.getD t (0,0,0)) a b=true):HN ts a b (t+1)=HN ts a b t+1:=if_pos h
theorem Vo (h:¬Vz (ts.getD t (0,0,0)) a b=true):HN ts a b (t+1)=HN ts a b t:=if_neg h
theorem Rc {j:Nat} (hj:a+1<=j) (h:HN ts a j ts.length=1):HF ts a (j+1-(a+1))=HF ts a (j-(a+1))++[(a,j,0)]:=by
  rw [show j+1-(a+1)=(j-(a+1))+1 by omega,HF,if_pos (by rw [show a+1+(j-(a+1))=j by omega];exact h),show a+1+(j-(a+1))=j by omega]
theorem UN {j:Nat} (hj:a+1<=j) (h:¬HN ts a j ts.length=1):HF ts a (j+1-(a+1))=HF ts a (j-(a+1)):=by
  rw [show j+1-(a+1)=(j-(a+1))+1 by omega,HF,if_neg (by rw [show a+1+(j-(a+1))=j by omega];exact h)]
theorem GE {s:T3}:∀j,s∈HF ts a j↔s.1=a/\a<s.2.1/\s.2.1<a+1+j/\HN ts s.1 s.2.1 ts.length=1/\s.2.2=0
  | 0=>⟨λh=>(by cases h),λh=>(by omega)⟩
  | j+1=>by
    rw [HF]
    split
    · rename_i hc
      rw [List.mem_append,GE j,List.mem_singleton]
      constructor
      · rintro (h|rfl)
        · exact ⟨h.1,h.2.1,by omega,h.2.2.2⟩
        · exact ⟨rfl,(by show a<a+1+j;omega),(by show a+1+j<a+1+(j+1);omega),hc,rfl⟩
      · rintro ⟨h1,h2,h3,h4,h5⟩
        rcases Nat.lt_or_ge s.2.1 (a+1+j) with h6|h6
        · exact .inl ⟨h1,h2,h6,h4,h5⟩
        · exact .inr (Prod.ext h1 (Prod.ext (show s.2.1=a+1+j by omega) h5))
    · rename_i hc
      rw [GE j]
      constructor
      · exact λh=>⟨h.1,h.2.1,by omega,h.2.2.2⟩
      · rintro ⟨h1,h2,h3,h4,h5⟩
        rcases Nat.lt_or_ge s.2.1 (a+1+j) with h6|h6
        · exact ⟨h1,h2,h6,h4,h5⟩
        · rw [h1,show s.2.1=a+1+j by omega] at h4;exact absurd h4 hc
theorem HI {s:T3}:∀A,s∈Nx ts N A↔s.1<A/\s.1<s.2.1/\s.2.1<N/\HN ts s.1 s.2.1 ts.length=1/\s.2.2=0
  | 0=>⟨λh=>(by cases h),λh=>(by omega)⟩
  | A+1=>by
    rw [Nx,List.mem_append,HI A,GE]
    constructor
    · rintro (h|h)
      · exact ⟨by omega,h.2⟩
      · exact ⟨by omega,by omega,by omega,h.2.2.2⟩
    · rintro ⟨h1,h2,h3,h4⟩
      rcases Nat.lt_or_ge s.1 A with h5|h5
      · exact .inl ⟨h5,h2,h3,h4⟩
      · exact .inr ⟨by omega,by omega,by omega,h4⟩
theorem F3:∀j,(HF ts a j).Pairwise V7
  | 0=>List.Pairwise.nil
  | j+1=>by
    rw [HF]
    split
    · refine List.pairwise_append.2 ⟨F3 j,List.pairwise_singleton _ _,λx hx y hy=>?_⟩
      rw [List.mem_singleton] at hy
      subst hy
      have h:=(GE j).1 hx
      exact .inr ⟨h.1,(by show x.2.1<a+1+j;exact h.2.2.1)⟩
    · exact F3 j
theorem IK:∀A,(Nx ts N A).Pairwise V7
  | 0=>List.Pairwise.nil
  | A+1=>List.pairwise_append.2 ⟨IK A,F3 _,λx hx y hy=>.inl (by
      have h1:=(HI A).1 hx
      have h2:=(GE _).1 hy
      omega)⟩
theorem VF {T:T3} (hab:a<b) (h:T.1≠T.2.1/\T.2.1≠T.2.2/\T.2.2≠T.1):[Bz T.1 T.2.1,Bz T.2.1 T.2.2,Bz T.2.2 T.1].count (a,b)=if Vz T a b=true then 1 else 0:=by
  rw [U5 hab h]
  have e:(Mp T a=true/\Mp T b=true)↔Vz T a b=true:=by
    obtain ⟨x,y,z⟩:=T
    unfold Mp Vz Ic
    simp only [Bool.or_eq_true,Bool.and_eq_true,decide_eq_true_eq,beq_iff_eq] at h ⊢
    omega
  simp only [e]
theorem Lg (hn:B8 N ts=true) (hab:a<b):∀i,i<=ts.length->HN ts a b i=(GB (ts.take i)).count (a,b)
  | 0,_=>rfl
  | i+1,h=>by
    have hi:i<ts.length:=by omega
    rw [BW (d:=(0,0,0)) hi]
    unfold GB
    rw [List.flatMap_append,List.count_append]
    have ih:=Lg hn hab i (by omega)
    unfold GB at ih
    rw [<-ih]
    simp only [List.flatMap_cons,List.flatMap_nil,List.append_nil]
    rw [VF hab (Lb (ED hn hi)),HN]
    split<;>rfl
theorem PZ (hn:B8 N ts=true) (hN:N<=4611686018427387904):Nx ts N N=Bl ts:=by
  refine Nj V7.asymm (IK N) (MH hn hN) λs=>?_
  rw [HI,SM hn hN]
  constructor
  · rintro ⟨_,h2,_,h4,h5⟩
    rw [Lg hn h2 _ (Nat.le_refl _),List.take_length] at h4
    exact ⟨h4,h5⟩
  · rintro ⟨h1,h2⟩
    have hm:(s.1,s.2.1)∈GB ts:=List.count_pos_iff.1 (by omega)
    obtain ⟨k1,k2⟩:=SR hn hN hm
    exact ⟨by omega,k1,k2,by rw [Lg hn k1 _ (Nat.le_refl _),List.take_length];exact h1,h2⟩
end
section
variable {ts:List T3} {a b N t i:Nat}
end
section
variable {ts:List T3} {p n:Nat}
end
end
section
set_option maxRecDepth 100000
theorem Ni {N:Nat} {ts ss:List T3} (x:RM N ts ss) (p:Nat) (w:World) {S:Nat->Prop} (hx:Ro S w x):Calls Tryz.prog 57 #[(aG (Gc x)),(vN p)] w (Ai w (Value.bool (decide (p<N)))):=by
 have lx:=CU (W:=w) hx
 refine Aa (args:=[(aG (Gc x)),(vN p)]) (L:=[AF x.a.p (x.cs),AF x.b.p (rowsL Aq ts),AF x.c.p (x.ds)]) Tryz.func57 rfl rfl (AK rfl) (Ee hx Al) (OkC.subF (sL [0,1] rfl) (q4 (Bg (cs:=Gc x) rfl λb1=>asg' rfl (q3 (sL [1,2,4] rfl) (AO rfl (AG (B_ (c:=(decide (0<=p))) rfl rfl (Q6 (a:=0) (b:=p))) rfl (AO rfl ?_)))))))
 refine OkL.mid (FM:=[(1,(vN p)),(2,(pP b1 0)),(4,(Value.bool false)),(5,(vN p)),(6,(Value.bool (decide (0<=p)))),(7,(Value.bool (decide (0<=p)))),(13,(Value.bool ((decide (0<=p))&&(decide (p<N)))))]) (LM:=[AX b1 39 (Gc x),AF x.a.p (x.cs),AF x.b.p (rowsL Aq ts),AF x.c.p (x.ds)]) 6 ?_ ?_
 ·rcases Bool.eq_false_or_eq_true (decide (0<=p)) with hg1|hg1
  ·skip
   refine OkL.retell (k:=7) (u:=Value.bool true) rfl (by rw [hg1]) ?_
   have hg1':=hg1
   replace hg1':=of_decide_eq_true hg1'
   exact OkL.step (v:=(vN p)) (AB rfl) (Ac rfl) rfl (AK rfl) (OkL.step (v:=(pP b1 0)) (AB rfl) (AA rfl Tryz.underlying39 rfl Tryz.sizeOf36 rfl) rfl (AK rfl) (OkL.step (v:=(Value.slice x.a.p N x.a.c)) (AB rfl) (AE (i:=0) (v:=(Value.slice x.a.p N x.a.c)) rfl rfl G1.a rfl) rfl (AK rfl) (OkL.step (v:=(vN N)) (AB rfl) (AD rfl Tryz.underlying36) rfl (AK rfl) (OkL.step (v:=(Value.bool (decide (p<N)))) (AB rfl) (Af (c:=(decide (p<N))) rfl rfl (B9 (a:=p) (b:=N))) rfl (AK rfl) (AG (v:=(Value.bool (decide (p<N)))) (AN rfl rfl) rfl (OkL.nil (OkQ.mid (sS rfl (sS rfl (sS rfl (sS rfl (sS rfl (sS (by first|rfl|(rw [hg1];rfl)|rw [hg1]) (sS (by first|rfl|(rw [hg1];rfl)|rw [hg1]) (sN)))))))) (List.Sublist.refl _))))))))
  ·skip
   refine OkL.retell (k:=7) (u:=Value.bool false) rfl (by rw [hg1]) ?_
   have hg1':=hg1
   replace hg1':=of_decide_eq_false hg1'
   exact OkL.skip (AC rfl) rfl (AK rfl) (OkL.skip (AC rfl) rfl (AK rfl) (OkL.skip (AC rfl) rfl (AK rfl) (OkL.skip (AC rfl) rfl (AK rfl) (OkL.skip (AC rfl) rfl (AK rfl) (AG (v:=(Value.bool false)) (AJ rfl rfl) rfl (OkL.nil (OkQ.mid (sS rfl (sS rfl (sS rfl (sS rfl (sS rfl (sS (by first|rfl|(rw [hg1];rfl)|rw [hg1]) (sS (by first|rfl|(rw [hg1];rfl)|rw [hg1]) (sN)))))))) (List.Sublist.refl _))))))))
 exact asg' rfl (OkL.nil (OkQ.subF (sL [4] rfl) (OkQ.then_ (OkC.ret (ret_one rfl (rd_tmp (v:=(Value.bool ((decide (0<=p))&&(decide (p<N))))) rfl) (λw hw=>⟨by simp,hw.out⟩))))))
theorem Pg (t:T3) (a b:Nat) (w:World)  :Calls Tryz.prog 111 #[(aG (Aq t)),(vN a),(vN b)] w (Ai w (Value.bool (Ic t a b))):=by
 refine AZ (args:=[(aG (Aq t)),(vN a),(vN b)]) Tryz.func111 rfl rfl (AK rfl) (OkC.subF (sL [0,1,2] rfl) (q4 (Bg (cs:=Aq t) rfl λb1=>asg' rfl (q3 (sL [1,2,3,6] rfl) (AG (v:=(pP b1 0)) (AH (j:=0) rfl rfl Tryz.underlying105 Tryz.sizeOf3 rfl (by decide) rfl) rfl (Aw 0 (vN t.1) BH rfl (AO rfl (AG (BE (c:=(decide (t.1=a))) rfl rfl (L5 (a:=t.1) (b:=a))) rfl (AO rfl ?_)))))))))
 refine OkL.mid (FM:=[(1,(vN a)),(2,(vN b)),(3,(pP b1 0)),(6,(Value.bool false)),(7,(pP b1 0)),(8,(vN t.1)),(9,(vN a)),(10,(Value.bool (decide (t.1=a)))),(11,(Value.bool (decide (t.1=a)))),(16,(Value.bool ((decide (t.1=a))&&(decide (t.2.1=b)))))]) (LM:=[AX b1 105 (Aq t)]) 5 ?_ ?_
 ·rcases Bool.eq_false_or_eq_true (decide (t.1=a)) with hg1|hg1
  ·skip
   refine OkL.retell (k:=11) (u:=Value.bool true) rfl (by rw [hg1]) ?_
   have hg1':=hg1
   replace hg1':=of_decide_eq_true hg1'
   exact OkL.step (v:=(pP b1 1)) (AB rfl) (AH (j:=1) rfl rfl Tryz.underlying105 Tryz.sizeOf3 rfl (by decide) rfl) rfl (AK rfl) (OkL.step (v:=(vN t.2.1)) (AB rfl) (AE (i:=0) (v:=(vN t.2.1)) rfl rfl BH.a rfl) rfl (AK rfl) (OkL.step (v:=(vN b)) (AB rfl) (Ac rfl) rfl (AK rfl) (OkL.step (v:=(Value.bool (decide (t.2.1=b)))) (AB rfl) (BE (c:=(decide (t.2.1=b))) rfl rfl (L5 (a:=t.2.1) (b:=b))) rfl (AK rfl) (AG (v:=(Value.bool (decide (t.2.1=b)))) (AN rfl rfl) rfl (OkL.nil (OkQ.mid (sS rfl (sS rfl (sS rfl (sS rfl (sS rfl (sS rfl (sS rfl (sS rfl (sS (by first|rfl|(rw [hg1];rfl)|rw [hg1]) (sS (by first|rfl|(rw [hg1];rfl)|rw [hg1]) (sN))))))))))) (List.Sublist.refl _)))))))
  ·skip
   refine OkL.retell (k:=11) (u:=Value.bool false) rfl (by rw [hg1]) ?_
   have hg1':=hg1
   replace hg1':=of_decide_eq_false hg1'
   exact OkL.skip (AC rfl) rfl (AK rfl) (OkL.skip (AC rfl) rfl (AK rfl) (OkL.skip (AC rfl) rfl (AK rfl) (OkL.skip (AC rfl) rfl (AK rfl) (AG (v:=(Value.bool false)) (AJ rfl rfl) rfl (OkL.nil (OkQ.mid (sS rfl (sS rfl (sS rfl (sS rfl (sS rfl (sS rfl (sS rfl (sS rfl (sS (by first|rfl|(rw [hg1];rfl)|rw [hg1]) (sS (by first|rfl|(rw [hg1];rfl)|rw [hg1]) (sN))))))))))) (List.Sublist.refl _)))))))
 refine AO rfl ?_
 refine OkL.mid (FM:=[(1,(vN a)),(2,(vN b)),(3,(pP b1 0)),(6,(Value.bool false)),(7,(pP b1 0)),(8,(vN t.1)),(9,(vN a)),(10,(Value.bool (decide (t.1=a)))),(11,(Value.bool (decide (t.1=a)))),(16,(Value.bool ((decide (t.1=a))&&(decide (t.2.1=b))))),(17,(Value.bool ((decide (t.1=a))&&(decide (t.2.1=b))))),(28,(Value.bool (((decide (t.1=a))&&(decide (t.2.1=b)))||((decide (t.2.1=a))&&(decide (t.2.2=b))))))]) (LM:=[AX b1 105 (Aq t)]) 11 ?_ ?_
 ·rcases Bool.eq_false_or_eq_true ((decide (t.1=a))&&(decide (t.2.1=b))) with hg2|hg2
  ·skip
   refine OkL.retell (k:=17) (u:=Value.bool true) rfl (by rw [hg2]) ?_
   have hg2':=hg2
   simp only [Bool.and_eq_true,Bool.or_eq_true,Bool.and_eq_false_iff,Bool.or_eq_false_iff,Bool.not_eq_true',Bool.not_eq_false',decide_eq_true_eq,decide_eq_false_iff_not] at hg2'
   exact OkL.skip (AC rfl) rfl (AK rfl) (OkL.skip (AC rfl) rfl (AK rfl) (OkL.skip (AC rfl) rfl (AK rfl) (OkL.skip (AC rfl) rfl (AK rfl) (OkL.skip (AC rfl) rfl (AK rfl) (OkL.skip (BM rfl rfl rfl) rfl (AK rfl) (OkL.skip (BM rfl rfl rfl) rfl (AK rfl) (OkL.skip (BM rfl rfl rfl) rfl (AK rfl) (OkL.skip (BM rfl rfl rfl) rfl (AK rfl) (OkL.skip (AC rfl) rfl (AK rfl) (AG (v:=(Value.bool true)) (AN rfl rfl) rfl (OkL.nil (OkQ.mid (sS rfl (sS rfl (sS rfl (sS rfl (sS rfl (sS rfl (sS rfl (sS rfl (sS rfl (sS rfl (sS (by first|rfl|(rw [hg2];rfl)|rw [hg2]) (sS (by first|rfl|(rw [hg2];rfl)|rw [hg2]) (sN))))))))))))) (List.Sublist.refl _)))))))))))))
  ·skip
   refine OkL.retell (k:=17) (u:=Value.bool false) rfl (by rw [hg2]) ?_
   have hg2':=hg2
   simp only [Bool.and_eq_true,Bool.or_eq_true,Bool.and_eq_false_iff,Bool.or_eq_false_iff,Bool.not_eq_true',Bool.not_eq_false',decide_eq_true_eq,decide_eq_false_iff_not] at hg2'
   refine OkL.step (v:=(pP b1 1)) (AB rfl) (AH (j:=1) rfl rfl Tryz.underlying105 Tryz.sizeOf3 rfl (by decide) rfl) rfl (AK rfl) (OkL.step (v:=(vN t.2.1)) (AB rfl) (AE (i:=0) (v:=(vN t.2.1)) rfl rfl BH.a rfl) rfl (AK rfl) (OkL.step (v:=(vN a)) (AB rfl) (Ac rfl) rfl (AK rfl) (OkL.step (v:=(Value.bool (decide (t.2.1=a)))) (AB rfl) (BE (c:=(decide (t.2.1=a))) rfl rfl (L5 (a:=t.2.1) (b:=a))) rfl (AK rfl) (OkL.step (v:=(Value.bool (decide (t.2.1=a)))) (AB rfl) (Ac rfl) rfl (AK rfl) ?_))))
   refine OkL.mid (FM:=[(1,(vN a)),(2,(vN b)),(3,(pP b1 0)),(6,(Value.bool false)),(7,(pP b1 0)),(8,(vN t.1)),(9,(vN a)),(10,(Value.bool (decide (t.1=a)))),(11,(Value.bool (decide (t.1=a)))),(16,(Value.bool ((decide (t.1=a))&&(decide (t.2.1=b))))),(17,(Value.bool false)),(18,(pP b1 1)),(19,(vN t.2.1)),(20,(vN a)),(21,(Value.bool (decide (t.2.1=a)))),(22,(Value.bool (decide (t.2.1=a)))),(27,(Value.bool ((decide (t.2.1=a))&&(decide (t.2.2=b)))))]) (LM:=[AX b1 105 (Aq t)]) 5 ?_ ?_
   ·rcases Bool.eq_false_or_eq_true (decide (t.2.1=a)) with hg3|hg3
    ·skip
     refine OkL.retell (k:=22) (u:=Value.bool true) rfl (by rw [hg3]) ?_
     have hg3':=hg3
     replace hg3':=of_decide_eq_true hg3'
     exact OkL.step (v:=(pP b1 2)) (AB rfl) (AH (j:=2) rfl rfl Tryz.underlying105 Tryz.sizeOf3 rfl (by decide) rfl) rfl (AK rfl) (OkL.step (v:=(vN t.2.2)) (AB rfl) (AE (i:=0) (v:=(vN t.2.2)) rfl rfl BH.a rfl) rfl (AK rfl) (OkL.step (v:=(vN b)) (AB rfl) (Ac rfl) rfl (AK rfl) (OkL.step (v:=(Value.bool (decide (t.2.2=b)))) (AB rfl) (BE (c:=(decide (t.2.2=b))) rfl rfl (L5 (a:=t.2.2) (b:=b))) rfl (AK rfl) (OkL.step (v:=(Value.bool (decide (t.2.2=b)))) (AB rfl) (AN rfl rfl) rfl (AK rfl) (OkL.nil (OkQ.mid (sS rfl (sS rfl (sS rfl (sS rfl (sS rfl (sS rfl (sS rfl (sS rfl (sS rfl (sS rfl (sS rfl (sS rfl (sS rfl (sS rfl (sS rfl (sS (by first|rfl|(rw [hg3];rfl)|rw [hg3]) (sS (by first|rfl|(rw [hg3];rfl)|rw [hg3]) (sN)))))))))))))))))) (List.Sublist.refl _)))))))
    ·skip
     refine OkL.retell (k:=22) (u:=Value.bool false) rfl (by rw [hg3]) ?_
     have hg3':=hg3
     replace hg3':=of_decide_eq_false hg3'
     exact OkL.skip (AC rfl) rfl (AK rfl) (OkL.skip (AC rfl) rfl (AK rfl) (OkL.skip (AC rfl) rfl (AK rfl) (OkL.skip (AC rfl) rfl (AK rfl) (OkL.step (v:=(Value.bool false)) (AB rfl) (AJ rfl rfl) rfl (AK rfl) (OkL.nil (OkQ.mid (sS rfl (sS rfl (sS rfl (sS rfl (sS rfl (sS rfl (sS rfl (sS rfl (sS rfl (sS rfl (sS rfl (sS rfl (sS rfl (sS rfl (sS rfl (sS (by first|rfl|(rw [hg3];rfl)|rw [hg3]) (sS (by first|rfl|(rw [hg3];rfl)|rw [hg3]) (sN)))))))))))))))))) (List.Sublist.refl _)))))))
   exact AG (v:=(Value.bool ((decide (t.2.1=a))&&(decide (t.2.2=b))))) (AJ rfl rfl) rfl (OkL.nil (OkQ.mid (sS rfl (sS rfl (sS rfl (sS rfl (sS rfl (sS rfl (sS rfl (sS rfl (sS rfl (sS rfl (sS (by first|rfl|(rw [hg2];rfl)|rw [hg2]) (sS (by first|rfl|(rw [hg2];rfl)|rw [hg2]) (sN))))))))))))) (List.Sublist.refl _)))
 refine AO rfl ?_
 refine OkL.mid (FM:=[(1,(vN a)),(2,(vN b)),(3,(pP b1 0)),(6,(Value.bool false)),(7,(pP b1 0)),(8,(vN t.1)),(9,(vN a)),(10,(Value.bool (decide (t.1=a)))),(11,(Value.bool (decide (t.1=a)))),(16,(Value.bool ((decide (t.1=a))&&(decide (t.2.1=b))))),(17,(Value.bool ((decide (t.1=a))&&(decide (t.2.1=b))))),(28,(Value.bool (((decide (t.1=a))&&(decide (t.2.1=b)))||((decide (t.2.1=a))&&(decide (t.2.2=b)))))),(29,(Value.bool (((decide (t.1=a))&&(decide (t.2.1=b)))||((decide (t.2.1=a))&&(decide (t.2.2=b)))))),(40,(Value.bool ((((decide (t.1=a))&&(decide (t.2.1=b)))||((decide (t.2.1=a))&&(decide (t.2.2=b))))||((decide (t.2.2=a))&&(decide (t.1=b))))))]) (LM:=[AX b1 105 (Aq t)]) 11 ?_ ?_
 ·rcases Bool.eq_false_or_eq_true (((decide (t.1=a))&&(decide (t.2.1=b)))||((decide (t.2.1=a))&&(decide (t.2.2=b)))) with hg4|hg4
  ·skip
   refine OkL.retell (k:=29) (u:=Value.bool true) rfl (by rw [hg4]) ?_
   have hg4':=hg4
   simp only [Bool.and_eq_true,Bool.or_eq_true,Bool.and_eq_false_iff,Bool.or_eq_false_iff,Bool.not_eq_true',Bool.not_eq_false',decide_eq_true_eq,decide_eq_false_iff_not] at hg4'
   exact OkL.skip (AC rfl) rfl (AK rfl) (OkL.skip (AC rfl) rfl (AK rfl) (OkL.skip (AC rfl) rfl (AK rfl) (OkL.skip (AC rfl) rfl (AK rfl) (OkL.skip (AC rfl) rfl (AK rfl) (OkL.skip (BM rfl rfl rfl) rfl (AK rfl) (OkL.skip (BM rfl rfl rfl) rfl (AK rfl) (OkL.skip (BM rfl rfl rfl) rfl (AK rfl) (OkL.skip (BM rfl rfl rfl) rfl (AK rfl) (OkL.skip (AC rfl) rfl (AK rfl) (AG (v:=(Value.bool true)) (AN rfl rfl) rfl (OkL.nil (OkQ.mid (sS rfl (sS rfl (sS rfl (sS rfl (sS rfl (sS rfl (sS rfl (sS rfl (sS rfl (sS rfl (sS rfl (sS rfl (sS (by first|rfl|(rw [hg4];rfl)|rw [hg4]) (sS (by first|rfl|(rw [hg4];rfl)|rw [hg4]) (sN))))))))))))))) (List.Sublist.refl _)))))))))))))
  ·skip
   refine OkL.retell (k:=29) (u:=Value.bool false) rfl (by rw [hg4]) ?_
   have hg4':=hg4
   simp only [Bool.and_eq_true,Bool.or_eq_true,Bool.and_eq_false_iff,Bool.or_eq_false_iff,Bool.not_eq_true',Bool.not_eq_false',decide_eq_true_eq,decide_eq_false_iff_not] at hg4'
   refine OkL.step (v:=(pP b1 2)) (AB rfl) (AH (j:=2) rfl rfl Tryz.underlying105 Tryz.sizeOf3 rfl (by decide) rfl) rfl (AK rfl) (OkL.step (v:=(vN t.2.2)) (AB rfl) (AE (i:=0) (v:=(vN t.2.2)) rfl rfl BH.a rfl) rfl (AK rfl) (OkL.step (v:=(vN a)) (AB rfl) (Ac rfl) rfl (AK rfl) (OkL.step (v:=(Value.bool (decide (t.2.2=a)))) (AB rfl) (BE (c:=(decide (t.2.2=a))) rfl rfl (L5 (a:=t.2.2) (b:=a))) rfl (AK rfl) (OkL.step (v:=(Value.bool (decide (t.2.2=a)))) (AB rfl) (Ac rfl) rfl (AK rfl) ?_))))
   refine OkL.mid (FM:=[(1,(vN a)),(2,(vN b)),(3,(pP b1 0)),(6,(Value.bool false)),(7,(pP b1 0)),(8,(vN t.1)),(9,(vN a)),(10,(Value.bool (decide (t.1=a)))),(11,(Value.bool (decide (t.1=a)))),(16,(Value.bool ((decide (t.1=a))&&(decide (t.2.1=b))))),(17,(Value.bool ((decide (t.1=a))&&(decide (t.2.1=b))))),(28,(Value.bool (((decide (t.1=a))&&(decide (t.2.1=b)))||((decide (t.2.1=a))&&(decide (t.2.2=b)))))),(29,(Value.bool false)),(30,(pP b1 2)),(31,(vN t.2.2)),(32,(vN a)),(33,(Value.bool (decide (t.2.2=a)))),(34,(Value.bool (decide (t.2.2=a)))),(39,(Value.bool ((decide (t.2.2=a))&&(decide (t.1=b)))))]) (LM:=[AX b1 105 (Aq t)]) 5 ?_ ?_
   ·rcases Bool.eq_false_or_eq_true (decide (t.2.2=a)) with hg5|hg5
    ·skip
     refine OkL.retell (k:=34) (u:=Value.bool true) rfl (by rw [hg5]) ?_
     have hg5':=hg5
     replace hg5':=of_decide_eq_true hg5'
     exact OkL.step (v:=(pP b1 0)) (AB rfl) (AH (j:=0) rfl rfl Tryz.underlying105 Tryz.sizeOf3 rfl (by decide) rfl) rfl (AK rfl) (OkL.step (v:=(vN t.1)) (AB rfl) (AE (i:=0) (v:=(vN t.1)) rfl rfl BH.a rfl) rfl (AK rfl) (OkL.step (v:=(vN b)) (AB rfl) (Ac rfl) rfl (AK rfl) (OkL.step (v:=(Value.bool (decide (t.1=b)))) (AB rfl) (BE (c:=(decide (t.1=b))) rfl rfl (L5 (a:=t.1) (b:=b))) rfl (AK rfl) (OkL.step (v:=(Value.bool (decide (t.1=b)))) (AB rfl) (AN rfl rfl) rfl (AK rfl) (OkL.nil (OkQ.mid (sS rfl (sS rfl (sS rfl (sS rfl (sS rfl (sS rfl (sS rfl (sS rfl (sS rfl (sS rfl (sS rfl (sS rfl (sS rfl (sS rfl (sS rfl (sS rfl (sS rfl (sS (by first|rfl|(rw [hg5];rfl)|rw [hg5]) (sS (by first|rfl|(rw [hg5];rfl)|rw [hg5]) (sN)))))))))))))))))))) (List.Sublist.refl _)))))))
    ·skip
     refine OkL.retell (k:=34) (u:=Value.bool false) rfl (by rw [hg5]) ?_
     have hg5':=hg5
     replace hg5':=of_decide_eq_false hg5'
     exact OkL.skip (AC rfl) rfl (AK rfl) (OkL.skip (AC rfl) rfl (AK rfl) (OkL.skip (AC rfl) rfl (AK rfl) (OkL.skip (AC rfl) rfl (AK rfl) (OkL.step (v:=(Value.bool false)) (AB rfl) (AJ rfl rfl) rfl (AK rfl) (OkL.nil (OkQ.mid (sS rfl (sS rfl (sS rfl (sS rfl (sS rfl (sS rfl (sS rfl (sS rfl (sS rfl (sS rfl (sS rfl (sS rfl (sS rfl (sS rfl (sS rfl (sS rfl (sS rfl (sS (by first|rfl|(rw [hg5];rfl)|rw [hg5]) (sS (by first|rfl|(rw [hg5];rfl)|rw [hg5]) (sN)))))))))))))))))))) (List.Sublist.refl _)))))))
   exact AG (v:=(Value.bool ((decide (t.2.2=a))&&(decide (t.1=b))))) (AJ rfl rfl) rfl (OkL.nil (OkQ.mid (sS rfl (sS rfl (sS rfl (sS rfl (sS rfl (sS rfl (sS rfl (sS rfl (sS rfl (sS rfl (sS rfl (sS rfl (sS (by first|rfl|(rw [hg4];rfl)|rw [hg4]) (sS (by first|rfl|(rw [hg4];rfl)|rw [hg4]) (sN))))))))))))))) (List.Sublist.refl _)))
 exact asg' rfl (OkL.nil (OkQ.subF (sL [6] rfl) (OkQ.then_ (OkC.ret (ret_one rfl (rd_tmp (v:=(Value.bool ((((decide (t.1=a))&&(decide (t.2.1=b)))||((decide (t.2.1=a))&&(decide (t.2.2=b))))||((decide (t.2.2=a))&&(decide (t.1=b)))))) rfl) (λw hw=>⟨by first|rfl|simp [Ic,Bool.or_assoc],hw.out⟩))))))
theorem Vu {N:Nat} {ts ss:List T3} (x:RM N ts ss) (hnb:B8 N ts=true) (hl:ts.length<=1000000) (hN:N<=1000000) (w:World) {S:Nat->Prop} (hx:Ro S w x):Calls Tryz.prog 45 #[(aG (Gc x))] w (Ai w (Value.bool true)):=by
 have lx:=CU (W:=w) hx
 refine Aa (args:=[(aG (Gc x))]) (L:=[AF x.a.p (x.cs),AF x.b.p (rowsL Aq ts),AF x.c.p (x.ds)]) Tryz.func45 rfl rfl (AK rfl) (Ee hx Al) (OkC.subF (sL [0] rfl) (q4 (Bg (cs:=Gc x) rfl λb1=>asg' rfl (q6 (sL [1,2] rfl) (q4 (asg' rfl (OkL.nil (OkQ.then_ (OkC.block ?_)))))))))
 refine OkC.lp1 (tg λ(i:Nat)=>i<=ts.length) (tg λ(i:Nat)=>[(1,(pP b1 0)),(3,(vN i))]) (tg λ(i:Nat)=>[AX b1 39 (Gc x),AF x.a.p (x.cs),AF x.b.p (rowsL Aq ts),AF x.c.p (x.ds)]) (tg λ(i:Nat)=>ts.length-i) 0 (Nat.zero_le _) (sF rfl) sr (λi hJ=>?_)
 have hi:=hJ
 refine OkC.seq (q4 (AO rfl (AG (v:=(pP b1 1)) (AA rfl Tryz.underlying39 rfl Tryz.sizeOf23 rfl) rfl (Aw 0 (Value.slice x.b.p ts.length x.b.c) Ds rfl (AG (v:=(vN ts.length)) (AD rfl Tryz.underlying23) rfl (AG (Af (c:=(decide (i<ts.length))) rfl rfl (B9 (a:=i) (b:=ts.length))) rfl (OkL.nil (OkQ.subF (sL [1,3,9] rfl) (OkQ.then_ ?_)))))))))
 refine OkC.cond rfl (λhc0=>?_) (λhc0=>?_)
 ·replace hc0:=of_decide_eq_true hc0
  obtain ⟨T,hT⟩:∃q,q=ts.getD i (0,0,0):=⟨_,rfl⟩
  obtain ⟨g1,g2,g3⟩:=FB (ED hnb hc0)
  obtain ⟨n1,n2,n3⟩:=Lb (ED hnb hc0)
  rw [<-hT] at g1 g2 g3 n1 n2 n3
  refine OkC.skip (q1 (OkC.block (q4 (AG (v:=(pP b1 1)) (AA rfl Tryz.underlying39 rfl Tryz.sizeOf23 rfl) rfl (Aw 0 (Value.slice x.b.p ts.length x.b.c) Ds rfl (AO rfl (AG (v:=(pP (pB x.b.p) (pO x.b.p+i*3))) (AI (j:=i) rfl rfl x.b.ok Tryz.underlying23 Tryz.sizeOf105 rfl (by omega)) rfl (AG (v:=(aG (Aq (ts.getD i ((0,0,0):Nat×Nat×Nat))))) (AU (vs:=Aq (ts.getD i ((0,0,0):Nat×Nat×Nat))) (i:=2) rfl rfl (Ak.ne x.b.ok (by omega)) FC (An BF _ _ _ (by omega)) (BF _)) rfl (OkL.retell (k:=16) (u:=(aG (Aq T))) rfl (by rw [hT]) (al NR rfl λb2=>Ay rfl Tryz.sizeOf105 rfl ?_))))))))))
  refine q3 (sL [1,3,4] rfl) (BU 1 D_ rfl (AG (v:=(pP b2 0)) (AH (j:=0) rfl rfl Tryz.underlying105 Tryz.sizeOf3 rfl (by decide) rfl) rfl (Aw 0 (vN T.1) BH rfl (Cq (args:=[(aG (Gc x)),(vN T.1)]) (v:=(Value.bool true)) Tryz.call57 (λw hw=>(by have h9:=Ni x T.1 w (inS hw 2 rfl lx);rw [decide_eq_true (by omega)] at h9;exact h9)) rfl (AG (Be (c:=false) rfl rfl) rfl (AO rfl (OkL.step (v:=(aG (Gc x))) (AB rfl) (BA (i:=1) (vs:=Gc x) rfl rfl D_.a D_.s rfl rfl) rfl (AK rfl) (OkL.step (v:=(pP b2 1)) (AB rfl) (AH (j:=1) rfl rfl Tryz.underlying105 Tryz.sizeOf3 rfl (by decide) rfl) rfl (AK rfl) (OkL.step (v:=(vN T.2.1)) (AB rfl) (AE (i:=0) (v:=(vN T.2.1)) rfl rfl BH.a rfl) rfl (AK rfl) (OkL.call (v:=(Value.bool true)) (AB rfl) (Ap (args:=[(aG (Gc x)),(vN T.2.1)]) rfl rfl Tryz.call57) (λw hw=>(by have h9:=Ni x T.2.1 w (inS hw 2 rfl lx);rw [decide_eq_true (by omega)] at h9;exact h9)) rfl (AK rfl) (OkL.step (v:=(Value.bool false)) (AB rfl) (Be (c:=false) rfl rfl) rfl (AK rfl) ?_)))))))))))
  refine AG (v:=(Value.bool false)) (AJ rfl rfl) rfl (AO rfl (OkL.step (v:=(aG (Gc x))) (AB rfl) (BA (i:=1) (vs:=Gc x) rfl rfl D_.a D_.s rfl rfl) rfl (AK rfl) (OkL.step (v:=(pP b2 2)) (AB rfl) (AH (j:=2) rfl rfl Tryz.underlying105 Tryz.sizeOf3 rfl (by decide) rfl) rfl (AK rfl) (OkL.step (v:=(vN T.2.2)) (AB rfl) (AE (i:=0) (v:=(vN T.2.2)) rfl rfl BH.a rfl) rfl (AK rfl) (OkL.call (v:=(Value.bool true)) (AB rfl) (Ap (args:=[(aG (Gc x)),(vN T.2.2)]) rfl rfl Tryz.call57) (λw hw=>(by have h9:=Ni x T.2.2 w (inS hw 2 rfl lx);rw [decide_eq_true (by omega)] at h9;exact h9)) rfl (AK rfl) (OkL.step (v:=(Value.bool false)) (AB rfl) (Be (c:=false) rfl rfl) rfl (AK rfl) (AG (v:=(Value.bool false)) (AJ rfl rfl) rfl (AO rfl (OkL.step (v:=(pP b2 0)) (AB rfl) (AH (j:=0) rfl rfl Tryz.underlying105 Tryz.sizeOf3 rfl (by decide) rfl) rfl (AK rfl) (OkL.step (v:=(vN T.1)) (AB rfl) (AE (i:=0) (v:=(vN T.1)) rfl rfl BH.a rfl) rfl (AK rfl) (OkL.step (v:=(pP b2 1)) (AB rfl) (AH (j:=1) rfl rfl Tryz.underlying105 Tryz.sizeOf3 rfl (by decide) rfl) rfl (AK rfl) ?_)))))))))))
  refine OkL.step (v:=(vN T.2.1)) (AB rfl) (AE (i:=0) (v:=(vN T.2.1)) rfl rfl BH.a rfl) rfl (AK rfl) (OkL.step (v:=(Value.bool false)) (AB rfl) (BE (c:=false) rfl rfl (decide_eq_false (by omega))) rfl (AK rfl) (AG (v:=(Value.bool false)) (AJ rfl rfl) rfl (AO rfl (OkL.step (v:=(pP b2 0)) (AB rfl) (AH (j:=0) rfl rfl Tryz.underlying105 Tryz.sizeOf3 rfl (by decide) rfl) rfl (AK rfl) (OkL.step (v:=(vN T.1)) (AB rfl) (AE (i:=0) (v:=(vN T.1)) rfl rfl BH.a rfl) rfl (AK rfl) (OkL.step (v:=(pP b2 2)) (AB rfl) (AH (j:=2) rfl rfl Tryz.underlying105 Tryz.sizeOf3 rfl (by decide) rfl) rfl (AK rfl) (OkL.step (v:=(vN T.2.2)) (AB rfl) (AE (i:=0) (v:=(vN T.2.2)) rfl rfl BH.a rfl) rfl (AK rfl) (OkL.step (v:=(Value.bool false)) (AB rfl) (BE (c:=false) rfl rfl (decide_eq_false (by omega))) rfl (AK rfl) (AG (v:=(Value.bool false)) (AJ rfl rfl) rfl (AO rfl (OkL.step (v:=(pP b2 1)) (AB rfl) (AH (j:=1) rfl rfl Tryz.underlying105 Tryz.sizeOf3 rfl (by decide) rfl) rfl (AK rfl) ?_)))))))))))
  refine OkL.step (v:=(vN T.2.1)) (AB rfl) (AE (i:=0) (v:=(vN T.2.1)) rfl rfl BH.a rfl) rfl (AK rfl) (OkL.step (v:=(pP b2 2)) (AB rfl) (AH (j:=2) rfl rfl Tryz.underlying105 Tryz.sizeOf3 rfl (by decide) rfl) rfl (AK rfl) (OkL.step (v:=(vN T.2.2)) (AB rfl) (AE (i:=0) (v:=(vN T.2.2)) rfl rfl BH.a rfl) rfl (AK rfl) (OkL.step (v:=(Value.bool false)) (AB rfl) (BE (c:=false) rfl rfl (decide_eq_false (by omega))) rfl (AK rfl) (AG (v:=(Value.bool false)) (AJ rfl rfl) rfl (OkL.nil (OkQ.subF (sL [1,3,4,56] rfl) (OkQ.then_ (OkC.cond_false rfl (OkC.skip (OkQ.in_normal (OkQ.then_ ?_)))))))))))
  exact OkC.region (AO rfl (AG (AY (c:=((i+1:Nat):Int)) rfl rfl (AT (a:=i) (b:=1) (by omega))) rfl (asg' rfl (OkL.nil (OkQ.subF (sL [1,3,4] rfl) (OkQ.round1 (i+1) (by omega) (by omega) (sF rfl) (sl sr)))))))
 ·replace hc0:=of_decide_eq_false hc0
  exact OkC.exit (OkQ.then_exit (OkQ.round1_exit (OkQ.in_exit (q2 (asg' rfl (OkL.nil (OkQ.then_ (OkC.ret (ret_one rfl (rd_tmp (v:=(Value.bool true)) rfl) (λw hw=>⟨rfl,hw.out⟩))))))))))
end
end Go.Proofs.YtpolhpjiahbidaaGreatDoor
