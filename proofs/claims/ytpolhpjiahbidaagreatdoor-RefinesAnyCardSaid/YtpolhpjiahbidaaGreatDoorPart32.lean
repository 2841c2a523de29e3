import Derived.Test.YtpolhpjiahbidaaGreatDoorPart06
import Derived.Test.YtpolhpjiahbidaaGreatDoorPart17
import Derived.Test.YtpolhpjiahbidaaGreatDoorPart18
import Derived.Test.YtpolhpjiahbidaaGreatDoorPart22
import Derived.Test.YtpolhpjiahbidaaGreatDoorPart24
import Derived.Test.YtpolhpjiahbidaaGreatDoorPart25
namespace Go.Proofs.YtpolhpjiahbidaaGreatDoor
open Go Go.RowKit Go.Proofs.Tryz
set_option linter.unusedVariables false
set_option linter.unusedSimpArgs false
section
theorem SZ (a b:T3):(((a.1:Int) == (b.1:Int))&&(((a.2.1:Int) == (b.2.1:Int))&&(((a.2.2:Int) == (b.2.2:Int))&&true)))=decide (a=b):=by
  obtain ⟨a1,a2,a3⟩:=a
  obtain ⟨b1,b2,b3⟩:=b
  rw [Bool.eq_iff_iff]
  simp
  constructor<;>(rintro ⟨h1,h2,h3⟩;refine ⟨?_,?_,?_⟩<;>omega)
theorem Xv (D:Nat) (a b:T3):Eo prog (D+2) 105 (.agg (Ad a).toArray) (.agg (Ad b).toArray) (decide (a=b)):=by
  rw [<-SZ]
  exact Eo.array underlying105 NI Lj (P6.one isAgg3 O O (Eo.int underlying3) (P6.one isAgg3 O O (Eo.int underlying3) (P6.one isAgg3 O O (Eo.int underlying3) P6.nil)))
theorem SY (D:Nat) (a b:T3):Eo prog (D+2) 110 (.agg (Ad a).toArray) (.agg (Ad b).toArray) (decide (a=b)):=by
  rw [<-SZ]
  exact Eo.struct underlying110 Tryz.stoodInHeld110 (H3.one (by decide) isAgg3 O O (Eo.int underlying3) (H3.one (by decide) isAgg3 O O (Eo.int underlying3) (H3.one (by decide) isAgg3 O O (Eo.int underlying3) H3.nil)))
theorem ND (D:Nat) {a b:T3} (h:a=b):Eo prog (D+2) 105 (.agg (Ad a).toArray) (.agg (Ad b).toArray) true:=by
  have:=Xv D a b;rwa [decide_eq_true h] at this
theorem HM (D:Nat) {a b:T3} (h:a=b):Eo prog (D+2) 110 (.agg (Ad a).toArray) (.agg (Ad b).toArray) true:=by
  have:=SY D a b;rwa [decide_eq_true h] at this
theorem H5 (b n:Nat):Av (some ⟨b,0,none⟩) n n:=⟨λe=>(by cases e),λa e=>(by injection e with e;subst e;rfl),Nat.le_refl _⟩
theorem XS {ps:List Pt} {k:Nat} (h:(ps.all λp=>decide (Ds p<=k))=true) (h0:Ds (⟨0,0⟩:Pt)<=k) (i:Nat):Ds (OJ ps i)<=k:=by
  unfold OJ
  rcases Nat.lt_or_ge i ps.length with hi|hi
  · rw [List.getD,List.getElem?_eq_getElem hi]
    exact of_decide_eq_true (List.all_eq_true.1 h _ (List.getElem_mem hi))
  · rw [List.getD,List.getElem?_eq_none hi];exact h0
section
variable {P:Program} {ops:Array Oper} {rest:List Oper} {Q:Exit->Act->World->Prop} {n:Nat} {F:List (Nat×Value)} {w0:A_} {S:Nat->Prop} {L:List As} {ps:List Pt} {ts ss:List T3}
theorem O1 {w:World} {i b:Nat} {T:TypeId} {cs:List Value} (hw:BD w0 w L) (hi:L[i]?=some (AU b T cs)) (hex:w0.ex=none):w0.w.heap.size<=b:=by
  rcases (hw.2.1 _ (List.mem_of_getElem? hi) b rfl).1 with h1|h1|h1
  · cases h1
  · exact h1
  · rw [hex] at h1;cases h1
theorem OkL.litM {b1 b2 b3 U1 U2 U3:Nat} {cs1 cs2 cs3:List Value} (LL:MX ps ts ss->List As) (i j k:Nat) (hn:i≠j/\i≠k/\j≠k) (h1:L[i]?=some (AU b1 U1 cs1)) (h2:L[j]?=some (AU b2 U2 cs2)) (h3:L[k]?=some (AU b3 U3 cs3)) (hex:w0.ex=none)
    (e:(cs1,cs2,cs3)=(rowsL BC ps,rowsL Ad ts,rowsL Ad ss))
    (hL:((L.set i (AE (some ⟨b1,0,none⟩) cs1)).set j (AE (some ⟨b2,0,none⟩) cs2)).set k (AE (some ⟨b3,0,none⟩) cs3)=LL ⟨⟨some ⟨b1,0,none⟩,ps.length,H5 _ _⟩,⟨some ⟨b2,0,none⟩,ts.length,H5 _ _⟩,⟨some ⟨b3,0,none⟩,ss.length,H5 _ _⟩⟩)
    (next:∀mm:MX ps ts ss,At w0 S mm->OkL P ops rest Q n F w0 (LL mm)):OkL P ops rest Q n F w0 L:=λa w ha hw=>by
  have n1:=O1 hw h1 hex
  have n2:=O1 hw h2 hex
  have n3:=O1 hw h3 hex
  have w1:=hw.freeze (x:=AU b1 U1 cs1) (y:=AE (some ⟨b1,0,none⟩) cs1) h1 rfl (λo hp=>Gk hp) (λe=>by cases e)
  have w2:=w1.freeze (i:=j) (x:=AU b2 U2 cs2) (y:=AE (some ⟨b2,0,none⟩) cs2) (by rw [List.getElem?_set_ne hn.1];exact h2) rfl (λo hp=>Gk hp) (λe=>by cases e)
  have w3:=w2.freeze (i:=k) (x:=AU b3 U3 cs3) (y:=AE (some ⟨b3,0,none⟩) cs3) (by rw [List.getElem?_set_ne hn.2.2,List.getElem?_set_ne hn.2.1];exact h3) rfl (λo hp=>Gk hp) (λe=>by cases e)
  rw [hL] at w3
  refine next _ (λy hy b eb=>?_) a w ha w3
  have hy:y∈[AE (some ⟨b1,0,none⟩) (rowsL BC ps),AE (some ⟨b2,0,none⟩) (rowsL Ad ts),AE (some ⟨b3,0,none⟩) (rowsL Ad ss)]:=hy
  simp only [List.mem_cons,List.not_mem_nil,or_false] at hy
  rcases hy with rfl|rfl|rfl<;>(injection eb with eb;subst eb;exact .inl (by assumption))
end
theorem aw {α:Type} [Cc α] {w0:A_} {w:World} {S:Nat->Prop} {L:List As} (hw:BD w0 w L) (is:List Nat) {a:α} (hi:(is.map λi=>L[i]?)=(Cc.rows a).map some) (ha:At w0 S a):Ro (SL w0 S L) w a:=λy hy=>by
  have h1:some y∈(is.map λi=>L[i]?):=by rw [hi];exact List.mem_map.2 ⟨y,hy,rfl⟩
  obtain ⟨i,_,h2⟩:=List.mem_map.1 h1
  have hm:=List.mem_of_getElem? h2
  exact ⟨λb e=>(hw.2.1 y hm b e).2,λb e=>⟨⟨y,hm,Cc.ro a y hy,e⟩,ha y hy b e⟩⟩
end
def ak (p q:Pt):Prop:=p.x<q.x\/(p.x=q.x/\p.y<q.y)
instance (p q:Pt):Decidable (ak p q):=by unfold ak;infer_instance
abbrev T2:=P2×P2×P2
section
def Y3 (t:Tq3) (p:Nat):Bool:=t.1 == p||t.2.1 == p||t.2.2 == p
section
variable {ps:List Pt} {ts:List (Tq3)}
end
end
section
abbrev Q3:=Pt×Pt×Pt
def WS (ps:List Pt) (t:T3):Q3:=(OJ ps t.1,OJ ps t.2.1,OJ ps t.2.2)
def Z7 (p q r:Pt):Bool:=decide (0<(Ig p q r).num.sign)
def XU (p q:Pt) (B:Q3):Bool:=Z7 p q B.1||Z7 p q B.2.1||Z7 p q B.2.2
def Yl (A B:Q3):Bool:=!XU A.1 A.2.1 B||(!XU A.2.1 A.2.2 B||!XU A.2.2 A.1 B)
section
variable {P:Program} {ops:Array Oper} {rest:List Oper} {Q:Exit->Act->World->Prop} {n d i z m c:Nat} {F:List (Nat×Value)} {w0:A_} {L L':List As} {t ty T:TypeId} {p:String} {af:Array Edge} {x y:Operand} {cs vs:List Value} {q:Option Addr} {v:Value}
end
section
variable {P:Program} {n:Nat} {F:List (Nat×Value)} {w0:A_} {L:List As} {x:Operand} {d:Option Tmp} {t:TypeId} {p:String} {af:Array Edge} {g:Option (Nat×Bool)}
end
end

section
section
variable {ts:List T3} {ps:List Pt} {p:Int} {i:Nat}
end
end
section
def dt (a b:Pt):Rat:=a.x*b.y-a.y*b.x
section
variable {p q r s u w:Pt}
end
section
variable {a b c d e f u:Pt}
def Z0 (u:Pt) (k:Rat) (a b c d e f:Pt):Prop:=(k<=dt u a/\k<=dt u b/\k<=dt u c)/\dt u d<=k/\dt u e<=k/\dt u f<=k
end
end
section
abbrev M3:=List Pt×List T3×List T3
def aL (M:M3):Prop:=M.1.length+(An M.2.1).length<=4096/\4*M.2.1.length<=8192
instance (M:M3):Decidable (aL M):=inferInstanceAs (Decidable (_/\_))
theorem MU (ts:List T3):(An ts).length<=3*ts.length:=by rw [Gi];exact Ga _
structure aq (ps:List Pt) (ts ss:List T3) (e:Nat) where
  m:MX ps ts ss
instance {ps:List Pt} {ts ss:List T3} {e:Nat}:Cc (aq ps ts ss e):=⟨λx=>.tuple #[aG (FT x.m),vN e],λx=>Cc.rows x.m,λx y hy=>Cc.ro x.m y hy⟩
section
variable {P:Program} {ops:Array Oper} {rest:List Oper} {Q:Exit->Act->World->Prop} {n d:Nat} {F:List (Nat×Value)} {w0:A_} {S:Nat->Prop} {L:List As} {t:TypeId} {p:String} {af:Array Edge} {y:Operand} {f:FuncId} {xs:List Operand} {args:List Value} {tys:Array TypeId} {ps:List Pt} {ts ss:List T3} {e:Nat}
end
def Zs (ts:List T3):List Value:=vI (-1)::vN 0::vN 1::rowsL Ad ts
structure MB (ps:List Pt) (ts ss:List T3) where
  a:RX (rowsL BC ps) ps.length
  b:RX (Zs ts) (1+ts.length)
  c:RX (rowsL Ad ss) ss.length
def av {ps:List Pt} {ts ss:List T3} (x:MB ps ts ss):List Value:=[x.a.val,x.b.val,x.c.val]
theorem ZO {ps:List Pt} {ts ss:List T3} {x:MB ps ts ss} {y:As} (hy:y∈[x.a.row,x.b.row,x.c.row]):y.ro=true:=by
  simp only [List.mem_cons,List.not_mem_nil,or_false] at hy
  rcases hy with rfl|rfl|rfl<;>rfl
instance {ps:List Pt} {ts ss:List T3}:Cc (MB ps ts ss):=⟨λx=>aG (av x),λx=>[x.a.row,x.b.row,x.c.row],λx y hy=>ZO hy⟩
end
section
def Yd {α β:Type} (b:Nat) (enc:α->Value) (eV:β->Value) (kvs:List (α×β)):As:=⟨some b,λo=>o=.map (entsM enc eV kvs 0).toArray kvs.length,true⟩
section
variable {α β:Type} [DecidableEq α] {enc:α->Value} {eV:β->Value} {ok:α->Prop} {P:Program} {kt:TypeId} {n:Nat} {F:List (Nat×Value)} {w0:A_} {L:List As} {d:Option Tmp} {tx et t b:Nat} {pp:String} {af:Array Edge} {g:Option (Nat×Bool)} {mp kp:Operand}
end
def Uu (t:T3):P2:=Bw t.2.1 t.2.2
def Zz (ts:List T3) (ms:List Int) (k:P2):Prop:=∃z∈ms,0<=z/\z<(ts.length:Int)/\k=Uu (ts.getD z.toNat (0,0,0))
inductive YW (ts:List T3) (S:P2->Prop):P2->Prop
  | start {k:P2}:S k->YW ts S k
  | up {t:T3} {k:P2}:t∈ts->YW ts S k->(k=Bw t.1 t.2.1\/k=Bw t.2.2 t.1)->YW ts S (Uu t)
section
variable {ts:List T3} {ms:List Int} {i:Nat} {kvs:List (P2×Nat)}
end
structure HC (ts:List T3) (ms:List Int) where
  b:Nat
  kvs:List (P2×Nat)
  ok:Hi Ml kvs
  one:∀k,A7 kvs k=none\/A7 kvs k=some 1
  all:∀k,A7 kvs k=some 1↔YW ts (Zz ts ms) k
instance {ts:List T3} {ms:List Int}:Cc (HC ts ms):=⟨λx=>.map (some x.b),λx=>[Yd x.b E3 vN x.kvs],λx y hy=>by rcases List.mem_singleton.1 hy with rfl;rfl⟩
structure DX (ts:List T3) (ms:List Int) where
  l:List E4
  r:RX (rowsL BY l) l.length
  p:E4->Bool
  el:l=(An ts).filter p
  all:∀e,p e=true↔YW ts (Zz ts ms) (e.a,e.b)
  hc:r.c=l.length
instance {ts:List T3} {ms:List Int}:Cc (DX ts ms):=⟨λx=>x.r.val,λx=>[x.r.row],λx y hy=>by rcases List.mem_singleton.1 hy with rfl;rfl⟩
end
section
def Om (ts:List T3):Nat->List (P2×Nat)
  | 0=>[]
  | s+1=>BN (Om ts s) (B4 ts s) (s/3)
section
variable {ts:List T3} {N t r s:Nat}
end
structure SX (ts:List T3) (o:Bool) where
  b:Nat
  kvs:List (P2×Nat)
  ok:Hi Ml kvs
  fin:o=true->kvs=Om ts (3*ts.length)
instance {ts:List T3} {o:Bool}:Cc (SX ts o):=⟨λx=>.tuple #[.map (some x.b),.bool o],λx=>[Yd x.b E3 vN x.kvs],λx y hy=>by rcases List.mem_singleton.1 hy with rfl;rfl⟩
end
section
section
variable {P:Program} {Q:Exit->Act->World->Prop} {n:Nat} {F:List (Nat×Value)} {w0:A_} {L:List As} {c x y:Code}
def VD {α β γ δ ε ζ η:Type} (n:Nat) (w0:A_) (J:α->β->γ->δ->ε->ζ->η->Prop) (FI:α->β->γ->δ->ε->ζ->η->List (Nat×Value)) (LI:α->β->γ->δ->ε->ζ->η->List As) (m:α->β->γ->δ->ε->ζ->η->Nat) (i:α) (j:β) (k:γ) (l:δ) (o:ε) (q:ζ) (r:η) (Q:Exit->Act->World->Prop):Exit->Act->World->Prop :=
  Exit.then (λa w=>∃i' j' k' l' o' q' r',J i' j' k' l' o' q' r'/\m i' j' k' l' o' q' r'<m i j k l o q r/\Cn n a (FI i' j' k' l' o' q' r')/\BD w0 w (LI i' j' k' l' o' q' r')) Q
theorem OkC.loop7 {α β γ δ ε ζ η:Type} (J:α->β->γ->δ->ε->ζ->η->Prop) (FI:α->β->γ->δ->ε->ζ->η->List (Nat×Value)) (LI:α->β->γ->δ->ε->ζ->η->List As) (m:α->β->γ->δ->ε->ζ->η->Nat) (round:∀i j k l o q r,J i j k l o q r->OkC P c (VD n w0 J FI LI m i j k l o q r Q) n (FI i j k l o q r) w0 (LI i j k l o q r))
    (i:α) (j:β) (k:γ) (l:δ) (o:ε) (q:ζ) (r:η) (h:J i j k l o q r):OkC P (.loop c) Q n (FI i j k l o q r) w0 (LI i j k l o q r) :=
  OkC.loop (σ:=α×β×γ×δ×ε×ζ×η) (λs=>J s.1 s.2.1 s.2.2.1 s.2.2.2.1 s.2.2.2.2.1 s.2.2.2.2.2.1 s.2.2.2.2.2.2) (λs=>FI s.1 s.2.1 s.2.2.1 s.2.2.2.1 s.2.2.2.2.1 s.2.2.2.2.2.1 s.2.2.2.2.2.2) (λs=>LI s.1 s.2.1 s.2.2.1 s.2.2.2.1 s.2.2.2.2.1 s.2.2.2.2.2.1 s.2.2.2.2.2.2) (λs=>m s.1 s.2.1 s.2.2.1 s.2.2.2.1 s.2.2.2.2.1 s.2.2.2.2.2.1 s.2.2.2.2.2.2) (λs hs a w ha hw=>by
    refine Code.wp_mono (λe a' w' hq=>?_) (round s.1 s.2.1 s.2.2.1 s.2.2.2.1 s.2.2.2.2.1 s.2.2.2.2.2.1 s.2.2.2.2.2.2 hs a w ha hw)
    cases e<;>first
      | (obtain ⟨i',j',k',l',o',q',r',h1,h2,h3,h4⟩:=hq;exact ⟨(i',j',k',l',o',q',r'),h1,h2,h3,h4⟩)
      | exact hq) (i,j,k,l,o,q,r) h
theorem OkC.lp7 {α β γ δ ε ζ η:Type} {J:α->β->γ->δ->ε->ζ->η->Prop} {FI:α->β->γ->δ->ε->ζ->η->List (Nat×Value)} {LI:α->β->γ->δ->ε->ζ->η->List As} {m:α->β->γ->δ->ε->ζ->η->Nat} (_:Tg J) (_:Tg FI) (_:Tg LI) (_:Tg m) (i:α) (j:β) (k:γ) (l:δ) (o:ε) (q:ζ) (r:η) (h:J i j k l o q r) (hs:DH (FI i j k l o q r) F) (hl:(LI i j k l o q r).Sublist L)
    (round:∀i j k l o q r,J i j k l o q r->OkC P c (VD n w0 J FI LI m i j k l o q r Q) n (FI i j k l o q r) w0 (LI i j k l o q r)):OkC P (.loop c) Q n F w0 L:=OkC.sub hs hl (OkC.loop7 J FI LI m round i j k l o q r h)
theorem OkQ.round7 {α β γ δ ε ζ η:Type} {J:α->β->γ->δ->ε->ζ->η->Prop} {FI:α->β->γ->δ->ε->ζ->η->List (Nat×Value)} {LI:α->β->γ->δ->ε->ζ->η->List As} {m:α->β->γ->δ->ε->ζ->η->Nat} {i:α} {j:β} {k:γ} {l:δ} {o:ε} {q:ζ} {r:η} (i':α) (j':β) (k':γ) (l':δ) (o':ε) (q':ζ) (r':η) (hJ:J i' j' k' l' o' q' r') (hm:m i' j' k' l' o' q' r'<m i j k l o q r) (hs:DH (FI i' j' k' l' o' q' r') F) (hl:(LI i' j' k' l' o' q' r').Sublist L):OkQ (VD n w0 J FI LI m i j k l o q r Q) .normal n F w0 L:=λ_ _ ha hw=>⟨i',j',k',l',o',q',r',hJ,hm,ha.sub hs,hw.weak hl⟩
theorem OkQ.round7_exit {α β γ δ ε ζ η:Type} {J:α->β->γ->δ->ε->ζ->η->Prop} {FI:α->β->γ->δ->ε->ζ->η->List (Nat×Value)} {LI:α->β->γ->δ->ε->ζ->η->List As} {m:α->β->γ->δ->ε->ζ->η->Nat} {i:α} {j:β} {k:γ} {l:δ} {o:ε} {q:ζ} {r:η} {id:Nat} (h:OkQ Q (.exit id) n F w0 L):OkQ (VD n w0 J FI LI m i j k l o q r Q) (.exit id) n F w0 L:=h
end
end
section
abbrev bG (ts:List T3):List (P2×Nat):=Om ts (3*ts.length)
def a0 (k:P2):P2:=(k.2,k.1)
def ZZ (ts:List T3) (k:P2):Prop:=(A7 (bG ts) k).isSome=true
def ay (ts:List T3) (k:P2):Prop:=ZZ ts k/\¬ZZ ts (a0 k)
section
variable {ts:List T3} {N:Nat} {k k0:P2} {i:Nat}
theorem LE {n:Nat}:∀s,A7 (Om ts s) k=some n->∃u,u<s/\B4 ts u=k/\n=u/3
  | 0,h=>by cases h
  | s+1,h=>by
    have h:A7 (BN (Om ts s) (B4 ts s) (s/3)) k=some n:=h
    rw [C1] at h
    split at h
    · rename_i e
      injection h with h
      exact ⟨s,Z,e.symm,h.symm⟩
    · obtain ⟨u,h1,h2,h3⟩:=LE s h
      exact ⟨u,Z,h2,h3⟩
theorem N8 {u:Nat}:∀s,u<s->(A7 (Om ts s) (B4 ts u)).isSome=true
  | 0,h=>absurd h (Nat.not_lt_zero _)
  | s+1,h=>by
    show (A7 (BN (Om ts s) (B4 ts s) (s/3)) (B4 ts u)).isSome=true
    rw [C1]
    split
    · rfl
    · rename_i e
      rcases Nat.lt_or_ge u s with h1|h1
      · exact N8 s h1
      · exact absurd (by rw [show u=s by omega]) e
theorem VV:ZZ ts k↔∃u,u<3*ts.length/\B4 ts u=k:=by
  constructor
  · intro h
    obtain ⟨n,h⟩:=Option.isSome_iff_exists.1 h
    obtain ⟨u,h1,h2,_⟩:=LE _ h
    exact ⟨u,h1,h2⟩
  · rintro ⟨u,h1,rfl⟩
    exact N8 _ h1
theorem Qx {α:Type} [DecidableEq α] {l m:List α} (hn:l.Nodup) (hs:∀x∈l,x∈m):l.length<=m.length:=by
  induction l generalizing m with
  | nil=>exact Nat.zero_le _
  | cons x r ih =>
    have hx:=hs x List.mem_cons_self
    have hn2:=List.nodup_cons.1 hn
    have h:=ih (m:=m.erase x) hn2.2 λy hy=>by
      have:y≠x:=λe=>hn2.1 (e▸hy)
      exact (List.mem_erase_of_ne this).2 (hs y (List.mem_cons_of_mem _ hy))
    rw [List.length_erase_of_mem hx] at h
    have:=List.length_pos_of_mem hx
    simp only [List.length_cons];omega
def WR (ts:List T3):List P2:=(List.range (3*ts.length)).map (B4 ts)
theorem SF (h:ZZ ts k):k∈WR ts:=by
  obtain ⟨u,hu,rfl⟩:=VV.1 h
  exact List.mem_map.2 ⟨u,List.mem_range.2 hu,rfl⟩
theorem S_:(WR ts).length=3*ts.length:=by simp [WR]
end
structure aj (ts:List T3) (dn:List (P2×Nat)):Prop where
  ok:Hi Ml dn
  bd:∀k n,A7 dn k=some n->ay ts k/\n=1
section
variable {ts:List T3} {N:Nat} {k k0:P2} {i:Nat} {dn dn0:List (P2×Nat)} {l:List Nat}
theorem aj.len (h:aj ts dn):dn.length<=3*ts.length:=by
  have h1:(dn.map (·.1)).Nodup:=List.pairwise_map.2 (h.ok.once.imp λ{a b} h e=>h e)
  have h2:=Qx (m:=WR ts) h1 λx hx=>by
    obtain ⟨p,hp,rfl⟩:=List.mem_map.1 hx
    obtain ⟨j,hj,h3⟩:=List.getElem_of_mem hp
    exact SF (h.bd _ _ (I4 (x:=p.1) (v:=p.2) h.ok.once (by rw [List.getElem?_eq_getElem hj,h3]))).1.1
  rwa [S_,List.length_map] at h2
end
section
variable {ts:List T3} {N i:Nat} {dn dn2:List (P2×Nat)} {wq:T3} {l:List Nat}
end
end
section
section
variable {ps:List Pt} {ts:List T3}
end
end
section
def Ln (ps:List Pt) (s t:T3):Prop:=∃(u:Pt) (k:Rat),u≠⟨0,0⟩/\Z0 u k (OJ ps s.1) (OJ ps s.2.1) (OJ ps s.2.2) (OJ ps t.1) (OJ ps t.2.1) (OJ ps t.2.2)
theorem Ln.symm {ps:List Pt} {s t:T3} (h:Ln ps s t):Ln ps t s:=by
  obtain ⟨u,k,hu,⟨h1,h2,h3⟩,h4,h5,h6⟩:=h
  have ng:∀a,dt ⟨-u.x,-u.y⟩ a = -dt u a:=λa=>by unfold dt;grind
  refine ⟨⟨-u.x,-u.y⟩,-k,λe=>hu ?_,⟨?_,?_,?_⟩,?_,?_,?_⟩
  · obtain ⟨x,y⟩:=u
    injection e with e1 e2
    simp only at e1 e2
    rw [show x=0 by grind,show y=0 by grind]
  all_goals rw [ng];grind
section
variable {ps:List Pt} {ts:List T3}
end
end
def Zc (md:List (P2×Nat)):Nat->T3->List T3
  | 0,c=>[c]
  | d+1,c=>match A7 md (Uu c) with
    | none=>[c]
    | some n=>Zc md d (n,c.1,c.2.1)++Zc md d (n,c.2.2,c.1)
def a8 (n p:Nat):List Nat:=List.replicate n p
section
section
variable {N:Nat} {es:List E4} {T:T3}
end
end
section
section
variable {m:MQ} {ts:List T3} {a b N:Nat}
theorem L5 {x y:Nat} (hab:a<b) (hxy:x≠y):Bw x y=(a,b)↔(x=a/\y=b)\/(x=b/\y=a):=by
  unfold Bw
  rw [Prod.mk.injEq]
  omega
theorem Vz {t:T3} (hab:a<b) (h:t.1≠t.2.1/\t.2.1≠t.2.2/\t.2.2≠t.1):[Bw t.1 t.2.1,Bw t.2.1 t.2.2,Bw t.2.2 t.1].count (a,b)=if NE t a=true/\NE t b=true then 1 else 0:=by
  obtain ⟨h1,h2,h3⟩:=h
  simp only [List.count_cons,List.count_nil,beq_iff_eq,L5 hab h1,L5 hab h2,L5 hab h3,NE,Bool.or_eq_true,decide_eq_true_eq]
  split<;>split<;>split<;>split<;>omega
theorem NU (hn:Bn N ts=true) (hN:N<=4611686018427387904) (h:(a,b)∈FD ts):a<b/\b<N:=by
  obtain ⟨e,he,rfl,rfl⟩:=(Hm hn hN).1 h
  exact IJ hn hN he
end
end
section
def aZ (md:List (P2×Nat)) (ts:List T3):List T3:=ts.flatMap (Zc md 2)
def ah (md:List (P2×Nat)) (ts:List T3):Nat->List Nat
  | 0=>[]
  | i+1=>ah md ts i++a8 (Zc md 2 (ts.getD i (0,0,0))).length i
section
variable {md:List (P2×Nat)} {ts ss:List T3} {i N:Nat} {es:List E4}
end
structure an (ps:List Pt) (ts ss:List T3) (ms:List Int) where
  l:List E4
  p:E4->Bool
  el:l=(An ts).filter p
  all:∀e,p e=true↔YW ts (Zz ts ms) (e.a,e.b)
  x:W2 (Sf ps l) (aZ (DZ ps.length l l.length) ts) (TZ ps.length ss l (aZ (DZ ps.length l l.length) ts)) (ah (DZ ps.length l l.length) ts ts.length) 0
instance {ps:List Pt} {ts ss:List T3} {ms:List Int}:Cc (an ps ts ss ms):=⟨λb=>Cc.val b.x,λb=>Cc.rows b.x,λb y hy=>Cc.ro b.x y hy⟩
section
variable {ts ss:List T3} {N:Nat} {es:List E4} {ms:List Int}
end
section
variable {P:Program} {ops:Array Oper} {rest:List Oper} {Q:Exit->Act->World->Prop} {n d:Nat} {F:List (Nat×Value)} {w0:A_} {S:Nat->Prop} {L:List As} {t:TypeId} {p:String} {af:Array Edge} {y:Operand} {f:FuncId} {xs:List Operand} {args:List Value} {tys:Array TypeId} {ps:List Pt} {ts ss:List T3} {ms:List Int}
end
end
section
section
variable {md:List (P2×Nat)} {N M n a b c e p:Nat} {k κ:P2} {T:T3} {ts ts':List T3}
end
end
section
def bz (l:Nat):Int×Int×Int:=if l=0 then (2,0,0) else if l=1 then (0,2,0) else if l=2 then (0,0,2) else if l=3 then (1,1,0) else if l=4 then (0,1,1) else (1,0,1)
def D3 (i j k:Nat):Int:=(bz i).1*((bz j).2.1*(bz k).2.2-(bz j).2.2*(bz k).2.1)-(bz i).2.1*((bz j).1*(bz k).2.2-(bz j).2.2*(bz k).1)+(bz i).2.2*((bz j).1*(bz k).2.1-(bz j).2.1*(bz k).1)
def Z1 (fam:List T3) (l:Nat):Bool:=fam.any λL=>Y3 L l
def aB (L:T3) (l:Nat):Bool:=decide (0<=D3 l L.2.1 L.2.2)&&decide (0<=D3 L.1 l L.2.2)&&decide (0<=D3 L.1 L.2.1 l)
instance (fam:List T3):Decidable (∀l,l<6->Z1 fam l=true->∀L∈fam,aB L l=true->Y3 L l=true):=inferInstance
section
variable {a b c q:Pt} {l i j k:Nat}
end
end
section
section
variable {ps ps':List Pt} {ts ts':List T3} {mv:Nat->Nat->Nat} {fam:T3->List T3} {t s c L:T3} {l k p:Nat}
end
end
section
section
variable {ps:List Pt} {ts ss:List T3} {c:T3}
end
end
section
section
variable {ps:List Pt} {ts us ss:List T3} {N:Nat}
def Zb (ps:List Pt) (s t:T3):Prop:=(!Yl (WS ps s) (WS ps t)&&!Yl (WS ps t) (WS ps s))=false
theorem Zb.symm {s t:T3} (h:Zb ps s t):Zb ps t s:=by unfold Zb at *;rw [Bool.and_comm];exact h
end
end
section
def Da (t:T3) (a b:Nat):Bool:=(decide (t.1=a)&&decide (t.2.1=b))||((decide (t.2.1=a)&&decide (t.2.2=b))||(decide (t.2.2=a)&&decide (t.1=b)))
def HS (ts:List T3) (a b:Nat):Nat->Int
  | 0 => -1
  | n+1=>if HS ts a b n = -1 then (if Da (ts.getD n (0,0,0)) a b=true then (n:Int) else -1) else HS ts a b n
section
variable {ts:List T3} {a b t:Nat}
theorem JL:∀n,(∀j,j<n->Da (ts.getD j (0,0,0)) a b=false)->HS ts a b n = -1
  | 0,_=>rfl
  | n+1,h=>by
    rw [HS,JL n λj hj=>h j Z,if_pos rfl,h n Z]
    rfl
theorem N_:∀n,t<n->Da (ts.getD t (0,0,0)) a b=true->(∀j,j<t->Da (ts.getD j (0,0,0)) a b=false)->HS ts a b n=(t:Int)
  | 0,h,_,_=>absurd h (Nat.not_lt_zero _)
  | n+1,h,h1,h2=>by
    rw [HS]
    rcases Nat.lt_or_ge t n with k|k
    · rw [N_ n k h1 h2,if_neg Z]
    · have e:n=t:=by omega
      subst e
      rw [JL n h2,if_pos rfl,if_pos h1]
end
def XI (t:T3) (a b:Nat):Bool:=Da t a b||Da t b a
def Hx (ts:List T3) (a b:Nat):Nat->Nat
  | 0=>0
  | t+1=>if XI (ts.getD t (0,0,0)) a b=true then Hx ts a b t+1 else Hx ts a b t
def Hd (ts:List T3) (a:Nat):Nat->List T3
  | 0=>[]
  | j+1=>if Hx ts a (a+1+j) ts.length=1 then Hd ts a j++[(a,a+1+j,0)] else Hd ts a j
def Oy (ts:List T3) (N:Nat):Nat->List T3
  | 0=>[]
  | a+1=>Oy ts N a++Hd ts a (N-(a+1))
section
variable {ts:List T3} {a b N t:Nat}
theorem S7 (h:XI (ts.getD t (0,0,0)) a b=true):Hx ts a b (t+1)=Hx ts a b t+1:=if_pos h
theorem V5 (h:¬XI (ts.getD t (0,0,0)) a b=true):Hx ts a b (t+1)=Hx ts a b t:=if_neg h
theorem Tj {j:Nat} (hj:a+1<=j) (h:Hx ts a j ts.length=1):Hd ts a (j+1-(a+1))=Hd ts a (j-(a+1))++[(a,j,0)]:=by
  rw [show j+1-(a+1)=(j-(a+1))+1 by omega,Hd,if_pos (by rw [show a+1+(j-(a+1))=j by omega];exact h),show a+1+(j-(a+1))=j by omega]
theorem WB {j:Nat} (hj:a+1<=j) (h:¬Hx ts a j ts.length=1):Hd ts a (j+1-(a+1))=Hd ts a (j-(a+1)):=by
  rw [show j+1-(a+1)=(j-(a+1))+1 by omega,Hd,if_neg (by rw [show a+1+(j-(a+1))=j by omega];exact h)]
theorem F9 {s:T3}:∀j,s∈Hd ts a j↔s.1=a/\a<s.2.1/\s.2.1<a+1+j/\Hx ts s.1 s.2.1 ts.length=1/\s.2.2=0
  | 0=>⟨λh=>(by cases h),λh=>Z⟩
  | j+1=>by
    rw [Hd]
    split
    · rename_i hc
      rw [List.mem_append,F9 j,List.mem_singleton]
      constructor
      · rintro (h|rfl)
        · exact ⟨h.1,h.2.1,Z,h.2.2.2⟩
        · exact ⟨rfl,(by show a<a+1+j;omega),(by show a+1+j<a+1+(j+1);omega),hc,rfl⟩
      · rintro ⟨h1,h2,h3,h4,h5⟩
        rcases Nat.lt_or_ge s.2.1 (a+1+j) with h6|h6
        · exact .inl ⟨h1,h2,h6,h4,h5⟩
        · exact .inr (Prod.ext h1 (Prod.ext (show s.2.1=a+1+j by omega) h5))
    · rename_i hc
      rw [F9 j]
      constructor
      · exact λh=>⟨h.1,h.2.1,Z,h.2.2.2⟩
      · rintro ⟨h1,h2,h3,h4,h5⟩
        rcases Nat.lt_or_ge s.2.1 (a+1+j) with h6|h6
        · exact ⟨h1,h2,h6,h4,h5⟩
        · rw [h1,show s.2.1=a+1+j by omega] at h4;exact absurd h4 hc
theorem HX {s:T3}:∀A,s∈Oy ts N A↔s.1<A/\s.1<s.2.1/\s.2.1<N/\Hx ts s.1 s.2.1 ts.length=1/\s.2.2=0
  | 0=>⟨λh=>(by cases h),λh=>Z⟩
  | A+1=>by
    rw [Oy,List.mem_append,HX A,F9]
    constructor
    · rintro (h|h)
      · exact ⟨Z,h.2⟩
      · exact ⟨Z,Z,Z,h.2.2.2⟩
    · rintro ⟨h1,h2,h3,h4⟩
      rcases Nat.lt_or_ge s.1 A with h5|h5
      · exact .inl ⟨h5,h2,h3,h4⟩
      · exact .inr ⟨Z,Z,Z,h4⟩
theorem F_:∀j,(Hd ts a j).Pairwise XH
  | 0=>List.Pairwise.nil
  | j+1=>by
    rw [Hd]
    split
    · refine List.pairwise_append.2 ⟨F_ j,List.pairwise_singleton _ _,λx hx y hy=>?_⟩
      rw [List.mem_singleton] at hy
      subst hy
      have h:=(F9 j).1 hx
      exact .inr ⟨h.1,(by show x.2.1<a+1+j;exact h.2.2.1)⟩
    · exact F_ j
theorem If:∀A,(Oy ts N A).Pairwise XH
  | 0=>List.Pairwise.nil
  | A+1=>List.pairwise_append.2 ⟨If A,F_ _,λx hx y hy=>.inl (by
      have h1:=(HX A).1 hx
      have h2:=(F9 _).1 hy
      omega)⟩
theorem WL {T:T3} (hab:a<b) (h:T.1≠T.2.1/\T.2.1≠T.2.2/\T.2.2≠T.1):[Bw T.1 T.2.1,Bw T.2.1 T.2.2,Bw T.2.2 T.1].count (a,b)=if XI T a b=true then 1 else 0:=by
  rw [Vz hab h]
  have e:(NE T a=true/\NE T b=true)↔XI T a b=true:=by
    obtain ⟨x,y,z⟩:=T
    unfold NE XI Da
    simp only [Bool.or_eq_true,Bool.and_eq_true,decide_eq_true_eq,beq_iff_eq] at h ⊢
    omega
  simp only [e]
theorem ME (hn:Bn N ts=true) (hab:a<b):∀i,i<=ts.length->Hx ts a b i=(FD (ts.take i)).count (a,b)
  | 0,_=>rfl
  | i+1,h=>by
    have hi:i<ts.length:=by omega
    rw [Bf (d:=(0,0,0)) hi]
    unfold FD
    rw [List.flatMap_append,List.count_append]
    have ih:=ME hn hab i Z
    unfold FD at ih
    rw [<-ih]
    simp only [List.flatMap_cons,List.flatMap_nil,List.append_nil]
    rw [WL hab (L6 (Dh hn hi)),Hx]
    split<;>rfl
theorem QT (hn:Bn N ts=true) (hN:N<=4611686018427387904):Oy ts N N=Bl ts:=by
  refine JP XH.asymm (If N) (Mt hn hN) λs=>?_
  rw [HX,TP hn hN]
  constructor
  · rintro ⟨_,h2,_,h4,h5⟩
    rw [ME hn h2 _ (Nat.le_refl _),List.take_length] at h4
    exact ⟨h4,h5⟩
  · rintro ⟨h1,h2⟩
    have hm:(s.1,s.2.1)∈FD ts:=List.count_pos_iff.1 Z
    obtain ⟨k1,k2⟩:=NU hn hN hm
    exact ⟨Z,k1,k2,by rw [ME hn k1 _ (Nat.le_refl _),List.take_length];exact h1,h2⟩
end
section
variable {ts:List T3} {a b N t i:Nat}
end
section
variable {ts:List T3} {p n:Nat}
end
end
end Go.Proofs.YtpolhpjiahbidaaGreatDoor
