import Derived.WideKeyEntry
import Derived.Test.YtcpkbjjmcleplaaGreatDoorPart25
namespace Go.Proofs.YtcpkbjjmcleplaaGreatDoor
open Go Go.RowKit Go.Proofs.Tryz
open Go.Value renaming slice→qz,bool→qa
set_option linter.unusedVariables false
set_option linter.unusedSimpArgs false
section
section
variable {α β:Type} {enc:α->Value} {eV:β->Value} {ok:α->Prop} {P:Program} {kt:TypeId} {n:Nat} {F:List (Nat×Value)} {w0:Av} {L:List As} {d:Nat} {mp kp vp sp:Operand} {t:TypeId} {pp:String} {af:Array Edge} {g:Option (Nat×Bool)} {tx et:TypeId} {b:Nat} {ops:Array Oper} {rest:List Oper} {Q:Exit->Act->World->Prop}
variable [DecidableEq α]
end
end
section
abbrev T3:=Tq3
section
variable {ts ts':List T3} {N:Nat}
def Ua (ts:List T3) (j a b:Nat):Prop:=∃r,r<3/\GY ts (3*j+r)=(a,b)
def bU (ts:List T3) (n a b:Nat) (z:Int):Prop:=(z = -1/\∀j,j<n->¬Ua ts j a b)\/∃j,j<n/\z=(j:Int)/\Ua ts j a b/\∀i,i<j->¬Ua ts i a b
theorem X2 {n a b:Nat} {z:Int} (h:Zo ts (3*n) a b z):bU ts n a b z:=by
  rcases h with ⟨h1,h2⟩|⟨u,h1,h2,h3,h4⟩
  · exact .inl ⟨h1,λj hj ⟨r,hr,k⟩=>h2 _ Z k⟩
  · exact .inr ⟨u/3,Z,h2,⟨u%3,Z,by rw [show 3*(u/3)+u%3=u by omega];exact h3⟩,λi hi ⟨r,hr,k⟩=>h4 _ Z k⟩
theorem VF {n a b:Nat} {z:Int} (h:bU ts n a b z):Zo ts (3*n) a b z:=by
  rcases h with ⟨h1,h2⟩|⟨j,h1,h2,⟨r,hr,h3⟩,h4⟩
  · exact .inl ⟨h1,λu hu k=>h2 (u/3) Z ⟨u%3,Z,by rw [show 3*(u/3)+u%3=u by omega];exact k⟩⟩
  · have key:∀m,m<=3->(∀q,q<m->GY ts (3*j+q)≠(a,b))\/∃q,q<m/\GY ts (3*j+q)=(a,b)/\∀p,p<q->GY ts (3*j+p)≠(a,b):=by
      intro m
      induction m with
      | zero=>intro _;exact .inl λq hq=>absurd hq (Nat.not_lt_zero _)
      | succ m ih =>
        intro hm
        rcases ih Z with h|⟨q,h5,h6,h7⟩
        · by_cases k:GY ts (3*j+m)=(a,b)
          · exact .inr ⟨m,Z,k,h⟩
          · refine .inl λq hq=>?_
            rcases Nat.lt_or_ge q m with h8|h8
            · exact h q h8
            · rw [show q=m by omega];exact k
        · exact .inr ⟨q,Z,h6,h7⟩
    rcases key 3 (Nat.le_refl _) with k|⟨q,h5,h6,h7⟩
    · exact absurd h3 (k r hr)
    · refine .inr ⟨3*j+q,Z,by rw [h2];congr 1;omega,h6,λv hv k=>?_⟩
      rcases Nat.lt_or_ge v (3*j) with h8|h8
      · exact h4 (v/3) Z ⟨v%3,Z,by rw [show 3*(v/3)+v%3=v by omega];exact k⟩
      · exact h7 (v-3*j) Z (by rw [show 3*j+(v-3*j)=v by omega];exact k)
structure OM (ts ts':List T3):Prop where
  len:ts.length=ts'.length
  way:∀j,j<ts.length->∀a b,Ua ts j a b↔Ua ts' j a b
theorem OM.symm (h:OM ts ts'):OM ts' ts:=⟨h.len.symm,λj hj a b=>(h.way j (by rw [h.len];exact hj) a b).symm⟩
theorem OM.fst (h:OM ts ts') {a b:Nat} {z:Int} (k:Zo ts (3*ts.length) a b z):Zo ts' (3*ts'.length) a b z:=by
  rw [<-h.len]
  refine VF ?_
  rcases X2 k with ⟨h1,h2⟩|⟨j,h1,h2,h3,h4⟩
  · exact .inl ⟨h1,λj hj k=>h2 j hj ((h.way j hj a b).2 k)⟩
  · exact .inr ⟨j,h1,h2,(h.way j h1 a b).1 h3,λi hi k=>h4 i hi ((h.way i Z a b).2 k)⟩
def cG (ts:List T3) (u:Nat):P2:=O3 (GY ts u).1 (GY ts u).2
def aS (ts:List T3):Nat->List (P2×Nat)
  | 0=>[]
  | s+1=>Gi (aS ts s) (cG ts s) ((EE (aS ts s) (cG ts s)).getD 0+1)
def eJ (ts:List T3) (k:P2):Nat:=(EE (aS ts (3*ts.length)) k).getD 0
def eu (ts:List T3) (i:Nat):List T3:=(((bn ts).take i).filter λe=>decide (eJ ts (e.a,e.b)=1)).map λe=>(e.a,e.b,0)
def ep (ts:List T3):List T3:=eu ts (bn ts).length
end
end
section
abbrev E0:E4:=⟨0,0,0,0⟩
def YL (N:Nat) (es:List E4):Nat->List (P2×Nat)
  | 0=>[]
  | i+1=>Gi (YL N es i) (O3 (es.getD i E0).a (es.getD i E0).b) (N+i)
def a6 (N:Nat) (ss:List T3):Nat->List (P2×Nat)
  | 0=>[]
  | k+1=>if (ss.getD (ss.length-1-k) (0,0,0)).1<N/\(ss.getD (ss.length-1-k) (0,0,0)).2.1<N then Gi (a6 N ss k) (O3 (ss.getD (ss.length-1-k) (0,0,0)).1 (ss.getD (ss.length-1-k) (0,0,0)).2.1) (ss.getD (ss.length-1-k) (0,0,0)).2.2 else a6 N ss k
def X4 (N:Nat) (ss:List T3) (es:List E4):Nat->List (P2×Nat)
  | 0=>a6 N ss ss.length
  | i+1=>Gi (Gi (X4 N ss es i) (O3 (es.getD i E0).a (N+i)) ((EE (X4 N ss es i) (O3 (es.getD i E0).a (es.getD i E0).b)).getD 0)) (O3 (es.getD i E0).b (N+i)) ((EE (X4 N ss es i) (O3 (es.getD i E0).a (es.getD i E0).b)).getD 0)
def ed (N:Nat) (ss:List T3) (es:List E4) (a b:Nat):Nat:=(EE (X4 N ss es es.length) (O3 a b)).getD 0
def gB (ps:List Pt) (e:E4):Pt:=Bg (BJ ps e.a+BJ ps e.b) (1/2)
def bu (ps:List Pt) (es:List E4):Nat->List Pt
  | 0=>ps
  | i+1=>bu ps es i++[gB ps (es.getD i E0)]
def eN (ps:List Pt) (es:List E4):List Pt:=bu ps es es.length
def eO (N:Nat) (ss:List T3) (es:List E4) (ts:List T3):List T3:=(ep ts).map λs=>(s.1,s.2.1,ed N ss es s.1 s.2.1)
section
variable {N M i:Nat} {es:List E4} {ts:List T3} {t:T3} {ss rs:List T3} {ps:List Pt}
theorem Fe {α:Type} {l:List α} {d:α} {i:Nat} (h:i<l.length):l.take (i+1)=l.take i++[l.getD i d]:=by
  rw [List.take_add_one,xN h,List.getD,xN h];rfl
end
end
section
set_option maxRecDepth 100000
end
section
theorem dO {T:T3} {r:Nat} (h:r<3):(Bk T)[r]?=some (vN (IL T r)):=by
  have e:r=0\/r=1\/r=2:=by omega
  rcases e with rfl|rfl|rfl<;>rfl
section
variable {P:Program} {ops:Array Oper} {rest:List Oper} {Q:Exit->Act->World->Prop} {n:Nat} {F:List (Nat×Value)} {w0:Av} {S:Nat->Prop} {L:List As} {ps:List Pt} {ts ss:List T3}
end
end
def fc (p q:Pt):Prop:=p.x<q.x\/(p.x=q.x/\p.y<q.y)
instance (p q:Pt):Decidable (fc p q):=by unfold fc;infer_instance
abbrev T2:=P2×P2×P2
section
def aH (t:Tq3) (p:Nat):Bool:=t.1 == p||t.2.1 == p||t.2.2 == p
section
variable {ps:List Pt} {ts:List (Tq3)}
end
end
section
abbrev Q3:=Pt×Pt×Pt
def Xf (ps:List Pt) (t:T3):Q3:=(BJ ps t.1,BJ ps t.2.1,BJ ps t.2.2)
def eM (p q r:Pt):Bool:=decide (0<(AF p q r).num.sign)
def aI (p q:Pt) (B:Q3):Bool:=eM p q B.1||eM p q B.2.1||eM p q B.2.2
def bb (A B:Q3):Bool:=!aI A.1 A.2.1 B||(!aI A.2.1 A.2.2 B||!aI A.2.2 A.1 B)
section
variable {P:Program} {ops:Array Oper} {rest:List Oper} {Q:Exit->Act->World->Prop} {n d i z m c:Nat} {F:List (Nat×Value)} {w0:Av} {L L':List As} {t ty T:TypeId} {p:String} {af:Array Edge} {x y:Operand} {cs vs:List Value} {q:Option Addr} {v:Value}
end
section
variable {P:Program} {n:Nat} {F:List (Nat×Value)} {w0:Av} {L:List As} {x:Operand} {d:Option Tmp} {t:TypeId} {p:String} {af:Array Edge} {g:Option (Nat×Bool)}
end
end

section
section
variable {ts:List T3} {ps:List Pt} {p:Int} {i:Nat}
end
end
section
def dt (a b:Pt):Rat:=a.x*b.y-a.y*b.x
section
variable {p q r s u w:Pt}
end
section
variable {a b c d e f u:Pt}
def eD (u:Pt) (k:Rat) (a b c d e f:Pt):Prop:=(k<=dt u a/\k<=dt u b/\k<=dt u c)/\dt u d<=k/\dt u e<=k/\dt u f<=k
end
end
section
abbrev M3:=List Pt×List T3×List T3
def eT (M:M3):Prop:=M.1.length+(bn M.2.1).length<=4096/\4*M.2.1.length<=8192
instance (M:M3):Decidable (eT M):=inferInstanceAs (Decidable (_/\_))
structure fv (ps:List Pt) (ts ss:List T3) (e:Nat) where
  m:MX ps ts ss
instance {ps:List Pt} {ts ss:List T3} {e:Nat}:CT (fv ps ts ss e):=⟨λx=>.tuple #[aG (DM x.m),vN e],λx=>CT.rows x.m,λx y hy=>CT.ro x.m y hy⟩
section
variable {P:Program} {ops:Array Oper} {rest:List Oper} {Q:Exit->Act->World->Prop} {n d:Nat} {F:List (Nat×Value)} {w0:Av} {S:Nat->Prop} {L:List As} {t:TypeId} {p:String} {af:Array Edge} {y:Operand} {f:FuncId} {xs:List Operand} {args:List Value} {tys:Array TypeId} {ps:List Pt} {ts ss:List T3} {e:Nat}
end
def eE (ts:List T3):List Value:=vI (-1)::vN 0::vN 1::rowsL Bk ts
structure MB (ps:List Pt) (ts ss:List T3) where
  a:RX (rowsL Ae ps) ps.length
  b:RX (eE ts) (1+ts.length)
  c:RX (rowsL Bk ss) ss.length
def gA {ps:List Pt} {ts ss:List T3} (x:MB ps ts ss):List Value:=[x.a.val,x.b.val,x.c.val]
theorem cK {ps:List Pt} {ts ss:List T3} {x:MB ps ts ss} {y:As} (hy:y∈[x.a.row,x.b.row,x.c.row]):y.ro=true:=by
  simp only [xL,List.not_mem_nil,or_false] at hy
  rcases hy with rfl|rfl|rfl<;>rfl
instance {ps:List Pt} {ts ss:List T3}:CT (MB ps ts ss):=⟨λx=>aG (gA x),λx=>[x.a.row,x.b.row,x.c.row],λx y hy=>cK hy⟩
end
section
def cJ {α β:Type} (b:Nat) (enc:α->Value) (eV:β->Value) (kvs:List (α×β)):As:=⟨some b,λo=>o=.map (Ri enc eV kvs 0).toArray kvs.length,true⟩
section
variable {α β:Type} [DecidableEq α] {enc:α->Value} {eV:β->Value} {ok:α->Prop} {P:Program} {kt:TypeId} {n:Nat} {F:List (Nat×Value)} {w0:Av} {L:List As} {d:Option Tmp} {tx et t b:Nat} {pp:String} {af:Array Edge} {g:Option (Nat×Bool)} {mp kp:Operand}
end
def Uj (t:T3):P2:=O3 t.2.1 t.2.2
def bM (ts:List T3) (ms:List Int) (k:P2):Prop:=∃z∈ms,0<=z/\z<(ts.length:Int)/\k=Uj (ts.getD z.toNat (0,0,0))
inductive UI (ts:List T3) (S:P2->Prop):P2->Prop
  | start {k:P2}:S k->UI ts S k
  | up {t:T3} {k:P2}:t∈ts->UI ts S k->(k=O3 t.1 t.2.1\/k=O3 t.2.2 t.1)->UI ts S (Uj t)
theorem UI.mono {ts:List T3} {S S':P2->Prop} (h:∀k,S k->S' k) {k:P2} (c:UI ts S k):UI ts S' k:=by
  induction c with
  | start hs=>exact .start (h _ hs)
  | up ht _ he ih=>exact .up ht ih he
structure Zn (ts:List T3) (ms:List Int) (i:Nat) (kvs:List (P2×Nat)):Prop where
  ok:Zr bQ kvs
  one:∀k,EE kvs k=none\/EE kvs k=some 1
  sub:∀k,EE kvs k=some 1->UI ts (bM ts ms) k
  mrk:∀k,bM ts (ms.take i) k->EE kvs k=some 1
section
variable {ts:List T3} {ms:List Int} {i:Nat} {kvs:List (P2×Nat)}
theorem Zn.put (h:Zn ts ms i kvs) {k:P2} (hk:bQ k) (hc:UI ts (bM ts ms) k):Zn ts ms i (Gi kvs k 1):=⟨h.ok.put hk,λx=>by
    rw [F7];split
    · exact .inr O
    · exact h.one x,λx hx=>by
    rw [F7] at hx;split at hx
    · rename_i e;rw [e];exact hc
    · exact h.sub x hx,λx hx=>by
    rw [F7];split
    · rfl
    · exact h.mrk x hx⟩
end
structure HC (ts:List T3) (ms:List Int) where
  b:Nat
  kvs:List (P2×Nat)
  ok:Zr bQ kvs
  one:∀k,EE kvs k=none\/EE kvs k=some 1
  all:∀k,EE kvs k=some 1↔UI ts (bM ts ms) k
instance {ts:List T3} {ms:List Int}:CT (HC ts ms):=⟨λx=>.map (some x.b),λx=>[cJ x.b fb vN x.kvs],λx y hy=>by rcases xM.1 hy with rfl;rfl⟩
structure DX (ts:List T3) (ms:List Int) where
  l:List E4
  r:RX (rowsL f4 l) l.length
  p:E4->Bool
  el:l=(bn ts).filter p
  all:∀e,p e=true↔UI ts (bM ts ms) (e.a,e.b)
  hc:r.c=l.length
instance {ts:List T3} {ms:List Int}:CT (DX ts ms):=⟨λx=>x.r.val,λx=>[x.r.row],λx y hy=>by rcases xM.1 hy with rfl;rfl⟩
end
section
def Q5 (ts:List T3):Nat->List (P2×Nat)
  | 0=>[]
  | s+1=>Gi (Q5 ts s) (GY ts s) (s/3)
section
variable {ts:List T3} {N t r s:Nat}
end
structure SX (ts:List T3) (o:Bool) where
  b:Nat
  kvs:List (P2×Nat)
  ok:Zr bQ kvs
  fin:o=true->kvs=Q5 ts (3*ts.length)
instance {ts:List T3} {o:Bool}:CT (SX ts o):=⟨λx=>.tuple #[.map (some x.b),.bool o],λx=>[cJ x.b fb vN x.kvs],λx y hy=>by rcases xM.1 hy with rfl;rfl⟩
end
section
section
variable {P:Program} {Q:Exit->Act->World->Prop} {n:Nat} {F:List (Nat×Value)} {w0:Av} {L:List As} {c x y:Code}
def XS {α β γ δ ε ζ η:Type} (n:Nat) (w0:Av) (J:α->β->γ->δ->ε->ζ->η->Prop) (FI:α->β->γ->δ->ε->ζ->η->List (Nat×Value)) (LI:α->β->γ->δ->ε->ζ->η->List As) (m:α->β->γ->δ->ε->ζ->η->Nat) (i:α) (j:β) (k:γ) (l:δ) (o:ε) (q:ζ) (r:η) (Q:Exit->Act->World->Prop):Exit->Act->World->Prop :=
  Exit.then (λa w=>∃i' j' k' l' o' q' r',J i' j' k' l' o' q' r'/\m i' j' k' l' o' q' r'<m i j k l o q r/\CP n a (FI i' j' k' l' o' q' r')/\A6 w0 w (LI i' j' k' l' o' q' r')) Q
theorem OkC.loop7 {α β γ δ ε ζ η:Type} (J:α->β->γ->δ->ε->ζ->η->Prop) (FI:α->β->γ->δ->ε->ζ->η->List (Nat×Value)) (LI:α->β->γ->δ->ε->ζ->η->List As) (m:α->β->γ->δ->ε->ζ->η->Nat) (round:∀i j k l o q r,J i j k l o q r->OkC P c (XS n w0 J FI LI m i j k l o q r Q) n (FI i j k l o q r) w0 (LI i j k l o q r))
    (i:α) (j:β) (k:γ) (l:δ) (o:ε) (q:ζ) (r:η) (h:J i j k l o q r):OkC P (.loop c) Q n (FI i j k l o q r) w0 (LI i j k l o q r) :=
  ye (σ:=α×β×γ×δ×ε×ζ×η) (λs=>J s.1 s.2.1 s.2.2.1 s.2.2.2.1 s.2.2.2.2.1 s.2.2.2.2.2.1 s.2.2.2.2.2.2) (λs=>FI s.1 s.2.1 s.2.2.1 s.2.2.2.1 s.2.2.2.2.1 s.2.2.2.2.2.1 s.2.2.2.2.2.2) (λs=>LI s.1 s.2.1 s.2.2.1 s.2.2.2.1 s.2.2.2.2.1 s.2.2.2.2.2.1 s.2.2.2.2.2.2) (λs=>m s.1 s.2.1 s.2.2.1 s.2.2.2.1 s.2.2.2.2.1 s.2.2.2.2.2.1 s.2.2.2.2.2.2) (λs hs a w ha hw=>by
    refine Code.wp_mono (λe a' w' hq=>?_) (round s.1 s.2.1 s.2.2.1 s.2.2.2.1 s.2.2.2.2.1 s.2.2.2.2.2.1 s.2.2.2.2.2.2 hs a w ha hw)
    cases e<;>first
      | (obtain ⟨i',j',k',l',o',q',r',h1,h2,h3,h4⟩:=hq;exact ⟨(i',j',k',l',o',q',r'),h1,h2,h3,h4⟩)
      | exact hq) (i,j,k,l,o,q,r) h
theorem OkC.lp7 {α β γ δ ε ζ η:Type} {J:α->β->γ->δ->ε->ζ->η->Prop} {FI:α->β->γ->δ->ε->ζ->η->List (Nat×Value)} {LI:α->β->γ->δ->ε->ζ->η->List As} {m:α->β->γ->δ->ε->ζ->η->Nat} (_:Tg J) (_:Tg FI) (_:Tg LI) (_:Tg m) (i:α) (j:β) (k:γ) (l:δ) (o:ε) (q:ζ) (r:η) (h:J i j k l o q r) (hs:By (FI i j k l o q r) F) (hl:(LI i j k l o q r).Sublist L)
    (round:∀i j k l o q r,J i j k l o q r->OkC P c (XS n w0 J FI LI m i j k l o q r Q) n (FI i j k l o q r) w0 (LI i j k l o q r)):OkC P (.loop c) Q n F w0 L:=yf hs hl (OkC.loop7 J FI LI m round i j k l o q r h)
theorem OkQ.round7 {α β γ δ ε ζ η:Type} {J:α->β->γ->δ->ε->ζ->η->Prop} {FI:α->β->γ->δ->ε->ζ->η->List (Nat×Value)} {LI:α->β->γ->δ->ε->ζ->η->List As} {m:α->β->γ->δ->ε->ζ->η->Nat} {i:α} {j:β} {k:γ} {l:δ} {o:ε} {q:ζ} {r:η} (i':α) (j':β) (k':γ) (l':δ) (o':ε) (q':ζ) (r':η) (hJ:J i' j' k' l' o' q' r') (hm:m i' j' k' l' o' q' r'<m i j k l o q r) (hs:By (FI i' j' k' l' o' q' r') F) (hl:(LI i' j' k' l' o' q' r').Sublist L):OkQ (XS n w0 J FI LI m i j k l o q r Q) .normal n F w0 L:=λ_ _ ha hw=>⟨i',j',k',l',o',q',r',hJ,hm,ha.sub hs,hw.weak hl⟩
theorem OkQ.round7_exit {α β γ δ ε ζ η:Type} {J:α->β->γ->δ->ε->ζ->η->Prop} {FI:α->β->γ->δ->ε->ζ->η->List (Nat×Value)} {LI:α->β->γ->δ->ε->ζ->η->List As} {m:α->β->γ->δ->ε->ζ->η->Nat} {i:α} {j:β} {k:γ} {l:δ} {o:ε} {q:ζ} {r:η} {id:Nat} (h:OkQ Q (.exit id) n F w0 L):OkQ (XS n w0 J FI LI m i j k l o q r Q) (.exit id) n F w0 L:=h
end
end
section
abbrev gC (ts:List T3):List (P2×Nat):=Q5 ts (3*ts.length)
def gO (k:P2):P2:=(k.2,k.1)
def dq (ts:List T3) (k:P2):Prop:=(EE (gC ts) k).isSome=true
def fV (ts:List T3) (k:P2):Prop:=dq ts k/\¬dq ts (gO k)
section
variable {ts:List T3} {N:Nat} {k k0:P2} {i:Nat}
theorem NE {n:Nat}:∀s,EE (Q5 ts s) k=some n->∃u,u<s/\GY ts u=k/\n=u/3
  | 0,h=>by cases h
  | s+1,h=>by
    have h:EE (Gi (Q5 ts s) (GY ts s) (s/3)) k=some n:=h
    rw [F7] at h
    split at h
    · rename_i e
      injection h with h
      exact ⟨s,Z,e.symm,h.symm⟩
    · obtain ⟨u,h1,h2,h3⟩:=NE s h
      exact ⟨u,Z,h2,h3⟩
theorem PR {u:Nat}:∀s,u<s->(EE (Q5 ts s) (GY ts u)).isSome=true
  | 0,h=>absurd h (Nat.not_lt_zero _)
  | s+1,h=>by
    show (EE (Gi (Q5 ts s) (GY ts s) (s/3)) (GY ts u)).isSome=true
    rw [F7]
    split
    · rfl
    · rename_i e
      rcases Nat.lt_or_ge u s with h1|h1
      · exact PR s h1
      · exact absurd (by rw [show u=s by omega]) e
theorem X_:dq ts k↔∃u,u<3*ts.length/\GY ts u=k:=by
  constructor
  · intro h
    obtain ⟨n,h⟩:=Option.isSome_iff_exists.1 h
    obtain ⟨u,h1,h2,_⟩:=NE _ h
    exact ⟨u,h1,h2⟩
  · rintro ⟨u,h1,rfl⟩
    exact PR _ h1
theorem TP {α:Type} [DecidableEq α] {l m:List α} (hn:l.Nodup) (hs:∀x∈l,x∈m):l.length<=m.length:=by
  induction l generalizing m with
  | nil=>exact xH _
  | cons x r ih =>
    have hx:=hs x List.mem_cons_self
    have hn2:=List.nodup_cons.1 hn
    have h:=ih (m:=m.erase x) hn2.2 λy hy=>by
      have:y≠x:=λe=>hn2.1 (e▸hy)
      exact (List.mem_erase_of_ne this).2 (hs y (List.mem_cons_of_mem _ hy))
    rw [List.length_erase_of_mem hx] at h
    have:=List.length_pos_of_mem hx
    simp only [List.length_cons];omega
def XW (ts:List T3):List P2:=(List.range (3*ts.length)).map (GY ts)
theorem Uf (h:dq ts k):k∈XW ts:=by
  obtain ⟨u,hu,rfl⟩:=X_.1 h
  exact List.mem_map.2 ⟨u,List.mem_range.2 hu,rfl⟩
theorem Ue:(XW ts).length=3*ts.length:=by simp [XW]
end
structure bS (ts:List T3) (dn:List (P2×Nat)):Prop where
  ok:Zr bQ dn
  bd:∀k n,EE dn k=some n->fV ts k/\n=1
section
variable {ts:List T3} {N:Nat} {k k0:P2} {i:Nat} {dn dn0:List (P2×Nat)} {l:List Nat}
theorem bS.len (h:bS ts dn):dn.length<=3*ts.length:=by
  have h1:(dn.map (·.1)).Nodup:=List.pairwise_map.2 (h.ok.once.imp λ{a b} h e=>h e)
  have h2:=TP (m:=XW ts) h1 λx hx=>by
    obtain ⟨p,hp,rfl⟩:=List.mem_map.1 hx
    obtain ⟨j,hj,h3⟩:=List.getElem_of_mem hp
    exact Uf (h.bd _ _ (Rj (x:=p.1) (v:=p.2) h.ok.once (by rw [xN hj,h3]))).1.1
  rwa [Ue,xI] at h2
theorem bS.put (h:bS ts dn) (hk:fV ts k) (hok:bQ k):bS ts (Gi dn k 1):=⟨h.ok.put hok,λx n hx=>by
  rw [F7] at hx
  split at hx
  · rename_i e
    injection hx with hx
    rw [e];exact ⟨hk,hx.symm⟩
  · exact h.bd _ _ hx⟩
end
section
variable {ts:List T3} {N i:Nat} {dn dn2:List (P2×Nat)} {wq:T3} {l:List Nat}
end
end
section
section
variable {ps:List Pt} {ts:List T3}
end
end
section
def Ln (ps:List Pt) (s t:T3):Prop:=∃(u:Pt) (k:Rat),u≠⟨0,0⟩/\eD u k (BJ ps s.1) (BJ ps s.2.1) (BJ ps s.2.2) (BJ ps t.1) (BJ ps t.2.1) (BJ ps t.2.2)
theorem Ln.symm {ps:List Pt} {s t:T3} (h:Ln ps s t):Ln ps t s:=by
  obtain ⟨u,k,hu,⟨h1,h2,h3⟩,h4,h5,h6⟩:=h
  have ng:∀a,dt ⟨-u.x,-u.y⟩ a = -dt u a:=λa=>by unfold dt;grind
  refine ⟨⟨-u.x,-u.y⟩,-k,λe=>hu ?_,⟨?_,?_,?_⟩,?_,?_,?_⟩
  · obtain ⟨x,y⟩:=u
    injection e with e1 e2
    simp only at e1 e2
    rw [show x=0 by grind,show y=0 by grind]
  all_goals rw [ng];grind
section
variable {ps:List Pt} {ts:List T3}
end
end
def dm (md:List (P2×Nat)):Nat->T3->List T3
  | 0,c=>[c]
  | d+1,c=>match EE md (Uj c) with
    | none=>[c]
    | some n=>dm md d (n,c.1,c.2.1)++dm md d (n,c.2.2,c.1)
def gJ (n p:Nat):List Nat:=List.replicate n p
section
section
variable {N:Nat} {es:List E4} {T:T3}
end
end
section
section
variable {m:MQ} {ts:List T3} {a b N:Nat}
end
end
section
def fZ (md:List (P2×Nat)) (ts:List T3):List T3:=ts.flatMap (dm md 2)
def fY (md:List (P2×Nat)) (ts:List T3):Nat->List Nat
  | 0=>[]
  | i+1=>fY md ts i++gJ (dm md 2 (ts.getD i (0,0,0))).length i
section
variable {md:List (P2×Nat)} {ts ss:List T3} {i N:Nat} {es:List E4}
end
structure fi (ps:List Pt) (ts ss:List T3) (ms:List Int) where
  l:List E4
  p:E4->Bool
  el:l=(bn ts).filter p
  all:∀e,p e=true↔UI ts (bM ts ms) (e.a,e.b)
  x:eC (eN ps l) (fZ (YL ps.length l l.length) ts) (eO ps.length ss l (fZ (YL ps.length l l.length) ts)) (fY (YL ps.length l l.length) ts ts.length) 0
instance {ps:List Pt} {ts ss:List T3} {ms:List Int}:CT (fi ps ts ss ms):=⟨λb=>CT.val b.x,λb=>CT.rows b.x,λb y hy=>CT.ro b.x y hy⟩
section
variable {ts ss:List T3} {N:Nat} {es:List E4} {ms:List Int}
end
section
variable {P:Program} {ops:Array Oper} {rest:List Oper} {Q:Exit->Act->World->Prop} {n d:Nat} {F:List (Nat×Value)} {w0:Av} {S:Nat->Prop} {L:List As} {t:TypeId} {p:String} {af:Array Edge} {y:Operand} {f:FuncId} {xs:List Operand} {args:List Value} {tys:Array TypeId} {ps:List Pt} {ts ss:List T3} {ms:List Int}
end
end
section
section
variable {md:List (P2×Nat)} {N M n a b c e p:Nat} {k κ:P2} {T:T3} {ts ts':List T3}
end
end
section
def bz (l:Nat):Int×Int×Int:=if l=0 then (2,0,0) else if l=1 then (0,2,0) else if l=2 then (0,0,2) else if l=3 then (1,1,0) else if l=4 then (0,1,1) else (1,0,1)
def D3 (i j k:Nat):Int:=(bz i).1*((bz j).2.1*(bz k).2.2-(bz j).2.2*(bz k).2.1)-(bz i).2.1*((bz j).1*(bz k).2.2-(bz j).2.2*(bz k).1)+(bz i).2.2*((bz j).1*(bz k).2.1-(bz j).2.1*(bz k).1)
def eX (a b:Pt):Pt:=Bg (a+b) (1/2)
def LP (a b c:Pt) (l:Nat):Pt:=if l=0 then a else if l=1 then b else if l=2 then c else if l=3 then eX a b else if l=4 then eX b c else eX c a
def Q8 (fam:List T3) (l:Nat):Bool:=fam.any λL=>aH L l
def aC (i j:Nat) (M:T3):Bool:=decide (D3 i j M.1<=0)&&decide (D3 i j M.2.1<=0)&&decide (D3 i j M.2.2<=0)
def dJ (L M:T3):Bool:=aC L.1 L.2.1 M||aC L.2.1 L.2.2 M||aC L.2.2 L.1 M
def bg (L:T3) (l:Nat):Bool:=decide (0<=D3 l L.2.1 L.2.2)&&decide (0<=D3 L.1 l L.2.2)&&decide (0<=D3 L.1 L.2.1 l)
structure bT (fam:List T3):Prop where
  lt:∀L∈fam,L.1<6/\L.2.1<6/\L.2.2<6
  pos:∀L∈fam,0<D3 L.1 L.2.1 L.2.2
  sep:fam.Pairwise λL M=>(dJ L M||dJ M L)=true
  cls:∀L∈fam,∀l,l<6->Q8 fam l=true->bg L l=true->aH L l=true
  BJ:∀l,l<3->Q8 fam l=true
instance (fam:List T3):Decidable (∀l,l<6->Q8 fam l=true->∀L∈fam,bg L l=true->aH L l=true):=inferInstance
section
variable {a b c q:Pt} {l i j k:Nat}
end
end
section
def Nk (mv:Nat->Nat->Nat) (t:T3) (l:Nat):Nat:=if l=0 then t.1 else if l=1 then t.2.1 else if l=2 then t.2.2 else if l=3 then mv t.1 t.2.1 else if l=4 then mv t.2.1 t.2.2 else mv t.2.2 t.1
def eP (mv:Nat->Nat->Nat) (t L:T3):T3:=(Nk mv t L.1,Nk mv t L.2.1,Nk mv t L.2.2)
def cE (t:T3) (l:Nat):P2:=if l=3 then O3 t.1 t.2.1 else if l=4 then O3 t.2.1 t.2.2 else O3 t.2.2 t.1
def fm (ps:List Pt) (t:T3) (l:Nat):Pt:=LP (BJ ps t.1) (BJ ps t.2.1) (BJ ps t.2.2) l
structure fT (ps:List Pt) (ts:List T3) (ps':List Pt) (ts':List T3) (mv:Nat->Nat->Nat) (fam:T3->List T3):Prop where
  g:ZQ ps ts
  cut:ts'=ts.flatMap λt=>(fam t).map (eP mv t)
  fok:∀t∈ts,bT (fam t)
  len:ps.length<=ps'.length
  old:∀p,p<ps.length->BJ ps' p=BJ ps p
  mid:∀t∈ts,∀l,3<=l->l<6->Q8 (fam t) l=true->ps.length<=Nk mv t l/\Nk mv t l<ps'.length/\BJ ps' (Nk mv t l)=fm ps t l
  new:∀p,ps.length<=p->p<ps'.length->∃t∈ts,∃l,3<=l/\l<6/\Q8 (fam t) l=true/\p=Nk mv t l
  cls:∀t∈ts,∀s∈ts,∀l k,3<=l->l<6->3<=k->k<6->Q8 (fam s) k=true->cE t l=cE s k->Q8 (fam t) l=true/\Nk mv t l=Nk mv s k
section
variable {ps ps':List Pt} {ts ts':List T3} {mv:Nat->Nat->Nat} {fam:T3->List T3} {t s c L:T3} {l k p:Nat}
theorem YJ (h:t∈ts):∃j,j<ts.length/\ts.getD j (0,0,0)=t:=by
  obtain ⟨j,hj,e⟩:=List.getElem_of_mem h
  exact ⟨j,hj,by rw [List.getD,xN hj];exact e⟩
theorem fT.tri (S:fT ps ts ps' ts' mv fam) (ht:t∈ts):bZ ps t:=by
  obtain ⟨j,hj,rfl⟩:=YJ ht
  exact S.g.tri j hj
end
end
section
section
variable {ps:List Pt} {ts ss:List T3} {c:T3}
end
end
section
section
variable {ps:List Pt} {ts us ss:List T3} {N:Nat}
def df (ps:List Pt) (s t:T3):Prop:=(!bb (Xf ps s) (Xf ps t)&&!bb (Xf ps t) (Xf ps s))=false
theorem df.symm {s t:T3} (h:df ps s t):df ps t s:=by unfold df at *;rw [Bool.and_comm];exact h
end
end
section
section
variable {ts:List T3} {a b t:Nat}
end
section
variable {ts:List T3} {a b N t:Nat}
end
section
variable {ts:List T3} {a b N t i:Nat}
end
section
variable {ts:List T3} {p n:Nat}
end
end
section
set_option maxRecDepth 100000
end
end Go.Proofs.YtcpkbjjmcleplaaGreatDoor
