import Derived.Test.YtcpkbjjmcleplaaGreatDoorPart29
namespace Go.Proofs.YtcpkbjjmcleplaaGreatDoor
open Go Go.RowKit Go.Proofs.Tryz
open Go.Value renaming slice→qz,bool→qa
set_option linter.unusedVariables false
set_option linter.unusedSimpArgs false
section
theorem fW {T:T3} {r:Nat} (h:r<3):(BC T)[r]?=some (vN (It T r)):=by
  have e:r=0\/r=1\/r=2:=by omega
  rcases e with rfl|rfl|rfl<;>rfl
section
variable {P:Program} {ops:Array Oper} {rest:List Oper} {Q:Exit->Act->World->Prop} {n:Nat} {F:List (Nat×Value)} {w0:Ay} {S:Nat->Prop} {L:List As} {ps:List Pt} {ts ss:List T3}
end
end
def iW (p q:Pt):Prop:=p.x<q.x\/(p.x=q.x/\p.y<q.y)
instance (p q:Pt):Decidable (iW p q):=by unfold iW;infer_instance
abbrev T2:=P2×P2×P2
section
def cO (t:Tq3) (p:Nat):Bool:=t.1 == p||t.2.1 == p||t.2.2 == p
section
variable {ps:List Pt} {ts:List (Tq3)}
end
end
section
section
variable {P:Program} {ops:Array Oper} {rest:List Oper} {Q:Exit->Act->World->Prop} {n d i z m c:Nat} {F:List (Nat×Value)} {w0:Ay} {L L':List As} {t ty T:TypeId} {p:String} {af:Array Edge} {x y:Operand} {cs vs:List Value} {q:Option Addr} {v:Value}
end
section
variable {P:Program} {n:Nat} {F:List (Nat×Value)} {w0:Ay} {L:List As} {x:Operand} {d:Option Tmp} {t:TypeId} {p:String} {af:Array Edge} {g:Option (Nat×Bool)}
end
end

section
section
variable {ts:List T3} {ps:List Pt} {p:Int} {i:Nat}
end
end
section
section
variable {p q r s u w:Pt}
end
section
variable {a b c d e f u:Pt}
end
end
section
abbrev M3:=List Pt×List T3×List T3
def gh (M:M3):Prop:=M.1.length+(eF M.2.1).length<=4096/\4*M.2.1.length<=8192
instance (M:M3):Decidable (gh M):=inferInstanceAs (Decidable (_/\_))
structure ik (ps:List Pt) (ts ss:List T3) (e:Nat) where
  m:MX ps ts ss
instance {ps:List Pt} {ts ss:List T3} {e:Nat}:Cl (ik ps ts ss e):=⟨λx=>.tuple #[aG (DY x.m),vN e],λx=>Cl.rows x.m,λx y hy=>Cl.ro x.m y hy⟩
section
variable {P:Program} {ops:Array Oper} {rest:List Oper} {Q:Exit->Act->World->Prop} {n d:Nat} {F:List (Nat×Value)} {w0:Ay} {S:Nat->Prop} {L:List As} {t:TypeId} {p:String} {af:Array Edge} {y:Operand} {f:FuncId} {xs:List Operand} {args:List Value} {tys:Array TypeId} {ps:List Pt} {ts ss:List T3} {e:Nat}
end
def gP (ts:List T3):List Value:=vI (-1)::vN 0::vN 1::rowsL BC ts
structure MB (ps:List Pt) (ts ss:List T3) where
  a:RX (rowsL Ah ps) ps.length
  b:RX (gP ts) (1+ts.length)
  c:RX (rowsL BC ss) ss.length
def it {ps:List Pt} {ts ss:List T3} (x:MB ps ts ss):List Value:=[x.a.val,x.b.val,x.c.val]
theorem eW {ps:List Pt} {ts ss:List T3} {x:MB ps ts ss} {y:As} (hy:y∈[x.a.row,x.b.row,x.c.row]):y.ro=true:=by
  simp only [xL,List.not_mem_nil,or_false] at hy
  rcases hy with rfl|rfl|rfl<;>rfl
instance {ps:List Pt} {ts ss:List T3}:Cl (MB ps ts ss):=⟨λx=>aG (it x),λx=>[x.a.row,x.b.row,x.c.row],λx y hy=>eW hy⟩
end
section
def eU {α β:Type} (b:Nat) (enc:α->Value) (eV:β->Value) (kvs:List (α×β)):As:=⟨some b,λo=>o=.map (bS enc eV kvs 0).toArray kvs.length,true⟩
section
variable {α β:Type} [DecidableEq α] {enc:α->Value} {eV:β->Value} {ok:α->Prop} {P:Program} {kt:TypeId} {n:Nat} {F:List (Nat×Value)} {w0:Ay} {L:List As} {d:Option Tmp} {tx et t b:Nat} {pp:String} {af:Array Edge} {g:Option (Nat×Bool)} {mp kp:Operand}
end
def Vu (t:T3):P2:=QC t.2.1 t.2.2
def gJ (ts:List T3) (ms:List Int) (k:P2):Prop:=∃z∈ms,0<=z/\z<(ts.length:Int)/\k=Vu (ts.getD z.toNat (0,0,0))
inductive dt (ts:List T3) (S:P2->Prop):P2->Prop
  | start {k:P2}:S k->dt ts S k
  | up {t:T3} {k:P2}:t∈ts->dt ts S k->(k=QC t.1 t.2.1\/k=QC t.2.2 t.1)->dt ts S (Vu t)
section
variable {ts:List T3} {ms:List Int} {i:Nat} {kvs:List (P2×Nat)}
end
structure HC (ts:List T3) (ms:List Int) where
  b:Nat
  kvs:List (P2×Nat)
  ok:iP iX kvs
  one:∀k,Lo kvs k=none\/Lo kvs k=some 1
  all:∀k,Lo kvs k=some 1↔dt ts (gJ ts ms) k
instance {ts:List T3} {ms:List Int}:Cl (HC ts ms):=⟨λx=>.map (some x.b),λx=>[eU x.b iV vN x.kvs],λx y hy=>by rcases xM.1 hy with rfl;rfl⟩
structure DX (ts:List T3) (ms:List Int) where
  l:List E4
  r:RX (rowsL im l) l.length
  p:E4->Bool
  el:l=(eF ts).filter p
  all:∀e,p e=true↔dt ts (gJ ts ms) (e.a,e.b)
  hc:r.c=l.length
instance {ts:List T3} {ms:List Int}:Cl (DX ts ms):=⟨λx=>x.r.val,λx=>[x.r.row],λx y hy=>by rcases xM.1 hy with rfl;rfl⟩
end
section
def fU (ts:List T3):Nat->List (P2×Nat)
  | 0=>[]
  | s+1=>QN (fU ts s) (RO ts s) (s/3)
section
variable {ts:List T3} {N t r s:Nat}
end
structure SX (ts:List T3) (o:Bool) where
  b:Nat
  kvs:List (P2×Nat)
  ok:iP iX kvs
  fin:o=true->kvs=fU ts (3*ts.length)
instance {ts:List T3} {o:Bool}:Cl (SX ts o):=⟨λx=>.tuple #[.map (some x.b),.bool o],λx=>[eU x.b iV vN x.kvs],λx y hy=>by rcases xM.1 hy with rfl;rfl⟩
end
section
section
variable {P:Program} {Q:Exit->Act->World->Prop} {n:Nat} {F:List (Nat×Value)} {w0:Ay} {L:List As} {c x y:Code}
def Ym {α β γ δ ε ζ η:Type} (n:Nat) (w0:Ay) (J:α->β->γ->δ->ε->ζ->η->Prop) (FI:α->β->γ->δ->ε->ζ->η->List (Nat×Value)) (LI:α->β->γ->δ->ε->ζ->η->List As) (m:α->β->γ->δ->ε->ζ->η->Nat) (i:α) (j:β) (k:γ) (l:δ) (o:ε) (q:ζ) (r:η) (Q:Exit->Act->World->Prop):Exit->Act->World->Prop :=
  Exit.then (λa w=>∃i' j' k' l' o' q' r',J i' j' k' l' o' q' r'/\m i' j' k' l' o' q' r'<m i j k l o q r/\Cg n a (FI i' j' k' l' o' q' r')/\A_ w0 w (LI i' j' k' l' o' q' r')) Q
theorem OkC.loop7 {α β γ δ ε ζ η:Type} (J:α->β->γ->δ->ε->ζ->η->Prop) (FI:α->β->γ->δ->ε->ζ->η->List (Nat×Value)) (LI:α->β->γ->δ->ε->ζ->η->List As) (m:α->β->γ->δ->ε->ζ->η->Nat) (round:∀i j k l o q r,J i j k l o q r->OkC P c (Ym n w0 J FI LI m i j k l o q r Q) n (FI i j k l o q r) w0 (LI i j k l o q r))
    (i:α) (j:β) (k:γ) (l:δ) (o:ε) (q:ζ) (r:η) (h:J i j k l o q r):OkC P (.loop c) Q n (FI i j k l o q r) w0 (LI i j k l o q r) :=
  yh (σ:=α×β×γ×δ×ε×ζ×η) (λs=>J s.1 s.2.1 s.2.2.1 s.2.2.2.1 s.2.2.2.2.1 s.2.2.2.2.2.1 s.2.2.2.2.2.2) (λs=>FI s.1 s.2.1 s.2.2.1 s.2.2.2.1 s.2.2.2.2.1 s.2.2.2.2.2.1 s.2.2.2.2.2.2) (λs=>LI s.1 s.2.1 s.2.2.1 s.2.2.2.1 s.2.2.2.2.1 s.2.2.2.2.2.1 s.2.2.2.2.2.2) (λs=>m s.1 s.2.1 s.2.2.1 s.2.2.2.1 s.2.2.2.2.1 s.2.2.2.2.2.1 s.2.2.2.2.2.2) (λs hs a w ha hw=>by
    refine Code.wp_mono (λe a' w' hq=>?_) (round s.1 s.2.1 s.2.2.1 s.2.2.2.1 s.2.2.2.2.1 s.2.2.2.2.2.1 s.2.2.2.2.2.2 hs a w ha hw)
    cases e<;>first
      | (obtain ⟨i',j',k',l',o',q',r',h1,h2,h3,h4⟩:=hq;exact ⟨(i',j',k',l',o',q',r'),h1,h2,h3,h4⟩)
      | exact hq) (i,j,k,l,o,q,r) h
theorem OkC.lp7 {α β γ δ ε ζ η:Type} {J:α->β->γ->δ->ε->ζ->η->Prop} {FI:α->β->γ->δ->ε->ζ->η->List (Nat×Value)} {LI:α->β->γ->δ->ε->ζ->η->List As} {m:α->β->γ->δ->ε->ζ->η->Nat} (_:Tg J) (_:Tg FI) (_:Tg LI) (_:Tg m) (i:α) (j:β) (k:γ) (l:δ) (o:ε) (q:ζ) (r:η) (h:J i j k l o q r) (hs:CK (FI i j k l o q r) F) (hl:(LI i j k l o q r).Sublist L)
    (round:∀i j k l o q r,J i j k l o q r->OkC P c (Ym n w0 J FI LI m i j k l o q r Q) n (FI i j k l o q r) w0 (LI i j k l o q r)):OkC P (.loop c) Q n F w0 L:=yi hs hl (OkC.loop7 J FI LI m round i j k l o q r h)
theorem OkQ.round7 {α β γ δ ε ζ η:Type} {J:α->β->γ->δ->ε->ζ->η->Prop} {FI:α->β->γ->δ->ε->ζ->η->List (Nat×Value)} {LI:α->β->γ->δ->ε->ζ->η->List As} {m:α->β->γ->δ->ε->ζ->η->Nat} {i:α} {j:β} {k:γ} {l:δ} {o:ε} {q:ζ} {r:η} (i':α) (j':β) (k':γ) (l':δ) (o':ε) (q':ζ) (r':η) (hJ:J i' j' k' l' o' q' r') (hm:m i' j' k' l' o' q' r'<m i j k l o q r) (hs:CK (FI i' j' k' l' o' q' r') F) (hl:(LI i' j' k' l' o' q' r').Sublist L):OkQ (Ym n w0 J FI LI m i j k l o q r Q) .normal n F w0 L:=λ_ _ ha hw=>⟨i',j',k',l',o',q',r',hJ,hm,ha.sub hs,hw.weak hl⟩
theorem OkQ.round7_exit {α β γ δ ε ζ η:Type} {J:α->β->γ->δ->ε->ζ->η->Prop} {FI:α->β->γ->δ->ε->ζ->η->List (Nat×Value)} {LI:α->β->γ->δ->ε->ζ->η->List As} {m:α->β->γ->δ->ε->ζ->η->Nat} {i:α} {j:β} {k:γ} {l:δ} {o:ε} {q:ζ} {r:η} {id:Nat} (h:OkQ Q (.exit id) n F w0 L):OkQ (Ym n w0 J FI LI m i j k l o q r Q) (.exit id) n F w0 L:=h
end
end
section
section
variable {ts:List T3} {N:Nat} {k k0:P2} {i:Nat}
end
section
variable {ts:List T3} {N:Nat} {k k0:P2} {i:Nat} {dn dn0:List (P2×Nat)} {l:List Nat}
end
section
variable {ts:List T3} {N i:Nat} {dn dn2:List (P2×Nat)} {wq:T3} {l:List Nat}
end
end
section
section
variable {ps:List Pt} {ts:List T3}
end
end
section
section
variable {ps:List Pt} {ts:List T3}
end
end
def f8 (md:List (P2×Nat)):Nat->T3->List T3
  | 0,c=>[c]
  | d+1,c=>match Lo md (Vu c) with
    | none=>[c]
    | some n=>f8 md d (n,c.1,c.2.1)++f8 md d (n,c.2.2,c.1)
def iz (n p:Nat):List Nat:=List.replicate n p
section
section
variable {N:Nat} {es:List E4} {T:T3}
end
end
section
section
variable {m:MQ} {ts:List T3} {a b N:Nat}
end
end
section
def iU (md:List (P2×Nat)) (ts:List T3):List T3:=ts.flatMap (f8 md 2)
def iT (md:List (P2×Nat)) (ts:List T3):Nat->List Nat
  | 0=>[]
  | i+1=>iT md ts i++iz (f8 md 2 (ts.getD i (0,0,0))).length i
section
variable {md:List (P2×Nat)} {ts ss:List T3} {i N:Nat} {es:List E4}
end
structure ia (ps:List Pt) (ts ss:List T3) (ms:List Int) where
  l:List E4
  p:E4->Bool
  el:l=(eF ts).filter p
  all:∀e,p e=true↔dt ts (gJ ts ms) (e.a,e.b)
  x:gM (gV ps l) (iU (Zq ps.length l l.length) ts) (gW ps.length ss l (iU (Zq ps.length l l.length) ts)) (iT (Zq ps.length l l.length) ts ts.length) 0
instance {ps:List Pt} {ts ss:List T3} {ms:List Int}:Cl (ia ps ts ss ms):=⟨λb=>Cl.val b.x,λb=>Cl.rows b.x,λb y hy=>Cl.ro b.x y hy⟩
section
variable {ts ss:List T3} {N:Nat} {es:List E4} {ms:List Int}
end
section
variable {P:Program} {ops:Array Oper} {rest:List Oper} {Q:Exit->Act->World->Prop} {n d:Nat} {F:List (Nat×Value)} {w0:Ay} {S:Nat->Prop} {L:List As} {t:TypeId} {p:String} {af:Array Edge} {y:Operand} {f:FuncId} {xs:List Operand} {args:List Value} {tys:Array TypeId} {ps:List Pt} {ts ss:List T3} {ms:List Int}
end
end
section
section
variable {md:List (P2×Nat)} {N M n a b c e p:Nat} {k κ:P2} {T:T3} {ts ts':List T3}
end
end
section
def bz (l:Nat):Int×Int×Int:=if l=0 then (2,0,0) else if l=1 then (0,2,0) else if l=2 then (0,0,2) else if l=3 then (1,1,0) else if l=4 then (0,1,1) else (1,0,1)
def D3 (i j k:Nat):Int:=(bz i).1*((bz j).2.1*(bz k).2.2-(bz j).2.2*(bz k).2.1)-(bz i).2.1*((bz j).1*(bz k).2.2-(bz j).2.2*(bz k).1)+(bz i).2.2*((bz j).1*(bz k).2.1-(bz j).2.1*(bz k).1)
def gi (a b:Pt):Pt:=Bm (a+b) (1/2)
def LP (a b c:Pt) (l:Nat):Pt:=if l=0 then a else if l=1 then b else if l=2 then c else if l=3 then gi a b else if l=4 then gi b c else gi c a
def SI (fam:List T3) (l:Nat):Bool:=fam.any λL=>cO L l
def cJ (i j:Nat) (M:T3):Bool:=decide (D3 i j M.1<=0)&&decide (D3 i j M.2.1<=0)&&decide (D3 i j M.2.2<=0)
def fR (L M:T3):Bool:=cJ L.1 L.2.1 M||cJ L.2.1 L.2.2 M||cJ L.2.2 L.1 M
def eC (L:T3) (l:Nat):Bool:=decide (0<=D3 l L.2.1 L.2.2)&&decide (0<=D3 L.1 l L.2.2)&&decide (0<=D3 L.1 L.2.1 l)
structure dz (fam:List T3):Prop where
  lt:∀L∈fam,L.1<6/\L.2.1<6/\L.2.2<6
  pos:∀L∈fam,0<D3 L.1 L.2.1 L.2.2
  sep:fam.Pairwise λL M=>(fR L M||fR M L)=true
  cls:∀L∈fam,∀l,l<6->SI fam l=true->eC L l=true->cO L l=true
  BU:∀l,l<3->SI fam l=true
instance (fam:List T3):Decidable (∀l,l<6->SI fam l=true->∀L∈fam,eC L l=true->cO L l=true):=inferInstance
section
variable {a b c q:Pt} {l i j k:Nat}
end
end
section
def Ob (mv:Nat->Nat->Nat) (t:T3) (l:Nat):Nat:=if l=0 then t.1 else if l=1 then t.2.1 else if l=2 then t.2.2 else if l=3 then mv t.1 t.2.1 else if l=4 then mv t.2.1 t.2.2 else mv t.2.2 t.1
def gX (mv:Nat->Nat->Nat) (t L:T3):T3:=(Ob mv t L.1,Ob mv t L.2.1,Ob mv t L.2.2)
def eQ (t:T3) (l:Nat):P2:=if l=3 then QC t.1 t.2.1 else if l=4 then QC t.2.1 t.2.2 else QC t.2.2 t.1
def ie (ps:List Pt) (t:T3) (l:Nat):Pt:=LP (BU ps t.1) (BU ps t.2.1) (BU ps t.2.2) l
structure iQ (ps:List Pt) (ts:List T3) (ps':List Pt) (ts':List T3) (mv:Nat->Nat->Nat) (fam:T3->List T3):Prop where
  g:VY ps ts
  cut:ts'=ts.flatMap λt=>(fam t).map (gX mv t)
  fok:∀t∈ts,dz (fam t)
  len:ps.length<=ps'.length
  old:∀p,p<ps.length->BU ps' p=BU ps p
  mid:∀t∈ts,∀l,3<=l->l<6->SI (fam t) l=true->ps.length<=Ob mv t l/\Ob mv t l<ps'.length/\BU ps' (Ob mv t l)=ie ps t l
  new:∀p,ps.length<=p->p<ps'.length->∃t∈ts,∃l,3<=l/\l<6/\SI (fam t) l=true/\p=Ob mv t l
  cls:∀t∈ts,∀s∈ts,∀l k,3<=l->l<6->3<=k->k<6->SI (fam s) k=true->eQ t l=eQ s k->SI (fam t) l=true/\Ob mv t l=Ob mv s k
section
variable {ps ps':List Pt} {ts ts':List T3} {mv:Nat->Nat->Nat} {fam:T3->List T3} {t s c L:T3} {l k p:Nat}
theorem Zo (h:t∈ts):∃j,j<ts.length/\ts.getD j (0,0,0)=t:=by
  obtain ⟨j,hj,e⟩:=List.getElem_of_mem h
  exact ⟨j,hj,by rw [List.getD,xN hj];exact e⟩
theorem iQ.tri (S:iQ ps ts ps' ts' mv fam) (ht:t∈ts):d_ ps t:=by
  obtain ⟨j,hj,rfl⟩:=Zo ht
  exact S.g.tri j hj
end
end
section
section
variable {ps:List Pt} {ts ss:List T3} {c:T3}
end
end
section
section
variable {ps:List Pt} {ts us ss:List T3} {N:Nat}
end
end
section
section
variable {ts:List T3} {a b t:Nat}
end
section
variable {ts:List T3} {a b N t:Nat}
end
section
variable {ts:List T3} {a b N t i:Nat}
end
section
variable {ts:List T3} {p n:Nat}
end
end
section
set_option maxRecDepth 100000
end
end Go.Proofs.YtcpkbjjmcleplaaGreatDoor
