import Derived.WideLaws
import Derived.Shelf.SlSortCmp.Whole1
import Derived.Test.YtfbomiejpbchdaaGreatPart06
import Derived.Test.YtfbomiejpbchdaaGreatPart14
import Derived.Test.YtfbomiejpbchdaaGreatPart19
import Derived.Test.YtfbomiejpbchdaaGreatPart25
import Derived.Test.YtfbomiejpbchdaaGreatPart28
import Derived.Test.YtfbomiejpbchdaaGreatPart30
import Derived.Test.YtfbomiejpbchdaaGreatPart31
import Derived.Test.YtfbomiejpbchdaaGreatPart33
import Derived.Test.YtfbomiejpbchdaaGreatPart37
import Derived.Test.YtfbomiejpbchdaaGreatPart41
import Derived.Test.YtfbomiejpbchdaaGreatPart42
import Derived.Test.YtfbomiejpbchdaaGreatPart43
import Derived.Test.YtfbomiejpbchdaaGreatPart44
namespace Go.Proofs.YtfbomiejpbchdaaGreat
open Go Go.RowKit Go.Proofs.Tryz
set_option linter.unusedVariables false
set_option linter.unusedSimpArgs false
section
set_option maxRecDepth 100000
end
section
set_option maxRecDepth 100000
end
section
set_option maxRecDepth 100000
end
section
section
variable {P:Program} {n:Nat} {F:List (Nat×Value)} {w0:BM} {L:List As} {x y:Operand} {d:Option Tmp} {t:TypeId} {p:String} {af:Array Edge} {g:Option (Nat×Bool)}
end
end
section
set_option maxRecDepth 100000
end
section
set_option maxRecDepth 100000
end
section
structure RI where
  l:List Nat
  p:Option Addr
  c:Nat
  ok:BQ p l.length c
  sm:l.length<=10000000
instance:Inhabited RI:=⟨⟨[],none,0,OwnOk.none.row,by decide⟩⟩
def a8 (x:RI):Value:=.slice x.p x.l.length x.c
def aT (x:RI):As:=AZ x.p (inL x.l)
def ag (rs:List RI):List As:=rs.map aT
def a_ (rs:List RI):List Value:=rs.map a8
section
variable {P:Program} {ops:Array Oper} {rest:List Oper} {Q:Exit->Act->World->Prop} {n:Nat} {F:List (Nat×Value)} {w0:BM} {L L2:List As}
end
def ZW (w:World) (Af:Nat) (x:RI):Prop:=Go.Proofs.YtfbomiejpbchdaaGreat.Holds w (aT x)/\∀b,(aT x).foot=some b->Af≠b
instance goodInh (w:World) (Af:Nat):Inhabited {x:RI // ZW w Af x}:=⟨⟨default,(λb e=>by cases e),(λb e=>by cases e)⟩⟩
structure ak (ls:List (List Nat)) where
  rs:List RI
  e:rs.map (·.l)=ls
  q:RX (a_ rs) rs.length
instance {ls:List (List Nat)}:EQ (ak ls):=⟨λx=>x.q.val,λx=>x.q.row::ag x.rs,λx y hy=>by
  rcases List.mem_cons.1 hy with rfl|hy
  · rfl
  · obtain ⟨r,_,rfl⟩:=List.mem_map.1 hy;rfl⟩
end
section
structure RO where
  p:Option Addr
  c:Nat
  l:List Nat
  ok:OwnOk p l.length c
@[reducible] def bC (x:RO):Value:=.slice x.p x.l.length x.c
section
variable {kvs:List (Nat×RO)} {k T:Nat} {s:RO}
end
section
variable {P:Program} {ops:Array Oper} {rest:List Oper} {Q:Exit->Act->World->Prop} {n:Nat} {F:List (Nat×Value)} {w0:BM} {L A:List As} {kvs:List (Nat×RO)} {k T:Nat}
end
section
variable {P:Program} {ops:Array Oper} {rest:List Oper} {Q:Exit->Act->World->Prop} {n d i z m c c2:Nat} {F:List (Nat×Value)} {w0:BM} {L:List As} {t ty T:TypeId} {p:String} {af:Array Edge} {x y:Operand} {cs vs cs':List Value} {q:Option Addr} {v u:Value} {A0 A1 A2 A3 A4:As}
end
section
variable {P:Program} {ops:Array Oper} {rest:List Oper} {Q:Exit->Act->World->Prop} {n:Nat} {F:List (Nat×Value)} {w0:BM} {L:List As} {d:Option Tmp} {op:Op} {t:TypeId} {p:String} {af:Array Edge} {g:Nat×Bool}
end
def Zt (ts:List T3) (s:Nat):Nat:=Eh (ts.getD (s/3) (0,0,0)) (s%3)
def Zv (ts:List T3):Nat->List (Nat×List Nat)
  | 0=>[]
  | s+1=>BU (Zv ts s) (Zt ts s) ((Ae (Zv ts s) (Zt ts s)).getD []++[s/3])
def U6 (ts:List T3) (p:Nat):List Nat:=(Ae (Zv ts (3*ts.length)) p).getD []
section
variable {ts:List T3} {N:Nat}
theorem MY {l:List Nat} {j:Nat} (h:j<l.length):l.getD j 0∈l:=by rw [List.getD,List.getElem?_eq_getElem h];exact List.getElem_mem h
theorem NI {p o:Nat}:∀s,o∈(Ae (Zv ts s) p).getD []↔∃u,u<s/\Zt ts u=p/\u/3=o
  | 0=>⟨λh=>(by cases h),λ⟨u,h,_⟩=>absurd h (Nat.not_lt_zero _)⟩
  | s+1=>by
    show o∈(Ae (BU _ _ _) p).getD []↔_
    rw [Bw]
    split
    · rename_i e
      rw [Option.getD_some,List.mem_append,List.mem_singleton,<-e,NI s]
      constructor
      · rintro (⟨u,h1,h2,h3⟩|h)
        · exact ⟨u,Z,h2,h3⟩
        · exact ⟨s,Z,e.symm,h.symm⟩
      · rintro ⟨u,h1,h2,h3⟩
        rcases Nat.lt_or_ge u s with h4|h4
        · exact .inl ⟨u,h4,h2,h3⟩
        · exact .inr (by rw [<-h3,show u=s by omega])
    · rename_i e
      rw [NI s]
      constructor
      · rintro ⟨u,h1,h2,h3⟩;exact ⟨u,Z,h2,h3⟩
      · rintro ⟨u,h1,h2,h3⟩
        refine ⟨u,?_,h2,h3⟩
        rcases Nat.lt_or_ge u s with h4|h4
        · exact h4
        · exact absurd (by rw [<-h2,show u=s by omega]) e
theorem Jr {p o:Nat}:o∈U6 ts p↔o<ts.length/\∃r,r<3/\Eh (ts.getD o (0,0,0)) r=p:=by
  unfold U6
  rw [NI]
  constructor
  · rintro ⟨u,h1,h2,rfl⟩;exact ⟨Z,u%3,Z,h2⟩
  · rintro ⟨h1,r,h2,h3⟩
    refine ⟨3*o+r,Z,?_,Z⟩
    unfold Zt
    rw [show (3*o+r)/3=o by omega,show (3*o+r)%3=r by omega];exact h3
def Uj (ts:List T3) (i j:Nat):Prop:=∃r s,r<3/\s<3/\Eh (ts.getD i (0,0,0)) r=Eh (ts.getD j (0,0,0)) s
theorem Uj.symm {i j:Nat} (h:Uj ts i j):Uj ts j i:=by obtain ⟨r,s,a,b,c⟩:=h;exact ⟨s,r,b,a,c.symm⟩
theorem Un {k u:Nat} (hu:u<ts.length):Uj ts k u↔∃r,r<3/\u∈U6 ts (Eh (ts.getD k (0,0,0)) r):=by
  constructor
  · rintro ⟨r,s,h1,h2,h3⟩;exact ⟨r,h1,Jr.2 ⟨hu,s,h2,h3.symm⟩⟩
  · rintro ⟨r,h1,h2⟩;obtain ⟨_,s,h3,h4⟩:=Jr.1 h2;exact ⟨r,s,h1,h3,h4.symm⟩
inductive Nv (ts:List T3) (i:Nat):Nat->Prop
  | refl:Nv ts i i
  | step {j k:Nat}:Nv ts i j->k<ts.length->Uj ts j k->Nv ts i k
theorem Nv.trans {i j k:Nat} (h:Nv ts i j) (h2:Nv ts j k):Nv ts i k:=by
  induction h2 with
  | refl=>exact h
  | step _ a b ih=>exact .step ih a b
theorem Nv.symm {i j:Nat} (hi:i<ts.length) (h:Nv ts i j):Nv ts j i:=by
  have key:j<ts.length/\Nv ts j i:=by
    induction h with
    | refl=>exact ⟨hi,.refl⟩
    | step _ a b ih=>exact ⟨a,(Nv.step .refl ih.1 b.symm).trans ih.2⟩
  exact key.2
abbrev gZ (l:List Int) (s:Nat):Int:=l.getD s 0
theorem FG {l:List Int} {o s:Nat} {z:Int} (ho:o<l.length):gZ (l.set o z) s=if s=o then z else gZ l s:=by
  unfold gZ
  rw [List.getD,List.getElem?_set]
  by_cases h:o=s
  · subst h;rw [if_pos rfl,if_pos ho,if_pos rfl];rfl
  · rw [if_neg h,if_neg (λe=>h e.symm)];rfl
structure VX (ts:List T3) (t n:Nat) (l:List Int):Prop where
  len:l.length=ts.length
  rng:∀s,s<ts.length -> -1<=gZ l s/\gZ l s<n
  done:∀s,s<t->0<=gZ l s
  clo:∀s u,s<ts.length->u<ts.length->Uj ts s u->0<=gZ l s->gZ l u=gZ l s
  fst:∀k,k<n->∃f,f<t/\gZ l f=(k:Int)/\∀s,s<f->gZ l s<k
  cnx:∀s u,s<ts.length->u<ts.length->0<=gZ l s->gZ l s=gZ l u->Nv ts s u
  nle:n<=t
structure XZ (ts:List T3) (t n:Nat) (l0 l:List Int) (td:List Nat) (k r j:Nat):Prop where
  len:l.length=ts.length
  old:∀s,s<ts.length->0<=gZ l0 s->gZ l s=gZ l0 s
  new:∀s,s<ts.length->gZ l0 s<0->gZ l s = -1\/gZ l s=n/\Nv ts t s
  root:gZ l t=n
  tdn:∀s∈td,s<ts.length/\gZ l s=n/\gZ l0 s<0
  nd:td.Nodup
  kk:k<ts.length/\gZ l k=n/\gZ l0 k<0
  prc:∀s,s<ts.length->gZ l0 s<0->gZ l s=n->s ∉ td->s≠k->∀u,u<ts.length->Uj ts s u->gZ l u=n
  part:∀r',r'<r->∀u∈U6 ts (Eh (ts.getD k (0,0,0)) r'),gZ l u=n
  pj:∀q,q<j->gZ l ((U6 ts (Eh (ts.getD k (0,0,0)) r)).getD q 0)=n
structure Yp (ts:List T3) (t n:Nat) (l0 l:List Int) (td:List Nat):Prop where
  len:l.length=ts.length
  old:∀s,s<ts.length->0<=gZ l0 s->gZ l s=gZ l0 s
  new:∀s,s<ts.length->gZ l0 s<0->gZ l s = -1\/gZ l s=n/\Nv ts t s
  root:gZ l t=n
  tdn:∀s∈td,s<ts.length/\gZ l s=n/\gZ l0 s<0
  nd:td.Nodup
  prc:∀s,s<ts.length->gZ l0 s<0->gZ l s=n->s ∉ td->∀u,u<ts.length->Uj ts s u->gZ l u=n
variable {t n k r j o:Nat} {l0 l:List Int} {td:List Nat}
theorem VX.start (hl:l.length=ts.length) (h:∀s,s<ts.length->gZ l s = -1):VX ts 0 0 l:=⟨hl,λs hs=>by rw [h s hs];omega,λs hs=>absurd hs (Nat.not_lt_zero _),λs u hs _ _ h0=>by rw [h s hs] at h0;omega,λk hk=>absurd hk (Nat.not_lt_zero _),λs u hs _ h0=>by rw [h s hs] at h0;omega,Nat.le_refl _⟩
theorem VX.next (h:VX ts t n l) (ht:0<=gZ l t):VX ts (t+1) n l:=⟨h.len,h.rng,λs hs=>by
    rcases Nat.lt_or_ge s t with h1|h1
    · exact h.done s h1
    · rw [show s=t by omega];exact ht,h.clo,λk hk=>by obtain ⟨f,a,b,c⟩:=h.fst k hk;exact ⟨f,Z,b,c⟩,h.cnx,by have:=h.nle;omega⟩
theorem Yp.start (h:VX ts t n l0) (ht:t<ts.length) (hn:gZ l0 t<0):Yp ts t n l0 (l0.set t n) [t]:=by
  have hlt:t<l0.length:=by rw [h.len];exact ht
  refine ⟨by rw [List.length_set,h.len],λs hs h0=>?_,λs hs h0=>?_,by rw [FG hlt,if_pos O],λs hs=>?_,by simp,λs hs h0 hn' hnt u hu htc=>?_⟩
  · rw [FG hlt,if_neg (λe=>by subst e;omega)]
  · rw [FG hlt]
    split
    · rename_i e;subst e;exact .inr ⟨rfl,.refl⟩
    · exact .inl (by have:=(h.rng s hs).1;omega)
  · rw [List.mem_singleton] at hs
    subst hs
    exact ⟨ht,by rw [FG hlt,if_pos O],hn⟩
  · rw [List.mem_singleton] at hnt
    rw [FG hlt,if_neg hnt] at hn'
    have:=(h.rng s hs).2
    omega
theorem Yp.tl (h:Yp ts t n l0 l td):td.length<=ts.length:=G2 h.nd λx hx=>(h.tdn x hx).1
theorem XZ.keep (h:XZ ts t n l0 l td k r j) (hP:VX ts t n l0) (ho:o=(U6 ts (Eh (ts.getD k (0,0,0)) r)).getD j 0) (hj:j<(U6 ts (Eh (ts.getD k (0,0,0)) r)).length) (hr:r<3) (hl:0<=gZ l o):XZ ts t n l0 l td k r (j+1):=by
  have hm:o∈U6 ts (Eh (ts.getD k (0,0,0)) r):=by rw [ho];exact MY hj
  have hot:=(Jr.1 hm).1
  have htc:Uj ts k o:=(Un hot).2 ⟨r,hr,hm⟩
  refine ⟨h.len,h.old,h.new,h.root,h.tdn,h.nd,h.kk,h.prc,h.part,λq hq=>?_⟩
  rcases Nat.lt_or_ge q j with h1|h1
  · exact h.pj q h1
  · rw [show q=j by omega,<-ho]
    rcases Int.lt_or_le (gZ l0 o) 0 with h2|h2
    · rcases h.new o hot h2 with h3|h3
      · omega
      · exact h3.1
    · have:=hP.clo o k hot h.kk.1 htc.symm h2
      have:=h.kk.2.2
      omega
theorem XZ.push (h:XZ ts t n l0 l td k r j) (hP:VX ts t n l0) (ht:t<ts.length) (ho:o=(U6 ts (Eh (ts.getD k (0,0,0)) r)).getD j 0) (hj:j<(U6 ts (Eh (ts.getD k (0,0,0)) r)).length) (hr:r<3) (hl:gZ l o<0):XZ ts t n l0 (l.set o n) (td++[o]) k r (j+1):=by
  have hm:o∈U6 ts (Eh (ts.getD k (0,0,0)) r):=by rw [ho];exact MY hj
  have hot:=(Jr.1 hm).1
  have htc:Uj ts k o:=(Un hot).2 ⟨r,hr,hm⟩
  have hlt:o<l.length:=by rw [h.len];exact hot
  have h0:gZ l0 o<0:=by
    rcases Int.lt_or_le (gZ l0 o) 0 with h2|h2
    · exact h2
    · have:=h.old o hot h2;omega
  have hck:Nv ts t k:=by
    rcases h.new k h.kk.1 h.kk.2.2 with h3|h3
    · have:=h.kk.2.1;omega
    · exact h3.2
  have up:∀s,gZ l s=n->gZ (l.set o n) s=n:=λs hs=>by
    rw [FG hlt];split
    · rfl
    · exact hs
  refine ⟨by rw [List.length_set,h.len],λs hs h1=>?_,λs hs h1=>?_,up _ h.root,λs hs=>?_,?_,⟨h.kk.1,up _ h.kk.2.1,h.kk.2.2⟩,λs hs h1 h2 h3 h4 u hu h5=>?_,λr' hr' u hu=>up _ (h.part r' hr' u hu),λq hq=>?_⟩
  · rw [FG hlt,if_neg (λe=>by subst e;omega)];exact h.old s hs h1
  · rw [FG hlt]
    split
    · rename_i e;subst e;exact .inr ⟨rfl,hck.step hs htc⟩
    · exact h.new s hs h1
  · rcases List.mem_append.1 hs with hs|hs
    · obtain ⟨a,b,c⟩:=h.tdn s hs;exact ⟨a,up _ b,c⟩
    · rw [List.mem_singleton] at hs;subst hs;exact ⟨hot,by rw [FG hlt,if_pos rfl],h0⟩
  · refine List.nodup_append.2 ⟨h.nd,by simp,λa ha b hb e=>?_⟩
    rw [List.mem_singleton] at hb
    subst hb e
    have:=(h.tdn a ha).2.1
    omega
  · have hso:s≠o:=λe=>h3 (List.mem_append_right _ (List.mem_singleton.2 e))
    rw [FG hlt,if_neg hso] at h2
    exact up _ (h.prc s hs h1 h2 (λh6=>h3 (List.mem_append_left _ h6)) h4 u hu h5)
  · rcases Nat.lt_or_ge q j with h1|h1
    · exact up _ (h.pj q h1)
    · rw [show q=j by omega,<-ho,FG hlt,if_pos rfl]
theorem XZ.tl (h:XZ ts t n l0 l td k r j):td.length<=ts.length:=G2 h.nd λx hx=>(h.tdn x hx).1
theorem Yp.finish (h:Yp ts t n l0 l td) (hP:VX ts t n l0) (ht:t<ts.length) (h0:td.length=0) (hn:gZ l0 t<0):VX ts (t+1) (n+1) l:=by
  have htd:td=[]:=List.eq_nil_of_length_eq_zero h0
  subst htd
  have cs:∀s,s<ts.length->(0<=gZ l0 s/\gZ l s=gZ l0 s)\/(gZ l0 s<0/\(gZ l s = -1\/gZ l s=n/\Nv ts t s)):=λs hs=>by
    rcases Int.lt_or_le (gZ l0 s) 0 with h2|h2
    · exact .inr ⟨h2,h.new s hs h2⟩
    · exact .inl ⟨h2,h.old s hs h2⟩
  refine ⟨h.len,λs hs=>?_,λs hs=>?_,λs u hs hu htc h1=>?_,λk hk=>?_,λs u hs hu h1 h2=>?_,by have:=hP.nle;omega⟩
  · have:=hP.rng s hs
    rcases cs s hs with ⟨a,b⟩|⟨a,b|b⟩<;>omega
  · rcases Nat.lt_or_ge s t with h1|h1
    · have h2:=hP.done s h1
      rw [h.old s Z h2];exact h2
    · rw [show s=t by omega,h.root];omega
  · rcases cs s hs with ⟨a,b⟩|⟨a,b|b⟩
    · have h3:=hP.clo s u hs hu htc a
      rw [b,h.old u hu Z,h3]
    · omega
    · rw [b.1];exact h.prc s hs a b.1 (by simp) u hu htc
  · rcases Nat.lt_or_ge k n with h1|h1
    · obtain ⟨f,a,b,c⟩:=hP.fst k h1
      refine ⟨f,Z,by rw [h.old f Z Z];exact b,λs hs=>?_⟩
      have:=hP.done s Z
      rw [h.old s Z this];exact c s hs
    · refine ⟨t,Z,by rw [h.root,show k=n by omega],λs hs=>?_⟩
      have h2:=hP.done s hs
      rw [h.old s Z h2]
      have:=(hP.rng s Z).2
      omega
  · rcases cs s hs with ⟨a,b⟩|⟨a,b|b⟩
    · rcases cs u hu with ⟨a',b'⟩|⟨a',b'|b'⟩
      · exact hP.cnx s u hs hu a Z
      · omega
      · have:=(hP.rng s hs).2;omega
    · omega
    · rcases cs u hu with ⟨a',b'⟩|⟨a',b'|b'⟩
      · have:=(hP.rng u hu).2;omega
      · omega
      · exact (b.2.symm ht).trans b'.2
end
structure aw (ts:List T3) (l:List Int) (n:Nat):Prop where
  len:l.length=ts.length
  rng:∀s,s<ts.length->0<=gZ l s/\gZ l s<n
  clo:∀s u,s<ts.length->u<ts.length->Uj ts s u->gZ l u=gZ l s
  fst:∀k,k<n->∃f,f<ts.length/\gZ l f=(k:Int)/\∀s,s<f->gZ l s<k
  cnx:∀s u,s<ts.length->u<ts.length->gZ l s=gZ l u->Nv ts s u
  nle:n<=ts.length
structure ac (ts:List T3) where
  l:List Int
  n:Nat
  pts:aw ts l n
  r:RX (zL l) l.length
instance {ts:List T3}:EQ (ac ts):=⟨λx=>.tuple #[x.r.val,vN x.n],λx=>[x.r.row],λx y hy=>by rcases List.mem_singleton.1 hy with rfl;rfl⟩
section
variable {ts:List T3} {n n':Nat} {l l':List Int}
end
structure aq (l:List Nat) where
  r:RX (inL l) l.length
  q:RX [Value.slice r.p l.length r.c] 1
instance {l:List Nat}:EQ (aq l):=⟨λx=>x.q.val,λx=>[x.q.row,x.r.row],λx y hy=>by simp only [List.mem_cons,List.not_mem_nil,or_false] at hy;rcases hy with rfl|rfl<;>rfl⟩
structure ay (n:Nat) where
  cs:List Value
  q:RX cs n
instance {n:Nat}:EQ (ay n):=⟨λx=>x.q.val,λx=>[x.q.row],λx y hy=>by rcases List.mem_singleton.1 hy with rfl;rfl⟩
end
section
section
variable {ts:List T3} {l:List Int} {k q N n:Nat}
end
end
section
section
variable {N:Nat} {ts:List T3} {T:T3} {κ:P2}
end
end
section
section
variable {ps:List Pt} {ts:List T3} {T U:T3} {k k' κ:P2} {N:Nat}
end
end
section
abbrev aJ (ps:List Pt) (ss:List T3) (l:List E4) (ts':List T3):List T3:=IA ps.length ss l ts'
structure EP (ps:List Pt) (ts ss:List T3) (l:List E4) (ts':List T3):Prop where
  g:F0 ps ts
  hn:CN ps.length ts=true
  sd:∃mm,ss=Fs mm ts ps.length ps.length
  got:∀k n,Ae (EC ps l) k=some n->∃j,j<l.length/\n=ps.length+j/\k=((l.getD j E0).a,(l.getD j E0).b)/\(l.getD j E0).a<ps.length/\(l.getD j E0).b<ps.length
  s_llen:l.length<=108
  tl:ts'.length<=4*ts.length
  s_num:CN (ps.length+l.length) ts'=true
  s_mid:R0 (EC ps l) ps.length
  cnt:∃I:List P2,(∀κ,(DE ts').count κ=((DE ts).flatMap (G0 (EC ps l))).count κ+2*I.count κ)/\∀κ∈I,ZY (EC ps l) ps.length κ
section
variable {ps:List Pt} {ts ss:List T3} {l:List E4} {ts':List T3}
theorem EP.s_hN (D:EP ps ts ss l ts'):ps.length<=108:=D.g.pl
theorem EP.s_get (D:EP ps ts ss l ts') {k:P2} {n:Nat} (h:Ae (EC ps l) k=some n):True/\∃j,j<l.length/\n=ps.length+j/\k=((l.getD j E0).a,(l.getD j E0).b)/\(l.getD j E0).a<ps.length/\(l.getD j E0).b<ps.length:=⟨trivial,D.got k n h⟩
theorem EP.s_ends (D:EP ps ts ss l ts') {k:P2} (hk:k∈DE ts):k.1<k.2/\k.2<ps.length:=UZ D.hn (by have:=D.s_hN;omega) hk
theorem EP.s_rim (D:EP ps ts ss l ts') {s:T3}:s∈B0 ts'↔(∃k,(DE ts).count k=1/\(s.1,s.2.1)∈G0 (EC ps l) k)/\s.2.2=0 :=
  Wf D.s_mid (λk hk=>D.s_ends hk) D.s_num (by have:=D.s_hN;have:=D.s_llen;omega) D.cnt
theorem EP.s_side (D:EP ps ts ss l ts') {k:T3} (hk:k∈ss):(DE ts).count (k.1,k.2.1)=1/\k.1<k.2.1/\k.2.1<ps.length:=by
  obtain ⟨mm,hs⟩:=D.sd
  rw [hs] at hk
  obtain ⟨_,h2,h3,h4,_⟩:=(Do _).1 hk
  rw [Ow D.hn h2] at h4
  exact ⟨h4,h2,h3⟩
theorem EP.s_side_of (D:EP ps ts ss l ts') {k:P2} (hk:(DE ts).count k=1):∃s∈ss,(s.1,s.2.1)=k:=by
  obtain ⟨mm,hs⟩:=D.sd
  obtain ⟨a,b⟩:=k
  obtain ⟨h1,h2⟩:=D.s_ends (List.count_pos_iff.1 (show 0<(DE ts).count (a,b) by rw [hk];decide))
  refine ⟨W1 mm a b,?_,rfl⟩
  rw [hs]
  exact (Do _).2 ⟨by show a<_;simp only at h1 h2;omega,h1,h2,by rw [<-hk];exact Ow D.hn h1,rfl⟩
theorem EP.s_side_eq (D:EP ps ts ss l ts') {k k':T3} (hk:k∈ss) (hk':k'∈ss) (h:(k.1,k.2.1)=(k'.1,k'.2.1)):k=k':=by
  obtain ⟨mm,hs⟩:=D.sd
  rw [hs] at hk hk'
  obtain ⟨_,_,_,_,e⟩:=(Do _).1 hk
  obtain ⟨_,_,_,_,e'⟩:=(Do _).1 hk'
  injection h with h1 h2
  rw [e,e',h1,h2]
theorem EP.s_pmid (D:EP ps ts ss l ts') {k:P2} {n:Nat} (h:Ae (EC ps l) k=some n):(Dn ps l).getD n ⟨0,0⟩=Cb (ps.getD k.1 ⟨0,0⟩+ps.getD k.2 ⟨0,0⟩) (1/2):=by
  obtain ⟨_,j,hj,hn,hk,_⟩:=D.s_get h
  rw [hn,Sr hj,hk];rfl
theorem EP.s_mark (D:EP ps ts ss l ts') {k:T3} {κ:P2} (hk:k∈ss) (hκ:κ∈G0 (EC ps l) (k.1,k.2.1)):Pd ps.length ss l κ.1 κ.2=k.2.2:=by
  obtain ⟨c,hlt,hlN⟩:=D.s_side hk
  obtain ⟨j,hj,rfl⟩:=List.getElem_of_mem hk
  have ej:ss.getD j (0,0,0)=ss[j]:=by rw [List.getD,List.getElem?_eq_getElem hj];rfl
  have mem:∀i,i<ss.length->ss.getD i (0,0,0)∈ss:=λi hi=>by rw [List.getD,List.getElem?_eq_getElem hi];exact List.getElem_mem _
  have ky:∀{a b:Nat},a<b->BY a b=(a,b):=λ{a b} h=>by
    unfold BY
    rw [Nat.min_eq_left Z,Nat.max_eq_right Z]
  have hnd:∀i i',i<ss.length->i'<ss.length->ss.getD i (0,0,0)=ss.getD i' (0,0,0)->i=i':=λi i' hi hi' e=>by
    obtain ⟨mm,hs⟩:=D.sd
    have hp:ss.Pairwise Yy:=by rw [hs];exact Hc _
    rw [List.getD,List.getElem?_eq_getElem hi,List.getD,List.getElem?_eq_getElem hi'] at e
    have e:ss[i]=ss[i']:=e
    have hp:=List.pairwise_iff_getElem.1 hp
    rcases Nat.lt_trichotomy i i' with h|h|h
    · have:=hp i i' hi hi' h;rw [e] at this;unfold Yy at this;omega
    · exact h
    · have:=hp i' i hi' hi h;rw [e] at this;unfold Yy at this;omega
  have at_:=Qa (N:=ps.length) (ss:=ss) (λi hi=>by have:=D.s_side (mem i hi);omega) (λi i' hi hi' e=>by
    rw [ky (D.s_side (mem i hi)).2.1,ky (D.s_side (mem i' hi')).2.1] at e
    exact hnd i i' hi hi' (D.s_side_eq (mem i hi) (mem i' hi') e)) ss.length (Nat.le_refl _) j Z hj
  rw [ej,ky hlt] at at_
  unfold Pd
  cases hg:Ae (EC ps l) (ss[j].1,ss[j].2.1) with
  | none =>
    rw [DR hg,List.mem_singleton] at hκ
    rw [hκ]
    show (Ae (Dt ps.length ss l l.length) (BY ss[j].1 ss[j].2.1)).getD 0=_
    rw [ky hlt,LV hlN,at_];rfl
  | some n =>
    obtain ⟨_,i,hi,hn,hki,hb⟩:=D.s_get hg
    have hx:κ.2=n/\(κ.1=(l.getD i E0).a\/κ.1=(l.getD i E0).b):=by
      rw [Ef hg,hki] at hκ
      simp only [List.mem_cons,List.not_mem_nil,or_false] at hκ
      rcases hκ with rfl|rfl
      · exact ⟨rfl,.inl O⟩
      · exact ⟨rfl,.inr O⟩
    have hab:(l.getD i E0).a<(l.getD i E0).b:=by
      have h9:=congrArg Prod.fst hki
      have h8:=congrArg Prod.snd hki
      simp only at h9 h8
      omega
    rw [hx.1,(GI (show κ.1<ps.length by omega) (show ps.length<=n by omega)).2,hn,OI hb hx.2 _ hi,ky hab,<-hki,at_];rfl
theorem EP.s_fs_mem (D:EP ps ts ss l ts') {s:T3} (hs:s∈(aJ ps ss l ts')):(∃k∈ss,(s.1,s.2.1)∈G0 (EC ps l) (k.1,k.2.1)/\s.2.2=k.2.2)/\s.1<ps.length+l.length/\s.2.1<ps.length+l.length:=by
  obtain ⟨r,hr,rfl⟩:=List.mem_map.1 hs
  obtain ⟨⟨k,hk,hm⟩,_⟩:=D.s_rim.1 hr
  obtain ⟨q,hq,rfl⟩:=D.s_side_of hk
  have h9:=Qh D.s_num (by have:=D.s_hN;have:=D.s_llen;omega) hr
  exact ⟨⟨q,hq,hm,D.s_mark hq hm⟩,h9⟩
theorem EP.s_fs_len (D:EP ps ts ss l ts'):(aJ ps ss l ts').length<=432:=by
  have h1:(B0 ts').length<=3*ts'.length:=Ve
  have h2:ts'.length<=4*ts.length:=D.tl
  have h3:=D.g.tl
  have h4:(aJ ps ss l ts').length=(B0 (ts')).length:=List.length_map _
  omega
theorem EP.s_sz (D:EP ps ts ss l ts') (i:Nat):B5 ((Dn ps l).getD i ⟨0,0⟩)<=100:=by
  rcases Nat.lt_or_ge i ps.length with h|h
  · rw [YB h];exact Nat.le_trans (D.g.sz i) (by decide)
  · rcases Nat.lt_or_ge (i-ps.length) l.length with h2|h2
    · rw [show i=ps.length+(i-ps.length) by omega,Sr h2]
      unfold Y1
      have k1:=Id (cor ps (l.getD (i-ps.length) E0).a+cor ps (l.getD (i-ps.length) E0).b) (1/2)
      have k2:=Na (cor ps (l.getD (i-ps.length) E0).a) (cor ps (l.getD (i-ps.length) E0).b)
      have k3:B5 (cor ps (l.getD (i-ps.length) E0).a)<=4:=D.g.sz _
      have k4:B5 (cor ps (l.getD (i-ps.length) E0).b)<=4:=D.g.sz _
      have k5:Sz (1/2)<=4:=by decide +kernel
      omega
    · rw [List.getD,List.getElem?_eq_none (by rw [FH];omega)]
      have:B5 (⟨0,0⟩:Pt)<=100:=by decide +kernel
      exact this
end
section
variable {ps:List Pt} {ts ss:List T3}
end
section
variable {ps pf:List Pt} {ss:List T3} {s:T3} {k:Nat}
end
end
section
section
variable {ps:List Pt} {ts ss:List T3} {l:List E4} {ts':List T3} {fam:T3->List T3} {t:T3} {k:Nat}
def Zo (ps:List Pt) (l:List E4) (a b:Nat):Nat:=(Ae (EC ps l) (BY a b)).getD 0
theorem H3 (hk:3<=k) (hk6:k<6):E7 (Zo ps l) t k=(Ae (EC ps l) (Fa t k)).getD 0:=by
  have e:k=3\/k=4\/k=5:=by omega
  rcases e with rfl|rfl|rfl<;>rfl
theorem V7 (hk:3<=k) (hk6:k<6):Cb (cor ps (Fa t k).1+cor ps (Fa t k).2) (1/2)=JC ps t k:=by
  have sy:∀a b,Cb (cor ps (BY a b).1+cor ps (BY a b).2) (1/2)=Yw (cor ps a) (cor ps b):=λa b=>by
    unfold BY Yw
    rcases Nat.le_total a b with h|h
    · rw [Nat.min_eq_left h,Nat.max_eq_right h]
    · rw [Nat.min_eq_right h,Nat.max_eq_left h]
      congr 1
      refine Pt.ext ?_ ?_<;>simp only [UU,TR]<;>grind
  have e:k=3\/k=4\/k=5:=by omega
  rcases e with rfl|rfl|rfl
  · exact sy _ _
  · exact sy _ _
  · exact sy _ _
theorem Wi {κ:P2} (h:κ∈DE ts):∃t∈ts,∃k,3<=k/\k<6/\Fa t k=κ:=by
  obtain ⟨t,ht,h⟩:=List.mem_flatMap.1 h
  simp only [List.mem_cons,List.not_mem_nil,or_false] at h
  rcases h with h|h|h
  · exact ⟨t,ht,3,by decide,by decide,h.symm⟩
  · exact ⟨t,ht,4,by decide,by decide,h.symm⟩
  · exact ⟨t,ht,5,by decide,by decide,h.symm⟩
theorem X0 (D:EP ps ts ss l ts') (hsub:∀e∈l,e∈Bq ts) (hso:l.Pairwise XY) (hf:∀t∈ts,QG (fam t)) (hcut:ts'=ts.flatMap λt=>(fam t).map (C3 (Zo ps l) t))
    (hus:∀t∈ts,∀k,3<=k->k<6->(Gm (fam t) k=true↔∃n,Ae (EC ps l) (Fa t k)=some n)):GZ ps ts (Dn ps l) ts' (Zo ps l) fam:=by
  have hN:=D.s_hN
  refine ⟨D.g,hcut,hf,by rw [FH];omega,λp hp=>?_,λt ht k hk hk6 hu=>?_,λp hp hp'=>?_,λt ht s hs l' k hl hl6 hk hk6 hu e=>?_⟩
  · unfold cor
    rw [show Dn ps l=ps++(l.take l.length).map (Y1 ps) from J7 _ (Nat.le_refl _),List.getD,List.getElem?_append_left hp];rfl
  · obtain ⟨n,hn⟩:=(hus t ht k hk hk6).1 hu
    obtain ⟨j,hj,hnj,_⟩:=D.got _ _ hn
    have e:=D.s_pmid hn
    rw [H3 hk hk6,hn]
    refine ⟨by show ps.length<=n;omega,by rw [FH];show n<_;omega,?_⟩
    rw [<-V7 hk hk6]
    exact e
  · rw [FH] at hp'
    have hj:p-ps.length<l.length:=by omega
    have hm:l.getD (p-ps.length) E0∈l:=by rw [List.getD,List.getElem?_eq_getElem hj];exact List.getElem_mem _
    have hes:∀e∈l,e.a<e.b:=λe he=>(F8 D.hn Z (hsub e he)).1
    have h1:=KI (N:=ps.length) hso hes _ (Nat.le_refl _) hj
    obtain ⟨t,ht,k,hk,hk6,e⟩:=Wi ((H5 D.hn Z).2 ⟨_,hsub _ hm,rfl,rfl⟩)
    refine ⟨t,ht,k,hk,hk6,(hus t ht k hk hk6).2 ⟨_,by rw [e];exact h1⟩,?_⟩
    rw [H3 hk hk6,e,h1]
    show p=ps.length+(p-ps.length)
    omega
  · obtain ⟨n,hn⟩:=(hus s hs k hk hk6).1 hu
    exact ⟨(hus t ht l' hl hl6).2 ⟨n,by rw [e];exact hn⟩,by rw [H3 hl hl6,H3 hk hk6,e]⟩
theorem YM (D:EP ps ts ss l ts') {mv:Nat->Nat->Nat} (S:GZ ps ts (Dn ps l) ts' mv fam) (h0:0<ts'.length):Lv (Dn ps l) ts' (IA ps.length ss l ts'):=by
  have hN:=D.s_hN
  have hl:=D.s_llen
  have ht:=D.g.tl
  have htl:=D.tl
  refine S.chk (by rw [FH];omega) Z (Nat.le_trans D.s_fs_len (by decide)) h0 (λk=>Nat.le_trans (D.s_sz k) (by decide)) (by rw [FH];exact D.s_num) (λs hs=>?_) ?_
  · obtain ⟨⟨k,hk,_,e⟩,h1,h2⟩:=D.s_fs_mem hs
    rw [FH]
    refine ⟨h1,h2,?_⟩
    obtain ⟨mm,hmm⟩:=D.sd
    rw [hmm] at hk
    have h5:=((Do _).1 hk).2.2.2.2
    rw [e,h5]
    show (k.1+3*k.2.1+mm.fst)%5<=255
    omega
  · unfold IA
    rw [List.map_map]
    rfl
end
def Ky (ps:List Pt) (t:T3):Rat:=AJ (cor ps t.1) (cor ps t.2.1) (cor ps t.2.2)*(1/2)
def GB (ps:List Pt) (ts:List T3):Nat->Rat
  | 0=>0
  | i+1=>GB ps ts i+Ky ps (ts.getD i (0,0,0))
theorem QW {ps:List Pt} (hz:∀k,B5 (cor ps k)<=1000) (t:T3):Sz (Ky ps t)<=8009:=by
  have h1:=C1 (cor ps t.1) (cor ps t.2.1) (cor ps t.2.2)
  have z1:=hz t.1
  have z2:=hz t.2.1
  have z3:=hz t.2.2
  have h2:=DM (AJ (cor ps t.1) (cor ps t.2.1) (cor ps t.2.2)) (1/2)
  have h3:=Jz
  unfold Ky
  omega
theorem Qd {ps:List Pt} (hz:∀k,B5 (cor ps k)<=1000) (ts:List T3):∀i,Sz (GB ps ts i)<=2+i*8010
  | 0=>by show Sz (0:Rat)<=2+0*8010;decide +kernel
  | i+1=>by
    have h:=Qd hz ts i
    have h1:=QW hz (ts.getD i (0,0,0))
    have h4:=FS (GB ps ts i) (Ky ps (ts.getD i (0,0,0)))
    show Sz (GB ps ts i+Ky ps (ts.getD i (0,0,0)))<=_
    omega
def Gq:List Rat->Rat
  | []=>0
  | x::r=>x+Gq r
theorem On (a b:List Rat):Gq (a++b)=Gq a+Gq b:=by
  induction a with
  | nil=>simp only [List.nil_append,Gq];grind
  | cons x r ih=>simp only [List.cons_append,Gq,ih];grind
theorem Oh (ps:List Pt) (ts:List T3):∀i,i<=ts.length->GB ps ts i=Gq ((ts.take i).map (Ky ps))
  | 0,_=>by simp [GB,Gq]
  | i+1,h=>by
    rw [Dx (d:=(0,0,0)) (show i<ts.length by omega),List.map_append,On,<-Oh ps ts i Z]
    simp only [GB,List.map_cons,List.map_nil,Gq]
    grind
theorem OK (ps:List Pt) (ts:List T3):GB ps ts ts.length=Gq (ts.map (Ky ps)):=by rw [Oh _ _ _ (Nat.le_refl _),List.take_length]
theorem L_ {α:Type} (f:α->Rat) (g:α->List Rat):∀l:List α,(∀x∈l,Gq (g x)=f x)->Gq (l.flatMap g)=Gq (l.map f)
  | [],_=>rfl
  | x::r,h=>by
    rw [List.flatMap_cons,On,List.map_cons,Gq,h x List.mem_cons_self,L_ f g r λy hy=>h y (List.mem_cons_of_mem _ hy)]
def Rc (fam:List T3):Int:=(fam.map λL=>D3 L.1 L.2.1 L.2.2).foldr (·+·) 0
section
variable {ps ps':List Pt} {ts ts':List T3} {mv:Nat->Nat->Nat} {fam:T3->List T3} {t L:T3}
theorem GZ.v_sum (S:GZ ps ts ps' ts' mv fam) (ht:t∈ts):∀l:List T3,(∀L∈l,L∈fam t)->Gq ((l.map (C3 mv t)).map (Ky ps'))*8=((Rc l:Int):Rat)*Ky ps t
  | [],_=>by simp only [List.map_nil,Gq,Rc,List.foldr_nil];simp
  | L::r,h=>by
    have ih:=S.v_sum ht r λM hM=>h M (List.mem_cons_of_mem _ hM)
    have e:=S.v_turn ht (h L List.mem_cons_self)
    have e2:Rc (L::r)=D3 L.1 L.2.1 L.2.2+Rc r:=rfl
    rw [List.map_cons,List.map_cons,Gq,e2,Rat.intCast_add]
    unfold Ky at ih ⊢
    have e3:AJ (cor ps' (C3 mv t L).1) (cor ps' (C3 mv t L).2.1) (cor ps' (C3 mv t L).2.2)*(1/2)*8=((D3 L.1 L.2.1 L.2.2:Int):Rat)*(AJ (cor ps t.1) (cor ps t.2.1) (cor ps t.2.2)*(1/2)):=by
      rw [show AJ (cor ps' (C3 mv t L).1) (cor ps' (C3 mv t L).2.1) (cor ps' (C3 mv t L).2.2)*(1/2)*8=AJ (cor ps' (C3 mv t L).1) (cor ps' (C3 mv t L).2.1) (cor ps' (C3 mv t L).2.2)*8*(1/2) by grind,e]
      grind
    rw [Rat.add_mul,e3,ih]
    grind
theorem GZ.v_area (S:GZ ps ts ps' ts' mv fam) (hs:∀t∈ts,Rc (fam t)=8):GB ps' ts' ts'.length=GB ps ts ts.length:=by
  rw [OK,OK,S.cut,List.map_flatMap]
  refine L_ _ _ _ λt ht=>?_
  have h:=S.v_sum ht (fam t) λL hL=>hL
  rw [hs t ht] at h
  have h8:((8:Int):Rat)=8:=rfl
  rw [h8] at h
  grind
theorem GZ.v_where (S:GZ ps ts ps' ts' mv fam) (ht:t∈ts) {l:Nat} (hl:l<6):FP (cor ps t.1) (cor ps t.2.1) (cor ps t.2.2) (JC ps t l)≠0:=λe =>
  (Mq (S.v_pos ht)).1 (show KL ps (JC ps t l) t=0 from e) (P7 (S.v_pos ht) hl)
end
section
variable {ps:List Pt} {ts ss:List T3}
end
end
section
set_option maxRecDepth 100000
theorem OZ {ps:List Pt} {ts ss:List T3} (x:MX ps ts ss) (hl:ts.length<=8192) (hz:∀k,B5 (cor ps k)<=1000) (hnb:CN ps.length ts=true) (w:World) {S:Nat->Prop} (hx:Ro S w x):Calls prog 20 #[(aG (Bk x))] w (Av w (aG (AH (GB ps ts ts.length)))):=by
 have lx:=EA (W:=w) hx
 refine BF (args:=[(aG (Bk x))]) (L:=[AZ x.a.p (rowsL Aj ps),AZ x.b.p (rowsL An ts),AZ x.c.p (rowsL An ss)]) func20 O O (Ab O) (EB hx BR) (AF.subF (sL [0] O) (q4 (Bo (cs:=Bk x) O λb1=>al DL O λb2=>q3 (sL [1,2] O) ?_)))
 refine al DL O λb3=>AE.nil (q1 (q4 (A6 2 C9 O (Ew (args:=[(aG (Bk x))]) (v:=(Value.bool true)) call46 (λw hw=>(by have h9:=M4 x Z w (DB hw 3 O lx);rw [hnb] at h9;exact h9)) O ?_))))
 refine AI (Bg (c:=false) O O) O (AE.nil (AC.subF (sL [1,2,3,7] O) (AC.then_ (AF.cond_false O (AF.skip ?_)))))
 refine q1 (q4 (AI (v:=(pP b1 1)) (AA O underlying31 O sizeOf28 O) O (BK 2 (Value.slice x.b.p ts.length x.b.c) CR O (AI (v:=(vN ts.length)) (AG O underlying28) O (AR O ?_)))))
 refine AE.nil (AC.subF (sL [1,2,3,11,12] O) (AC.then_ (AF.block ?_)))
 refine AF.lp1 (tg λ(i:Nat)=>i<=ts.length) (tg λ(i:Nat)=>[(1,(pP b1 0)),(2,(pP b2 0)),(3,(pP b3 0)),(11,(vN ts.length)),(12,(vN i))]) (tg λ(i:Nat)=>[Af b3 53 (AH (GB ps ts i)),Af b2 53 (AH (0:Rat)),Af b1 31 (Bk x),AZ x.a.p (rowsL Aj ps),AZ x.b.p (rowsL An ts),AZ x.c.p (rowsL An ss)]) (tg λ(i:Nat)=>ts.length-i) 0 (Nat.zero_le _) (sF O) sr (λi hJ=>?_)
 have hi:=hJ
 refine q4 (AI (Am (c:=(decide (i<ts.length))) O O (C6 (a:=i) (b:=ts.length))) O (AE.nil (q1 ?_)))
 refine AF.cond O (λhc1=>?_) (λhc1=>?_)
 ·replace hc1:=of_decide_eq_true hc1
  have hi2:=hc1
  have ha:=Qd hz ts i
  have hb:=QW hz (ts.getD i (0,0,0))
  have z0:=hz (ts.getD i (0,0,0)).1
  have z1:=hz (ts.getD i (0,0,0)).2.1
  have z2:=hz (ts.getD i (0,0,0)).2.2
  refine AF.skip (q1 (AF.block (q4 (AR O (AO O ?_)))))
  refine AE.nil (AC.subF (sL [1,2,3,11,12,4] O) (AC.then_ (rC [(0,true),(1,true),(2,true),(3,false),(4,true),(5,true),(6,true),(7,false),(8,false)] 9 [] sr (sl sr) (by kernel_rfl) (λ_ _ d _ _ h=>by cases d<;>exact h) (vE (v:=(aG (AH (GB ps ts i)))) O (Ac (i:=0) (vs:=AH (GB ps ts i)) O O BP.a BP.s O O) O (vE (v:=(aG (Bk x))) O (Ac (i:=2) (vs:=Bk x) O O C9.a C9.s O O) O ?_)))))
  refine vM O O O (Bu.imp O (Ew call21 (λw hw=>FK x i hi2 (CU hnb hi2) w (DB hw 3 O lx)) O (Bu.back sr (vE O (AU (v:=(aG (Aj (cor ps (ts.getD i (0,0,0)).1)))) O O) O (vE O (AU (v:=(aG (Aj (cor ps (ts.getD i (0,0,0)).2.1)))) O O) O ?_)))))
  refine vE O (AU (v:=(aG (Aj (cor ps (ts.getD i (0,0,0)).2.2)))) O O) O (Bu.imp O ?_)
  have hz1:=C1 (cor ps (ts.getD i (0,0,0)).1) (cor ps (ts.getD i (0,0,0)).2.1) (cor ps (ts.getD i (0,0,0)).2.2)
  have hz2:=DM (AJ (cor ps (ts.getD i (0,0,0)).1) (cor ps (ts.getD i (0,0,0)).2.1) (cor ps (ts.getD i (0,0,0)).2.2)) (1/2)
  refine BW call26 (IR (cor ps (ts.getD i (0,0,0)).1) (cor ps (ts.getD i (0,0,0)).2.1) (cor ps (ts.getD i (0,0,0)).2.2) Z) O (Bu.back sr (Bu.imp O (BW call29 (Fi (GB ps ts i) (Ky ps (ts.getD i (0,0,0))) Z) O (Bu.back sr (Bu.cut O ?_)))))
  refine Aq O sizeOf53 O (AV.back (sl sr) (AV.nil (AC.subF (sL [1,2,3,11,12] O) (AC.in_normal (AC.then_ ?_)))))
  exact AF.region (AI (AY (c:=((i+1:Nat):Int)) O O (AX (a:=i) (b:=1) Z)) O (AR O (AE.nil (AC.subF (sL [1,2,3,11,12] O) (AC.round1 (i+1) Z Z (sF O) sr)))))
 ·replace hc1:=of_decide_eq_false hc1
  have hie:i=ts.length:=by omega
  refine AF.exit (AC.then_exit (AC.round1_exit (AC.in_exit (q2 (A6 0 BP O ?_)))))
  exact Cq O sizeOf53 O (AE.nil (AC.subF (sL [1,2,3,11,12] O) (AC.then_ (AF.ret (AT O (A7 (i:=1) (cs:=AH (GB ps ts i)) O O isAgg53 sizeOf53 O) (λw hw=>⟨by rw [hie],hw.out⟩))))))
end
end Go.Proofs.YtfbomiejpbchdaaGreat
