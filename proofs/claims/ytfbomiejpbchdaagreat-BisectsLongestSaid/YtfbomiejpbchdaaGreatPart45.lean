import Derived.WideLaws
import Derived.Shelf.SlSortCmp.Whole1
import Derived.ProofKit
import Derived.LaidMore
import Derived.Carry
import Derived.Stop.Joined
import Derived.SevenTiedAt
import Derived.Test.YtfbomiejpbchdaaGreatPart06
import Derived.Test.YtfbomiejpbchdaaGreatPart20
import Derived.Test.YtfbomiejpbchdaaGreatPart24
import Derived.Test.YtfbomiejpbchdaaGreatPart28
import Derived.Test.YtfbomiejpbchdaaGreatPart30
import Derived.Test.YtfbomiejpbchdaaGreatPart31
import Derived.Test.YtfbomiejpbchdaaGreatPart32
import Derived.Test.YtfbomiejpbchdaaGreatPart34
import Derived.Test.YtfbomiejpbchdaaGreatPart35
import Derived.Test.YtfbomiejpbchdaaGreatPart38
import Derived.Test.YtfbomiejpbchdaaGreatPart39
import Derived.Test.YtfbomiejpbchdaaGreatPart43
import Derived.Test.YtfbomiejpbchdaaGreatPart44
namespace Go.Proofs.YtfbomiejpbchdaaGreat
open Go Go.RowKit Go.Proofs.Tryz
set_option linter.unusedVariables false
set_option linter.unusedSimpArgs false
section
set_option maxRecDepth 100000
end
section
set_option maxRecDepth 100000
end
section
set_option maxRecDepth 100000
end
section
section
variable {P:Program} {n:Nat} {F:List (Nat×Value)} {w0:BM} {L:List As} {x y:Operand} {d:Option Tmp} {t:TypeId} {p:String} {af:Array Edge} {g:Option (Nat×Bool)}
end
end
section
set_option maxRecDepth 100000
end
section
set_option maxRecDepth 100000
end
section
structure RI where
  l:List Nat
  p:Option Addr
  c:Nat
  ok:BI p l.length c
  sm:l.length<=10000000
instance:Inhabited RI:=⟨⟨[],none,0,OwnOk.none.row,by decide⟩⟩
def aO (x:RI):Value:=.slice x.p x.l.length x.c
def Zx (x:RI):As:=AY x.p (inL x.l)
def aS (rs:List RI):List As:=rs.map Zx
def aY (rs:List RI):List Value:=rs.map aO
section
variable {P:Program} {ops:Array Oper} {rest:List Oper} {Q:Exit->Act->World->Prop} {n:Nat} {F:List (Nat×Value)} {w0:BM} {L L2:List As}
end
def Yx (w:World) (Ag:Nat) (x:RI):Prop:=Go.Proofs.YtfbomiejpbchdaaGreat.Holds w (Zx x)/\∀b,(Zx x).foot=some b->Ag≠b
instance goodInh (w:World) (Ag:Nat):Inhabited {x:RI // Yx w Ag x}:=⟨⟨default,(λb e=>by cases e),(λb e=>by cases e)⟩⟩
structure aW (ls:List (List Nat)) where
  rs:List RI
  e:rs.map (·.l)=ls
  q:RX (aY rs) rs.length
instance {ls:List (List Nat)}:EI (aW ls):=⟨λx=>x.q.val,λx=>x.q.row::aS x.rs,λx y hy=>by
  rcases List.mem_cons.1 hy with rfl|hy
  · rfl
  · obtain ⟨r,_,rfl⟩:=List.mem_map.1 hy;rfl⟩
end
section
structure RO where
  p:Option Addr
  c:Nat
  l:List Nat
  ok:OwnOk p l.length c
@[reducible] def ah (x:RO):Value:=.slice x.p x.l.length x.c
section
variable {kvs:List (Nat×RO)} {k T:Nat} {s:RO}
end
section
variable {P:Program} {ops:Array Oper} {rest:List Oper} {Q:Exit->Act->World->Prop} {n:Nat} {F:List (Nat×Value)} {w0:BM} {L A:List As} {kvs:List (Nat×RO)} {k T:Nat}
end
section
variable {P:Program} {ops:Array Oper} {rest:List Oper} {Q:Exit->Act->World->Prop} {n d i z m c c2:Nat} {F:List (Nat×Value)} {w0:BM} {L:List As} {t ty T:TypeId} {p:String} {af:Array Edge} {x y:Operand} {cs vs cs':List Value} {q:Option Addr} {v u:Value} {A0 A1 A2 A3 A4:As}
end
section
variable {P:Program} {ops:Array Oper} {rest:List Oper} {Q:Exit->Act->World->Prop} {n:Nat} {F:List (Nat×Value)} {w0:BM} {L:List As} {d:Option Tmp} {op:Op} {t:TypeId} {p:String} {af:Array Edge} {g:Nat×Bool}
theorem AE.unguard (hw:Wt ops n F ⟨d,op,t,p,af,some g⟩) (next:AE P ops (⟨d,op,t,p,af,none⟩::rest) Q n F w0 L):AE P ops (⟨d,op,t,p,af,some g⟩::rest) Q n F w0 L:=λa w ha hW=>by
  have h:=next a w ha hW
  unfold wpList at h ⊢
  rw [if_pos (hw a ha)]
  rw [if_pos (AK rfl a ha)] at h
  exact h
end
def Ze (ts:List T3) (s:Nat):Nat:=Bi (ts.getD (s/3) (0,0,0)) (s%3)
def Za (ts:List T3):Nat->List (Nat×List Nat)
  | 0=>[]
  | s+1=>BT (Za ts s) (Ze ts s) ((Ao (Za ts s) (Ze ts s)).getD []++[s/3])
def Te (ts:List T3) (p:Nat):List Nat:=(Ao (Za ts (3*ts.length)) p).getD []
section
variable {ts:List T3} {N:Nat}
theorem Lv {l:List Nat} {j:Nat} (h:j<l.length):l.getD j 0∈l:=by rw [List.getD,List.getElem?_eq_getElem h];exact List.getElem_mem h
theorem NR {p o:Nat}:∀s,o∈(Ao (Za ts s) p).getD []↔∃u,u<s/\Ze ts u=p/\u/3=o
  | 0=>⟨λh=>(by cases h),λ⟨u,h,_⟩=>absurd h (Nat.not_lt_zero _)⟩
  | s+1=>by
    show o∈(Ao (BT _ _ _) p).getD []↔_
    rw [CV]
    split
    · rename_i e
      rw [Option.getD_some,List.mem_append,List.mem_singleton,<-e,NR s]
      constructor
      · rintro (⟨u,h1,h2,h3⟩|h)
        · exact ⟨u,Z,h2,h3⟩
        · exact ⟨s,Z,e.symm,h.symm⟩
      · rintro ⟨u,h1,h2,h3⟩
        rcases Nat.lt_or_ge u s with h4|h4
        · exact .inl ⟨u,h4,h2,h3⟩
        · exact .inr (by rw [<-h3,show u=s by omega])
    · rename_i e
      rw [NR s]
      constructor
      · rintro ⟨u,h1,h2,h3⟩;exact ⟨u,Z,h2,h3⟩
      · rintro ⟨u,h1,h2,h3⟩
        refine ⟨u,?_,h2,h3⟩
        rcases Nat.lt_or_ge u s with h4|h4
        · exact h4
        · exact absurd (by rw [<-h2,show u=s by omega]) e
theorem Jo {p o:Nat}:o∈Te ts p↔o<ts.length/\∃r,r<3/\Bi (ts.getD o (0,0,0)) r=p:=by
  unfold Te
  rw [NR]
  constructor
  · rintro ⟨u,h1,h2,rfl⟩;exact ⟨Z,u%3,Z,h2⟩
  · rintro ⟨h1,r,h2,h3⟩
    refine ⟨3*o+r,Z,?_,Z⟩
    unfold Ze
    rw [show (3*o+r)/3=o by omega,show (3*o+r)%3=r by omega];exact h3
def TM (ts:List T3) (i j:Nat):Prop:=∃r s,r<3/\s<3/\Bi (ts.getD i (0,0,0)) r=Bi (ts.getD j (0,0,0)) s
theorem TM.symm {i j:Nat} (h:TM ts i j):TM ts j i:=by obtain ⟨r,s,a,b,c⟩:=h;exact ⟨s,r,b,a,c.symm⟩
theorem SS {k u:Nat} (hu:u<ts.length):TM ts k u↔∃r,r<3/\u∈Te ts (Bi (ts.getD k (0,0,0)) r):=by
  constructor
  · rintro ⟨r,s,h1,h2,h3⟩;exact ⟨r,h1,Jo.2 ⟨hu,s,h2,h3.symm⟩⟩
  · rintro ⟨r,h1,h2⟩;obtain ⟨_,s,h3,h4⟩:=Jo.1 h2;exact ⟨r,s,h1,h3,h4.symm⟩
inductive NZ (ts:List T3) (i:Nat):Nat->Prop
  | refl:NZ ts i i
  | step {j k:Nat}:NZ ts i j->k<ts.length->TM ts j k->NZ ts i k
theorem NZ.trans {i j k:Nat} (h:NZ ts i j) (h2:NZ ts j k):NZ ts i k:=by
  induction h2 with
  | refl=>exact h
  | step _ a b ih=>exact .step ih a b
theorem NZ.symm {i j:Nat} (hi:i<ts.length) (h:NZ ts i j):NZ ts j i:=by
  have key:j<ts.length/\NZ ts j i:=by
    induction h with
    | refl=>exact ⟨hi,.refl⟩
    | step _ a b ih=>exact ⟨a,(NZ.step .refl ih.1 b.symm).trans ih.2⟩
  exact key.2
abbrev gZ (l:List Int) (s:Nat):Int:=l.getD s 0
theorem E6 {l:List Int} {o s:Nat} {z:Int} (ho:o<l.length):gZ (l.set o z) s=if s=o then z else gZ l s:=by
  unfold gZ
  rw [List.getD,List.getElem?_set]
  by_cases h:o=s
  · subst h;rw [if_pos rfl,if_pos ho,if_pos rfl];rfl
  · rw [if_neg h,if_neg (λe=>h e.symm)];rfl
structure VB (ts:List T3) (t n:Nat) (l:List Int):Prop where
  len:l.length=ts.length
  rng:∀s,s<ts.length -> -1<=gZ l s/\gZ l s<n
  done:∀s,s<t->0<=gZ l s
  clo:∀s u,s<ts.length->u<ts.length->TM ts s u->0<=gZ l s->gZ l u=gZ l s
  fst:∀k,k<n->∃f,f<t/\gZ l f=(k:Int)/\∀s,s<f->gZ l s<k
  cnx:∀s u,s<ts.length->u<ts.length->0<=gZ l s->gZ l s=gZ l u->NZ ts s u
  nle:n<=t
structure XO (ts:List T3) (t n:Nat) (l0 l:List Int) (td:List Nat) (k r j:Nat):Prop where
  len:l.length=ts.length
  old:∀s,s<ts.length->0<=gZ l0 s->gZ l s=gZ l0 s
  new:∀s,s<ts.length->gZ l0 s<0->gZ l s = -1\/gZ l s=n/\NZ ts t s
  root:gZ l t=n
  tdn:∀s∈td,s<ts.length/\gZ l s=n/\gZ l0 s<0
  nd:td.Nodup
  kk:k<ts.length/\gZ l k=n/\gZ l0 k<0
  prc:∀s,s<ts.length->gZ l0 s<0->gZ l s=n->s ∉ td->s≠k->∀u,u<ts.length->TM ts s u->gZ l u=n
  part:∀r',r'<r->∀u∈Te ts (Bi (ts.getD k (0,0,0)) r'),gZ l u=n
  pj:∀q,q<j->gZ l ((Te ts (Bi (ts.getD k (0,0,0)) r)).getD q 0)=n
structure Yf (ts:List T3) (t n:Nat) (l0 l:List Int) (td:List Nat):Prop where
  len:l.length=ts.length
  old:∀s,s<ts.length->0<=gZ l0 s->gZ l s=gZ l0 s
  new:∀s,s<ts.length->gZ l0 s<0->gZ l s = -1\/gZ l s=n/\NZ ts t s
  root:gZ l t=n
  tdn:∀s∈td,s<ts.length/\gZ l s=n/\gZ l0 s<0
  nd:td.Nodup
  prc:∀s,s<ts.length->gZ l0 s<0->gZ l s=n->s ∉ td->∀u,u<ts.length->TM ts s u->gZ l u=n
variable {t n k r j o:Nat} {l0 l:List Int} {td:List Nat}
theorem VB.start (hl:l.length=ts.length) (h:∀s,s<ts.length->gZ l s = -1):VB ts 0 0 l:=⟨hl,λs hs=>by rw [h s hs];omega,λs hs=>absurd hs (Nat.not_lt_zero _),λs u hs _ _ h0=>by rw [h s hs] at h0;omega,λk hk=>absurd hk (Nat.not_lt_zero _),λs u hs _ h0=>by rw [h s hs] at h0;omega,Nat.le_refl _⟩
theorem VB.next (h:VB ts t n l) (ht:0<=gZ l t):VB ts (t+1) n l:=⟨h.len,h.rng,λs hs=>by
    rcases Nat.lt_or_ge s t with h1|h1
    · exact h.done s h1
    · rw [show s=t by omega];exact ht,h.clo,λk hk=>by obtain ⟨f,a,b,c⟩:=h.fst k hk;exact ⟨f,Z,b,c⟩,h.cnx,by have:=h.nle;omega⟩
theorem Yf.start (h:VB ts t n l0) (ht:t<ts.length) (hn:gZ l0 t<0):Yf ts t n l0 (l0.set t n) [t]:=by
  have hlt:t<l0.length:=by rw [h.len];exact ht
  refine ⟨by rw [List.length_set,h.len],λs hs h0=>?_,λs hs h0=>?_,by rw [E6 hlt,if_pos O],λs hs=>?_,by simp,λs hs h0 hn' hnt u hu htc=>?_⟩
  · rw [E6 hlt,if_neg (λe=>by subst e;omega)]
  · rw [E6 hlt]
    split
    · rename_i e;subst e;exact .inr ⟨rfl,.refl⟩
    · exact .inl (by have:=(h.rng s hs).1;omega)
  · rw [List.mem_singleton] at hs
    subst hs
    exact ⟨ht,by rw [E6 hlt,if_pos O],hn⟩
  · rw [List.mem_singleton] at hnt
    rw [E6 hlt,if_neg hnt] at hn'
    have:=(h.rng s hs).2
    omega
theorem Yf.tl (h:Yf ts t n l0 l td):td.length<=ts.length:=Gf h.nd λx hx=>(h.tdn x hx).1
theorem XO.keep (h:XO ts t n l0 l td k r j) (hP:VB ts t n l0) (ho:o=(Te ts (Bi (ts.getD k (0,0,0)) r)).getD j 0) (hj:j<(Te ts (Bi (ts.getD k (0,0,0)) r)).length) (hr:r<3) (hl:0<=gZ l o):XO ts t n l0 l td k r (j+1):=by
  have hm:o∈Te ts (Bi (ts.getD k (0,0,0)) r):=by rw [ho];exact Lv hj
  have hot:=(Jo.1 hm).1
  have htc:TM ts k o:=(SS hot).2 ⟨r,hr,hm⟩
  refine ⟨h.len,h.old,h.new,h.root,h.tdn,h.nd,h.kk,h.prc,h.part,λq hq=>?_⟩
  rcases Nat.lt_or_ge q j with h1|h1
  · exact h.pj q h1
  · rw [show q=j by omega,<-ho]
    rcases Int.lt_or_le (gZ l0 o) 0 with h2|h2
    · rcases h.new o hot h2 with h3|h3
      · omega
      · exact h3.1
    · have:=hP.clo o k hot h.kk.1 htc.symm h2
      have:=h.kk.2.2
      omega
theorem XO.push (h:XO ts t n l0 l td k r j) (hP:VB ts t n l0) (ht:t<ts.length) (ho:o=(Te ts (Bi (ts.getD k (0,0,0)) r)).getD j 0) (hj:j<(Te ts (Bi (ts.getD k (0,0,0)) r)).length) (hr:r<3) (hl:gZ l o<0):XO ts t n l0 (l.set o n) (td++[o]) k r (j+1):=by
  have hm:o∈Te ts (Bi (ts.getD k (0,0,0)) r):=by rw [ho];exact Lv hj
  have hot:=(Jo.1 hm).1
  have htc:TM ts k o:=(SS hot).2 ⟨r,hr,hm⟩
  have hlt:o<l.length:=by rw [h.len];exact hot
  have h0:gZ l0 o<0:=by
    rcases Int.lt_or_le (gZ l0 o) 0 with h2|h2
    · exact h2
    · have:=h.old o hot h2;omega
  have hck:NZ ts t k:=by
    rcases h.new k h.kk.1 h.kk.2.2 with h3|h3
    · have:=h.kk.2.1;omega
    · exact h3.2
  have up:∀s,gZ l s=n->gZ (l.set o n) s=n:=λs hs=>by
    rw [E6 hlt];split
    · rfl
    · exact hs
  refine ⟨by rw [List.length_set,h.len],λs hs h1=>?_,λs hs h1=>?_,up _ h.root,λs hs=>?_,?_,⟨h.kk.1,up _ h.kk.2.1,h.kk.2.2⟩,λs hs h1 h2 h3 h4 u hu h5=>?_,λr' hr' u hu=>up _ (h.part r' hr' u hu),λq hq=>?_⟩
  · rw [E6 hlt,if_neg (λe=>by subst e;omega)];exact h.old s hs h1
  · rw [E6 hlt]
    split
    · rename_i e;subst e;exact .inr ⟨rfl,hck.step hs htc⟩
    · exact h.new s hs h1
  · rcases List.mem_append.1 hs with hs|hs
    · obtain ⟨a,b,c⟩:=h.tdn s hs;exact ⟨a,up _ b,c⟩
    · rw [List.mem_singleton] at hs;subst hs;exact ⟨hot,by rw [E6 hlt,if_pos rfl],h0⟩
  · refine List.nodup_append.2 ⟨h.nd,by simp,λa ha b hb e=>?_⟩
    rw [List.mem_singleton] at hb
    subst hb e
    have:=(h.tdn a ha).2.1
    omega
  · have hso:s≠o:=λe=>h3 (List.mem_append_right _ (List.mem_singleton.2 e))
    rw [E6 hlt,if_neg hso] at h2
    exact up _ (h.prc s hs h1 h2 (λh6=>h3 (List.mem_append_left _ h6)) h4 u hu h5)
  · rcases Nat.lt_or_ge q j with h1|h1
    · exact up _ (h.pj q h1)
    · rw [show q=j by omega,<-ho,E6 hlt,if_pos rfl]
theorem XO.tl (h:XO ts t n l0 l td k r j):td.length<=ts.length:=Gf h.nd λx hx=>(h.tdn x hx).1
theorem Yf.finish (h:Yf ts t n l0 l td) (hP:VB ts t n l0) (ht:t<ts.length) (h0:td.length=0) (hn:gZ l0 t<0):VB ts (t+1) (n+1) l:=by
  have htd:td=[]:=List.eq_nil_of_length_eq_zero h0
  subst htd
  have cs:∀s,s<ts.length->(0<=gZ l0 s/\gZ l s=gZ l0 s)\/(gZ l0 s<0/\(gZ l s = -1\/gZ l s=n/\NZ ts t s)):=λs hs=>by
    rcases Int.lt_or_le (gZ l0 s) 0 with h2|h2
    · exact .inr ⟨h2,h.new s hs h2⟩
    · exact .inl ⟨h2,h.old s hs h2⟩
  refine ⟨h.len,λs hs=>?_,λs hs=>?_,λs u hs hu htc h1=>?_,λk hk=>?_,λs u hs hu h1 h2=>?_,by have:=hP.nle;omega⟩
  · have:=hP.rng s hs
    rcases cs s hs with ⟨a,b⟩|⟨a,b|b⟩<;>omega
  · rcases Nat.lt_or_ge s t with h1|h1
    · have h2:=hP.done s h1
      rw [h.old s Z h2];exact h2
    · rw [show s=t by omega,h.root];omega
  · rcases cs s hs with ⟨a,b⟩|⟨a,b|b⟩
    · have h3:=hP.clo s u hs hu htc a
      rw [b,h.old u hu Z,h3]
    · omega
    · rw [b.1];exact h.prc s hs a b.1 (by simp) u hu htc
  · rcases Nat.lt_or_ge k n with h1|h1
    · obtain ⟨f,a,b,c⟩:=hP.fst k h1
      refine ⟨f,Z,by rw [h.old f Z Z];exact b,λs hs=>?_⟩
      have:=hP.done s Z
      rw [h.old s Z this];exact c s hs
    · refine ⟨t,Z,by rw [h.root,show k=n by omega],λs hs=>?_⟩
      have h2:=hP.done s hs
      rw [h.old s Z h2]
      have:=(hP.rng s Z).2
      omega
  · rcases cs s hs with ⟨a,b⟩|⟨a,b|b⟩
    · rcases cs u hu with ⟨a',b'⟩|⟨a',b'|b'⟩
      · exact hP.cnx s u hs hu a Z
      · omega
      · have:=(hP.rng s hs).2;omega
    · omega
    · rcases cs u hu with ⟨a',b'⟩|⟨a',b'|b'⟩
      · have:=(hP.rng u hu).2;omega
      · omega
      · exact (b.2.symm ht).trans b'.2
end
structure aM (ts:List T3) (l:List Int) (n:Nat):Prop where
  len:l.length=ts.length
  rng:∀s,s<ts.length->0<=gZ l s/\gZ l s<n
  clo:∀s u,s<ts.length->u<ts.length->TM ts s u->gZ l u=gZ l s
  fst:∀k,k<n->∃f,f<ts.length/\gZ l f=(k:Int)/\∀s,s<f->gZ l s<k
  cnx:∀s u,s<ts.length->u<ts.length->gZ l s=gZ l u->NZ ts s u
  nle:n<=ts.length
structure aa (ts:List T3) where
  l:List Int
  n:Nat
  pts:aM ts l n
  r:RX (zL l) l.length
instance {ts:List T3}:EI (aa ts):=⟨λx=>.tuple #[x.r.val,vN x.n],λx=>[x.r.row],λx y hy=>by rcases List.mem_singleton.1 hy with rfl;rfl⟩
section
variable {ts:List T3} {n n':Nat} {l l':List Int}
end
structure aN (l:List Nat) where
  r:RX (inL l) l.length
  q:RX [Value.slice r.p l.length r.c] 1
instance {l:List Nat}:EI (aN l):=⟨λx=>x.q.val,λx=>[x.q.row,x.r.row],λx y hy=>by simp only [List.mem_cons,List.not_mem_nil,or_false] at hy;rcases hy with rfl|rfl<;>rfl⟩
structure aP (n:Nat) where
  cs:List Value
  q:RX cs n
instance {n:Nat}:EI (aP n):=⟨λx=>x.q.val,λx=>[x.q.row],λx y hy=>by rcases List.mem_singleton.1 hy with rfl;rfl⟩
end
section
set_option maxRecDepth 100000
theorem Y3 (ps:List Pt) (c:T3):Fk ps c 0=D6 (cor ps c.2.2-cor ps c.2.1) (cor ps c.2.2-cor ps c.2.1):=rfl
theorem Zp (ps:List Pt) (c:T3):Fk ps c 1=D6 (cor ps c.1-cor ps c.2.2) (cor ps c.1-cor ps c.2.2):=rfl
theorem Z8 (ps:List Pt) (c:T3):Fk ps c 2=D6 (cor ps c.2.1-cor ps c.1) (cor ps c.2.1-cor ps c.1):=rfl
theorem Rq {T:T3} {b:Nat} (hb:b<3):Dq T b=T\/Dq T b=(Bi T 1,Bi T 2,Bi T 0)\/Dq T b=(Bi T 2,Bi T 0,Bi T 1):=by
 have e:b=0\/b=1\/b=2:=by omega
 rcases e with rfl|rfl|rfl
 ·exact .inl O
 ·exact .inr (.inl O)
 ·exact .inr (.inr O)
theorem E2 (x0 x1 x2:Nat):Instr.fill (λi=>some (i*1,1)) (Af ((0,0,0):Nat×Nat×Nat)).toArray [(0,vN x0),(1,vN x1),(2,vN x2)]=some (Af (x0,x1,x2)).toArray:=by kernel_rfl
set_option maxHeartbeats 1000000 in
theorem Hv (m:MQ) (w:World) {S:Nat->Prop} (hm:Ro S w m):Calls prog 6 #[(aG (Er m))] w (Aq w (Value.bool true)):=by
 have lm:=DU (W:=w) hm
 refine A6 (args:=[(aG (Er m))]) (L:=[AY m.p (DA m.cs)]) func6 O O (Ac O) (DV hm BN) (AF.subF (sL [0] O) (q4 (Bg (cs:=Er m) O λb1=>AL O (q3 (sL [1,2] O) ?_))))
 refine BA 0 NQ O (AE.callR (S:=S) (α:=MG) (args:=[(aG (Er m))]) call11 (λw hw=>UV m w (Cq hw 1 O lm)) O O O λg lg=>?_)
 have hG:=g.good
 have hnb:CD g.ps.length g.ts=true:=Qw hG
 have htl:=hG.tl
 have hpl:=hG.pl
 have hz:∀i,B5 (cor g.ps i)<=1000:=λi=>Nat.le_trans (hG.sz i) (by decide)
 have hsl:=g.sl
 obtain ⟨US,hUS⟩:∃q,q=DH g.ts (I7 g.ps g.ts) g.ts.length:=⟨_,rfl⟩
 have hul:US.length=g.ts.length:=by rw [hUS,Ce]
 have hck:J1 g.ps US g.ss:=by rw [hUS];exact Vv hG hnb g.sd Z
 have hget:∀j,j<g.ts.length->US.getD j (0,0,0)=Dq (g.ts.getD j (0,0,0)) (IH g.ps (g.ts.getD j (0,0,0)) 3):=λj hj=>by rw [hUS];exact P4 hj
 have lonA:∀(x:MX g.ps g.ts g.ss) (w:World) {S:Nat->Prop} (hx:Ro S w x),Calls prog 30 #[aG (Bk x)] w (BV (MX g.ps US g.ss) S w):=λx w S hx=>by have h9:=KG x hz hnb Z Z Z w hx;rw [<-hUS] at h9;exact h9
 have lonB:∀(x:MX g.ps US g.ss) (w:World) {S:Nat->Prop} (hx:Ro S w x),Calls prog 30 #[aG (Bk x)] w (BV (MX g.ps US g.ss) S w):=λx w S hx=>by have h9:=KG x hz hck.num Z Z Z w hx;have h8:DH US (I7 g.ps US) US.length=US:=(by rw [hUS];exact RW);rw [h8] at h9;exact h9
 refine al JP O λb2=>Aw O sizeOf31 O (q3 (sL [2,3] O) (BA 0 C_ O (cM (S:=S) (args:=[(aG (Bk g.mx))]) call30 (λw hw=>lonA g.mx w (Cq hw 1 O lg:Ro _ w g.mx)) O λus hus=>al JP O λb3=>?_)))
 refine Aw O sizeOf31 O (q6 (sL [2,3,4] O) (AF.seq (Cm [(0,true),(1,false),(2,true),(3,true),(4,true),(5,true),(6,true),(7,true),(8,true),(9,true),(10,true),(11,true),(12,true),(13,true),(15,true),(14,false),(16,false),(17,true),(18,true)] sr (En 0 C_ O (AT.imp O ?_)))))
 refine Ee call19 (λw hw=>Up us hck w (Cq hw 1 O hus)) O (AT.back sr (Au O (CB (c:=false) O O (decide_eq_false Z)) (Bc O (AT.pas (v:=(pP b3 1)) O (AB O) (AA O underlying31 O sizeOf28 O) O O (AT.pas (v:=(Value.slice us.b.p US.length us.b.c)) O (AB O) (AI (i:=0) (v:=(Value.slice us.b.p US.length us.b.c)) O O B4.a O) O O ?_)))))
 refine AT.pas (v:=(vN US.length)) O (AB O) (AG O underlying28) O O (AT.pas (v:=(pP b2 1)) O (AB O) (AA O underlying31 O sizeOf28 O) O O (AT.pas (v:=(Value.slice g.mx.b.p g.ts.length g.mx.b.c)) O (AB O) (AI (i:=4) (v:=(Value.slice g.mx.b.p g.ts.length g.mx.b.c)) O O B4.a O) O O (AT.pas (v:=(vN g.ts.length)) O (AB O) (AG O underlying28) O O (AT.pas (v:=(Value.bool false)) O (AB O) (CB (c:=false) O O (decide_eq_false Z)) O O (Au (v:=(Value.bool false)) O (AV O O) ?_)))))
 refine Bc O (AT.pas (v:=(aG (Bk us))) O (AB O) (A7 (i:=0) (vs:=Bk us) O O C_.a C_.s O O) O O (AT.pas (v:=(aG (Bk us))) O (AB O) (A7 (i:=0) (vs:=Bk us) O O C_.a C_.s O O) O O (AT.imp O (AE.unguard (AB O) (cM (S:=S) (args:=[(aG (Bk us))]) call30 (λw hw=>lonB us w (Cq hw 1 O hus)) O λuu huu=>?_)))))
 refine AT.back (sl (sl (sl sr))) (AT.imp O (AE.call (v:=(Value.bool true)) (AB O) (A_ (args:=[(aG (Bk uu)),(aG (Bk us))]) O O call31) (λw hw=>Qg uu us Z Z Z w (Cq hw 0 O huu) (Cq hw 4 O hus)) O (Ac O) (AT.back (sl (sl (sl sr))) (AT.pas (v:=(Value.bool false)) O (AB O) (BZ (c:=false) O O) O O (Au (v:=(Value.bool false)) O (AV O O) ?_)))))
 refine AT.nil (AD.subF (sL [2,3,4,33] O) (AD.then_ (AF.cond_false O (AF.skip (q1 ?_)))))
 refine q4 (AL O (AE.nil (AD.subF (sL [2,3,4,5] O) (AD.then_ (AF.block ?_)))))
 refine AF.lp1 (tg λ(t:Nat)=>t<=US.length) (tg λ(t:Nat)=>[(3,(pP b2 0)),(4,(pP b3 0)),(5,(vN t))]) (tg λ(t:Nat)=>[AY uu.a.p (rowsL Am g.ps),AY uu.b.p (rowsL Af US),AY uu.c.p (rowsL Af g.ss),Ag b3 31 (Bk us),AY us.a.p (rowsL Am g.ps),AY us.b.p (rowsL Af US),AY us.c.p (rowsL Af g.ss),Ag b2 31 (Bk g.mx),AY g.mx.a.p (rowsL Am g.ps),AY g.mx.b.p (rowsL Af g.ts),AY g.mx.c.p (rowsL Af g.ss),Ag b1 26 (Er m),AY m.p (DA m.cs)]) (tg λ(t:Nat)=>US.length-t) 0 (Nat.zero_le _) (sF O) sr (λt hJ=>?_)
 have htl:=hJ
 refine AF.seq (q4 (AS O (AH (v:=(pP b3 1)) (AA O underlying31 O sizeOf28 O) O (BJ 3 (Value.slice us.b.p US.length us.b.c) B4 O (AH (v:=(vN US.length)) (AG O underlying28) O ?_)))))
 refine AH (Ak (c:=(decide (t<US.length))) O O (C1 (a:=t) (b:=US.length))) O (AE.nil (AD.subF (sL [3,4,5,38] O) (AD.then_ ?_)))
 refine AF.cond O (λhc1=>?_) (λhc1=>?_)
 ·replace hc1:=of_decide_eq_true hc1
  have ht9:t<g.ts.length:=by omega
  obtain ⟨T,hT⟩:∃q,q=g.ts.getD t (0,0,0):=⟨_,rfl⟩
  have hg9:=hget t ht9
  rw [<-hT] at hg9
  have hm1:=Mc (ps:=g.ps) T (j:=2) (by decide)
  have hm2:=Mc (ps:=g.ps) T (j:=1) (by decide)
  rw [<-hg9,Z8,Y3] at hm1
  rw [<-hg9,Zp,Y3] at hm2
  have h3:=Rq (T:=T) (Hn (ps:=g.ps) (c:=T) 3 (Nat.le_refl 3))
  rw [<-hg9] at h3
  obtain ⟨a,ha⟩:∃q,q=cor g.ps (US.getD t (0,0,0)).1:=⟨_,rfl⟩
  obtain ⟨b,hb⟩:∃q,q=cor g.ps (US.getD t (0,0,0)).2.1:=⟨_,rfl⟩
  obtain ⟨d,hd⟩:∃q,q=cor g.ps (US.getD t (0,0,0)).2.2:=⟨_,rfl⟩
  have sa:B5 a<=1000:=by rw [ha];exact hz _
  have sb:B5 b<=1000:=by rw [hb];exact hz _
  have sd:B5 d<=1000:=by rw [hd];exact hz _
  replace hm1:D6 (b-a) (b-a)<=D6 (d-b) (d-b):=by rw [<-ha,<-hb,<-hd] at hm1;exact hm1
  replace hm2:D6 (d-a) (d-a)<=D6 (d-b) (d-b):=by rw [<-ha,<-hb,<-hd] at hm2;rw [Vl d a];exact hm2
  refine AF.skip (q1 (AF.block (q4 (BA 3 C_ O (AS O ?_)))))
  refine Ee (args:=[(aG (Bk us)),(vN t)]) (v:=(Value.tuple #[(aG (Am a)),(aG (Am b)),(aG (Am d))])) call21 (λw hw=>(by rw [ha,hb,hd];exact O0 us t Z (Cf hck.num Z) w (Cq hw 4 O hus))) O (AS O (AH (AZ (v:=(aG (Am a))) O O) O (AH (AZ (v:=(aG (Am b))) O O) O (AH (AZ (v:=(aG (Am d))) O O) O (al E3 O λb4=>?_)))))
  refine al E3 O λb5=>al E3 O λb6=>QQ O sizeOf55 O (DP O sizeOf55 O (Aw O sizeOf55 O (q3 (sL [3,4,5,6,7,8] O) ?_)))
  refine BA 1 BQ O (BA 0 BQ O ?_)
  have hz1:=Di d b
  have hz2:=Ii (d-b) (d-b)
  refine BR call32 (Fr b d Z) O (al D4 O λb7=>Aw O sizeOf53 O (q6 (sL [3,4,5,6,7,8,9] O) (AF.seq (Cm [(0,true),(1,true),(3,true),(2,false),(4,false),(5,true),(6,true),(7,true),(8,true),(10,true),(9,false),(11,false),(12,true),(13,true)] sr ?_))))
  refine En 3 BQ O (En 2 BQ O (En 0 Bm O (AT.imp O ?_)))
  have hz3:=Di b a
  have hz4:=Ii (b-a) (b-a)
  refine BR call32 (Fr a b Z) O (AT.back sr (AT.imp O (BR call33 (GA (D6 (b-a) (b-a)) (D6 (d-b) (d-b)) Z) O (AT.back sr (Au O (CW (c:=false) O O (decide_eq_false (λh9=>absurd (Kz.1 h9) (Rat.not_lt.2 hm1)))) ?_)))))
  refine Bc O (AT.pas (v:=(aG (Am a))) O (AB O) (A7 (i:=3) (vs:=Am a) O O BQ.a BQ.s O O) O O (AT.pas (v:=(aG (Am d))) O (AB O) (A7 (i:=1) (vs:=Am d) O O BQ.a BQ.s O O) O O (AT.pas (v:=(aG (AJ (D6 (d-b) (d-b))))) O (AB O) (A7 (i:=0) (vs:=AJ (D6 (d-b) (d-b))) O O Bm.a Bm.s O O) O O (AT.imp O ?_))))
  have hz5:=Di d a
  have hz6:=Ii (d-a) (d-a)
  refine AE.call (v:=(aG (AJ (D6 (d-a) (d-a))))) (AB O) (A_ (args:=[(aG (Am a)),(aG (Am d))]) O O call32) (λw hw=>Fr a d Z w) O (Ac O) (AT.back sr (AT.imp O (AE.call (v:=(vI (D8 (D6 (d-a) (d-a)) (D6 (d-b) (d-b))))) (AB O) (A_ (args:=[(aG (AJ (D6 (d-a) (d-a)))),(aG (AJ (D6 (d-b) (d-b))))]) O O call33) (λw hw=>GA (D6 (d-a) (d-a)) (D6 (d-b) (d-b)) Z w) O (Ac O) (AT.back sr (AT.pas (v:=(Value.bool false)) O (AB O) (CW (c:=false) O O (decide_eq_false (λh9=>absurd (Kz.1 h9) (Rat.not_lt.2 hm2)))) O O ?_)))))
  refine Au (v:=(Value.bool false)) O (AV O O) (AT.nil (AD.subF (sL [3,4,5,6,7,8,9,64] O) (AD.then_ (AF.cond_false O (AF.skip ?_)))))
  refine q2 (AH (v:=(pP b2 1)) (AA O underlying31 O sizeOf28 O) O (BJ 11 (Value.slice g.mx.b.p g.ts.length g.mx.b.c) B4 O (AS O (AH (v:=(pP (pB g.mx.b.p) (pO g.mx.b.p+t*3))) (AQ (j:=t) O O g.mx.b.ok underlying28 sizeOf76 O Z) O (AH (v:=(aG (Af (g.ts.getD t ((0,0,0):Nat×Nat×Nat))))) (AO (vs:=Af (g.ts.getD t ((0,0,0):Nat×Nat×Nat))) (i:=13) O O (BI.ne g.mx.b.ok Z) Cr (An Ah _ _ _ Z) (Ah _)) O ?_)))))
  refine AE.retell (k:=69) (u:=(aG (Af T))) O (by rw [hT]) (al J3 O λb8=>Aw O sizeOf76 O (q6 (sL [3,4,5,6,7,8,9,10] O) ?_))
  by_cases k1:US.getD t (0,0,0)=T
  ·skip
   refine Cm [(0,true),(1,true),(2,true),(3,true),(4,true),(5,true),(6,true),(7,true),(8,true),(9,true),(10,true),(11,true),(12,true),(13,true),(14,true),(15,true),(16,true),(17,true),(18,true),(19,true),(20,true),(21,true),(22,true),(23,true),(24,true),(25,true),(26,true),(27,true),(28,true),(29,true),(30,true),(31,true),(32,true),(33,true),(34,true),(35,true),(36,true)] sr (Au (v:=(pP b3 1)) O (AA O underlying31 O sizeOf28 O) (Be 8 (Value.slice us.b.p US.length us.b.c) B4 O (Bc O (Au (v:=(pP (pB us.b.p) (pO us.b.p+t*3))) O (AQ (j:=t) O O us.b.ok underlying28 sizeOf76 O Z) (Au (v:=(aG (Af (US.getD t ((0,0,0):Nat×Nat×Nat))))) O (AO (vs:=Af (US.getD t ((0,0,0):Nat×Nat×Nat))) (i:=10) O O (BI.ne us.b.ok Z) Cr (An Ah _ _ _ Z) (Ah _)) ?_)))))
   refine En 0 Cr O (Au (v:=(Value.bool false)) O (F8 O O eqGuardType76 (DE (a:=US.getD t ((0,0,0):Nat×Nat×Nat)) (b:=T) 9998 k1)) (Bc O (AT.skp O (AN O) O O (AT.skp O (AN O) O O (AT.skp O (AN O) O O ?_)))))
   refine AT.skp O (AN O) O O (AT.skp O (AN O) O O (AT.skp O (AN O) O O (AT.skp O (AN O) O O (AT.skp O (AN O) O O (AT.skp O (AN O) O O ?_)))))
   refine AT.skp O (AN O) O O (AT.skp O (AN O) O O (AT.skp O (AN O) O O (AT.skp O (AN O) O O (Au (v:=(Value.bool false)) O (AV O O) (Bc O ?_)))))
   refine AT.skp O (AN O) O O (AT.skp O (AN O) O O (AT.skp O (AN O) O O (AT.skp O (AN O) O O (AT.skp O (AN O) O O (AT.skp O (AN O) O O ?_)))))
   refine AT.skp O (AN O) O O (AT.skp O (AN O) O O (AT.skp O (AN O) O O (AT.skp O (AN O) O O (AT.skp O (AN O) O O (AT.skp O (AN O) O O ?_)))))
   refine AT.skp O (AN O) O O (Au (v:=(Value.bool false)) O (AV O O) (AT.nil (AD.subF (sL [3,4,5,6,7,8,9,10,106] O) (AD.then_ (AF.cond_false O ?_)))))
   refine AF.skip (AD.in_normal (AD.then_ (AF.region (AS O (AH (AW (c:=((t+1:Nat):Int)) O O (AX (a:=t) (b:=1) Z)) O ?_)))))
   exact AL O (AE.nil (AD.subF (sL [3,4,5,6,7,8,9,10] O) (AD.round1 (t+1) Z Z (sF O) (sl (sl (sl (sl (sl sr))))))))
  ·skip
   by_cases k2:US.getD t (0,0,0)=(Bi T 1,Bi T 2,Bi T 0)
   ·skip
    refine Cm [(0,true),(1,true),(2,true),(3,true),(4,true),(5,true),(6,true),(7,true),(8,true),(9,true),(10,true),(11,true),(12,true),(13,true),(14,true),(15,true),(16,true),(17,true),(18,true),(19,true),(20,true),(21,true),(22,true),(23,true),(24,true),(25,true),(26,true),(27,true),(28,true),(29,true),(30,true),(31,true),(32,true),(33,true),(34,true),(35,true),(36,true)] sr (Au (v:=(pP b3 1)) O (AA O underlying31 O sizeOf28 O) (Be 8 (Value.slice us.b.p US.length us.b.c) B4 O (Bc O (Au (v:=(pP (pB us.b.p) (pO us.b.p+t*3))) O (AQ (j:=t) O O us.b.ok underlying28 sizeOf76 O Z) (Au (v:=(aG (Af (US.getD t ((0,0,0):Nat×Nat×Nat))))) O (AO (vs:=Af (US.getD t ((0,0,0):Nat×Nat×Nat))) (i:=10) O O (BI.ne us.b.ok Z) Cr (An Ah _ _ _ Z) (Ah _)) ?_)))))
    refine En 0 Cr O (Au O (F4 (c:=decide (US.getD t (0,0,0)=T)) O O eqGuardType76 (Mb 9998 (US.getD t (0,0,0)) T) (congrArg not (decide_eq_false k1))) (Bc O (AT.pas (v:=(pP b3 1)) O (AB O) (AA O underlying31 O sizeOf28 O) O O (AT.pas (v:=(Value.slice us.b.p US.length us.b.c)) O (AB O) (AI (i:=8) (v:=(Value.slice us.b.p US.length us.b.c)) O O B4.a O) O O (AT.pas (v:=(vN t)) O (AB O) (BK O) O O ?_)))))
    refine AT.pas (v:=(pP (pB us.b.p) (pO us.b.p+t*3))) O (AB O) (AQ (j:=t) O O us.b.ok underlying28 sizeOf76 O Z) O O (AT.pas (v:=(aG (Af (US.getD t ((0,0,0):Nat×Nat×Nat))))) O (AB O) (AO (vs:=Af (US.getD t ((0,0,0):Nat×Nat×Nat))) (i:=10) O O (BI.ne us.b.ok Z) Cr (An Ah _ _ _ Z) (Ah _)) O O (AT.pas (v:=(pP b8 1)) O (AB O) (AC (j:=1) O O underlying76 sizeOf3 O (by decide) O) O O (AT.pas (v:=(vN T.2.1)) O (AB O) (AI (i:=0) (v:=(vN T.2.1)) O O Bn.a O) O O (AT.pas (v:=(pP b8 2)) O (AB O) (AC (j:=2) O O underlying76 sizeOf3 O (by decide) O) O O (AT.pas (v:=(vN T.2.2)) O (AB O) (AI (i:=0) (v:=(vN T.2.2)) O O Bn.a O) O O ?_)))))
    refine AT.pas (v:=(pP b8 0)) O (AB O) (AC (j:=0) O O underlying76 sizeOf3 O (by decide) O) O O (AT.pas (v:=(vN T.1)) O (AB O) (AI (i:=0) (v:=(vN T.1)) O O Bn.a O) O O (AT.pas (v:=(aG (Af (T.2.1,T.2.2,T.1)))) O (AB O) (Al (zs:=Af ((0,0,0):Nat×Nat×Nat)) (vs:=Af (T.2.1,T.2.2,T.1)) (pv:=[(0,(vN T.2.1)),(1,(vN T.2.2)),(2,(vN T.1))]) zeroValue76 underlying76 sizeOf3 O (E2 T.2.1 T.2.2 T.1)) O O (AT.pas (v:=(Value.bool false)) O (AB O) (F8 O O eqGuardType76 (DE (a:=US.getD t ((0,0,0):Nat×Nat×Nat)) (b:=(T.2.1,T.2.2,T.1)) 9998 k2)) O O (Au (v:=(Value.bool false)) O (Aj O O) (Bc O ?_)))))
    refine AT.skp O (AN O) O O (AT.skp O (AN O) O O (AT.skp O (AN O) O O (AT.skp O (AN O) O O (AT.skp O (AN O) O O (AT.skp O (AN O) O O ?_)))))
    refine AT.skp O (AN O) O O (AT.skp O (AN O) O O (AT.skp O (AN O) O O (AT.skp O (AN O) O O (AT.skp O (AN O) O O (AT.skp O (AN O) O O ?_)))))
    refine AT.skp O (AN O) O O (Au (v:=(Value.bool false)) O (AV O O) (AT.nil (AD.subF (sL [3,4,5,6,7,8,9,10,106] O) (AD.then_ (AF.cond_false O ?_)))))
    refine AF.skip (AD.in_normal (AD.then_ (AF.region (AS O (AH (AW (c:=((t+1:Nat):Int)) O O (AX (a:=t) (b:=1) Z)) O ?_)))))
    exact AL O (AE.nil (AD.subF (sL [3,4,5,6,7,8,9,10] O) (AD.round1 (t+1) Z Z (sF O) (sl (sl (sl (sl (sl sr))))))))
   ·skip
    refine Cm [(0,true),(1,true),(2,true),(3,true),(4,true),(5,true),(6,true),(7,true),(8,true),(9,true),(10,true),(11,true),(12,true),(13,true),(14,true),(15,true),(16,true),(17,true),(18,true),(19,true),(20,true),(21,true),(22,true),(23,true),(24,true),(25,true),(26,true),(27,true),(28,true),(29,true),(30,true),(31,true),(32,true),(33,true),(34,true),(35,true),(36,true)] sr (Au (v:=(pP b3 1)) O (AA O underlying31 O sizeOf28 O) (Be 8 (Value.slice us.b.p US.length us.b.c) B4 O (Bc O (Au (v:=(pP (pB us.b.p) (pO us.b.p+t*3))) O (AQ (j:=t) O O us.b.ok underlying28 sizeOf76 O Z) (Au (v:=(aG (Af (US.getD t ((0,0,0):Nat×Nat×Nat))))) O (AO (vs:=Af (US.getD t ((0,0,0):Nat×Nat×Nat))) (i:=10) O O (BI.ne us.b.ok Z) Cr (An Ah _ _ _ Z) (Ah _)) ?_)))))
    refine En 0 Cr O (Au O (F4 (c:=decide (US.getD t (0,0,0)=T)) O O eqGuardType76 (Mb 9998 (US.getD t (0,0,0)) T) (congrArg not (decide_eq_false k1))) (Bc O (AT.pas (v:=(pP b3 1)) O (AB O) (AA O underlying31 O sizeOf28 O) O O (AT.pas (v:=(Value.slice us.b.p US.length us.b.c)) O (AB O) (AI (i:=8) (v:=(Value.slice us.b.p US.length us.b.c)) O O B4.a O) O O (AT.pas (v:=(vN t)) O (AB O) (BK O) O O ?_)))))
    refine AT.pas (v:=(pP (pB us.b.p) (pO us.b.p+t*3))) O (AB O) (AQ (j:=t) O O us.b.ok underlying28 sizeOf76 O Z) O O (AT.pas (v:=(aG (Af (US.getD t ((0,0,0):Nat×Nat×Nat))))) O (AB O) (AO (vs:=Af (US.getD t ((0,0,0):Nat×Nat×Nat))) (i:=10) O O (BI.ne us.b.ok Z) Cr (An Ah _ _ _ Z) (Ah _)) O O (AT.pas (v:=(pP b8 1)) O (AB O) (AC (j:=1) O O underlying76 sizeOf3 O (by decide) O) O O (AT.pas (v:=(vN T.2.1)) O (AB O) (AI (i:=0) (v:=(vN T.2.1)) O O Bn.a O) O O (AT.pas (v:=(pP b8 2)) O (AB O) (AC (j:=2) O O underlying76 sizeOf3 O (by decide) O) O O (AT.pas (v:=(vN T.2.2)) O (AB O) (AI (i:=0) (v:=(vN T.2.2)) O O Bn.a O) O O ?_)))))
    refine AT.pas (v:=(pP b8 0)) O (AB O) (AC (j:=0) O O underlying76 sizeOf3 O (by decide) O) O O (AT.pas (v:=(vN T.1)) O (AB O) (AI (i:=0) (v:=(vN T.1)) O O Bn.a O) O O (AT.pas (v:=(aG (Af (T.2.1,T.2.2,T.1)))) O (AB O) (Al (zs:=Af ((0,0,0):Nat×Nat×Nat)) (vs:=Af (T.2.1,T.2.2,T.1)) (pv:=[(0,(vN T.2.1)),(1,(vN T.2.2)),(2,(vN T.1))]) zeroValue76 underlying76 sizeOf3 O (E2 T.2.1 T.2.2 T.1)) O O (AT.pas (v:=(Value.bool true)) O (AB O) (F4 (c:=decide (US.getD t (0,0,0)=(Bi T 1,Bi T 2,Bi T 0))) O O eqGuardType76 (Mb 9998 (US.getD t (0,0,0)) (Bi T 1,Bi T 2,Bi T 0)) (congrArg not (decide_eq_false k2))) O O (Au (v:=(Value.bool true)) O (Aj O O) (Bc O ?_)))))
    refine AT.pas (v:=(pP b3 1)) O (AB O) (AA O underlying31 O sizeOf28 O) O O (AT.pas (v:=(Value.slice us.b.p US.length us.b.c)) O (AB O) (AI (i:=8) (v:=(Value.slice us.b.p US.length us.b.c)) O O B4.a O) O O (AT.pas (v:=(vN t)) O (AB O) (BK O) O O (AT.pas (v:=(pP (pB us.b.p) (pO us.b.p+t*3))) O (AB O) (AQ (j:=t) O O us.b.ok underlying28 sizeOf76 O Z) O O (AT.pas (v:=(aG (Af (US.getD t ((0,0,0):Nat×Nat×Nat))))) O (AB O) (AO (vs:=Af (US.getD t ((0,0,0):Nat×Nat×Nat))) (i:=10) O O (BI.ne us.b.ok Z) Cr (An Ah _ _ _ Z) (Ah _)) O O (AT.pas (v:=(pP b8 2)) O (AB O) (AC (j:=2) O O underlying76 sizeOf3 O (by decide) O) O O ?_)))))
    refine AT.pas (v:=(vN T.2.2)) O (AB O) (AI (i:=0) (v:=(vN T.2.2)) O O Bn.a O) O O (AT.pas (v:=(pP b8 0)) O (AB O) (AC (j:=0) O O underlying76 sizeOf3 O (by decide) O) O O (AT.pas (v:=(vN T.1)) O (AB O) (AI (i:=0) (v:=(vN T.1)) O O Bn.a O) O O (AT.pas (v:=(pP b8 1)) O (AB O) (AC (j:=1) O O underlying76 sizeOf3 O (by decide) O) O O (AT.pas (v:=(vN T.2.1)) O (AB O) (AI (i:=0) (v:=(vN T.2.1)) O O Bn.a O) O O (AT.pas (v:=(aG (Af (T.2.2,T.1,T.2.1)))) O (AB O) (Al (zs:=Af ((0,0,0):Nat×Nat×Nat)) (vs:=Af (T.2.2,T.1,T.2.1)) (pv:=[(0,(vN T.2.2)),(1,(vN T.1)),(2,(vN T.2.1))]) zeroValue76 underlying76 sizeOf3 O (E2 T.2.2 T.1 T.2.1)) O O ?_)))))
    refine AT.pas (v:=(Value.bool false)) O (AB O) (F8 O O eqGuardType76 (DE (a:=US.getD t ((0,0,0):Nat×Nat×Nat)) (b:=(T.2.2,T.1,T.2.1)) 9998 ((h3.resolve_left k1).resolve_left k2))) O O (Au (v:=(Value.bool false)) O (Aj O O) (AT.nil (AD.subF (sL [3,4,5,6,7,8,9,10,106] O) (AD.then_ (AF.cond_false O ?_)))))
    refine AF.skip (AD.in_normal (AD.then_ (AF.region (AS O (AH (AW (c:=((t+1:Nat):Int)) O O (AX (a:=t) (b:=1) Z)) O ?_)))))
    exact AL O (AE.nil (AD.subF (sL [3,4,5,6,7,8,9,10] O) (AD.round1 (t+1) Z Z (sF O) (sl (sl (sl (sl (sl sr))))))))
 ·replace hc1:=of_decide_eq_false hc1
  refine AF.exit (AD.then_exit (AD.round1_exit (AD.in_exit (q2 (AH (v:=(pP b2 1)) (AA O underlying31 O sizeOf28 O) O ?_)))))
  refine BJ 7 (Value.slice g.mx.b.p g.ts.length g.mx.b.c) B4 O (AH (v:=(pP b3 1)) (AA O underlying31 O sizeOf28 O) O (EW 3 (off:=1) (vs:=[(Value.slice g.mx.b.p g.ts.length g.mx.b.c)]) (cs':=[(Value.slice us.a.p g.ps.length us.a.c),(Value.slice g.mx.b.p g.ts.length g.mx.b.c),(Value.slice us.c.p g.ss.length us.c.c)]) (AK O) O sizeOf28 O (q3 (sL [3,4,5] O) (BA 3 C_ O (BA 7 C_ O ?_)))))
  refine Ee call31 (λw hw=>Qg (⟨us.a,g.mx.b,us.c⟩:MX g.ps g.ts g.ss) g.mx Z Z Z w (Zr hw [4,9,6] O (At.swap hus lg)) (Cq hw 8 O lg:Ro _ w g.mx)) O (AS O (AE.call (v:=(Value.bool true)) (AB O) (A_ (args:=[]) O O call27) (λw hw=>Oz w) O (Ac O) (AH (v:=(Value.bool true)) (Aj O O) O (AL O (AE.nil ?_)))))
  exact AD.subF (sL [3,4,5,2] O) (AD.then_ (AF.ret (AR O (Ai (v:=(Value.bool true)) O) (λw hw=>⟨rfl,hw.out⟩))))
end
section
open Go Go.RowKit Go.ChangeShapes Go.WideShapes Go.ChangeAt
theorem Vr:laidOutB Tryz.prog=true:=by kernel_rfl
theorem UM:ownKnob Tryz.prog.godebug=none:=by kernel_rfl
theorem HK {H:Type} {enc:TypeId×Value->H} {P:Program} (hl:laidOutB P=true) {W W':World} {sp:Nat->Bool} (hb:FE W.heap.size W W') :
    ∀{ts:List TypeId} {vs:List Value} {ds:List (DataW H)} {ps:List MemPlace},(∀t∈ts,P.readableRec t=true/\t<P.types.size)->DataW.TrodAll enc P W 0 (λ_=>true) true ts vs ds ps ->
      (∀p∈ps,p.block<W.heap.size)->(∀p∈ps,sp p.block=true)->DataW.TrodAll enc P W' 0 sp true ts vs ds ps
  | [],_,_,_,_,h,_,_=>by
    obtain ⟨rfl,rfl,rfl⟩:=trodAll_nil h
    exact trodAll_mk0
  | t::ts,_,_,_,hr,h,hlt,hs=>by
    obtain ⟨v,vs1,d,ds1,a,b,rfl,rfl,rfl,h1,h2⟩:=trodAll_cons h
    exact ⟨a,b,WideElems.Trod_stays hl (hr t (by simp)).1 (hr t (by simp)).2 h1 (λx hx=>hb.same (hlt x (by simp [hx]))) (λx hx=>hs x (by simp [hx])),
      HK hl hb (λu hu=>hr u (by simp [hu])) h2 (λp hp=>hlt p (by simp [hp])) (λp hp=>hs p (by simp [hp])),rfl⟩
theorem Uk {H:Type} {enc:TypeId×Value->H} {P:Program} {f:Func} {s:ChangeSpec} {apart fresh handsOn again:Bool} {W W':World} {args:Array Value} {ds:List (DataW H)} {Bh:List MemPlace} {tb:TypeId}
    (hW:DataW.Whole enc P f.params.toList s.vars apart W args.toList ds [] Bh) (hv:s.vars=[]) (hfn:s.fn H ds=({ results:=[.lit (.bool true)],args:=ds }:Left H))
    (hrt:f.resultTypes=#[tb]) (hu:P.underlying tb=some .bool) (hb:FE W.heap.size W W') (hl:laidOutB P=true) (hr:∀t∈f.params.toList,P.readableRec t=true/\t<P.types.size) :
    s.post enc P f apart fresh handsOn again W args (.bool true) W':=by
  have hlt:∀p∈Bh,p.block<W.heap.size:=λp hp=>hW.lt p hp
  have hW2:=hW
  obtain ⟨pa,q,hA,hV,he,hz,hn⟩:=hW2
  rw [hv] at hV
  obtain ⟨_,rfl⟩:=trodVars_none hV
  simp only [List.append_nil] at he
  subst he
  have hres:∀(b:Nat) (sp:Nat->Bool) (hd:Bool),DataW.TrodAll enc P W' b sp hd f.resultTypes.toList ((Value.bool true).resultList f.resultTypes.size) (s.fn H (ds++[])).results []:=λb sp hd=>by
    rw [hrt,List.append_nil,hfn]
    exact trodAll_mk1 (shut_bool hu _)
  have hargs:∀sp:Nat->Bool,(∀p∈Bh,sp p.block=true)->DataW.TrodAll enc P W' 0 sp true f.params.toList args.toList (s.fn H (ds++[])).args Bh:=λsp hs=>by
    rw [List.append_nil,hfn]
    exact HK hl hb hr hA hlt hs
  have hvars:∀sp:Nat->Bool,DataW.TrodVars enc P W' sp s.vars (s.fn H (ds++[])).vars []:=λsp=>by
    rw [List.append_nil,hfn,hv];rfl
  have hold:∀p∈Bh,(λb=>decide (b<W.heap.size)) p.block=true:=λp hp=>by simpa using hlt p hp
  refine ⟨ds,[],Bh,[],Bh,[],hW,hres _ _ _,hargs _ hold,hvars _,World.keptBut_mono (λp hp=>⟨hp,Or.inr (by simpa using hp)⟩) (hb.frame (·∈Bh)),λ_=>⟨?_,_,_,([]++Bh)++[],⟨[]++Bh,[],trodAll_append (hargs _ (λ_ _=>rfl)) (hres _ _ _),hvars _,rfl,?_,?_⟩,?_⟩⟩
  · exact ok_one hrt O (okWide_bool_mk hu _)
  · intro b off hp
    have hp':MemPlace.cell b off∈Bh:=by simpa using hp
    rw [hb.frozen (hlt _ hp')]
    exact hz b off hp'
  · intro ha
    have:=hn ha
    simpa using this
  · intro p hp _
    simpa using hp
end
end Go.Proofs.YtfbomiejpbchdaaGreat
