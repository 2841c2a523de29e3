import Derived.WideLaws
import Derived.Shelf.SlSortCmp.Whole1
import Derived.Test.YtfbomiejpbchdaaGreatPart06
import Derived.Test.YtfbomiejpbchdaaGreatPart31
import Derived.Test.YtfbomiejpbchdaaGreatPart33
import Derived.Test.YtfbomiejpbchdaaGreatPart34
import Derived.Test.YtfbomiejpbchdaaGreatPart37
import Derived.Test.YtfbomiejpbchdaaGreatPart41
import Derived.Test.YtfbomiejpbchdaaGreatPart42
import Derived.Test.YtfbomiejpbchdaaGreatPart43
import Derived.Test.YtfbomiejpbchdaaGreatPart44
namespace Go.Proofs.YtfbomiejpbchdaaGreat
open Go Go.RowKit
set_option linter.unusedVariables false
set_option linter.unusedSimpArgs false
section
set_option maxRecDepth 100000
end
section
set_option maxRecDepth 100000
end
section
set_option maxRecDepth 100000
end
section
section
variable {P:Program} {n:Nat} {F:List (Nat×Value)} {w0:BP} {L:List As} {x y:Operand} {d:Option Tmp} {t:TypeId} {p:String} {af:Array Edge} {g:Option (Nat×Bool)}
end
end
section
set_option maxRecDepth 100000
end
section
set_option maxRecDepth 100000
end
section
structure RI where
  l:List Nat
  p:Option Addr
  c:Nat
  ok:BQ p l.length c
  sm:l.length<=10000000
instance:Inhabited RI:=⟨⟨[],none,0,OwnOk.none.row,by decide⟩⟩
def aN (x:RI):Value:=.slice x.p x.l.length x.c
def Zg (x:RI):As:=Ag x.p (inL x.l)
def aU (rs:List RI):List As:=rs.map Zg
def aC (rs:List RI):List Value:=rs.map aN
section
variable {P:Program} {ops:Array Oper} {rest:List Oper} {Q:Exit->Act->World->Prop} {n:Nat} {F:List (Nat×Value)} {w0:BP} {L L2:List As}
end
def ZJ (w:World) (Ah:Nat) (x:RI):Prop:=Go.Proofs.YtfbomiejpbchdaaGreat.Holds w (Zg x)/\∀b,(Zg x).foot=some b->Ah≠b
instance goodInh (w:World) (Ah:Nat):Inhabited {x:RI // ZJ w Ah x}:=⟨⟨default,(λb e=>by cases e),(λb e=>by cases e)⟩⟩
structure aI (ls:List (List Nat)) where
  rs:List RI
  e:rs.map (·.l)=ls
  q:RX (aC rs) rs.length
instance {ls:List (List Nat)}:D9 (aI ls):=⟨λx=>x.q.val,λx=>x.q.row::aU x.rs,λx y hy=>by
  rcases List.mem_cons.1 hy with rfl|hy
  · rfl
  · obtain ⟨r,_,rfl⟩:=List.mem_map.1 hy;rfl⟩
end
section
structure RO where
  p:Option Addr
  c:Nat
  l:List Nat
  ok:OwnOk p l.length c
@[reducible] def aV (x:RO):Value:=.slice x.p x.l.length x.c
section
variable {kvs:List (Nat×RO)} {k T:Nat} {s:RO}
end
section
variable {P:Program} {ops:Array Oper} {rest:List Oper} {Q:Exit->Act->World->Prop} {n:Nat} {F:List (Nat×Value)} {w0:BP} {L A:List As} {kvs:List (Nat×RO)} {k T:Nat}
end
section
variable {P:Program} {ops:Array Oper} {rest:List Oper} {Q:Exit->Act->World->Prop} {n d i z m c c2:Nat} {F:List (Nat×Value)} {w0:BP} {L:List As} {t ty T:TypeId} {p:String} {af:Array Edge} {x y:Operand} {cs vs cs':List Value} {q:Option Addr} {v u:Value} {A0 A1 A2 A3 A4:As}
end
section
variable {P:Program} {ops:Array Oper} {rest:List Oper} {Q:Exit->Act->World->Prop} {n:Nat} {F:List (Nat×Value)} {w0:BP} {L:List As} {d:Option Tmp} {op:Op} {t:TypeId} {p:String} {af:Array Edge} {g:Nat×Bool}
end
def ZO (ts:List T3) (s:Nat):Nat:=Ef (ts.getD (s/3) (0,0,0)) (s%3)
def ZQ (ts:List T3):Nat->List (Nat×List Nat)
  | 0=>[]
  | s+1=>BZ (ZQ ts s) (ZO ts s) ((Ar (ZQ ts s) (ZO ts s)).getD []++[s/3])
def Sc (ts:List T3) (p:Nat):List Nat:=(Ar (ZQ ts (3*ts.length)) p).getD []
section
variable {ts:List T3} {N:Nat}
theorem Li {l:List Nat} {j:Nat} (h:j<l.length):l.getD j 0∈l:=by rw [List.getD,List.getElem?_eq_getElem h];exact List.getElem_mem h
theorem Mb {p o:Nat}:∀s,o∈(Ar (ZQ ts s) p).getD []↔∃u,u<s/\ZO ts u=p/\u/3=o
  | 0=>⟨λh=>(by cases h),λ⟨u,h,_⟩=>absurd h (Nat.not_lt_zero _)⟩
  | s+1=>by
    show o∈(Ar (BZ _ _ _) p).getD []↔_
    rw [B6]
    split
    · rename_i e
      rw [Option.getD_some,List.mem_append,List.mem_singleton,<-e,Mb s]
      constructor
      · rintro (⟨u,h1,h2,h3⟩|h)
        · exact ⟨u,by omega,h2,h3⟩
        · exact ⟨s,by omega,e.symm,h.symm⟩
      · rintro ⟨u,h1,h2,h3⟩
        rcases Nat.lt_or_ge u s with h4|h4
        · exact .inl ⟨u,h4,h2,h3⟩
        · exact .inr (by rw [<-h3,show u=s by omega])
    · rename_i e
      rw [Mb s]
      constructor
      · rintro ⟨u,h1,h2,h3⟩;exact ⟨u,by omega,h2,h3⟩
      · rintro ⟨u,h1,h2,h3⟩
        refine ⟨u,?_,h2,h3⟩
        rcases Nat.lt_or_ge u s with h4|h4
        · exact h4
        · exact absurd (by rw [<-h2,show u=s by omega]) e
theorem Jt {p o:Nat}:o∈Sc ts p↔o<ts.length/\∃r,r<3/\Ef (ts.getD o (0,0,0)) r=p:=by
  unfold Sc
  rw [Mb]
  constructor
  · rintro ⟨u,h1,h2,rfl⟩;exact ⟨by omega,u%3,by omega,h2⟩
  · rintro ⟨h1,r,h2,h3⟩
    refine ⟨3*o+r,by omega,?_,by omega⟩
    unfold ZO
    rw [show (3*o+r)/3=o by omega,show (3*o+r)%3=r by omega];exact h3
def UG (ts:List T3) (i j:Nat):Prop:=∃r s,r<3/\s<3/\Ef (ts.getD i (0,0,0)) r=Ef (ts.getD j (0,0,0)) s
theorem UG.symm {i j:Nat} (h:UG ts i j):UG ts j i:=by obtain ⟨r,s,a,b,c⟩:=h;exact ⟨s,r,b,a,c.symm⟩
theorem Uc {k u:Nat} (hu:u<ts.length):UG ts k u↔∃r,r<3/\u∈Sc ts (Ef (ts.getD k (0,0,0)) r):=by
  constructor
  · rintro ⟨r,s,h1,h2,h3⟩;exact ⟨r,h1,Jt.2 ⟨hu,s,h2,h3.symm⟩⟩
  · rintro ⟨r,h1,h2⟩;obtain ⟨_,s,h3,h4⟩:=Jt.1 h2;exact ⟨r,s,h1,h3,h4.symm⟩
inductive Nb (ts:List T3) (i:Nat):Nat->Prop
  | refl:Nb ts i i
  | step {j k:Nat}:Nb ts i j->k<ts.length->UG ts j k->Nb ts i k
theorem Nb.trans {i j k:Nat} (h:Nb ts i j) (h2:Nb ts j k):Nb ts i k:=by
  induction h2 with
  | refl=>exact h
  | step _ a b ih=>exact .step ih a b
theorem Nb.symm {i j:Nat} (hi:i<ts.length) (h:Nb ts i j):Nb ts j i:=by
  have key:j<ts.length/\Nb ts j i:=by
    induction h with
    | refl=>exact ⟨hi,.refl⟩
    | step _ a b ih=>exact ⟨a,(Nb.step .refl ih.1 b.symm).trans ih.2⟩
  exact key.2
abbrev gZ (l:List Int) (s:Nat):Int:=l.getD s 0
theorem FK {l:List Int} {o s:Nat} {z:Int} (ho:o<l.length):gZ (l.set o z) s=if s=o then z else gZ l s:=by
  unfold gZ
  rw [List.getD,List.getElem?_set]
  by_cases h:o=s
  · subst h;rw [if_pos rfl,if_pos ho,if_pos rfl];rfl
  · rw [if_neg h,if_neg (λe=>h e.symm)];rfl
structure VJ (ts:List T3) (t n:Nat) (l:List Int):Prop where
  len:l.length=ts.length
  rng:∀s,s<ts.length -> -1<=gZ l s/\gZ l s<n
  done:∀s,s<t->0<=gZ l s
  clo:∀s u,s<ts.length->u<ts.length->UG ts s u->0<=gZ l s->gZ l u=gZ l s
  fst:∀k,k<n->∃f,f<t/\gZ l f=(k:Int)/\∀s,s<f->gZ l s<k
  cnx:∀s u,s<ts.length->u<ts.length->0<=gZ l s->gZ l s=gZ l u->Nb ts s u
  nle:n<=t
structure XM (ts:List T3) (t n:Nat) (l0 l:List Int) (td:List Nat) (k r j:Nat):Prop where
  len:l.length=ts.length
  old:∀s,s<ts.length->0<=gZ l0 s->gZ l s=gZ l0 s
  new:∀s,s<ts.length->gZ l0 s<0->gZ l s = -1\/gZ l s=n/\Nb ts t s
  root:gZ l t=n
  tdn:∀s∈td,s<ts.length/\gZ l s=n/\gZ l0 s<0
  nd:td.Nodup
  kk:k<ts.length/\gZ l k=n/\gZ l0 k<0
  prc:∀s,s<ts.length->gZ l0 s<0->gZ l s=n->s ∉ td->s≠k->∀u,u<ts.length->UG ts s u->gZ l u=n
  part:∀r',r'<r->∀u∈Sc ts (Ef (ts.getD k (0,0,0)) r'),gZ l u=n
  pj:∀q,q<j->gZ l ((Sc ts (Ef (ts.getD k (0,0,0)) r)).getD q 0)=n
structure YU (ts:List T3) (t n:Nat) (l0 l:List Int) (td:List Nat):Prop where
  len:l.length=ts.length
  old:∀s,s<ts.length->0<=gZ l0 s->gZ l s=gZ l0 s
  new:∀s,s<ts.length->gZ l0 s<0->gZ l s = -1\/gZ l s=n/\Nb ts t s
  root:gZ l t=n
  tdn:∀s∈td,s<ts.length/\gZ l s=n/\gZ l0 s<0
  nd:td.Nodup
  prc:∀s,s<ts.length->gZ l0 s<0->gZ l s=n->s ∉ td->∀u,u<ts.length->UG ts s u->gZ l u=n
variable {t n k r j o:Nat} {l0 l:List Int} {td:List Nat}
theorem VJ.start (hl:l.length=ts.length) (h:∀s,s<ts.length->gZ l s = -1):VJ ts 0 0 l:=⟨hl,λs hs=>by rw [h s hs];omega,λs hs=>absurd hs (Nat.not_lt_zero _),λs u hs _ _ h0=>by rw [h s hs] at h0;omega,λk hk=>absurd hk (Nat.not_lt_zero _),λs u hs _ h0=>by rw [h s hs] at h0;omega,Nat.le_refl _⟩
theorem VJ.next (h:VJ ts t n l) (ht:0<=gZ l t):VJ ts (t+1) n l:=⟨h.len,h.rng,λs hs=>by
    rcases Nat.lt_or_ge s t with h1|h1
    · exact h.done s h1
    · rw [show s=t by omega];exact ht,h.clo,λk hk=>by obtain ⟨f,a,b,c⟩:=h.fst k hk;exact ⟨f,by omega,b,c⟩,h.cnx,by have:=h.nle;omega⟩
theorem YU.start (h:VJ ts t n l0) (ht:t<ts.length) (hn:gZ l0 t<0):YU ts t n l0 (l0.set t n) [t]:=by
  have hlt:t<l0.length:=by rw [h.len];exact ht
  refine ⟨by rw [List.length_set,h.len],λs hs h0=>?_,λs hs h0=>?_,by rw [FK hlt,if_pos rfl],λs hs=>?_,by simp,λs hs h0 hn' hnt u hu htc=>?_⟩
  · rw [FK hlt,if_neg (λe=>by subst e;omega)]
  · rw [FK hlt]
    split
    · rename_i e;subst e;exact .inr ⟨rfl,.refl⟩
    · exact .inl (by have:=(h.rng s hs).1;omega)
  · rw [List.mem_singleton] at hs
    subst hs
    exact ⟨ht,by rw [FK hlt,if_pos rfl],hn⟩
  · rw [List.mem_singleton] at hnt
    rw [FK hlt,if_neg hnt] at hn'
    have:=(h.rng s hs).2
    omega
theorem YU.tl (h:YU ts t n l0 l td):td.length<=ts.length:=Gi h.nd λx hx=>(h.tdn x hx).1
theorem XM.keep (h:XM ts t n l0 l td k r j) (hP:VJ ts t n l0) (ho:o=(Sc ts (Ef (ts.getD k (0,0,0)) r)).getD j 0) (hj:j<(Sc ts (Ef (ts.getD k (0,0,0)) r)).length) (hr:r<3) (hl:0<=gZ l o):XM ts t n l0 l td k r (j+1):=by
  have hm:o∈Sc ts (Ef (ts.getD k (0,0,0)) r):=by rw [ho];exact Li hj
  have hot:=(Jt.1 hm).1
  have htc:UG ts k o:=(Uc hot).2 ⟨r,hr,hm⟩
  refine ⟨h.len,h.old,h.new,h.root,h.tdn,h.nd,h.kk,h.prc,h.part,λq hq=>?_⟩
  rcases Nat.lt_or_ge q j with h1|h1
  · exact h.pj q h1
  · rw [show q=j by omega,<-ho]
    rcases Int.lt_or_le (gZ l0 o) 0 with h2|h2
    · rcases h.new o hot h2 with h3|h3
      · omega
      · exact h3.1
    · have:=hP.clo o k hot h.kk.1 htc.symm h2
      have:=h.kk.2.2
      omega
theorem XM.push (h:XM ts t n l0 l td k r j) (hP:VJ ts t n l0) (ht:t<ts.length) (ho:o=(Sc ts (Ef (ts.getD k (0,0,0)) r)).getD j 0) (hj:j<(Sc ts (Ef (ts.getD k (0,0,0)) r)).length) (hr:r<3) (hl:gZ l o<0):XM ts t n l0 (l.set o n) (td++[o]) k r (j+1):=by
  have hm:o∈Sc ts (Ef (ts.getD k (0,0,0)) r):=by rw [ho];exact Li hj
  have hot:=(Jt.1 hm).1
  have htc:UG ts k o:=(Uc hot).2 ⟨r,hr,hm⟩
  have hlt:o<l.length:=by rw [h.len];exact hot
  have h0:gZ l0 o<0:=by
    rcases Int.lt_or_le (gZ l0 o) 0 with h2|h2
    · exact h2
    · have:=h.old o hot h2;omega
  have hck:Nb ts t k:=by
    rcases h.new k h.kk.1 h.kk.2.2 with h3|h3
    · have:=h.kk.2.1;omega
    · exact h3.2
  have up:∀s,gZ l s=n->gZ (l.set o n) s=n:=λs hs=>by
    rw [FK hlt];split
    · rfl
    · exact hs
  refine ⟨by rw [List.length_set,h.len],λs hs h1=>?_,λs hs h1=>?_,up _ h.root,λs hs=>?_,?_,⟨h.kk.1,up _ h.kk.2.1,h.kk.2.2⟩,λs hs h1 h2 h3 h4 u hu h5=>?_,λr' hr' u hu=>up _ (h.part r' hr' u hu),λq hq=>?_⟩
  · rw [FK hlt,if_neg (λe=>by subst e;omega)];exact h.old s hs h1
  · rw [FK hlt]
    split
    · rename_i e;subst e;exact .inr ⟨rfl,hck.step hs htc⟩
    · exact h.new s hs h1
  · rcases List.mem_append.1 hs with hs|hs
    · obtain ⟨a,b,c⟩:=h.tdn s hs;exact ⟨a,up _ b,c⟩
    · rw [List.mem_singleton] at hs;subst hs;exact ⟨hot,by rw [FK hlt,if_pos rfl],h0⟩
  · refine List.nodup_append.2 ⟨h.nd,by simp,λa ha b hb e=>?_⟩
    rw [List.mem_singleton] at hb
    subst hb e
    have:=(h.tdn a ha).2.1
    omega
  · have hso:s≠o:=λe=>h3 (List.mem_append_right _ (List.mem_singleton.2 e))
    rw [FK hlt,if_neg hso] at h2
    exact up _ (h.prc s hs h1 h2 (λh6=>h3 (List.mem_append_left _ h6)) h4 u hu h5)
  · rcases Nat.lt_or_ge q j with h1|h1
    · exact up _ (h.pj q h1)
    · rw [show q=j by omega,<-ho,FK hlt,if_pos rfl]
theorem XM.tl (h:XM ts t n l0 l td k r j):td.length<=ts.length:=Gi h.nd λx hx=>(h.tdn x hx).1
theorem YU.finish (h:YU ts t n l0 l td) (hP:VJ ts t n l0) (ht:t<ts.length) (h0:td.length=0) (hn:gZ l0 t<0):VJ ts (t+1) (n+1) l:=by
  have htd:td=[]:=List.eq_nil_of_length_eq_zero h0
  subst htd
  have cs:∀s,s<ts.length->(0<=gZ l0 s/\gZ l s=gZ l0 s)\/(gZ l0 s<0/\(gZ l s = -1\/gZ l s=n/\Nb ts t s)):=λs hs=>by
    rcases Int.lt_or_le (gZ l0 s) 0 with h2|h2
    · exact .inr ⟨h2,h.new s hs h2⟩
    · exact .inl ⟨h2,h.old s hs h2⟩
  refine ⟨h.len,λs hs=>?_,λs hs=>?_,λs u hs hu htc h1=>?_,λk hk=>?_,λs u hs hu h1 h2=>?_,by have:=hP.nle;omega⟩
  · have:=hP.rng s hs
    rcases cs s hs with ⟨a,b⟩|⟨a,b|b⟩<;>omega
  · rcases Nat.lt_or_ge s t with h1|h1
    · have h2:=hP.done s h1
      rw [h.old s (by omega) h2];exact h2
    · rw [show s=t by omega,h.root];omega
  · rcases cs s hs with ⟨a,b⟩|⟨a,b|b⟩
    · have h3:=hP.clo s u hs hu htc a
      rw [b,h.old u hu (by omega),h3]
    · omega
    · rw [b.1];exact h.prc s hs a b.1 (by simp) u hu htc
  · rcases Nat.lt_or_ge k n with h1|h1
    · obtain ⟨f,a,b,c⟩:=hP.fst k h1
      refine ⟨f,by omega,by rw [h.old f (by omega) (by omega)];exact b,λs hs=>?_⟩
      have:=hP.done s (by omega)
      rw [h.old s (by omega) this];exact c s hs
    · refine ⟨t,by omega,by rw [h.root,show k=n by omega],λs hs=>?_⟩
      have h2:=hP.done s hs
      rw [h.old s (by omega) h2]
      have:=(hP.rng s (by omega)).2
      omega
  · rcases cs s hs with ⟨a,b⟩|⟨a,b|b⟩
    · rcases cs u hu with ⟨a',b'⟩|⟨a',b'|b'⟩
      · exact hP.cnx s u hs hu a (by omega)
      · omega
      · have:=(hP.rng s hs).2;omega
    · omega
    · rcases cs u hu with ⟨a',b'⟩|⟨a',b'|b'⟩
      · have:=(hP.rng u hu).2;omega
      · omega
      · exact (b.2.symm ht).trans b'.2
end
structure Z9 (ts:List T3) (l:List Int) (n:Nat):Prop where
  len:l.length=ts.length
  rng:∀s,s<ts.length->0<=gZ l s/\gZ l s<n
  clo:∀s u,s<ts.length->u<ts.length->UG ts s u->gZ l u=gZ l s
  fst:∀k,k<n->∃f,f<ts.length/\gZ l f=(k:Int)/\∀s,s<f->gZ l s<k
  cnx:∀s u,s<ts.length->u<ts.length->gZ l s=gZ l u->Nb ts s u
  nle:n<=ts.length
structure Z_ (ts:List T3) where
  l:List Int
  n:Nat
  pts:Z9 ts l n
  r:RX (zL l) l.length
instance {ts:List T3}:D9 (Z_ ts):=⟨λx=>.tuple #[x.r.val,vN x.n],λx=>[x.r.row],λx y hy=>by rcases List.mem_singleton.1 hy with rfl;rfl⟩
section
variable {ts:List T3} {n n':Nat} {l l':List Int}
end
structure aQ (l:List Nat) where
  r:RX (inL l) l.length
  q:RX [Value.slice r.p l.length r.c] 1
instance {l:List Nat}:D9 (aQ l):=⟨λx=>x.q.val,λx=>[x.q.row,x.r.row],λx y hy=>by simp only [List.mem_cons,List.not_mem_nil,or_false] at hy;rcases hy with rfl|rfl<;>rfl⟩
structure aD (n:Nat) where
  cs:List Value
  q:RX cs n
instance {n:Nat}:D9 (aD n):=⟨λx=>x.q.val,λx=>[x.q.row],λx y hy=>by rcases List.mem_singleton.1 hy with rfl;rfl⟩
end
section
section
variable {ts:List T3} {l:List Int} {k q N n:Nat}
end
end
section
abbrev Nf (N:Nat) (ts:List T3):List (P2×Nat):=Ed N (BT ts) (BT ts).length
def Yc (md:List (P2×Nat)) (T:T3):List P2:=[Bh ((Ar md (Bh T.1 T.2.1)).getD 0) ((Ar md (Bh T.2.2 T.1)).getD 0),Bh ((Ar md (Bh T.1 T.2.1)).getD 0) ((Ar md (Bh T.2.1 T.2.2)).getD 0),Bh ((Ar md (Bh T.2.1 T.2.2)).getD 0) ((Ar md (Bh T.2.2 T.1)).getD 0)]
section
variable {N:Nat} {ts:List T3} {T:T3} {κ:P2}
theorem IK {k:P2} {n:Nat} (h:Ar (Nf N ts) k=some n):N<=n/\n<N+(BT ts).length:=by
  obtain ⟨j,h1,_,h3⟩:=Fr _ h
  omega
theorem ZH:VT (Nf N ts) N:=⟨λk n h=>(IK h).1,λk k' n h h'=>Decidable.byContradiction λhc=>XS h h' hc rfl⟩
theorem K_ (hn:B5 N ts=true) (hN:N<=4611686018427387904) {k:P2} (hk:k∈Ck ts):∃n,Ar (Nf N ts) k=some n:=by
  obtain ⟨a,b⟩:=k
  obtain ⟨e,he,rfl,rfl⟩:=(Fi hn hN).1 hk
  exact OU (GB hn hN) (λe he=>(D8 hn hN he).1) he
theorem Zq (hn:B5 N ts=true) (hN:N<=4611686018427387904) (hT:T∈ts):∃x y z,Ar (Nf N ts) (Bh T.1 T.2.1)=some x/\Ar (Nf N ts) (Bh T.2.1 T.2.2)=some y/\Ar (Nf N ts) (Bh T.2.2 T.1)=some z/\VL N (BT ts) T=[(T.1,x,z),(x,T.2.1,y),(z,y,T.2.2),(x,y,z)]/\Yc (Nf N ts) T=[Bh x z,Bh x y,Bh y z]:=by
  obtain ⟨k1,k2,k3⟩:=M9 hT
  obtain ⟨x,hx⟩:=K_ hn hN k1
  obtain ⟨y,hy⟩:=K_ hn hN k2
  obtain ⟨z,hz⟩:=K_ hn hN k3
  refine ⟨x,y,z,hx,hy,hz,?_,?_⟩
  · unfold VL Hr
    rw [hx,hy,hz];rfl
  · unfold Yc
    rw [hx,hy,hz];rfl
theorem Ox {n n':Nat} (h:N<=n) (h':N<=n'):Xo (Nf N ts) N (Bh n n'):=λk h1 h2 hk=>by
  have h3:(Bh n n').1=min n n':=rfl
  rcases Vm hk with h4|h4<;>omega
theorem XD (hn:B5 N ts=true) (hN:N<=4611686018427387904) (hT:T∈ts):(∀κ,((VL N (BT ts) T).flatMap XK).count κ=((XK T).flatMap (HN (Nf N ts))).count κ+2*(Yc (Nf N ts) T).count κ)/\∀κ∈Yc (Nf N ts) T,Xo (Nf N ts) N κ:=by
  obtain ⟨x,y,z,hx,hy,hz,hc,hi⟩:=Zq hn hN hT
  obtain ⟨⟨a0,a1,a2⟩,d1,d2,d3⟩:=Xj (List.all_eq_true.1 hn T hT)
  have nx:=(IK hx).1
  have ny:=(IK hy).1
  have nz:=(IK hz).1
  rw [hc,hi]
  obtain ⟨a,b,c⟩:=T
  simp only at a0 a1 a2 hx hy hz
  constructor
  · intro κ
    show ([Bh a x,Bh x z,Bh z a,Bh x b,Bh b y,Bh y x,Bh z y,Bh y c,Bh c z,Bh x y,Bh y z,Bh z x]:List P2).count κ=(HN (Nf N ts) (Bh a b)++(HN (Nf N ts) (Bh b c)++(HN (Nf N ts) (Bh c a)++[]))).count κ+_
    rw [(GM a0 nx).2,(GM a0 nz).1,(GM a1 nx).1,(GM a1 ny).2,(GM a2 ny).1,(GM a2 nz).2,KL y x,KL z y,KL z x]
    simp only [List.count_append,Px hx,Px hy,Px hz,List.count_cons,List.count_nil]
    omega
  · intro κ hκ
    simp only [List.mem_cons,List.not_mem_nil,or_false] at hκ
    rcases hκ with rfl|rfl|rfl
    · exact Ox nx nz
    · exact Ox nx ny
    · exact Ox ny nz
theorem UX (hn:B5 N ts=true) (hN:N<=4611686018427387904):∃I:List P2,(∀κ,(Ck (EP N (BT ts) ts)).count κ=((Ck ts).flatMap (HN (Nf N ts))).count κ+2*I.count κ)/\∀κ∈I,Xo (Nf N ts) N κ :=
  WE λt ht=>⟨Yc (Nf N ts) t,XD hn hN ht⟩
end
end
section
section
variable {ps:List Pt} {ts:List T3} {T U:T3} {k k' κ:P2} {N:Nat}
end
end
section
abbrev Zk (ps:List Pt) (ss:List T3) (l:List E4) (ts':List T3):List T3:=Lb ps.length ss l ts'
structure EA (ps:List Pt) (ts ss:List T3) (l:List E4) (ts':List T3):Prop where
  g:ET ps ts
  hn:B5 ps.length ts=true
  sd:∃mm,ss=Du mm ts ps.length ps.length
  got:∀k n,Ar (Qt ps l) k=some n->∃j,j<l.length/\n=ps.length+j/\k=((l.getD j E0).a,(l.getD j E0).b)/\(l.getD j E0).a<ps.length/\(l.getD j E0).b<ps.length
  s_llen:l.length<=108
  tl:ts'.length<=4*ts.length
  s_num:B5 (ps.length+l.length) ts'=true
  s_mid:VT (Qt ps l) ps.length
  cnt:∃I:List P2,(∀κ,(Ck ts').count κ=((Ck ts).flatMap (HN (Qt ps l))).count κ+2*I.count κ)/\∀κ∈I,Xo (Qt ps l) ps.length κ
section
variable {ps:List Pt} {ts ss:List T3} {l:List E4} {ts':List T3}
theorem EA.s_hN (D:EA ps ts ss l ts'):ps.length<=108:=D.g.pl
theorem EA.s_get (D:EA ps ts ss l ts') {k:P2} {n:Nat} (h:Ar (Qt ps l) k=some n):True/\∃j,j<l.length/\n=ps.length+j/\k=((l.getD j E0).a,(l.getD j E0).b)/\(l.getD j E0).a<ps.length/\(l.getD j E0).b<ps.length:=⟨trivial,D.got k n h⟩
theorem EA.s_ends (D:EA ps ts ss l ts') {k:P2} (hk:k∈Ck ts):k.1<k.2/\k.2<ps.length:=SQ D.hn (by have:=D.s_hN;omega) hk
theorem EA.s_rim (D:EA ps ts ss l ts') {s:T3}:s∈Bt ts'↔(∃k,(Ck ts).count k=1/\(s.1,s.2.1)∈HN (Qt ps l) k)/\s.2.2=0 :=
  WK D.s_mid (λk hk=>D.s_ends hk) D.s_num (by have:=D.s_hN;have:=D.s_llen;omega) D.cnt
theorem EA.s_side (D:EA ps ts ss l ts') {k:T3} (hk:k∈ss):(Ck ts).count (k.1,k.2.1)=1/\k.1<k.2.1/\k.2.1<ps.length:=by
  obtain ⟨mm,hs⟩:=D.sd
  rw [hs] at hk
  obtain ⟨_,h2,h3,h4,_⟩:=(Dh _).1 hk
  rw [N9 D.hn h2] at h4
  exact ⟨h4,h2,h3⟩
theorem EA.s_side_of (D:EA ps ts ss l ts') {k:P2} (hk:(Ck ts).count k=1):∃s∈ss,(s.1,s.2.1)=k:=by
  obtain ⟨mm,hs⟩:=D.sd
  obtain ⟨a,b⟩:=k
  obtain ⟨h1,h2⟩:=D.s_ends (List.count_pos_iff.1 (show 0<(Ck ts).count (a,b) by rw [hk];decide))
  refine ⟨WU mm a b,?_,rfl⟩
  rw [hs]
  exact (Dh _).2 ⟨by show a<_;simp only at h1 h2;omega,h1,h2,by rw [<-hk];exact N9 D.hn h1,rfl⟩
theorem EA.s_side_eq (D:EA ps ts ss l ts') {k k':T3} (hk:k∈ss) (hk':k'∈ss) (h:(k.1,k.2.1)=(k'.1,k'.2.1)):k=k':=by
  obtain ⟨mm,hs⟩:=D.sd
  rw [hs] at hk hk'
  obtain ⟨_,_,_,_,e⟩:=(Dh _).1 hk
  obtain ⟨_,_,_,_,e'⟩:=(Dh _).1 hk'
  injection h with h1 h2
  rw [e,e',h1,h2]
theorem EA.s_pmid (D:EA ps ts ss l ts') {k:P2} {n:Nat} (h:Ar (Qt ps l) k=some n):(FF ps l).getD n ⟨0,0⟩=CS (ps.getD k.1 ⟨0,0⟩+ps.getD k.2 ⟨0,0⟩) (1/2):=by
  obtain ⟨_,j,hj,hn,hk,_⟩:=D.s_get h
  rw [hn,SW hj,hk];rfl
theorem EA.s_mark (D:EA ps ts ss l ts') {k:T3} {κ:P2} (hk:k∈ss) (hκ:κ∈HN (Qt ps l) (k.1,k.2.1)):O7 ps.length ss l κ.1 κ.2=k.2.2:=by
  obtain ⟨c,hlt,hlN⟩:=D.s_side hk
  obtain ⟨j,hj,rfl⟩:=List.getElem_of_mem hk
  have ej:ss.getD j (0,0,0)=ss[j]:=by rw [List.getD,List.getElem?_eq_getElem hj];rfl
  have mem:∀i,i<ss.length->ss.getD i (0,0,0)∈ss:=λi hi=>by rw [List.getD,List.getElem?_eq_getElem hi];exact List.getElem_mem _
  have ky:∀{a b:Nat},a<b->Bh a b=(a,b):=λ{a b} h=>by
    unfold Bh
    rw [Nat.min_eq_left (by omega),Nat.max_eq_right (by omega)]
  have hnd:∀i i',i<ss.length->i'<ss.length->ss.getD i (0,0,0)=ss.getD i' (0,0,0)->i=i':=λi i' hi hi' e=>by
    obtain ⟨mm,hs⟩:=D.sd
    have hp:ss.Pairwise YS:=by rw [hs];exact HM _
    rw [List.getD,List.getElem?_eq_getElem hi,List.getD,List.getElem?_eq_getElem hi'] at e
    have e:ss[i]=ss[i']:=e
    have hp:=List.pairwise_iff_getElem.1 hp
    rcases Nat.lt_trichotomy i i' with h|h|h
    · have:=hp i i' hi hi' h;rw [e] at this;unfold YS at this;omega
    · exact h
    · have:=hp i' i hi' hi h;rw [e] at this;unfold YS at this;omega
  have at_:=Qa (N:=ps.length) (ss:=ss) (λi hi=>by have:=D.s_side (mem i hi);omega) (λi i' hi hi' e=>by
    rw [ky (D.s_side (mem i hi)).2.1,ky (D.s_side (mem i' hi')).2.1] at e
    exact hnd i i' hi hi' (D.s_side_eq (mem i hi) (mem i' hi') e)) ss.length (Nat.le_refl _) j (by omega) hj
  rw [ej,ky hlt] at at_
  unfold O7
  cases hg:Ar (Qt ps l) (ss[j].1,ss[j].2.1) with
  | none =>
    rw [Fp hg,List.mem_singleton] at hκ
    rw [hκ]
    show (Ar (Dq ps.length ss l l.length) (Bh ss[j].1 ss[j].2.1)).getD 0=_
    rw [ky hlt,Jv hlN,at_];rfl
  | some n =>
    obtain ⟨_,i,hi,hn,hki,hb⟩:=D.s_get hg
    have hx:κ.2=n/\(κ.1=(l.getD i E0).a\/κ.1=(l.getD i E0).b):=by
      rw [FB hg,hki] at hκ
      simp only [List.mem_cons,List.not_mem_nil,or_false] at hκ
      rcases hκ with rfl|rfl
      · exact ⟨rfl,.inl rfl⟩
      · exact ⟨rfl,.inr rfl⟩
    have hab:(l.getD i E0).a<(l.getD i E0).b:=by
      have h9:=congrArg Prod.fst hki
      have h8:=congrArg Prod.snd hki
      simp only at h9 h8
      omega
    rw [hx.1,(GM (show κ.1<ps.length by omega) (show ps.length<=n by omega)).2,hn,Nk hb hx.2 _ hi,ky hab,<-hki,at_];rfl
theorem EA.s_fs_mem (D:EA ps ts ss l ts') {s:T3} (hs:s∈(Zk ps ss l ts')):(∃k∈ss,(s.1,s.2.1)∈HN (Qt ps l) (k.1,k.2.1)/\s.2.2=k.2.2)/\s.1<ps.length+l.length/\s.2.1<ps.length+l.length:=by
  obtain ⟨r,hr,rfl⟩:=List.mem_map.1 hs
  obtain ⟨⟨k,hk,hm⟩,_⟩:=D.s_rim.1 hr
  obtain ⟨q,hq,rfl⟩:=D.s_side_of hk
  have h9:=QC D.s_num (by have:=D.s_hN;have:=D.s_llen;omega) hr
  exact ⟨⟨q,hq,hm,D.s_mark hq hm⟩,h9⟩
theorem EA.s_fs_len (D:EA ps ts ss l ts'):(Zk ps ss l ts').length<=432:=by
  have h1:(Bt ts').length<=3*ts'.length:=VW
  have h2:ts'.length<=4*ts.length:=D.tl
  have h3:=D.g.tl
  have h4:(Zk ps ss l ts').length=(Bt (ts')).length:=List.length_map _
  omega
theorem EA.s_sz (D:EA ps ts ss l ts') (i:Nat):Bo ((FF ps l).getD i ⟨0,0⟩)<=100:=by
  rcases Nat.lt_or_ge i ps.length with h|h
  · rw [Xe h];exact Nat.le_trans (D.g.sz i) (by decide)
  · rcases Nat.lt_or_ge (i-ps.length) l.length with h2|h2
    · rw [show i=ps.length+(i-ps.length) by omega,SW h2]
      unfold Y0
      have k1:=IV (cor ps (l.getD (i-ps.length) E0).a+cor ps (l.getD (i-ps.length) E0).b) (1/2)
      have k2:=NF (cor ps (l.getD (i-ps.length) E0).a) (cor ps (l.getD (i-ps.length) E0).b)
      have k3:Bo (cor ps (l.getD (i-ps.length) E0).a)<=4:=D.g.sz _
      have k4:Bo (cor ps (l.getD (i-ps.length) E0).b)<=4:=D.g.sz _
      have k5:Sz (1/2)<=4:=by decide +kernel
      omega
    · rw [List.getD,List.getElem?_eq_none (by rw [EW];omega)]
      have:Bo (⟨0,0⟩:Pt)<=100:=by decide +kernel
      exact this
end
section
variable {ps:List Pt} {ts ss:List T3}
theorem QM (g:ET ps ts) (hn:B5 ps.length ts=true) (sd:∃mm,ss=Du mm ts ps.length ps.length):EA ps ts ss (BT ts) (EP ps.length (BT ts) ts):=by
  have hp:=g.pl
  have ht:=g.tl
  have he:=O2 ts
  refine ⟨g,hn,sd,λk n h=>?_,by omega,Nat.le_of_eq EK,N7 hn (by omega),ZH,UX hn (by omega)⟩
  obtain ⟨j,hj,hk,hnn⟩:=Fr _ h
  have hm:(BT ts).getD j E0∈BT ts:=by rw [List.getD,List.getElem?_eq_getElem hj];exact List.getElem_mem _
  have h1:=D8 hn (by omega) hm
  refine ⟨j,hj,hnn,?_,by omega,by omega⟩
  rw [<-hk]
  unfold Bh
  rw [Nat.min_eq_left (by omega),Nat.max_eq_right (by omega)]
end
section
variable {ps pf:List Pt} {ss:List T3} {s:T3} {k:Nat}
end
end
section
section
variable {ps:List Pt} {ts ss:List T3} {l:List E4} {ts':List T3} {fam:T3->List T3} {t:T3} {k:Nat}
def Ym (ps:List Pt) (l:List E4) (a b:Nat):Nat:=(Ar (Qt ps l) (Bh a b)).getD 0
theorem IC (hk:3<=k) (hk6:k<6):Fo (Ym ps l) t k=(Ar (Qt ps l) (LO t k)).getD 0:=by
  have e:k=3\/k=4\/k=5:=by omega
  rcases e with rfl|rfl|rfl<;>rfl
theorem Vs (hk:3<=k) (hk6:k<6):CS (cor ps (LO t k).1+cor ps (LO t k).2) (1/2)=I7 ps t k:=by
  have sy:∀a b,CS (cor ps (Bh a b).1+cor ps (Bh a b).2) (1/2)=Es (cor ps a) (cor ps b):=λa b=>by
    unfold Bh Es
    rcases Nat.le_total a b with h|h
    · rw [Nat.min_eq_left h,Nat.max_eq_right h]
    · rw [Nat.min_eq_right h,Nat.max_eq_left h]
      congr 1
      refine Pt.ext ?_ ?_<;>simp only [QR,Ql]<;>grind
  have e:k=3\/k=4\/k=5:=by omega
  rcases e with rfl|rfl|rfl
  · exact sy _ _
  · exact sy _ _
  · exact sy _ _
theorem Uw (ht:t∈ts) (hk:3<=k) (hk6:k<6):LO t k∈Ck ts:=by
  obtain ⟨a,b,c⟩:=M9 ht
  have e:k=3\/k=4\/k=5:=by omega
  rcases e with rfl|rfl|rfl
  · exact a
  · exact b
  · exact c
theorem V0 {κ:P2} (h:κ∈Ck ts):∃t∈ts,∃k,3<=k/\k<6/\LO t k=κ:=by
  obtain ⟨t,ht,h⟩:=List.mem_flatMap.1 h
  simp only [List.mem_cons,List.not_mem_nil,or_false] at h
  rcases h with h|h|h
  · exact ⟨t,ht,3,by decide,by decide,h.symm⟩
  · exact ⟨t,ht,4,by decide,by decide,h.symm⟩
  · exact ⟨t,ht,5,by decide,by decide,h.symm⟩
theorem YG (D:EA ps ts ss l ts') (hsub:∀e∈l,e∈BT ts) (hso:l.Pairwise X9) (hf:∀t∈ts,P8 (fam t)) (hcut:ts'=ts.flatMap λt=>(fam t).map (DQ (Ym ps l) t))
    (hus:∀t∈ts,∀k,3<=k->k<6->(HJ (fam t) k=true↔∃n,Ar (Qt ps l) (LO t k)=some n)):GG ps ts (FF ps l) ts' (Ym ps l) fam:=by
  have hN:=D.s_hN
  refine ⟨D.g,hcut,hf,by rw [EW];omega,λp hp=>?_,λt ht k hk hk6 hu=>?_,λp hp hp'=>?_,λt ht s hs l' k hl hl6 hk hk6 hu e=>?_⟩
  · unfold cor
    rw [show FF ps l=ps++(l.take l.length).map (Y0 ps) from Jo _ (Nat.le_refl _),List.getD,List.getElem?_append_left hp];rfl
  · obtain ⟨n,hn⟩:=(hus t ht k hk hk6).1 hu
    obtain ⟨j,hj,hnj,_⟩:=D.got _ _ hn
    have e:=D.s_pmid hn
    rw [IC hk hk6,hn]
    refine ⟨by show ps.length<=n;omega,by rw [EW];show n<_;omega,?_⟩
    rw [<-Vs hk hk6]
    exact e
  · rw [EW] at hp'
    have hj:p-ps.length<l.length:=by omega
    have hm:l.getD (p-ps.length) E0∈l:=by rw [List.getD,List.getElem?_eq_getElem hj];exact List.getElem_mem _
    have hes:∀e∈l,e.a<e.b:=λe he=>(D8 D.hn (by omega) (hsub e he)).1
    have h1:=H4 (N:=ps.length) hso hes _ (Nat.le_refl _) hj
    obtain ⟨t,ht,k,hk,hk6,e⟩:=V0 ((Fi D.hn (by omega)).2 ⟨_,hsub _ hm,rfl,rfl⟩)
    refine ⟨t,ht,k,hk,hk6,(hus t ht k hk hk6).2 ⟨_,by rw [e];exact h1⟩,?_⟩
    rw [IC hk hk6,e,h1]
    show p=ps.length+(p-ps.length)
    omega
  · obtain ⟨n,hn⟩:=(hus s hs k hk hk6).1 hu
    exact ⟨(hus t ht l' hl hl6).2 ⟨n,by rw [e];exact hn⟩,by rw [IC hl hl6,IC hk hk6,e]⟩
theorem X8 (D:EA ps ts ss l ts') {mv:Nat->Nat->Nat} (S:GG ps ts (FF ps l) ts' mv fam) (h0:0<ts'.length):Kk (FF ps l) ts' (Lb ps.length ss l ts'):=by
  have hN:=D.s_hN
  have hl:=D.s_llen
  have ht:=D.g.tl
  have htl:=D.tl
  refine S.chk (by rw [EW];omega) (by omega) (Nat.le_trans D.s_fs_len (by decide)) h0 (λk=>Nat.le_trans (D.s_sz k) (by decide)) (by rw [EW];exact D.s_num) (λs hs=>?_) ?_
  · obtain ⟨⟨k,hk,_,e⟩,h1,h2⟩:=D.s_fs_mem hs
    rw [EW]
    refine ⟨h1,h2,?_⟩
    obtain ⟨mm,hmm⟩:=D.sd
    rw [hmm] at hk
    have h5:=((Dh _).1 hk).2.2.2.2
    rw [e,h5]
    show (k.1+3*k.2.1+mm.fst)%5<=255
    omega
  · unfold Lb
    rw [List.map_map]
    rfl
theorem Jb (g:ET ps ts) (hn:B5 ps.length ts=true) (sd:∃mm,ss=Du mm ts ps.length ps.length):GG ps ts (FF ps (BT ts)) (EP ps.length (BT ts) ts) (Ym ps (BT ts)) (λ_=>LV):=by
  have hp:=g.pl
  refine YG (QM g hn sd) (λe he=>he) (GB hn (by omega)) (λ_ _=>P3) rfl λt ht k hk hk6=>⟨λ_=>?_,λ_=>?_⟩
  · obtain ⟨e,he,ea,eb⟩:=(Fi hn (by omega)).1 (Uw ht hk hk6)
    obtain ⟨n,h⟩:=OU (N:=ps.length) (GB hn (by omega)) (λe he=>(D8 hn (by omega) he).1) he
    rw [ea,eb] at h
    exact ⟨n,h⟩
  · have e:k=3\/k=4\/k=5:=by omega
    rcases e with rfl|rfl|rfl<;>decide
theorem Vx (g:ET ps ts) (hn:B5 ps.length ts=true) (sd:∃mm,ss=Du mm ts ps.length ps.length):Kk (FF ps (BT ts)) (EP ps.length (BT ts) ts) (Lb ps.length ss (BT ts) (EP ps.length (BT ts) ts)) :=
  X8 (QM g hn sd) (Jb g hn sd) (by have h:=List.length_pos_iff.2 g.ne;rw [EK];omega)
end
def Jx (ps:List Pt) (t:T3):Rat:=AQ (cor ps t.1) (cor ps t.2.1) (cor ps t.2.2)*(1/2)
def FR (ps:List Pt) (ts:List T3):Nat->Rat
  | 0=>0
  | i+1=>FR ps ts i+Jx ps (ts.getD i (0,0,0))
theorem QU {ps:List Pt} (hz:∀k,Bo (cor ps k)<=1000) (t:T3):Sz (Jx ps t)<=8009:=by
  have h1:=C_ (cor ps t.1) (cor ps t.2.1) (cor ps t.2.2)
  have z1:=hz t.1
  have z2:=hz t.2.1
  have z3:=hz t.2.2
  have h2:=Cl (AQ (cor ps t.1) (cor ps t.2.1) (cor ps t.2.2)) (1/2)
  have h3:=Jc
  unfold Jx
  omega
theorem Qk {ps:List Pt} (hz:∀k,Bo (cor ps k)<=1000) (ts:List T3):∀i,Sz (FR ps ts i)<=2+i*8010
  | 0=>by show Sz (0:Rat)<=2+0*8010;decide +kernel
  | i+1=>by
    have h:=Qk hz ts i
    have h1:=QU hz (ts.getD i (0,0,0))
    have h4:=GE (FR ps ts i) (Jx ps (ts.getD i (0,0,0)))
    show Sz (FR ps ts i+Jx ps (ts.getD i (0,0,0)))<=_
    omega
def Gs:List Rat->Rat
  | []=>0
  | x::r=>x+Gs r
theorem OJ (a b:List Rat):Gs (a++b)=Gs a+Gs b:=by
  induction a with
  | nil=>simp only [List.nil_append,Gs];grind
  | cons x r ih=>simp only [List.cons_append,Gs,ih];grind
theorem N4 (ps:List Pt) (ts:List T3):∀i,i<=ts.length->FR ps ts i=Gs ((ts.take i).map (Jx ps))
  | 0,_=>by simp [FR,Gs]
  | i+1,h=>by
    rw [D0 (d:=(0,0,0)) (show i<ts.length by omega),List.map_append,OJ,<-N4 ps ts i (by omega)]
    simp only [FR,List.map_cons,List.map_nil,Gs]
    grind
theorem OZ (ps:List Pt) (ts:List T3):FR ps ts ts.length=Gs (ts.map (Jx ps)):=by rw [N4 _ _ _ (Nat.le_refl _),List.take_length]
theorem MJ {α:Type} (f:α->Rat) (g:α->List Rat):∀l:List α,(∀x∈l,Gs (g x)=f x)->Gs (l.flatMap g)=Gs (l.map f)
  | [],_=>rfl
  | x::r,h=>by
    rw [List.flatMap_cons,OJ,List.map_cons,Gs,h x List.mem_cons_self,MJ f g r λy hy=>h y (List.mem_cons_of_mem _ hy)]
def Ux (fam:List T3):Int:=(fam.map λL=>D3 L.1 L.2.1 L.2.2).foldr (·+·) 0
section
variable {ps ps':List Pt} {ts ts':List T3} {mv:Nat->Nat->Nat} {fam:T3->List T3} {t L:T3}
theorem GG.v_sum (S:GG ps ts ps' ts' mv fam) (ht:t∈ts):∀l:List T3,(∀L∈l,L∈fam t)->Gs ((l.map (DQ mv t)).map (Jx ps'))*8=((Ux l:Int):Rat)*Jx ps t
  | [],_=>by simp only [List.map_nil,Gs,Ux,List.foldr_nil];simp
  | L::r,h=>by
    have ih:=S.v_sum ht r λM hM=>h M (List.mem_cons_of_mem _ hM)
    have e:=S.v_turn ht (h L List.mem_cons_self)
    have e2:Ux (L::r)=D3 L.1 L.2.1 L.2.2+Ux r:=rfl
    rw [List.map_cons,List.map_cons,Gs,e2,Rat.intCast_add]
    unfold Jx at ih ⊢
    have e3:AQ (cor ps' (DQ mv t L).1) (cor ps' (DQ mv t L).2.1) (cor ps' (DQ mv t L).2.2)*(1/2)*8=((D3 L.1 L.2.1 L.2.2:Int):Rat)*(AQ (cor ps t.1) (cor ps t.2.1) (cor ps t.2.2)*(1/2)):=by
      rw [show AQ (cor ps' (DQ mv t L).1) (cor ps' (DQ mv t L).2.1) (cor ps' (DQ mv t L).2.2)*(1/2)*8=AQ (cor ps' (DQ mv t L).1) (cor ps' (DQ mv t L).2.1) (cor ps' (DQ mv t L).2.2)*8*(1/2) by grind,e]
      grind
    rw [Rat.add_mul,e3,ih]
    grind
theorem GG.v_area (S:GG ps ts ps' ts' mv fam) (hs:∀t∈ts,Ux (fam t)=8):FR ps' ts' ts'.length=FR ps ts ts.length:=by
  rw [OZ,OZ,S.cut,List.map_flatMap]
  refine MJ _ _ _ λt ht=>?_
  have h:=S.v_sum ht (fam t) λL hL=>hL
  rw [hs t ht] at h
  have h8:((8:Int):Rat)=8:=rfl
  rw [h8] at h
  grind
theorem GG.v_where (S:GG ps ts ps' ts' mv fam) (ht:t∈ts) {l:Nat} (hl:l<6):GA (cor ps t.1) (cor ps t.2.1) (cor ps t.2.2) (I7 ps t l)≠0:=λe =>
  (Lz (S.v_pos ht)).1 (show KT ps (I7 ps t l) t=0 from e) (Pa (S.v_pos ht) hl)
end
theorem Dv {p x:Pt} (h1:p.x=x.x*(1/2)) (h2:p.y=x.y*(1/2)):Bx p p=(1/4)*Bx x x:=by simp only [Mp,h1,h2];grind
theorem LH {p x:Pt} (h1:p.x = -(x.x*(1/2))) (h2:p.y = -(x.y*(1/2))):Bx p p=(1/4)*Bx x x:=by simp only [Mp,h1,h2];grind
theorem Qg (a b:Pt):(Es a b).x=(a.x+b.x)*(1/2):=by unfold Es;rw [NC,QR]
theorem QL (a b:Pt):(Es a b).y=(a.y+b.y)*(1/2):=by unfold Es;rw [NW,Ql]
theorem PR (a b c:Pt) (L:T3) (hL:L∈LV):(Aw (LP a b c L.1) (LP a b c L.2.1) (LP a b c L.2.2)).1/(Aw (LP a b c L.1) (LP a b c L.2.1) (LP a b c L.2.2)).2.2=(Aw a b c).1/(Aw a b c).2.2/\(Aw (LP a b c L.1) (LP a b c L.2.1) (LP a b c L.2.2)).2.1/(Aw (LP a b c L.1) (LP a b c L.2.1) (LP a b c L.2.2)).2.2=(Aw a b c).2.1/(Aw a b c).2.2:=by
  have k4:(0:Rat)<1/4:=by decide +kernel
  simp only [LV,List.mem_cons,List.not_mem_nil,or_false] at hL
  rcases hL with rfl|rfl|rfl|rfl
  · show (Aw a (Es a b) (Es c a)).1/(Aw a (Es a b) (Es c a)).2.2=_/\(Aw a (Es a b) (Es c a)).2.1/(Aw a (Es a b) (Es c a)).2.2=_
    refine IJ k4 (Dv ?_ ?_) (Dv ?_ ?_) (Dv ?_ ?_)<;>simp only [Qf,Qc,Qg,QL]<;>grind
  · show (Aw (Es a b) b (Es b c)).1/(Aw (Es a b) b (Es b c)).2.2=_/\(Aw (Es a b) b (Es b c)).2.1/(Aw (Es a b) b (Es b c)).2.2=_
    refine IJ k4 (Dv ?_ ?_) (Dv ?_ ?_) (Dv ?_ ?_)<;>simp only [Qf,Qc,Qg,QL]<;>grind
  · show (Aw (Es c a) (Es b c) c).1/(Aw (Es c a) (Es b c) c).2.2=_/\(Aw (Es c a) (Es b c) c).2.1/(Aw (Es c a) (Es b c) c).2.2=_
    refine IJ k4 (Dv ?_ ?_) (Dv ?_ ?_) (Dv ?_ ?_)<;>simp only [Qf,Qc,Qg,QL]<;>grind
  · show (Aw (Es a b) (Es b c) (Es c a)).1/(Aw (Es a b) (Es b c) (Es c a)).2.2=_/\(Aw (Es a b) (Es b c) (Es c a)).2.1/(Aw (Es a b) (Es b c) (Es c a)).2.2=_
    rw [<-Od (Es a b) (Es b c) (Es c a)]
    refine IJ k4 (LH ?_ ?_) (LH ?_ ?_) (LH ?_ ?_)<;>simp only [Qf,Qc,Qg,QL]<;>grind
structure Yz (a b c p q r:Pt):Prop where
  t0:AQ a b c≠0
  t1:AQ p q r≠0
  w0:GA a b c p≠0
  w1:GA a b c q≠0
  w2:GA a b c r≠0
  s1:(Aw p q r).1/(Aw p q r).2.2=(Aw a b c).1/(Aw a b c).2.2
  s2:(Aw p q r).2.1/(Aw p q r).2.2=(Aw a b c).2.1/(Aw a b c).2.2
  ar:((4:Int):Rat)*(AQ p q r*(1/2))=AQ a b c*(1/2)
theorem Th {n t:Nat} (h:t<4*n):(Dj n).getD t 0=t/4:=by
  induction n with
  | zero=>omega
  | succ n ih =>
    rw [Ix]
    rcases Nat.lt_or_ge t (4*n) with h1|h1
    · rw [List.getD,List.getElem?_append_left (by rw [Fx];exact h1)];exact ih h1
    · rw [List.getD,List.getElem?_append_right (by rw [Fx];exact h1),Fx]
      have e:t-4*n=0\/t-4*n=1\/t-4*n=2\/t-4*n=3:=by omega
      have e2:t/4=n:=by omega
      rcases e with e|e|e|e<;>rw [e,e2]<;>rfl
section
variable {ps:List Pt} {ts ss:List T3}
theorem WJ (g:ET ps ts) (hn:B5 ps.length ts=true) (sd:∃mm,ss=Du mm ts ps.length ps.length) {t:Nat} (ht:t<4*ts.length) :
    Yz (cor ps (ts.getD (t/4) (0,0,0)).1) (cor ps (ts.getD (t/4) (0,0,0)).2.1) (cor ps (ts.getD (t/4) (0,0,0)).2.2)
      (cor (FF ps (BT ts)) ((EP ps.length (BT ts) ts).getD t (0,0,0)).1) (cor (FF ps (BT ts)) ((EP ps.length (BT ts) ts).getD t (0,0,0)).2.1) (cor (FF ps (BT ts)) ((EP ps.length (BT ts) ts).getD t (0,0,0)).2.2):=by
  have S:=Jb g hn sd
  have hm:ts.getD (t/4) (0,0,0)∈ts:=G0 (by omega)
  have key:∃L∈LV,(EP ps.length (BT ts) ts).getD t (0,0,0)=DQ (Ym ps (BT ts)) (ts.getD (t/4) (0,0,0)) L:=by
    rw [Sy ht]
    have e:t%4=0\/t%4=1\/t%4=2\/t%4=3:=by omega
    rcases e with e|e|e|e<;>rw [e]
    · exact ⟨(0,3,5),by simp [LV],rfl⟩
    · exact ⟨(3,1,4),by simp [LV],rfl⟩
    · exact ⟨(5,4,2),by simp [LV],rfl⟩
    · exact ⟨(3,4,5),by simp [LV],rfl⟩
  obtain ⟨L,hL,e⟩:=key
  rw [e]
  have hp:=S.v_pos hm
  have hq:=S.v_cpos hm hL
  have ha:=S.v_turn hm hL
  obtain ⟨l1,l2,l3⟩:=P3.lt L hL
  obtain ⟨e1,e2,e3⟩:=S.v_c3 hm hL
  have hd:D3 L.1 L.2.1 L.2.2=2:=by
    simp only [LV,List.mem_cons,List.not_mem_nil,or_false] at hL
    rcases hL with rfl|rfl|rfl|rfl<;>decide
  rw [hd] at ha
  have hs:=PR (cor ps (ts.getD (t/4) (0,0,0)).1) (cor ps (ts.getD (t/4) (0,0,0)).2.1) (cor ps (ts.getD (t/4) (0,0,0)).2.2) L hL
  rw [e1,e2,e3] at ha hq ⊢
  have h2:((2:Int):Rat)=2:=rfl
  have h4:((4:Int):Rat)=4:=rfl
  refine ⟨by grind,by grind,S.v_where hm l1,S.v_where hm l2,S.v_where hm l3,hs.1,hs.2,?_⟩
  rw [h4]
  rw [h2] at ha
  grind
theorem TV (g:ET ps ts) (hn:B5 ps.length ts=true) (sd:∃mm,ss=Du mm ts ps.length ps.length):FR (FF ps (BT ts)) (EP ps.length (BT ts) ts) (EP ps.length (BT ts) ts).length=FR ps ts ts.length:=(Jb g hn sd).v_area λ_ _=>by decide
end
end
end Go.Proofs.YtfbomiejpbchdaaGreat
