import Derived.Test.YtpgncndhhhllfaaGreatPart24
import Derived.Test.YtpgncndhhhllfaaGreatPart34
namespace Go.Proofs.YtpgncndhhhllfaaGreat
open Go Go.RowKit Go.Proofs.Tryz
set_option linter.unusedVariables false
set_option linter.unusedSimpArgs false
section
section
variable {P:Program} {ops:Array Oper} {rest:List Oper} {Q:Exit->Act->World->Prop} {n d m:Nat} {F:List (Nat×Value)} {w0:BE} {L:List As} {t ty T:TypeId} {p:String} {af:Array Edge} {x y:Operand}
theorem AC.makeNat {ki kj:IntKind} {bytes:Nat} (ht:HH P t T (vN 0) bytes) (hx:evF F x=some (.int ki (m:Nat))) (hy:evF F y=some (.int kj (m:Nat))) (hm:m<=1099511627776) (hb:Nat.ble bytes 16=true) (hd:Nat.ble (d+1) n=true)
    (next:∀b,OwnOk (some ⟨b,0,none⟩) m m->AC P ops rest Q n ((d,.slice (some ⟨b,0,none⟩) m m)::F) w0 (rowW (some ⟨b,0,none⟩) T 1 m m (inL (List.replicate m 0))::L)) :
    AC P ops (⟨some d,.makeSlice t x y,ty,p,af,none⟩::rest) Q n F w0 L:=AC.makeRow ht hx hy hm hb hd λb ho=>by
  have h:=next b ho
  unfold inL at h
  rw [List.map_replicate] at h
  exact h
end
theorem Qe (l:List Nat) (j v:Nat):(inL l).set j (vN v)=inL (l.set j v):=by unfold inL;rw [List.map_set]
def Ry (n t:Nat):List Nat:=List.range t++List.replicate (n-t) 0
theorem QT {n t:Nat} (h:t<=n):(Ry n t).length=n:=by unfold Ry;rw [List.length_append,List.length_range,List.length_replicate];omega
theorem TE (n:Nat):List.replicate n 0=Ry n 0:=rfl
theorem WZ {n t:Nat} (h:t<n):(Ry n t).set t t=Ry n (t+1):=by
  unfold Ry
  rw [List.set_append_right _ _ (by rw [List.length_range];exact Nat.le_refl _),List.length_range,Nat.sub_self,show n-t=(n-(t+1))+1 by omega,List.replicate_succ,List.set_cons_zero,List.range_succ,List.append_assoc];rfl
theorem QL {n s:Nat} (h:s<n):(Ry n n).getD s 0=s:=by
  unfold Ry
  rw [Nat.sub_self,List.replicate_zero,List.append_nil,List.getD,List.getElem?_range h];rfl
def Kb (A B:T3):Bool:=D7 A B.1||(D7 A B.2.1||D7 A B.2.2)
section
variable {ts:List T3} {l:List Nat} {t s n S0:Nat} {ag:Bool} {out:List Int}
theorem J4 {T:T3} {p:Nat}:D7 T p=true↔∃r,r<3/\Bl T r=p:=by
  unfold D7
  simp only [Bool.or_eq_true,decide_eq_true_eq]
  constructor
  · rintro ((h|h)|h)
    · exact ⟨0,Z,h⟩
    · exact ⟨1,Z,h⟩
    · exact ⟨2,Z,h⟩
  · rintro ⟨r,hr,h⟩
    have e:r=0\/r=1\/r=2:=by omega
    rcases e with e|e|e<;>subst e
    · exact .inl (.inl h)
    · exact .inl (.inr h)
    · exact .inr h
theorem Qb:Kb (ts.getD s (0,0,0)) (ts.getD t (0,0,0))=true↔OL ts s t:=by
  unfold Kb OL
  simp only [Bool.or_eq_true,J4]
  constructor
  · rintro (⟨r,h1,h2⟩|⟨r,h1,h2⟩|⟨r,h1,h2⟩)
    · exact ⟨r,0,h1,Z,h2⟩
    · exact ⟨r,1,h1,Z,h2⟩
    · exact ⟨r,2,h1,Z,h2⟩
  · rintro ⟨r,q,h1,h2,h3⟩
    have e:q=0\/q=1\/q=2:=by omega
    rcases e with e|e|e<;>subst e
    · exact .inl ⟨r,h1,h3⟩
    · exact .inr (.inl ⟨r,h1,h3⟩)
    · exact .inr (.inr ⟨r,h1,h3⟩)
theorem LX {l:List Nat} {o s v:Nat} (ho:o<l.length):(l.set o v).getD s 0=if s=o then v else l.getD s 0:=by
  rw [List.getD,List.getElem?_set]
  by_cases h:o=s
  · subst h;rw [if_pos rfl,if_pos ho,if_pos rfl];rfl
  · rw [if_neg h,if_neg (λe=>h e.symm)];rfl
theorem Nf:∀{l:List Nat} {t v:Nat},t<l.length->v<l.getD t 0->(l.set t v).sum<l.sum
  | [],t,v,h,_=>absurd h (Nat.not_lt_zero _)
  | x::r,0,v,_,h=>by
    show (v::r).sum<(x::r).sum
    have h:v<x:=h
    rw [List.sum_cons,List.sum_cons];omega
  | x::r,t+1,v,h,h2=>by
    show (x::r.set t v).sum<(x::r).sum
    have:=Nf (l:=r) (t:=t) (v:=v) (by simpa using h) h2
    rw [List.sum_cons,List.sum_cons];omega
structure V5 (ts:List T3) (l:List Nat):Prop where
  len:l.length=ts.length
  le:∀t,t<ts.length->l.getD t 0<=t
  cx:∀t,t<ts.length->Iw ts t (l.getD t 0)
theorem V5.start:V5 ts (Ry ts.length ts.length):=⟨QT (Nat.le_refl _),λt ht=>by rw [QL ht];exact Nat.le_refl _,λt ht=>by rw [QL ht];exact .refl⟩
def YD (ts:List T3) (l:List Nat):Prop:=∀t s,t<ts.length->s<ts.length->OL ts s t->l.getD t 0<=l.getD s 0
structure Ml (ts:List T3) (S0:Nat) (ag:Bool) (l:List Nat) (t s:Nat):Prop where
  pr:V5 ts l
  yes:ag=true->l.sum<S0
  no:ag=false->l.sum=S0/\∀t' s',t'<ts.length->s'<ts.length->(t'<t\/t'=t/\s'<s)->OL ts s' t'->l.getD t' 0<=l.getD s' 0
theorem Ml.start (h:V5 ts l):Ml ts l.sum false l 0 0:=⟨h,(λe=>by cases e),λ_=>⟨rfl,λt' s' _ _ h=>by omega⟩⟩
theorem Ml.put (h:Ml ts S0 ag l t s) (ht:t<ts.length) (hs:s<ts.length) (hc:Kb (ts.getD s (0,0,0)) (ts.getD t (0,0,0))=true) (hl:l.getD s 0<l.getD t 0):Ml ts S0 true (l.set t (l.getD s 0)) t (s+1):=by
  have hlen:=h.pr.len
  have hle:=h.pr.le t ht
  have hsum:=Nf (l:=l) (t:=t) (v:=l.getD s 0) Z hl
  refine ⟨⟨by rw [List.length_set];exact hlen,λu hu=>?_,λu hu=>?_⟩,λ_=>?_,λe=>by cases e⟩
  · rw [LX Z]
    split
    · omega
    · exact h.pr.le u hu
  · rw [LX Z]
    split
    · rename_i e
      subst e
      exact (Iw.step .refl hs (Qb.1 hc).symm).trans (h.pr.cx s hs)
    · exact h.pr.cx u hu
  · cases e:ag with
    | true=>have:=h.yes e;omega
    | false=>have:=(h.no e).1;omega
theorem Ml.skip (h:Ml ts S0 ag l t s) (hc:¬(Kb (ts.getD s (0,0,0)) (ts.getD t (0,0,0))=true/\l.getD s 0<l.getD t 0)):Ml ts S0 ag l t (s+1):=⟨h.pr,h.yes,λe=>⟨(h.no e).1,λt' s' ht' hs' hw hc'=>by
  rcases hw with q|⟨q,q2⟩
  · exact (h.no e).2 t' s' ht' hs' (.inl q) hc'
  · rcases Nat.lt_or_ge s' s with q3|q3
    · exact (h.no e).2 t' s' ht' hs' (.inr ⟨q,q3⟩) hc'
    · have e1:s'=s:=by omega
      subst e1 q
      by_cases q4:l.getD s' 0<l.getD t' 0
      · exact absurd ⟨Qb.2 hc',q4⟩ hc
      · omega⟩⟩
theorem Ml.row (h:Ml ts S0 ag l t s) (hs:ts.length<=s):Ml ts S0 ag l (t+1) 0:=⟨h.pr,h.yes,λe=>⟨(h.no e).1,λt' s' ht' hs' hw hc=>(h.no e).2 t' s' ht' hs' Z hc⟩⟩
theorem Ml.spread (h:Ml ts S0 ag l t s) (ht:ts.length<=t) (e:ag=false):YD ts l:=λt' s' ht' hs' hc=>(h.no e).2 t' s' ht' hs' (.inl Z) hc
theorem Ml.mu (h:Ml ts S0 ag l t s):2*l.sum+ag.toNat<2*S0+1:=by
  cases e:ag with
  | true=>have:=h.yes e;show 2*l.sum+1<_;omega
  | false=>have:=(h.no e).1;show 2*l.sum+0<_;omega
structure VZ (ts:List T3) (l:List Nat):Prop where
  pr:V5 ts l
  con:∀s u,s<ts.length->u<ts.length->OL ts s u->l.getD s 0=l.getD u 0
theorem V5.fin (h:V5 ts l) (hs:YD ts l):VZ ts l:=⟨h,λs u h1 h2 hc=>by
  have a:=hs s u h1 h2 hc.symm
  have b:=hs u s h2 h1 hc
  omega⟩
theorem VZ.cnx (h:VZ ts l) {s u:Nat} (hs:s<ts.length) (c:Iw ts s u):u<ts.length/\l.getD s 0=l.getD u 0:=by
  induction c with
  | refl=>exact ⟨hs,rfl⟩
  | step _ hk htc ih=>exact ⟨hk,ih.2.trans (h.con _ _ ih.1 hk htc)⟩
theorem VZ.lt (h:VZ ts l) (hs:s<ts.length):l.getD s 0<ts.length:=(h.cnx hs (h.pr.cx s hs)).1
theorem VZ.root (h:VZ ts l) (hs:s<ts.length):l.getD (l.getD s 0) 0=l.getD s 0:=(h.cnx hs (h.pr.cx s hs)).2.symm
structure SU (ts:List T3) (l:List Nat) (out:List Int) (n t:Nat):Prop where
  len:out.length=ts.length
  rng:∀s,s<t->0<=gZ out s/\gZ out s<n
  fst:∀k,k<n->∃f,f<t/\gZ out f=(k:Int)/\∀s,s<f->gZ out s<k
  val:∀s,s<t->gZ out s=gZ out (l.getD s 0)
  rt:∀f g,f<g->g<t->l.getD f 0=f->l.getD g 0=g->gZ out f<gZ out g
  nle:n<=t
theorem SU.start:SU ts l (Oc ts.length 0) 0 0:=⟨Lo (Nat.zero_le _),λs h=>absurd h (Nat.not_lt_zero _),λs h=>absurd h (Nat.not_lt_zero _),λs h=>absurd h (Nat.not_lt_zero _),λf g _ h=>absurd h (Nat.not_lt_zero _),Nat.le_refl _⟩
theorem SU.new (h:SU ts l out n t) (hf:VZ ts l) (ht:t<ts.length) (e:l.getD t 0=t):SU ts l (out.set t ((n:Nat):Int)) (n+1) (t+1):=by
  have hl:=h.len
  have g:∀s,gZ (out.set t ((n:Nat):Int)) s=if s=t then ((n:Nat):Int) else gZ out s:=λs=>Dg Z
  refine ⟨by rw [List.length_set];exact hl,λs hs=>?_,λk hk=>?_,λs hs=>?_,λf q hfq hq h1 h2=>?_,by have:=h.nle;omega⟩
  · rw [g]
    split
    · omega
    · have:=h.rng s Z;omega
  · rcases Nat.lt_or_ge k n with q|q
    · obtain ⟨f,h1,h2,h3⟩:=h.fst k q
      exact ⟨f,Z,by rw [g,if_neg Z];exact h2,λs hs=>by rw [g,if_neg Z];exact h3 s hs⟩
    · exact ⟨t,Z,by rw [g,if_pos O,show k=n by omega],λs hs=>by rw [g,if_neg Z];have:=(h.rng s hs).2;omega⟩
  · rcases Nat.lt_or_ge s t with q|q
    · have:=hf.pr.le s Z
      rw [g,g,if_neg Z,if_neg Z];exact h.val s q
    · rw [show s=t by omega,e]
  · have:=hf.pr.le
    rw [g,g,if_neg Z]
    split
    · exact (h.rng f Z).2
    · exact h.rt f q hfq Z h1 h2
theorem SU.old (h:SU ts l out n t) (hf:VZ ts l) (ht:t<ts.length) (e:¬l.getD t 0=t):SU ts l (out.set t (gZ out (l.getD t 0))) n (t+1):=by
  have hl:=h.len
  have hle:=hf.pr.le t ht
  have g:∀s,gZ (out.set t (gZ out (l.getD t 0))) s=if s=t then gZ out (l.getD t 0) else gZ out s:=λs=>Dg Z
  have hr:=h.rng (l.getD t 0) Z
  refine ⟨by rw [List.length_set];exact hl,λs hs=>?_,λk hk=>?_,λs hs=>?_,λf q hfq hq h1 h2=>?_,by have:=h.nle;omega⟩
  · rw [g]
    split
    · exact hr
    · exact h.rng s Z
  · obtain ⟨f,h1,h2,h3⟩:=h.fst k hk
    exact ⟨f,Z,by rw [g,if_neg Z];exact h2,λs hs=>by rw [g,if_neg Z];exact h3 s hs⟩
  · rcases Nat.lt_or_ge s t with q|q
    · have:=hf.pr.le s Z
      rw [g,g,if_neg Z,if_neg Z];exact h.val s q
    · rw [show s=t by omega,g,g,if_pos rfl,if_neg e]
  · have hq2:q≠t:=λe2=>e (by rw [<-e2];exact h2)
    rw [g,g,if_neg Z,if_neg hq2];exact h.rt f q hfq Z h1 h2
theorem SU.pts (h:SU ts l out n t) (hf:VZ ts l) (ht:t=ts.length):Hv ts out n:=by
  subst ht
  refine ⟨h.len,h.rng,λs u hs hu hc=>?_,λk hk=>h.fst k hk,λs u hs hu e=>?_,h.nle⟩
  · rw [h.val s hs,h.val u hu,hf.con s u hs hu hc]
  · rw [h.val s hs,h.val u hu] at e
    have r1:=hf.root hs
    have r2:=hf.root hu
    have e2:l.getD s 0=l.getD u 0:=by
      rcases Nat.lt_trichotomy (l.getD s 0) (l.getD u 0) with q|q|q
      · have:=h.rt _ _ q (hf.lt hu) r1 r2;omega
      · exact q
      · have:=h.rt _ _ q (hf.lt hs) r2 r1;omega
    exact (hf.pr.cx s hs).trans (by rw [e2];exact (hf.pr.cx u hu).symm hu)
end
end
end Go.Proofs.YtpgncndhhhllfaaGreat
