import Derived.Test.YtfbomiejpbchdaaGreatPart19
import Derived.Test.YtfbomiejpbchdaaGreatPart28
import Derived.Test.YtfbomiejpbchdaaGreatPart30
import Derived.Test.YtfbomiejpbchdaaGreatPart31
import Derived.Test.YtfbomiejpbchdaaGreatPart34
import Derived.Test.YtfbomiejpbchdaaGreatPart35
namespace Go.Proofs.YtfbomiejpbchdaaGreat
open Go Go.RowKit
set_option linter.unusedVariables false
set_option linter.unusedSimpArgs false
section
def zL (l:List Int):List Value:=l.map λ(d:Int)=>.int .i64 d
theorem Cr (l:List Int):(zL l).length=l.length:=by simp [zL]
theorem Mx {l:List Int} {j:Nat} (h:j<l.length):(zL l)[j*1]?=some (.int .i64 (l.getD j 0)):=by simp [zL,h]
def Xj {α β:Type} (b:Nat) (enc:α->Value) (eV:β->Value) (kvs:List (α×β)):As:=⟨some b,λo=>o=.map (entsM enc eV kvs 0).toArray kvs.length,true⟩
section
variable {α β:Type} [DecidableEq α] {enc:α->Value} {eV:β->Value} {ok:α->Prop} {P:Program} {kt:TypeId} {n:Nat} {F:List (Nat×Value)} {w0:BJ} {L:List As} {d:Option Tmp} {tx et t b:Nat} {pp:String} {af:Array Edge} {g:Option (Nat×Bool)} {mp kp:Operand}
end
def M7 (t:T3):P2:=BR t.2.1 t.2.2
def Vo (ts:List T3) (ms:List Int) (k:P2):Prop:=∃z∈ms,0<=z/\z<(ts.length:Int)/\k=M7 (ts.getD z.toNat (0,0,0))
inductive Mz (ts:List T3) (S:P2->Prop):P2->Prop
  | start {k:P2}:S k->Mz ts S k
  | up {t:T3} {k:P2}:t∈ts->Mz ts S k->(k=BR t.1 t.2.1\/k=BR t.2.2 t.1)->Mz ts S (M7 t)
theorem Mz.mono {ts:List T3} {S S':P2->Prop} (h:∀k,S k->S' k) {k:P2} (c:Mz ts S k):Mz ts S' k:=by
  induction c with
  | start hs=>exact .start (h _ hs)
  | up ht _ he ih=>exact .up ht ih he
theorem Mz.or {ts:List T3} {S S':P2->Prop} {k:P2} (c:Mz ts (λk=>S k\/S' k) k):Mz ts S k\/Mz ts S' k:=by
  induction c with
  | start hs=>exact hs.elim (λh=>.inl (.start h)) (λh=>.inr (.start h))
  | up ht _ he ih=>exact ih.elim (λh=>.inl (.up ht h he)) (λh=>.inr (.up ht h he))
structure Ix (ts:List T3) (ms:List Int) (i:Nat) (kvs:List (P2×Nat)):Prop where
  ok:F3 Mb kvs
  one:∀k,Ab kvs k=none\/Ab kvs k=some 1
  sub:∀k,Ab kvs k=some 1->Mz ts (Vo ts ms) k
  mrk:∀k,Vo ts (ms.take i) k->Ab kvs k=some 1
section
variable {ts:List T3} {ms:List Int} {i:Nat} {kvs:List (P2×Nat)}
theorem Ix.zero (ts:List T3) (ms:List Int):Ix ts ms 0 []:=⟨⟨λp hp=>(by cases hp),List.Pairwise.nil⟩,λk=>.inl rfl,λk h=>(by cases h),λk ⟨z,hz,_⟩=>by rw [List.take_zero] at hz;cases hz⟩
theorem Ix.put (h:Ix ts ms i kvs) {k:P2} (hk:Mb k) (hc:Mz ts (Vo ts ms) k):Ix ts ms i (BC kvs k 1):=⟨h.ok.put hk,λx=>by
    rw [Bj];split
    · exact .inr rfl
    · exact h.one x,λx hx=>by
    rw [Bj] at hx;split at hx
    · rename_i e;rw [e];exact hc
    · exact h.sub x hx,λx hx=>by
    rw [Bj];split
    · rfl
    · exact h.mrk x hx⟩
theorem Oz {l:List Int} {j:Nat} (h:j<l.length):l.take (j+1)=l.take j++[l.getD j 0]:=by
  rw [List.take_add_one,List.getD,List.getElem?_eq_getElem h];rfl
theorem Ix.skip (h:Ix ts ms i kvs) (hi:i<ms.length) (hn:¬(0<=ms.getD i 0/\ms.getD i 0<(ts.length:Int))):Ix ts ms (i+1) kvs:=by
  refine ⟨h.ok,h.one,h.sub,λx hx=>?_⟩
  rw [Oz hi] at hx
  obtain ⟨z,hz,a,b,rfl⟩:=hx
  rcases List.mem_append.1 hz with hz|hz
  · exact h.mrk _ ⟨z,hz,a,b,rfl⟩
  · exact absurd (by rw [<-List.mem_singleton.1 hz];exact ⟨a,b⟩) hn
def X5 (ts:List T3) (kvs:List (P2×Nat)) (j:Nat):Prop:=∀q,q<j->Ab kvs (M7 (ts.getD q (0,0,0)))=none->Ab kvs (BR (ts.getD q (0,0,0)).1 (ts.getD q (0,0,0)).2.1)=none/\Ab kvs (BR (ts.getD q (0,0,0)).2.2 (ts.getD q (0,0,0)).1)=none
theorem Ix.no (h:Ix ts ms i kvs) {k:P2} (e:(Ab kvs k).getD 0=0):Ab kvs k=none:=(h.one k).elim id λh1=>by rw [h1] at e;cases e
theorem Ix.all (h:Ix ts ms ms.length kvs) (hc:X5 ts kvs ts.length) (k:P2):Ab kvs k=some 1↔Mz ts (Vo ts ms) k:=by
  refine ⟨h.sub k,λc=>?_⟩
  induction c with
  | start hs=>exact h.mrk _ (by rw [List.take_length];exact hs)
  | up ht _ he ih =>
    rename_i t k' _
    obtain ⟨q,hq,rfl⟩:=List.getElem_of_mem ht
    rcases h.one (M7 ts[q]) with h1|h1
    · have h2:=hc q hq (by rw [List.getD,List.getElem?_eq_getElem hq];exact h1)
      rw [List.getD,List.getElem?_eq_getElem hq] at h2
      rcases he with e|e
      · rw [e] at ih;rw [show Ab kvs (BR ts[q].1 ts[q].2.1)=none from h2.1] at ih;cases ih
      · rw [e] at ih;rw [show Ab kvs (BR ts[q].2.2 ts[q].1)=none from h2.2] at ih;cases ih
    · exact h1
end
structure HC (ts:List T3) (ms:List Int) where
  b:Nat
  kvs:List (P2×Nat)
  ok:F3 Mb kvs
  one:∀k,Ab kvs k=none\/Ab kvs k=some 1
  all:∀k,Ab kvs k=some 1↔Mz ts (Vo ts ms) k
instance {ts:List T3} {ms:List Int}:Dx (HC ts ms):=⟨λx=>.map (some x.b),λx=>[Xj x.b GN vN x.kvs],λx y hy=>by rcases List.mem_singleton.1 hy with rfl;rfl⟩
structure DX (ts:List T3) (ms:List Int) where
  l:List E4
  r:RX (rowsL B4 l) l.length
  p:E4->Bool
  el:l=(A_ ts).filter p
  all:∀e,p e=true↔Mz ts (Vo ts ms) (e.a,e.b)
instance {ts:List T3} {ms:List Int}:Dx (DX ts ms):=⟨λx=>x.r.val,λx=>[x.r.row],λx y hy=>by rcases List.mem_singleton.1 hy with rfl;rfl⟩
end
def X3 (md:List (P2×Nat)):Nat->T3->List T3
  | 0,c=>[c]
  | d+1,c=>match Ab md (M7 c) with
    | none=>[c]
    | some n=>X3 md d (n,c.1,c.2.1)++X3 md d (n,c.2.2,c.1)
def Ym (n p:Nat):List Nat:=List.replicate n p
section
section
variable {N:Nat} {es:List E4} {T:T3}
theorem FG {k:P2} {n:Nat}:∀i,Ab (D5 N es i) k=some n->∃j,j<i/\BR (es.getD j E0).a (es.getD j E0).b=k/\n=N+j
  | 0,h=>by cases h
  | i+1,h=>by
    have h:Ab (BC (D5 N es i) (BR (es.getD i E0).a (es.getD i E0).b) (N+i)) k=some n:=h
    rw [Bj] at h
    split at h
    · rename_i e
      injection h with h
      exact ⟨i,by omega,e.symm,h.symm⟩
    · obtain ⟨j,h1,h2,h3⟩:=FG i h
      exact ⟨j,by omega,h2,h3⟩
theorem L1 {k k':P2} {n n' i:Nat} (h:Ab (D5 N es i) k=some n) (h':Ab (D5 N es i) k'=some n') (hk:k≠k'):n≠n':=λe=>by
  obtain ⟨j,_,h1,h2⟩:=FG i h
  obtain ⟨j',_,h1',h2'⟩:=FG i h'
  have:j=j':=by omega
  subst this
  exact hk (h1.symm.trans h1')
theorem HL {a b c:Nat} (h1:a≠b) (h2:b≠c) (h3:c≠a):BR a b≠BR b c:=λe=>by
  unfold BR at e
  injection e with e1 e2
  omega
theorem J8 (a b:Nat):BR a b=BR b a:=by unfold BR;rw [Nat.min_comm,Nat.max_comm]
def Yk (M:Nat) (t:T3):Prop:=(t.1<M/\t.2.1<M/\t.2.2<M)/\t.1≠t.2.1/\t.2.1≠t.2.2/\t.2.2≠t.1
theorem Po {ss:List T3} (hb:∀j,j<ss.length->(ss.getD j (0,0,0)).1<N/\(ss.getD j (0,0,0)).2.1<N) (hd:∀i j,i<ss.length->j<ss.length->BR (ss.getD i (0,0,0)).1 (ss.getD i (0,0,0)).2.1=BR (ss.getD j (0,0,0)).1 (ss.getD j (0,0,0)).2.1->i=j) :
    ∀k,k<=ss.length->∀j,ss.length-k<=j->j<ss.length->Ab (Ek N ss k) (BR (ss.getD j (0,0,0)).1 (ss.getD j (0,0,0)).2.1)=some (ss.getD j (0,0,0)).2.2
  | 0,_,j,h1,h2=>by omega
  | k+1,hk,j,h1,h2=>by
    rw [<-OB (hb (ss.length-1-k) (by omega)),Bj]
    split
    · rename_i e
      rw [hd _ _ h2 (by omega) e]
    · rename_i e
      refine Po hb hd k (by omega) j ?_ h2
      rcases Nat.lt_or_ge j (ss.length-k) with h3|h3
      · exact absurd (by rw [show j=ss.length-1-k by omega]) e
      · exact h3
end
end
section
section
variable {m:MQ} {ts:List T3} {a b N:Nat}
theorem Hl {s:T3}:∀j,s∈Iw m ts a j↔s.1=a/\a<s.2.1/\s.2.1<a+1+j/\HN ts s.1 s.2.1 ts.length=1/\s=VT m s.1 s.2.1
  | 0=>⟨λh=>(by cases h),λh=>(by omega)⟩
  | j+1=>by
    show s∈Iw m ts a j++(if _ then _ else _)↔_
    rw [List.mem_append,Hl j]
    constructor
    · rintro (h|h)
      · exact ⟨h.1,h.2.1,by omega,h.2.2.2⟩
      · split at h
        · rename_i hc
          rw [List.mem_singleton] at h
          subst h
          exact ⟨rfl,(by show a<a+1+j;omega),(by show a+1+j<a+1+(j+1);omega),hc,rfl⟩
        · cases h
    · rintro ⟨h1,h2,h3,h4,h5⟩
      rcases Nat.lt_or_ge s.2.1 (a+1+j) with h6|h6
      · exact .inl ⟨h1,h2,h6,h4,h5⟩
      · have e:s.2.1=a+1+j:=by omega
        rw [h1,e] at h4 h5
        rw [if_pos h4]
        exact .inr (List.mem_singleton.2 h5)
theorem Dw {s:T3}:∀A,s∈E9 m ts N A↔s.1<A/\s.1<s.2.1/\s.2.1<N/\HN ts s.1 s.2.1 ts.length=1/\s=VT m s.1 s.2.1
  | 0=>⟨λh=>(by cases h),λh=>(by omega)⟩
  | A+1=>by
    show s∈E9 m ts N A++Iw m ts A (N-(A+1))↔_
    rw [List.mem_append,Dw A,Hl]
    constructor
    · rintro (h|h)
      · exact ⟨by omega,h.2⟩
      · exact ⟨by omega,by omega,by omega,h.2.2.2⟩
    · rintro ⟨h1,h2,h3,h4⟩
      rcases Nat.lt_or_ge s.1 A with h5|h5
      · exact .inl ⟨h5,h2,h3,h4⟩
      · exact .inr ⟨by omega,by omega,by omega,h4⟩
theorem GL:∀j,(Iw m ts a j).Pairwise Ta
  | 0=>List.Pairwise.nil
  | j+1=>by
    show (Iw m ts a j++(if _ then _ else _)).Pairwise Ta
    split
    · refine List.pairwise_append.2 ⟨GL j,List.pairwise_singleton _ _,λx hx y hy=>?_⟩
      rw [List.mem_singleton] at hy
      subst hy
      have h:=(Hl j).1 hx
      exact .inr ⟨h.1,(by show x.2.1<a+1+j;exact h.2.2.1)⟩
    · rw [List.append_nil];exact GL j
theorem FC:∀A,(E9 m ts N A).Pairwise Ta
  | 0=>List.Pairwise.nil
  | A+1=>List.pairwise_append.2 ⟨FC A,GL _,λx hx y hy=>.inl (by
      have h1:=(Dw A).1 hx
      have h2:=(Hl _).1 hy
      omega)⟩
theorem Mq {x y:Nat} (hab:a<b) (hxy:x≠y):BR x y=(a,b)↔(x=a/\y=b)\/(x=b/\y=a):=by
  unfold BR
  rw [Prod.mk.injEq]
  omega
theorem Vn {t:T3} (hab:a<b) (h:t.1≠t.2.1/\t.2.1≠t.2.2/\t.2.2≠t.1):[BR t.1 t.2.1,BR t.2.1 t.2.2,BR t.2.2 t.1].count (a,b)=if F0 t a=true/\F0 t b=true then 1 else 0:=by
  obtain ⟨h1,h2,h3⟩:=h
  simp only [List.count_cons,List.count_nil,beq_iff_eq,Mq hab h1,Mq hab h2,Mq hab h3,F0,Bool.or_eq_true,decide_eq_true_eq]
  split<;>split<;>split<;>split<;>omega
theorem P0 (hn:Ba N ts=true) (hab:a<b):∀i,i<=ts.length->HN ts a b i=((ts.take i).flatMap λt=>[BR t.1 t.2.1,BR t.2.1 t.2.2,BR t.2.2 t.1]).count (a,b)
  | 0,_=>rfl
  | i+1,hi=>by
    rw [FP (by omega),List.flatMap_append,List.count_append,<-P0 hn hab i (by omega)]
    have h:=J4 (DN hn (show i<ts.length by omega))
    have e:=Vn hab h
    show HN ts a b i+(if _ then 1 else 0)=_
    rw [<-e]
    simp [List.flatMap]
theorem Nq (hn:Ba N ts=true) (hab:a<b):HN ts a b ts.length=(Bx ts).count (a,b):=by
  rw [P0 hn hab _ (Nat.le_refl _),List.take_length];rfl
theorem M6 (hn:Ba N ts=true) (hN:N<=4611686018427387904) (h:(a,b)∈Bx ts):a<b/\b<N:=by
  obtain ⟨e,he,rfl,rfl⟩:=(FJ hn hN).1 h
  exact EY hn hN he
end
end
section
def YZ (md:List (P2×Nat)) (ts:List T3):List T3:=ts.flatMap (X3 md 2)
def YX (md:List (P2×Nat)) (ts:List T3):Nat->List Nat
  | 0=>[]
  | i+1=>YX md ts i++Ym (X3 md 2 (ts.getD i (0,0,0))).length i
section
variable {md:List (P2×Nat)} {ts ss:List T3} {i N:Nat} {es:List E4}
theorem F6 {t:T3} (h:M2 N t=true):Yk N t:=⟨DE h,J4 h⟩
end
structure Ys (ps:List Pt) (ts ss:List T3) (ms:List Int) where
  l:List E4
  p:E4->Bool
  el:l=(A_ ts).filter p
  all:∀e,p e=true↔Mz ts (Vo ts ms) (e.a,e.b)
  x:U7 (Ds ps l) (YZ (D5 ps.length l l.length) ts) (Nx ps.length ss l (YZ (D5 ps.length l l.length) ts)) (YX (D5 ps.length l l.length) ts ts.length) 0
instance {ps:List Pt} {ts ss:List T3} {ms:List Int}:Dx (Ys ps ts ss ms):=⟨λb=>Dx.val b.x,λb=>Dx.rows b.x,λb y hy=>Dx.ro b.x y hy⟩
section
variable {ts ss:List T3} {N:Nat} {es:List E4} {ms:List Int}
theorem Sm {l:List E4} (hs:l.Pairwise XB) (hl:∀e∈l,e.a<e.b) {e:E4} (he:e∈l):∃n,Ab (D5 N l l.length) (e.a,e.b)=some n:=by
  obtain ⟨j,hj,rfl⟩:=List.getElem_of_mem he
  have h:=HU (N:=N) hs hl _ (Nat.le_refl _) hj
  rw [List.getD,List.getElem?_eq_getElem hj] at h
  exact ⟨_,h⟩
structure WI (ts:List T3) (ms:List Int) (l:List E4):Prop where
  ex:∃p:E4->Bool,l=(A_ ts).filter p/\∀e,p e=true↔Mz ts (Vo ts ms) (e.a,e.b)
theorem DX.cut (u:DX ts ms):WI ts ms u.l:=⟨u.p,u.el,u.all⟩
theorem WI.mem {l:List E4} (h:WI ts ms l) {e:E4}:e∈l↔e∈A_ ts/\Mz ts (Vo ts ms) (e.a,e.b):=by
  obtain ⟨p,h1,h2⟩:=h.ex
  rw [h1,List.mem_filter,h2]
end
section
variable {P:Program} {ops:Array Oper} {rest:List Oper} {Q:Exit->Act->World->Prop} {n d:Nat} {F:List (Nat×Value)} {w0:BJ} {S:Nat->Prop} {L:List As} {t:TypeId} {p:String} {af:Array Edge} {y:Operand} {f:FuncId} {xs:List Operand} {args:List Value} {tys:Array TypeId} {ps:List Pt} {ts ss:List T3} {ms:List Int}
theorem AD.makeInt {m:Nat} {ty T:TypeId} {x y:Operand} {ki kj:IntKind} {bytes:Nat} (ht:Tz P t T (vN 0) bytes) (hx:evF F x=some (.int ki (m:Nat))) (hy:evF F y=some (.int kj (m:Nat))) (hm:m<=1099511627776) (hb:Nat.ble bytes 16=true) (hd:Nat.ble (d+1) n=true)
    (next:∀b,OwnOk (some ⟨b,0,none⟩) m m->AD P ops rest Q n ((d,.slice (some ⟨b,0,none⟩) m m)::F) w0 (rowW (some ⟨b,0,none⟩) T 1 m m (zL (List.replicate m 0))::L)) :
    AD P ops (⟨some d,.makeSlice t x y,ty,p,af,none⟩::rest) Q n F w0 L:=AD.makeRow ht hx hy hm hb hd λb ho=>by
  have h:=next b ho
  unfold zL at h
  rw [List.map_replicate] at h
  exact h
end
theorem Kj (l:List Int) (j:Nat) (z:Int):(zL l).set j (.int .i64 z)=zL (l.set j z):=by unfold zL;rw [List.map_set]
end
section
def Fw (t:T3):List P2:=[BR t.1 t.2.1,BR t.2.1 t.2.2,BR t.2.2 t.1]
def Ed (md:List (P2×Nat)) (k:P2):List P2:=match Ab md k with
  | none=>[k]
  | some n=>[(k.1,n),(k.2,n)]
structure UW (md:List (P2×Nat)) (N:Nat):Prop where
  new:∀k n,Ab md k=some n->N<=n
  inj:∀k k' n,Ab md k=some n->Ab md k'=some n->k=k'
def Wg (md:List (P2×Nat)) (N:Nat) (κ:P2):Prop:=∀k:P2,k.1<k.2->k.2<N->κ ∉ Ed md k
section
variable {md:List (P2×Nat)} {N M n a b c e p:Nat} {k κ:P2} {T:T3} {ts ts':List T3}
theorem D6 (h:Ab md k=none):Ed md k=[k]:=by unfold Ed;rw [h]
theorem C4 (h:Ab md k=some n):Ed md k=[(k.1,n),(k.2,n)]:=by unfold Ed;rw [h]
theorem OY (h:Ab md (BR a b)=some n):(Ed md (BR a b)).count κ=[((a:Nat),n),(b,n)].count κ:=by
  rw [C4 h]
  unfold BR
  rcases Nat.le_total a b with h1|h1
  · rw [Nat.min_eq_left h1,Nat.max_eq_right h1]
  · rw [Nat.min_eq_right h1,Nat.max_eq_left h1]
    simp only [List.count_cons,List.count_nil]
    omega
theorem Fh (h:p<N) (hn:N<=n):BR n p=(p,n)/\BR p n=(p,n):=by
  unfold BR
  rw [Nat.min_eq_right (by omega),Nat.max_eq_left (by omega),Nat.min_eq_left (by omega),Nat.max_eq_right (by omega)];exact ⟨rfl,rfl⟩
theorem VW (h:κ∈Ed md k):κ.1=k.1\/κ.1=k.2:=by
  cases hg:Ab md k with
  | none=>rw [D6 hg,List.mem_singleton] at h;exact .inl (by rw [h])
  | some n =>
    rw [C4 hg] at h
    simp only [List.mem_cons,List.not_mem_nil,or_false] at h
    rcases h with rfl|rfl
    · exact .inl rfl
    · exact .inr rfl
theorem P8 {ch:T3->List T3} (h:∀t∈ts,∃I:List P2,(∀κ,((ch t).flatMap Fw).count κ=((Fw t).flatMap (Ed md)).count κ+2*I.count κ)/\∀κ∈I,Wg md N κ):∃I:List P2,(∀κ,(Bx (ts.flatMap ch)).count κ=((Bx ts).flatMap (Ed md)).count κ+2*I.count κ)/\∀κ∈I,Wg md N κ:=by
  induction ts with
  | nil=>exact ⟨[],λκ=>rfl,λκ h=>by cases h⟩
  | cons t r ih =>
    obtain ⟨I1,a1,b1⟩:=h t List.mem_cons_self
    obtain ⟨I2,a2,b2⟩:=ih λt ht=>h t (List.mem_cons_of_mem _ ht)
    refine ⟨I1++I2,λκ=>?_,λκ hk=>(List.mem_append.1 hk).elim (b1 κ) (b2 κ)⟩
    have e1:Bx ((t::r).flatMap ch)=(ch t).flatMap Fw++Bx (r.flatMap ch):=by
      show List.flatMap Fw ((t::r).flatMap ch)=_
      rw [List.flatMap_cons,List.flatMap_append];rfl
    have e2:(Bx (t::r)).flatMap (Ed md)=(Fw t).flatMap (Ed md)++(Bx r).flatMap (Ed md):=by
      show List.flatMap (Ed md) ((t::r).flatMap Fw)=_
      rw [List.flatMap_cons,List.flatMap_append];rfl
    rw [e1,e2,List.count_append,List.count_append,List.count_append,a1,a2]
    omega
theorem St {l:List P2} {f:P2->List P2} (k0:P2) (h1:(f k0).count κ=1) (h2:∀k∈l,k≠k0->κ ∉ f k):(l.flatMap f).count κ=l.count k0:=by
  induction l with
  | nil=>rfl
  | cons k r ih =>
    rw [List.flatMap_cons,List.count_append,ih λk hk=>h2 k (List.mem_cons_of_mem _ hk)]
    by_cases e:k=k0
    · subst e
      rw [h1,List.count_cons_self,Nat.add_comm]
    · rw [List.count_eq_zero.2 (h2 k List.mem_cons_self e),List.count_cons_of_ne e,Nat.zero_add]
theorem Me (hM:UW md N) {k':P2} (hk:k.2<N) (hk':k'.2<N) (h:κ∈Ed md k) (h':κ∈Ed md k'):k=k':=by
  cases hg:Ab md k with
  | none =>
    rw [D6 hg,List.mem_singleton] at h
    cases hg':Ab md k' with
    | none=>rw [D6 hg',List.mem_singleton] at h';rw [<-h,h']
    | some n' =>
      rw [C4 hg'] at h'
      have:=hM.new _ _ hg'
      have h2:κ.2=n':=by
        simp only [List.mem_cons,List.not_mem_nil,or_false] at h'
        rcases h' with rfl|rfl<;>rfl
      rw [h] at h2
      omega
  | some n =>
    rw [C4 hg] at h
    have:=hM.new _ _ hg
    have h2:κ.2=n:=by
      simp only [List.mem_cons,List.not_mem_nil,or_false] at h
      rcases h with rfl|rfl<;>rfl
    cases hg':Ab md k' with
    | none =>
      rw [D6 hg',List.mem_singleton] at h'
      rw [h'] at h2
      omega
    | some n' =>
      rw [C4 hg'] at h'
      have h3:κ.2=n':=by
        simp only [List.mem_cons,List.not_mem_nil,or_false] at h'
        rcases h' with rfl|rfl<;>rfl
      exact hM.inj _ _ _ hg (by rw [hg',<-h3,h2])
theorem KS (h:k.1<k.2):(Ed md k).Nodup:=by
  cases hg:Ab md k with
  | none=>rw [D6 hg];simp
  | some n =>
    rw [C4 hg]
    simp only [List.nodup_cons,List.mem_singleton,List.not_mem_nil,not_false_eq_true,List.nodup_nil,and_true,Prod.mk.injEq]
    omega
theorem VG (h:k.1<k.2) (hm:κ∈Ed md k):(Ed md k).count κ=1:=by
  have h1:=List.count_pos_iff.2 hm
  have h2:=List.nodup_iff_count.1 (KS (md:=md) h) κ
  omega
theorem Uv (hM:UW md N) (hk:∀k∈Bx ts,k.1<k.2/\k.2<N) (hn':Ba M ts'=true) (hM':M<=4611686018427387904) (hc:∃I:List P2,(∀κ,(Bx ts').count κ=((Bx ts).flatMap (Ed md)).count κ+2*I.count κ)/\∀κ∈I,Wg md N κ) {s:T3} :
    s∈CC ts'↔(∃k,(Bx ts).count k=1/\(s.1,s.2.1)∈Ed md k)/\s.2.2=0:=by
  obtain ⟨I,h1,h2⟩:=hc
  have hs:=h1 (s.1,s.2.1)
  have key:∀k∈Bx ts,(s.1,s.2.1)∈Ed md k->((Bx ts).flatMap (Ed md)).count (s.1,s.2.1)=(Bx ts).count k:=λk hkk hm=>St k (VG (hk k hkk).1 hm) λk' hk' hne hm'=>hne (Me hM (hk k' hk').2 (hk k hkk).2 hm' hm)
  rw [UA hn' hM']
  constructor
  · rintro ⟨h,h0⟩
    have h3:((Bx ts).flatMap (Ed md)).count (s.1,s.2.1)=1:=by omega
    obtain ⟨k,hkk,hm⟩:=List.mem_flatMap.1 (List.count_pos_iff.1 (show 0<_ by rw [h3];decide))
    exact ⟨⟨k,by rw [<-key k hkk hm,h3],hm⟩,h0⟩
  · rintro ⟨⟨k,h3,hm⟩,h0⟩
    have hkk:k∈Bx ts:=List.count_pos_iff.1 (by rw [h3];decide)
    have h4:I.count (s.1,s.2.1)=0:=List.count_eq_zero.2 λh5=>h2 _ h5 k (hk k hkk).1 (hk k hkk).2 hm
    exact ⟨by rw [hs,key k hkk hm,h3,h4],h0⟩
end
end
section
def onS (u v p:Pt):Prop:=B9 u v p=0/\¬Hz p (Ks u v)/\¬Hz (My u v) p
instance (u v p:Pt):Decidable (onS u v p):=by unfold onS;infer_instance
section
variable {u v p q:Pt}
theorem OQ (h:u≠v):Hz u v\/Hz v u:=by
  unfold Hz
  rcases (show u.x<v.x\/u.x=v.x\/v.x<u.x by grind) with h1|h1|h1
  · exact .inl (.inl h1)
  · rcases (show u.y<v.y\/u.y=v.y\/v.y<u.y by grind) with h2|h2|h2
    · exact .inl (.inr ⟨h1,h2⟩)
    · exact absurd (Pt.ext h1 h2) h
    · exact .inr (.inr ⟨h1.symm,h2⟩)
  · exact .inr (.inl h1)
theorem Hw (h:Hz u v):¬Hz v u:=by unfold Hz at *;grind
theorem Mn (h:Hz u v):Ks u v=u/\Ks v u=u/\My u v=v/\My v u=v:=by
  have:=Hw h
  unfold Ks My
  exact ⟨if_neg this,if_pos h,if_pos h,if_neg this⟩
theorem GA (h:onS u v p):onS v u p:=by
  by_cases e:u=v
  · subst e;exact h
  obtain ⟨h1,h2,h3⟩:=h
  refine ⟨by simp only [CG] at *;grind,?_⟩
  rcases OQ e with k|k
  · obtain ⟨a,b,c,d⟩:=Mn k
    rw [a] at h2;rw [c] at h3;rw [b,d];exact ⟨h2,h3⟩
  · obtain ⟨a,b,c,d⟩:=Mn k
    rw [b] at h2;rw [d] at h3;rw [a,c];exact ⟨h2,h3⟩
theorem Pq (h:onS u v p) (k:Hz u v):∃s:Rat,0<=s/\s<=1/\p.x=u.x+s*(v.x-u.x)/\p.y=u.y+s*(v.y-u.y):=by
  obtain ⟨h1,h2,h3⟩:=h
  obtain ⟨a,b,c,d⟩:=Mn k
  rw [a] at h2;rw [c] at h3
  simp only [CG] at h1
  unfold Hz at h2 h3 k
  rcases k with k|⟨k1,k2⟩
  · have hd:0<v.x-u.x:=by grind
    have hi:=Rat.inv_pos.2 hd
    have he:(v.x-u.x)⁻¹*(v.x-u.x)=1:=Rat.inv_mul_cancel _ (by grind)
    have g1:0<=p.x-u.x:=by grind
    have g2:0<=v.x-p.x:=by grind
    have n1:=Rat.mul_nonneg g1 (Rat.le_of_lt hi)
    have n2:=Rat.mul_nonneg g2 (Rat.le_of_lt hi)
    generalize (v.x-u.x)⁻¹=e at *
    exact ⟨(p.x-u.x)*e,n1,by grind,by grind,by grind⟩
  · have hd:0<v.y-u.y:=by grind
    have hi:=Rat.inv_pos.2 hd
    have he:(v.y-u.y)⁻¹*(v.y-u.y)=1:=Rat.inv_mul_cancel _ (by grind)
    have hx:p.x=u.x:=by
      have:(v.y-u.y)*(p.x-u.x)=0:=by grind
      rcases Rat.mul_eq_zero.1 this with h|h
      · grind
      · grind
    have g1:0<=p.y-u.y:=by grind
    have g2:0<=v.y-p.y:=by grind
    have n1:=Rat.mul_nonneg g1 (Rat.le_of_lt hi)
    have n2:=Rat.mul_nonneg g2 (Rat.le_of_lt hi)
    generalize (v.y-u.y)⁻¹=e at *
    exact ⟨(p.y-u.y)*e,n1,by grind,by grind,by grind⟩
theorem Ww (h:onS u v p) (hne:u≠v):∃s:Rat,0<=s/\s<=1/\p.x=u.x+s*(v.x-u.x)/\p.y=u.y+s*(v.y-u.y):=by
  rcases OQ hne with k|k
  · exact Pq h k
  · obtain ⟨s,h1,h2,h3,h4⟩:=Pq (GA h) k
    exact ⟨1-s,by grind,by grind,by grind,by grind⟩
theorem Sf (k:Hz u v):onS u v u/\onS u v v/\onS u v (B7 (u+v) (1/2)):=by
  obtain ⟨a,b,c,d⟩:=Mn k
  unfold onS
  rw [a,c]
  refine ⟨⟨by simp only [CG];grind,λh=>Hw h h,Hw k⟩,⟨by simp only [CG];grind,Hw k,λh=>Hw h h⟩,by simp only [CG,Fk,Fd,JW,KP];grind,?_,?_⟩
  · unfold Hz at *;simp only [Fk,Fd,JW,KP];grind
  · unfold Hz at *;simp only [Fk,Fd,JW,KP];grind
theorem R_ (hne:u≠v):onS u v u/\onS u v v/\onS u v (B7 (u+v) (1/2)):=by
  rcases OQ hne with k|k
  · exact Sf k
  · obtain ⟨h1,h2,h3⟩:=Sf k
    have e:B7 (u+v) (1/2)=B7 (v+u) (1/2):=by refine Pt.ext ?_ ?_<;>simp only [Fk,Fd,JW,KP]<;>grind
    rw [e]
    exact ⟨GA h2,GA h1,GA h3⟩
end
section
variable {ps:List Pt} {ts:List T3}
def EdgAt (ts:List T3) (t r:Nat) (k:P2):Prop:=t<ts.length/\r<3/\BR (crn (ts.getD t (0,0,0)) r) (crn (ts.getD t (0,0,0)) ((r+1)%3))=k
theorem Rf {k:P2} (h:k∈Bx ts):∃t r,EdgAt ts t r k:=by
  obtain ⟨T,hT,hk⟩:=List.mem_flatMap.1 h
  obtain ⟨t,ht,rfl⟩:=List.getElem_of_mem hT
  have e:ts.getD t (0,0,0)=ts[t]:=by rw [List.getD,List.getElem?_eq_getElem ht];rfl
  simp only [List.mem_cons,List.not_mem_nil,or_false] at hk
  rcases hk with h|h|h
  · exact ⟨t,0,ht,by decide,by rw [e];exact h.symm⟩
  · exact ⟨t,1,ht,by decide,by rw [e];exact h.symm⟩
  · exact ⟨t,2,ht,by decide,by rw [e];exact h.symm⟩
theorem UR (g:GoodM ps ts) {t r:Nat} (ht:t<ts.length) (hr:r<3) {p:Pt} (h:onS (ps.getD (crn (ts.getD t (0,0,0)) r) ⟨0,0⟩) (ps.getD (crn (ts.getD t (0,0,0)) ((r+1)%3)) ⟨0,0⟩) p):P9 ps (ts.getD t (0,0,0)) p:=by
  have hL:=g.tri t ht
  have hp:=hL.pos
  have hr':r=0\/r=1\/r=2:=by omega
  have gen:∀A B C:Pt,0<B9 A B C->onS A B p->0<=B9 p B C/\0<=B9 A p C/\0<=B9 A B p:=λA B C hpos ho=>by
    have hne:A≠B:=λe=>by subst e;simp only [CG] at hpos;grind
    obtain ⟨s,h1,h2,h3,h4⟩:=Ww ho hne
    have n1:=Rat.mul_nonneg h1 (Rat.le_of_lt hpos)
    have n2:=Rat.mul_nonneg (show 0<=1-s by grind) (Rat.le_of_lt hpos)
    have e1:B9 p B C=(1-s)*B9 A B C:=by simp only [CG,h3,h4];grind
    have e2:B9 A p C=s*B9 A B C:=by simp only [CG,h3,h4];grind
    exact ⟨by rw [e1];exact n2,by rw [e2];exact n1,by rw [ho.1];exact Rat.le_refl⟩
  generalize ts.getD t (0,0,0)=T at *
  rcases hr' with rfl|rfl|rfl
  · exact gen _ _ _ hp h
  · obtain ⟨k1,k2,k3⟩:=gen _ _ (ps.getD T.1 ⟨0,0⟩) (by rw [CE];exact hp) h
    exact ⟨by rw [<-CE];exact k3,by rw [<-CE];exact k1,by rw [<-CE];exact k2⟩
  · obtain ⟨k1,k2,k3⟩:=gen _ _ (ps.getD T.2.1 ⟨0,0⟩) (by rw [<-CE];exact hp) h
    exact ⟨by rw [CE];exact k2,by rw [CE];exact k3,by rw [CE];exact k1⟩
theorem Py (g:GoodM ps ts) {t r:Nat} {k:P2} (hk:EdgAt ts t r k) {p:Pt} (h:onS (ps.getD k.1 ⟨0,0⟩) (ps.getD k.2 ⟨0,0⟩) p):P9 ps (ts.getD t (0,0,0)) p:=by
  obtain ⟨ht,hr,hk⟩:=hk
  refine UR g ht hr ?_
  rw [<-hk] at h
  unfold BR at h
  simp only at h
  rcases Nat.le_total (crn (ts.getD t (0,0,0)) r) (crn (ts.getD t (0,0,0)) ((r+1)%3)) with e|e
  · rw [Nat.min_eq_left e,Nat.max_eq_right e] at h;exact h
  · rw [Nat.min_eq_right e,Nat.max_eq_left e] at h;exact GA h
theorem IM (g:GoodM ps ts) {t r x:Nat} {k:P2} (hk:EdgAt ts t r k) (hx:JV (ts.getD t (0,0,0)) x=true) (h1:x≠k.1) (h2:x≠k.2):B9 (ps.getD k.1 ⟨0,0⟩) (ps.getD k.2 ⟨0,0⟩) (ps.getD x ⟨0,0⟩)≠0:=by
  obtain ⟨ht,hr,hk⟩:=hk
  have hp:=(g.tri t ht).pos
  have hr':r=0\/r=1\/r=2:=by omega
  have sw:∀A B C:Pt,B9 B A C = - B9 A B C:=λA B C=>by simp only [CG];grind
  have fin:∀{a b c:Nat},BR a b=k->x=c\/x=a\/x=b->0<B9 (ps.getD a ⟨0,0⟩) (ps.getD b ⟨0,0⟩) (ps.getD c ⟨0,0⟩)->B9 (ps.getD k.1 ⟨0,0⟩) (ps.getD k.2 ⟨0,0⟩) (ps.getD x ⟨0,0⟩)≠0:=λ{a b c} hab hc hpos=>by
    have e:(k.1=a/\k.2=b)\/(k.1=b/\k.2=a):=by
      rw [<-hab]
      unfold BR
      simp only
      omega
    have hxc:x=c:=by omega
    rw [hxc]
    rcases e with ⟨e1,e2⟩|⟨e1,e2⟩
    · rw [e1,e2];grind
    · rw [e1,e2,sw];grind
  obtain ⟨q,hq,hqx⟩:=Hb.1 hx
  have hq':q=0\/q=1\/q=2:=by omega
  generalize ts.getD t (0,0,0)=T at *
  rcases hr' with rfl|rfl|rfl
  · exact fin (c:=T.2.2) hk (by rcases hq' with rfl|rfl|rfl<;>simp [crn] at hqx ⊢<;>omega) hp
  · exact fin (c:=T.1) hk (by rcases hq' with rfl|rfl|rfl<;>simp [crn] at hqx ⊢<;>omega) (by show 0<B9 (ps.getD T.2.1 ⟨0,0⟩) (ps.getD T.2.2 ⟨0,0⟩) (ps.getD T.1 ⟨0,0⟩);rw [CE];exact hp)
  · exact fin (c:=T.2.1) hk (by rcases hq' with rfl|rfl|rfl<;>simp [crn] at hqx ⊢<;>omega) (by show 0<B9 (ps.getD T.2.2 ⟨0,0⟩) (ps.getD T.1 ⟨0,0⟩) (ps.getD T.2.1 ⟨0,0⟩);rw [<-CE];exact hp)
theorem Ov (g:GoodM ps ts) {t r x:Nat} {k:P2} (hk:EdgAt ts t r k) (hx:x<ps.length) (h:onS (ps.getD k.1 ⟨0,0⟩) (ps.getD k.2 ⟨0,0⟩) (ps.getD x ⟨0,0⟩)):x=k.1\/x=k.2:=by
  rcases Nat.decEq x k.1 with h1|h1
  · rcases Nat.decEq x k.2 with h2|h2
    · exact absurd h.1 (IM g hk (N1 g hx hk.1 (Py g hk h)) h1 h2)
    · exact .inr h2
  · exact .inl h1
theorem W3 (g:GoodM ps ts) {t r s r' x:Nat} {k k':P2} (hk:EdgAt ts t r k) (hk':EdgAt ts s r' k') (hs:k.1<k.2) (hs':k'.1<k'.2) (hl:k'.2<ps.length) (hx:x=k'.1\/x=k'.2) (h1:onS (ps.getD k.1 ⟨0,0⟩) (ps.getD k.2 ⟨0,0⟩) (ps.getD x ⟨0,0⟩)) (h2:onS (ps.getD k.1 ⟨0,0⟩) (ps.getD k.2 ⟨0,0⟩) (B7 (ps.getD k'.1 ⟨0,0⟩+ps.getD k'.2 ⟨0,0⟩) (1/2))):k'=k:=by
  have hT:=Py g hk h2
  obtain ⟨ht',hr',hkk⟩:=hk'
  have hsym:∀A B:Pt,B7 (A+B) (1/2)=B7 (B+A) (1/2):=λA B=>by refine Pt.ext ?_ ?_<;>simp only [Fk,Fd,JW,KP]<;>grind
  have hm:JV (ts.getD t (0,0,0)) k'.1=true/\JV (ts.getD t (0,0,0)) k'.2=true:=by
    rw [<-hkk] at hT ⊢
    unfold BR at hT ⊢
    simp only at hT ⊢
    rcases Nat.le_total (crn (ts.getD s (0,0,0)) r') (crn (ts.getD s (0,0,0)) ((r'+1)%3)) with e|e
    · rw [Nat.min_eq_left e,Nat.max_eq_right e] at hT ⊢
      exact N9 g ht' hk.1 hr' hT
    · rw [Nat.min_eq_right e,Nat.max_eq_left e,hsym] at hT
      rw [Nat.min_eq_right e,Nat.max_eq_left e]
      exact (N9 g ht' hk.1 hr' hT).symm
  have z:B9 (ps.getD k.1 ⟨0,0⟩) (ps.getD k.2 ⟨0,0⟩) (ps.getD k'.1 ⟨0,0⟩)+B9 (ps.getD k.1 ⟨0,0⟩) (ps.getD k.2 ⟨0,0⟩) (ps.getD k'.2 ⟨0,0⟩)=0:=by
    have h3:=h2.1
    simp only [CG,Fk,Fd,JW,KP] at h3 ⊢
    grind
  have hxe:=Ov g hk (by omega) h1
  have end0:∀y,y=k.1\/y=k.2->B9 (ps.getD k.1 ⟨0,0⟩) (ps.getD k.2 ⟨0,0⟩) (ps.getD y ⟨0,0⟩)=0:=λy hy=>by
    rcases hy with rfl|rfl<;>simp only [CG]<;>grind
  have both:(k'.1=k.1\/k'.1=k.2)/\(k'.2=k.1\/k'.2=k.2):=by
    rcases hx with rfl|rfl
    · rw [end0 _ hxe] at z
      refine ⟨hxe,Decidable.byContradiction λhc=>IM g hk hm.2 (λe=>hc (.inl e)) (λe=>hc (.inr e)) (by grind)⟩
    · rw [end0 _ hxe] at z
      refine ⟨Decidable.byContradiction λhc=>IM g hk hm.1 (λe=>hc (.inl e)) (λe=>hc (.inr e)) (by grind),hxe⟩
  exact Prod.ext (by omega) (by omega)
end
end
section
set_option maxRecDepth 100000
theorem Dv (p q:Pt) (hp:DT p<=1000) (hq:DT q<=1000) (w:World)  :Calls Tryz.prog 53 #[(aG (An p)),(aG (An q))] w (Ax w (Value.bool (decide (Hz p q)))):=by
 have y1:=EK p
 have y2:=EK q
 have y3:=EI p
 have y4:=EI q
 refine Ad (args:=[(aG (An p)),(aG (An q))]) Tryz.func53 rfl rfl (Af rfl) (AE.subF (sL [0,1] rfl) (q4 (CB (cs:=An p) rfl λb1=>CB (cs:=An q) rfl λb2=>AL rfl ?_)))
 refine q6 (sL [2,3,4] rfl) (q4 (AH (v:=(pP b1 0)) (AA rfl Tryz.underlying55 rfl Tryz.sizeOf53 rfl) rfl (En 1 (AW p.x) CQ rfl (AH (v:=(pP b2 0)) (AA rfl Tryz.underlying55 rfl Tryz.sizeOf53 rfl) rfl (En 0 (AW q.x) CQ rfl ?_)))))
 refine BY Tryz.call33 (PK p.x q.x (by omega)) rfl (AL rfl (q3 (sL [2,3,4,5] rfl) (AO rfl (AH (CX (c:=(decide ((GW p.x q.x)≠(0:Int)))) rfl rfl rfl) rfl (AD.nil ?_)))))
 refine AC.subF (sL [2,3,4,5,12] rfl) (AC.then_ ?_)
 refine AE.cond rfl (λhc0=>?_) (λhc0=>?_)
 ·replace hc0:=of_decide_eq_true hc0
  refine q4 (AO rfl (AH (Ag (c:=(decide ((GW p.x q.x)<(0:Int)))) rfl rfl rfl) rfl (AL rfl (AD.nil (AC.subF (sL [2,3,4,5] rfl) ?_)))))
  exact AC.then_ (AE.ret (AC.then_ret (AU rfl (Am (v:=(Value.bool (decide ((GW p.x q.x)<(0:Int))))) rfl) (λw hw=>⟨by rw [WH hc0],hw.out⟩))))
 ·replace hc0:=of_decide_eq_false hc0
  refine AE.skip (q2 (AH (v:=(pP b1 5)) (AA rfl Tryz.underlying55 rfl Tryz.sizeOf53 rfl) rfl (En 1 (AW p.y) CQ rfl (AH (v:=(pP b2 5)) (AA rfl Tryz.underlying55 rfl Tryz.sizeOf53 rfl) rfl (En 0 (AW q.y) CQ rfl ?_)))))
  refine BY Tryz.call33 (PK p.y q.y (by omega)) rfl (AH (Ag (c:=(decide ((GW p.y q.y)<(0:Int)))) rfl rfl rfl) rfl (AL rfl (AD.nil (AC.subF (sL [2,3,4,5] rfl) (AC.then_ ?_)))))
  exact AE.ret (AU rfl (Am (v:=(Value.bool (decide ((GW p.y q.y)<(0:Int))))) rfl) (λw hw=>⟨by rw [W9 (Decidable.not_not.1 hc0)],hw.out⟩))
theorem Kh (a q:Pt) (x:RX (An q) 1) (ha:DT a<=1000) (hq:DT q<=1000) (w:World) {S:Nat->Prop} (hx:Ro S w x):Calls Tryz.prog 54 #[(aG (An a)),(Value.slice x.p 1 x.c)] w (Ax w (aG (An (Ks a q)))):=by
 have lx:=H0 (W:=w) hx
 refine BQ (args:=[(aG (An a)),(Value.slice x.p 1 x.c)]) (L:=[AX x.p (An q)]) Tryz.func54 rfl rfl (Af rfl) (Hy hx Bo) (AE.subF (sL [0,1] rfl) (q4 (CB (cs:=An a) rfl λb1=>al HK rfl λb2=>q6 (sL [1,2,4] rfl) ?_)))
 refine q4 (AO rfl (AH (v:=(vI 1)) (AF rfl Tryz.underlying27) rfl (AO rfl (AD.nil (AC.subF (sL [2,4,7,8,9] rfl) ?_)))))
 refine AC.then_ (AE.block (AE.unroll 2 (F1.step (q4 (AH (Ag (c:=true) rfl rfl (by decide)) rfl ?_)))))
 refine AD.nil (q1 (AE.cond_true rfl (AE.skip (q1 (AE.block ?_)))))
 refine q4 (AH (v:=(pP (pB x.p) (pO x.p+0*10))) (AQ (j:=0) rfl rfl x.ok Tryz.underlying27 Tryz.sizeOf55 rfl (by omega)) rfl (AH (v:=(aG (An q))) (AZ (vs:=An q) (i:=2) rfl rfl (BL.ne x.ok (by omega)) BM rfl (BP _)) rfl (al HK rfl λb3=>A6 rfl Tryz.sizeOf55 rfl (q3 (sL [2,4,7,8,9,6] rfl) ?_))))
 refine BF 0 BM rfl (BF 2 BM rfl (BY Tryz.call53 (Dv q a (by assumption) (by assumption)) rfl (AD.nil (AC.subF (sL [2,4,7,8,9,6,15] rfl) (AC.then_ ?_)))))
 refine AE.cond rfl (λhc1=>?_) (λhc1=>?_)
 ·replace hc1:=of_decide_eq_true hc1
  have hls:Ks a q=q:=if_pos hc1
  refine AE.region (BF 0 BM rfl (Pb rfl Tryz.sizeOf55 rfl (AD.nil (AC.subF (sL [2,4,7,8,9,6] rfl) (AC.in_normal ?_)))))
  refine AC.then_ (AE.region (AH (AT (c:=(1:Int)) rfl rfl (by decide)) rfl (AO rfl (AD.nil (AC.subF (sL [2,4,7,8,9,6] rfl) ?_)))))
  refine AC.again (F1.step (q4 (AH (Ag (c:=false) rfl rfl (by decide)) rfl (AD.nil (q1 ?_)))))
  refine AE.cond_false rfl (AE.exit (AC.then_exit (AC.then_exit (AC.in_exit (q2 ?_)))))
  exact BF 2 BM rfl (DU rfl Tryz.sizeOf55 rfl (AD.nil (AC.subF (sL [2,4,7,8,9,6] rfl) (AC.then_ (AE.ret (AU rfl (Ay (i:=1) (cs:=An q) rfl rfl Tryz.isAgg55 Tryz.sizeOf55 rfl) (λw hw=>⟨by rw [hls],hw.out⟩)))))))
 ·replace hc1:=of_decide_eq_false hc1
  have hls:Ks a q=a:=if_neg hc1
  refine AE.skip (AC.in_normal (AC.then_ (AE.region (AH (AT (c:=(1:Int)) rfl rfl (by decide)) rfl (AO rfl ?_)))))
  refine AD.nil (AC.subF (sL [2,4,7,8,9,6] rfl) (AC.again (F1.step (q4 (AH (Ag (c:=false) rfl rfl (by decide)) rfl ?_)))))
  refine AD.nil (q1 (AE.cond_false rfl (AE.exit (AC.then_exit (AC.then_exit ?_)))))
  refine AC.in_exit (q2 (BF 2 BM rfl (DU rfl Tryz.sizeOf55 rfl (AD.nil (AC.subF (sL [2,4,7,8,9,6] rfl) ?_)))))
  exact AC.then_ (AE.ret (AU rfl (Ay (i:=1) (cs:=An a) rfl rfl Tryz.isAgg55 Tryz.sizeOf55 rfl) (λw hw=>⟨by rw [hls],hw.out⟩)))
theorem NW (a q:Pt) (x:RX (An q) 1) (ha:DT a<=1000) (hq:DT q<=1000) (w:World) {S:Nat->Prop} (hx:Ro S w x):Calls Tryz.prog 55 #[(aG (An a)),(Value.slice x.p 1 x.c)] w (Ax w (aG (An (My a q)))):=by
 have lx:=H0 (W:=w) hx
 refine BQ (args:=[(aG (An a)),(Value.slice x.p 1 x.c)]) (L:=[AX x.p (An q)]) Tryz.func55 rfl rfl (Af rfl) (Hy hx Bo) (AE.subF (sL [0,1] rfl) (q4 (CB (cs:=An a) rfl λb1=>al HK rfl λb2=>q6 (sL [1,2,4] rfl) ?_)))
 refine q4 (AO rfl (AH (v:=(vI 1)) (AF rfl Tryz.underlying27) rfl (AO rfl (AD.nil (AC.subF (sL [2,4,7,8,9] rfl) ?_)))))
 refine AC.then_ (AE.block (AE.unroll 2 (F1.step (q4 (AH (Ag (c:=true) rfl rfl (by decide)) rfl ?_)))))
 refine AD.nil (q1 (AE.cond_true rfl (AE.skip (q1 (AE.block ?_)))))
 refine q4 (AH (v:=(pP (pB x.p) (pO x.p+0*10))) (AQ (j:=0) rfl rfl x.ok Tryz.underlying27 Tryz.sizeOf55 rfl (by omega)) rfl (AH (v:=(aG (An q))) (AZ (vs:=An q) (i:=2) rfl rfl (BL.ne x.ok (by omega)) BM rfl (BP _)) rfl (al HK rfl λb3=>A6 rfl Tryz.sizeOf55 rfl (q3 (sL [2,4,7,8,9,6] rfl) ?_))))
 refine BF 2 BM rfl (BF 0 BM rfl (BY Tryz.call53 (Dv a q (by assumption) (by assumption)) rfl (AD.nil (AC.subF (sL [2,4,7,8,9,6,15] rfl) (AC.then_ ?_)))))
 refine AE.cond rfl (λhc1=>?_) (λhc1=>?_)
 ·replace hc1:=of_decide_eq_true hc1
  have hls:My a q=q:=if_pos hc1
  refine AE.region (BF 0 BM rfl (Pb rfl Tryz.sizeOf55 rfl (AD.nil (AC.subF (sL [2,4,7,8,9,6] rfl) (AC.in_normal ?_)))))
  refine AC.then_ (AE.region (AH (AT (c:=(1:Int)) rfl rfl (by decide)) rfl (AO rfl (AD.nil (AC.subF (sL [2,4,7,8,9,6] rfl) ?_)))))
  refine AC.again (F1.step (q4 (AH (Ag (c:=false) rfl rfl (by decide)) rfl (AD.nil (q1 ?_)))))
  refine AE.cond_false rfl (AE.exit (AC.then_exit (AC.then_exit (AC.in_exit (q2 ?_)))))
  exact BF 2 BM rfl (DU rfl Tryz.sizeOf55 rfl (AD.nil (AC.subF (sL [2,4,7,8,9,6] rfl) (AC.then_ (AE.ret (AU rfl (Ay (i:=1) (cs:=An q) rfl rfl Tryz.isAgg55 Tryz.sizeOf55 rfl) (λw hw=>⟨by rw [hls],hw.out⟩)))))))
 ·replace hc1:=of_decide_eq_false hc1
  have hls:My a q=a:=if_neg hc1
  refine AE.skip (AC.in_normal (AC.then_ (AE.region (AH (AT (c:=(1:Int)) rfl rfl (by decide)) rfl (AO rfl ?_)))))
  refine AD.nil (AC.subF (sL [2,4,7,8,9,6] rfl) (AC.again (F1.step (q4 (AH (Ag (c:=false) rfl rfl (by decide)) rfl ?_)))))
  refine AD.nil (q1 (AE.cond_false rfl (AE.exit (AC.then_exit (AC.then_exit ?_)))))
  refine AC.in_exit (q2 (BF 2 BM rfl (DU rfl Tryz.sizeOf55 rfl (AD.nil (AC.subF (sL [2,4,7,8,9,6] rfl) ?_)))))
  exact AC.then_ (AE.ret (AU rfl (Ay (i:=1) (cs:=An a) rfl rfl Tryz.isAgg55 Tryz.sizeOf55 rfl) (λw hw=>⟨by rw [hls],hw.out⟩)))
end
end Go.Proofs.YtfbomiejpbchdaaGreat
