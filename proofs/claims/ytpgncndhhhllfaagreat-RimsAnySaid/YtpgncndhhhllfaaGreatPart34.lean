import Derived.Test.YtpgncndhhhllfaaGreatPart22
import Derived.Test.YtpgncndhhhllfaaGreatPart24
import Derived.Test.YtpgncndhhhllfaaGreatPart26
import Derived.Test.YtpgncndhhhllfaaGreatPart29
import Derived.Test.YtpgncndhhhllfaaGreatPart30
namespace Go.Proofs.YtpgncndhhhllfaaGreat
open Go Go.RowKit Go.Proofs.Tryz
set_option linter.unusedVariables false
set_option linter.unusedSimpArgs false
section
set_option maxRecDepth 100000
set_option maxHeartbeats 1000000 in
theorem PQ {N:Nat} {ts ss:List T3} (x:RM N ts ss) (p:Nat) (hnb:A_ N ts=true) (hl:ts.length<=1000000) (hN:N<=1000000) (w:World) {S:Nat->Prop} (hx:Ro S w x):Calls prog 47 #[(aG (BN x)),(vN p)] w (Al (RX (inL (Je ts p ts.length)) (Je ts p ts.length).length) S w):=by
 have lx:=CV (W:=w) hx
 refine Ag (args:=[(aG (BN x)),(vN p)]) (L:=[AJ x.a.p (x.cs),AJ x.b.p (rowsL Am ts),AJ x.c.p (x.ds)]) func47 O O (AV O) (C4 hx Ao) (AE.subF (sL [0,1] O) (q4 (B0 (cs:=BN x) O λb1=>AI O (q3 (sL [1,2,4] O) (AI O (AC.nilRow 3 1 (AC.nil (q1 (q4 (AI O ?_))))))))))
 refine AC.nil (OkQ.then_ (AE.block ?_))
 refine AE.lp4 (tg λ(t:Nat) (p1:Option Addr) (c1:Nat) (out:List Nat)=>t<=ts.length/\OwnOk p1 out.length c1/\out=Je ts p t) (tg λ(t:Nat) (p1:Option Addr) (c1:Nat) (out:List Nat)=>[(1,(vN p)),(2,(pP b1 0)),(4,(Value.slice none 0 0)),(6,(vN t)),(5,(Value.slice p1 out.length c1))]) (tg λ(t:Nat) (p1:Option Addr) (c1:Nat) (out:List Nat)=>[rowW p1 3 1 out.length c1 (inL out),Ah b1 38 (BN x),AJ x.a.p (x.cs),AJ x.b.p (rowsL Am ts),AJ x.c.p (x.ds)]) (tg λ(t:Nat) (p1:Option Addr) (c1:Nat) (out:List Nat)=>ts.length-t) 0 none 0 ([]:List Nat) (⟨Nat.zero_le _,OwnOk.none,rfl⟩) (sF O) sr (λt p1 c1 out hJ=>?_)
 obtain ⟨ht,ho,hout⟩:=hJ
 have hal:=QU (ts:=ts) p t
 rw [<-hout] at hal
 refine AE.seq (AE.seq ?_)
 by_cases hts:t<ts.length
 ·skip
  refine AE.region (AM O (AK (v:=(pP b1 1)) (AB O underlying38 O sizeOf28 O) O (BL 1 (Value.slice x.b.p ts.length x.b.c) Bp O (AK (v:=(vN ts.length)) (AF O underlying28) O (AK (Ad (c:=true) O O (decide_eq_true Z)) O (AM O (AC.step (v:=(aG (BN x))) (AA O) (BK (i:=1) (vs:=BN x) O O CH.a CH.s O O) O (AV O) (AC.call (v:=(Value.bool true)) (AA O) (Aw (args:=[(aG (BN x))]) O O call39) (λw hw=>Gc x hnb hl hN w (Bc hw 2 O lx)) O (AV O) (AK (v:=(Value.bool true)) (AR O O) O (AC.nil (OkQ.subF (sL [1,2,4,6,5,15] O) ?_)))))))))))
  refine OkQ.then_ (AE.cond_true O (AE.skip (q1 (AE.block (q4 (AK (v:=(pP b1 1)) (AB O underlying38 O sizeOf28 O) O (BL 1 (Value.slice x.b.p ts.length x.b.c) Bp O (AM O (AK (v:=(pP (pB x.b.p) (pO x.b.p+t*3))) (AH (j:=t) O O x.b.ok underlying28 sizeOf68 O Z) O (AK (v:=(aG (Am (ts.getD t ((0,0,0):Tq3))))) (Ai (vs:=Am (ts.getD t ((0,0,0):Tq3))) (i:=3) O O (Ar.ne x.b.ok Z) DL (A8 Af _ _ _ Z) (Af _)) O (AM O ?_)))))))))))
  refine ck' call33 (El (ts.getD t ((0,0,0):Tq3)) p) O (AC.nil (OkQ.subF (sL [1,2,4,6,5,24] O) (OkQ.then_ ?_)))
  refine AE.cond O (λhc1=>?_) (λhc1=>?_)
  ·skip
   refine AE.region (AM O (AM O (AC.openV (V:=λb2=>(Value.slice (some ⟨b2,0,none⟩) 1 1)) (T:=3) (cs:=[(vN t)]) (AT O) (Ap (cs:=[(vN t)]) (pv:=[(0,(vN t))]) underlying86 sizeOf3 zeroValue3 (by decide) (by decide) O (by kernel_rfl)) O (AV O) λb2=>AC.append1 (j:=0) (cs2:=inL (out++[t])) Jv O ho (by simp [BG]) O O O O (by decide) (Fl Z) Z (by rw [CS];rfl) O λp_1 c_1 ho_1 hne_1=>AI O (AC.nil (OkQ.subF (sL [1,2,4,6,5] O) (OkQ.in_normal (OkQ.then_ (AE.region (AM O ?_)))))))))
   refine AK (AY (c:=((t+1:Nat):Int)) O O (AU (a:=t) (b:=1) Z)) O (AI O (AC.nil (OkQ.subF (sL [1,2,4,6,5] O) ?_)))
   rw [show out.length+1=(out++[t]).length by simp]
   exact OkQ.round4 (t+1) p_1 c_1 (out++[t]) (⟨Z,(by simpa using ho_1),by rw [hout];exact (Wv (by first|exact hc1|simpa using hc1)).symm⟩) Z (sF O) (sl sr)
  ·skip
   exact AE.skip (OkQ.in_normal (OkQ.then_ (AE.region (AM O (AK (AY (c:=((t+1:Nat):Int)) O O (AU (a:=t) (b:=1) Z)) O (AI O (AC.nil (OkQ.subF (sL [1,2,4,6,5] O) (OkQ.round4 (t+1) p1 c1 out (⟨Z,ho,by rw [hout];exact (Xu (by first|exact hc1|simpa using hc1)).symm⟩) Z (sF O) sr)))))))))
 ·skip
  refine AE.region (AM O (AK (v:=(pP b1 1)) (AB O underlying38 O sizeOf28 O) O (BL 1 (Value.slice x.b.p ts.length x.b.c) Bp O (AK (v:=(vN ts.length)) (AF O underlying28) O (AK (Ad (c:=false) O O (decide_eq_false Z)) O (AM O (AC.skip (AD O) O (AV O) (AC.skip (AD O) O (AV O) (AK (v:=(Value.bool false)) (AO O O) O (AC.nil (OkQ.subF (sL [1,2,4,6,5,15] O) ?_)))))))))))
  refine OkQ.then_ (AE.cond_false O (AE.exit (OkQ.then_exit (OkQ.round4_exit (OkQ.in_exit (q2 (AM O (AI O (AC.nil (OkQ.subF (sL [1,2,4,6,5] O) (OkQ.then_ ?_)))))))))))
  exact AE.ret (AS O (AZ (v:=(Value.slice p1 out.length c1)) O) (λw hw=>(by rw [show Je ts p ts.length=out by rw [hout,show t=ts.length by omega]];exact XA hw 0 O ho (by rw [BG,Nat.mul_one]) O)))
end
section
section
variable {P:Program} {ops:Array Oper} {rest:List Oper} {Q:Exit->Act->World->Prop} {n:Nat} {F:List (Nat×Value)} {w0:BE} {L:List As} {d:Option Tmp} {op:Op} {t:TypeId} {p:String} {af:Array Edge} {g:Nat×Bool}
theorem AC.unguard (hw:Wt ops n F ⟨d,op,t,p,af,some g⟩) (next:AC P ops (⟨d,op,t,p,af,none⟩::rest) Q n F w0 L):AC P ops (⟨d,op,t,p,af,some g⟩::rest) Q n F w0 L:=λa w ha hW=>by
  have h:=next a w ha hW
  unfold wpList at h ⊢
  rw [if_pos (hw a ha)]
  rw [if_pos (AT rfl a ha)] at h
  exact h
end
end
section
structure RO where
  p:Option Addr
  c:Nat
  l:List Nat
  ok:OwnOk p l.length c
abbrev Ll:RO:=⟨none,0,[],OwnOk.none⟩
@[reducible] def IG (x:RO):Value:=.slice x.p x.l.length x.c
def SZ (T:Nat) (x:RO):As:=rowW x.p T 1 x.l.length x.c (inL x.l)
def bP (x:RO):As:=AJ x.p (inL x.l)
def Qk (T:Nat) (kvs:List (Nat×RO)):List As:=kvs.map λkv=>SZ T kv.2
def UA (T:Nat) (kvs:List (Nat×RO)) (k:Nat):List As:=Qk T (kvs.filter λkv=>decide (kv.1≠k))
def Sc (kvs:List (Nat×RO)):List As:=kvs.map λkv=>bP kv.2
def SV (kvs:List (Nat×RO)):List (Nat×List Nat):=kvs.map λkv=>(kv.1,kv.2.l)
section
variable {kvs:List (Nat×RO)} {k T:Nat} {s:RO}
theorem R7 {β:Type} {kvs:List (Nat×β)} {k:Nat} {s:β} (h:Ac kvs k=some s):(k,s)∈kvs:=by
  induction kvs with
  | nil=>cases h
  | cons x r ih =>
    obtain ⟨a,b⟩:=x
    unfold Ac at h
    split at h
    · rename_i e
      injection h with h
      subst e h
      exact List.mem_cons_self
    · exact List.mem_cons_of_mem _ (ih h)
theorem Ux:Ac (SV kvs) k=(Ac kvs k).map (·.l):=by
  induction kvs with
  | nil=>rfl
  | cons x r ih =>
    obtain ⟨a,b⟩:=x
    show Ac ((a,b.l)::SV r) k=(Ac ((a,b)::r) k).map (·.l)
    unfold Ac
    split
    · rfl
    · exact ih
theorem J1 {kvs:List (Nat×RO)} {k:Nat}:(Ac (SV kvs) k).getD []=((Ac kvs k).getD Ll).l:=by
  rw [Ux]
  cases Ac kvs k<;>rfl
theorem Ji:SV (A9 kvs k s)=A9 (SV kvs) k s.l:=by
  induction kvs with
  | nil=>rfl
  | cons x r ih =>
    obtain ⟨a,b⟩:=x
    show SV (A9 ((a,b)::r) k s)=A9 ((a,b.l)::SV r) k s.l
    unfold A9
    split
    · rfl
    · show (a,b.l)::SV (A9 r k s)=_
      rw [ih]
theorem S6 (h:Ac kvs k=none):UA T kvs k=Qk T kvs:=by
  unfold UA
  congr 1
  induction kvs with
  | nil=>rfl
  | cons x r ih =>
    obtain ⟨a,b⟩:=x
    unfold Ac at h
    split at h
    · cases h
    · rename_i e
      rw [List.filter_cons,if_pos (by simpa using λe2=>e e2.symm),ih h]
theorem roO_some (hm:GM TV kvs) (h:Ac kvs k=some s):(Qk T kvs).Perm (SZ T s::UA T kvs k):=by
  have ho:=hm.once
  clear hm
  induction kvs with
  | nil=>cases h
  | cons x r ih =>
    obtain ⟨a,b⟩:=x
    obtain ⟨h1,h2⟩:=List.pairwise_cons.1 ho
    unfold Ac at h
    unfold UA at ih ⊢
    rw [List.filter_cons]
    split at h
    · rename_i e
      subst e
      injection h with h
      subst h
      rw [if_neg (by simp)]
      have e:(r.filter λkv=>decide (kv.1≠k))=r:=List.filter_eq_self.2 λy hy=>decide_eq_true λe=>h1 y hy e.symm
      rw [e];exact List.Perm.refl _
    · rename_i e
      rw [if_pos (by simpa using λe2=>e e2.symm)]
      exact ((ih h h2).cons (SZ T b)).trans (List.Perm.swap _ _ _)
theorem put_perm (hm:GM TV kvs):(Qk T (A9 kvs k s)).Perm (SZ T s::UA T kvs k):=by
  have ho:=hm.once
  clear hm
  induction kvs with
  | nil=>exact List.Perm.refl _
  | cons x r ih =>
    obtain ⟨a,b⟩:=x
    obtain ⟨h1,h2⟩:=List.pairwise_cons.1 ho
    unfold A9
    unfold UA at ih ⊢
    rw [List.filter_cons]
    split
    · rename_i e
      subst e
      rw [if_neg (by simp)]
      have e:(r.filter λkv=>decide (kv.1≠k))=r:=List.filter_eq_self.2 λy hy=>decide_eq_true λe=>h1 y hy e.symm
      rw [e];exact List.Perm.refl _
    · rename_i e
      rw [if_pos (by simpa using λe2=>e e2.symm)]
      exact ((ih h2).cons (SZ T b)).trans (List.Perm.swap _ _ _)
theorem Lz {A1 A2:List As} (hm:GM TV kvs):(A1++SZ T s::(A2++UA T kvs k)).Perm (A1++(A2++Qk T (A9 kvs k s))):=by
  refine (List.Perm.refl A1).append ?_
  have h1:(SZ T s::(A2++UA T kvs k)).Perm (A2++SZ T s::UA T kvs k):=List.perm_middle.symm
  exact h1.trans ((List.Perm.refl A2).append (put_perm hm).symm)
end
section
variable {P:Program} {ops:Array Oper} {rest:List Oper} {Q:Exit->Act->World->Prop} {n:Nat} {F:List (Nat×Value)} {w0:BE} {L A:List As} {kvs:List (Nat×RO)} {k T:Nat}
theorem AC.pullRO (hm:GM TV kvs) {sq:RO} (hs:sq=(Ac kvs k).getD Ll) (next:AC P ops rest Q n F w0 (SZ T sq::(A++UA T kvs k))):AC P ops rest Q n F w0 (A++Qk T kvs):=by
  cases hg:Ac kvs k with
  | none =>
    rw [hg] at hs
    rw [S6 hg] at next
    subst hs
    exact AC.nilRow T 1 next
  | some s =>
    have hs:sq=s:=by rw [hg] at hs;exact hs
    subst hs
    refine AC.permL ?_ next
    have h1:(A++Qk T kvs).Perm (A++SZ T sq::UA T kvs k):=(List.Perm.refl A).append (roO_some hm hg)
    exact h1.trans List.perm_middle
theorem BM.frzRO {w:World} (h:BM w0 w (A++Qk T kvs)):BM w0 w (A++Sc kvs):=by
  obtain ⟨h1,h2,h3⟩:=h
  refine ⟨h1,λx hx b e=>?_,?_⟩
  · rcases List.mem_append.1 hx with hx|hx
    · exact h2 x (List.mem_append_left _ hx) b e
    · obtain ⟨kv,hkv,rfl⟩:=List.mem_map.1 hx
      obtain ⟨_,o,ho,hp⟩:=h2 (SZ T kv.2) (List.mem_append_right _ (List.mem_map.2 ⟨kv,hkv,rfl⟩)) b e
      exact ⟨.inl O,o,ho,B_ kv.2.ok (by rw [BG,Nat.mul_one]) hp⟩
  · obtain ⟨p1,p2,p3⟩:=List.pairwise_append.1 h3
    refine List.pairwise_append.2 ⟨p1,?_,λx hx y hy=>?_⟩
    · unfold Sc
      unfold Qk at p2
      rw [List.pairwise_map] at p2 ⊢
      exact p2.imp λ{a b} h=>h.elim (λk=>by cases k.1) (λk=>.inr k)
    · obtain ⟨kv,hkv,rfl⟩:=List.mem_map.1 hy
      rcases p3 x hx (SZ T kv.2) (List.mem_map.2 ⟨kv,hkv,rfl⟩) with k|k
      · cases k.2
      · exact .inr k
theorem AC.frzRO (next:AC P ops rest Q n F w0 (A++Sc kvs)):AC P ops rest Q n F w0 (A++Qk T kvs):=λa w ha hW=>next a w ha (BM.frzRO hW)
theorem AC.dupRO {sq:RO} (hs:sq=(Ac kvs k).getD Ll) (next:AC P ops rest Q n F w0 (bP sq::(A++Sc kvs))):AC P ops rest Q n F w0 (A++Sc kvs):=λa w ha hW=>by
  refine next a w ha ?_
  cases hg:Ac kvs k with
  | none=>rw [hg] at hs;subst hs;exact hW.addRo (F0.refl _ _) rfl (λb e=>by cases e) (λb e=>by cases e)
  | some s =>
    have hs:sq=s:=by rw [hg] at hs;exact hs
    subst hs
    have hmm:(k,sq)∈kvs:=R7 hg
    have hm:bP sq∈A++Sc kvs:=List.mem_append_right _ (List.mem_map.2 ⟨(k,sq),hmm,rfl⟩)
    exact hW.addRo (F0.refl _ _) O (λb e=>(hW.2.1 _ hm b e).2) (λb e=>.inr ⟨_,hm,rfl,e⟩)
theorem AC.shrink (i:Nat) {q:Option Addr} {z m m' c:Nat} {cs:List Value} (hi:L[i]?=some (rowW q T z m c cs)) (hm:m'<=m) {L':List As} (hs:Nb L i (rowW q T z m' c (cs.take (m'*z)))=some L') (next:AC P ops rest Q n F w0 L'):AC P ops rest Q n F w0 L:=λa w ha hW=>by
  refine next a w ha (GX hs▸hW.freeze hi O (λo hp=>?_) (λe=>by cases e))
  obtain ⟨cur,rfl,h1,h2⟩:=hp
  refine ⟨cur,rfl,h1,?_⟩
  have hz:m'*z<=m*z:=Nat.mul_le_mul_right _ hm
  rw [<-h2,List.take_take,Nat.min_eq_left hz]
end
section
variable {P:Program} {ops:Array Oper} {rest:List Oper} {Q:Exit->Act->World->Prop} {n d i z m c c2:Nat} {F:List (Nat×Value)} {w0:BE} {L:List As} {t ty T:TypeId} {p:String} {af:Array Edge} {x y:Operand} {cs vs cs':List Value} {q:Option Addr} {v u:Value} {A0 A1 A2 A3 A4:As}
theorem AC.storeRow4 {j n':Nat} (hx:evF F x=some (pP (pB q) (pO q+j*1))) (hy:evF F y=some v) (ho:OwnOk q n' c) (hcl:cs.length=n'*1) (hj:j<n')
    (hv:v.cells=#[v]) (hs:∀w,(sizeOf ty).run P w=.ok 1 w) (h1:v.oneCell'=true) (hc:cs.set j v=cs') (next:AC P ops rest Q n F w0 (A0::A1::A2::A3::rowW q T 1 n' c cs'::L)):AC P ops (⟨none,.store ty x y,t,p,af,none⟩::rest) Q n F w0 (A0::A1::A2::A3::rowW q T 1 n' c cs::L):=by
  subst hc
  rw [<-Hq Z] at next
  exact AC.storeRow 4 (vs:=[v]) hx hy O ho hcl (ho.row.ne Z) hv hs (by simp [h1]) (by simp;omega) next
end
theorem OwnOk.less {p:Option Addr} {n n' c:Nat} (h:OwnOk p n c) (hn:n'<=n):OwnOk p n' c:=⟨λe=>⟨by have:=(h.nil e).1;omega,(h.nil e).2⟩,h.at0,Nat.le_trans hn h.le,h.max⟩
def Wl (ts:List T3) (s:Nat):Nat:=Bl (ts.getD (s/3) (0,0,0)) (s%3)
def SS (ts:List T3):Nat->List (Nat×List Nat)
  | 0=>[]
  | s+1=>A9 (SS ts s) (Wl ts s) ((Ac (SS ts s) (Wl ts s)).getD []++[s/3])
def I1 (ts:List T3) (p:Nat):List Nat:=(Ac (SS ts (3*ts.length)) p).getD []
section
variable {ts:List T3} {N:Nat}
theorem Ez {l:List Nat} {j:Nat} (h:j<l.length):l.getD j 0∈l:=by rw [List.getD,List.getElem?_eq_getElem h];exact List.getElem_mem h
theorem Lu {p o:Nat}:∀s,o∈(Ac (SS ts s) p).getD []↔∃u,u<s/\Wl ts u=p/\u/3=o
  | 0=>⟨λh=>(by cases h),λ⟨u,h,_⟩=>absurd h (Nat.not_lt_zero _)⟩
  | s+1=>by
    show o∈(Ac (A9 _ _ _) p).getD []↔_
    rw [CP]
    split
    · rename_i e
      rw [Option.getD_some,List.mem_append,List.mem_singleton,<-e,Lu s]
      constructor
      · rintro (⟨u,h1,h2,h3⟩|h)
        · exact ⟨u,Z,h2,h3⟩
        · exact ⟨s,Z,e.symm,h.symm⟩
      · rintro ⟨u,h1,h2,h3⟩
        rcases Nat.lt_or_ge u s with h4|h4
        · exact .inl ⟨u,h4,h2,h3⟩
        · exact .inr (by rw [<-h3,show u=s by omega])
    · rename_i e
      rw [Lu s]
      constructor
      · rintro ⟨u,h1,h2,h3⟩;exact ⟨u,Z,h2,h3⟩
      · rintro ⟨u,h1,h2,h3⟩
        refine ⟨u,?_,h2,h3⟩
        rcases Nat.lt_or_ge u s with h4|h4
        · exact h4
        · exact absurd (by rw [<-h2,show u=s by omega]) e
theorem FN {p o:Nat}:o∈I1 ts p↔o<ts.length/\∃r,r<3/\Bl (ts.getD o (0,0,0)) r=p:=by
  unfold I1
  rw [Lu]
  constructor
  · rintro ⟨u,h1,h2,rfl⟩;exact ⟨Z,u%3,Z,h2⟩
  · rintro ⟨h1,r,h2,h3⟩
    refine ⟨3*o+r,Z,?_,Z⟩
    unfold Wl
    rw [show (3*o+r)/3=o by omega,show (3*o+r)%3=r by omega];exact h3
theorem GV {p:Nat}:∀s,((Ac (SS ts s) p).getD []).length<=s
  | 0=>Nat.le_refl _
  | s+1=>by
    show ((Ac (A9 _ _ _) p).getD []).length<=_
    rw [CP]
    split
    · rw [Option.getD_some,List.length_append];have:=GV (p:=Wl ts s) s;show _+1<=_;omega
    · have:=GV (p:=p) s;omega
theorem MO (p:Nat):(I1 ts p).length<=3*ts.length:=GV _
theorem KO {t r:Nat} (hr:r<3):SS ts (3*t+r+1)=A9 (SS ts (3*t+r)) (Bl (ts.getD t (0,0,0)) r) ((Ac (SS ts (3*t+r)) (Bl (ts.getD t (0,0,0)) r)).getD []++[t]):=by
  show A9 _ _ _=_
  unfold Wl
  rw [show (3*t+r)/3=t by omega,show (3*t+r)%3=r by omega]
def OL (ts:List T3) (i j:Nat):Prop:=∃r s,r<3/\s<3/\Bl (ts.getD i (0,0,0)) r=Bl (ts.getD j (0,0,0)) s
theorem OL.symm {i j:Nat} (h:OL ts i j):OL ts j i:=by obtain ⟨r,s,a,b,c⟩:=h;exact ⟨s,r,b,a,c.symm⟩
theorem Ob {k u:Nat} (hu:u<ts.length):OL ts k u↔∃r,r<3/\u∈I1 ts (Bl (ts.getD k (0,0,0)) r):=by
  constructor
  · rintro ⟨r,s,h1,h2,h3⟩;exact ⟨r,h1,FN.2 ⟨hu,s,h2,h3.symm⟩⟩
  · rintro ⟨r,h1,h2⟩;obtain ⟨_,s,h3,h4⟩:=FN.1 h2;exact ⟨r,s,h1,h3,h4.symm⟩
inductive Iw (ts:List T3) (i:Nat):Nat->Prop
  | refl:Iw ts i i
  | step {j k:Nat}:Iw ts i j->k<ts.length->OL ts j k->Iw ts i k
theorem Iw.trans {i j k:Nat} (h:Iw ts i j) (h2:Iw ts j k):Iw ts i k:=by
  induction h2 with
  | refl=>exact h
  | step _ a b ih=>exact .step ih a b
theorem Iw.symm {i j:Nat} (hi:i<ts.length) (h:Iw ts i j):Iw ts j i:=by
  have key:j<ts.length/\Iw ts j i:=by
    induction h with
    | refl=>exact ⟨hi,.refl⟩
    | step _ a b ih=>exact ⟨a,(Iw.step .refl ih.1 b.symm).trans ih.2⟩
  exact key.2
abbrev gZ (l:List Int) (s:Nat):Int:=l.getD s 0
theorem Dg {l:List Int} {o s:Nat} {z:Int} (ho:o<l.length):gZ (l.set o z) s=if s=o then z else gZ l s:=by
  unfold gZ
  rw [List.getD,List.getElem?_set]
  by_cases h:o=s
  · subst h;rw [if_pos rfl,if_pos ho,if_pos rfl];rfl
  · rw [if_neg h,if_neg (λe=>h e.symm)];rfl
structure Qu (ts:List T3) (t n:Nat) (l:List Int):Prop where
  len:l.length=ts.length
  rng:∀s,s<ts.length -> -1<=gZ l s/\gZ l s<n
  done:∀s,s<t->0<=gZ l s
  clo:∀s u,s<ts.length->u<ts.length->OL ts s u->0<=gZ l s->gZ l u=gZ l s
  fst:∀k,k<n->∃f,f<t/\gZ l f=(k:Int)/\∀s,s<f->gZ l s<k
  cnx:∀s u,s<ts.length->u<ts.length->0<=gZ l s->gZ l s=gZ l u->Iw ts s u
  nle:n<=t
structure Lt (ts:List T3) (t n:Nat) (l0 l:List Int) (td:List Nat) (k r j:Nat):Prop where
  len:l.length=ts.length
  old:∀s,s<ts.length->0<=gZ l0 s->gZ l s=gZ l0 s
  new:∀s,s<ts.length->gZ l0 s<0->gZ l s = -1\/gZ l s=n/\Iw ts t s
  root:gZ l t=n
  tdn:∀s∈td,s<ts.length/\gZ l s=n/\gZ l0 s<0
  nd:td.Nodup
  kk:k<ts.length/\gZ l k=n/\gZ l0 k<0
  prc:∀s,s<ts.length->gZ l0 s<0->gZ l s=n->s ∉ td->s≠k->∀u,u<ts.length->OL ts s u->gZ l u=n
  part:∀r',r'<r->∀u∈I1 ts (Bl (ts.getD k (0,0,0)) r'),gZ l u=n
  pj:∀q,q<j->gZ l ((I1 ts (Bl (ts.getD k (0,0,0)) r)).getD q 0)=n
structure TS (ts:List T3) (t n:Nat) (l0 l:List Int) (td:List Nat):Prop where
  len:l.length=ts.length
  old:∀s,s<ts.length->0<=gZ l0 s->gZ l s=gZ l0 s
  new:∀s,s<ts.length->gZ l0 s<0->gZ l s = -1\/gZ l s=n/\Iw ts t s
  root:gZ l t=n
  tdn:∀s∈td,s<ts.length/\gZ l s=n/\gZ l0 s<0
  nd:td.Nodup
  prc:∀s,s<ts.length->gZ l0 s<0->gZ l s=n->s ∉ td->∀u,u<ts.length->OL ts s u->gZ l u=n
def SO (l:List Int) (td:List Nat):Nat:=2*l.count (-1)+td.length
variable {t n k r j o:Nat} {l0 l:List Int} {td:List Nat}
theorem Qu.start (hl:l.length=ts.length) (h:∀s,s<ts.length->gZ l s = -1):Qu ts 0 0 l:=⟨hl,λs hs=>by rw [h s hs];omega,λs hs=>absurd hs (Nat.not_lt_zero _),λs u hs _ _ h0=>by rw [h s hs] at h0;omega,λk hk=>absurd hk (Nat.not_lt_zero _),λs u hs _ h0=>by rw [h s hs] at h0;omega,Nat.le_refl _⟩
theorem Qu.next (h:Qu ts t n l) (ht:0<=gZ l t):Qu ts (t+1) n l:=⟨h.len,h.rng,λs hs=>by
    rcases Nat.lt_or_ge s t with h1|h1
    · exact h.done s h1
    · rw [show s=t by omega];exact ht,h.clo,λk hk=>by obtain ⟨f,a,b,c⟩:=h.fst k hk;exact ⟨f,Z,b,c⟩,h.cnx,by have:=h.nle;omega⟩
theorem TS.start (h:Qu ts t n l0) (ht:t<ts.length) (hn:gZ l0 t<0):TS ts t n l0 (l0.set t n) [t]:=by
  have hlt:t<l0.length:=by rw [h.len];exact ht
  refine ⟨by rw [List.length_set,h.len],λs hs h0=>?_,λs hs h0=>?_,by rw [Dg hlt,if_pos O],λs hs=>?_,by simp,λs hs h0 hn' hnt u hu htc=>?_⟩
  · rw [Dg hlt,if_neg (λe=>by subst e;omega)]
  · rw [Dg hlt]
    split
    · rename_i e;subst e;exact .inr ⟨rfl,.refl⟩
    · exact .inl (by have:=(h.rng s hs).1;omega)
  · rw [List.mem_singleton] at hs
    subst hs
    exact ⟨ht,by rw [Dg hlt,if_pos O],hn⟩
  · rw [List.mem_singleton] at hnt
    rw [Dg hlt,if_neg hnt] at hn'
    have:=(h.rng s hs).2
    omega
theorem TS.tl (h:TS ts t n l0 l td):td.length<=ts.length:=GF h.nd λx hx=>(h.tdn x hx).1
theorem TS.pop (h:TS ts t n l0 l td) (h0:0<td.length):Lt ts t n l0 l (td.take (td.length-1)) (td.getD (td.length-1) 0) 0 0:=by
  have e:td=td.take (td.length-1)++[td.getD (td.length-1) 0]:=by
    have:=DR (l:=td) (d:=0) (i:=td.length-1) Z
    rw [show td.length-1+1=td.length by omega,List.take_length] at this
    exact this
  have hmem:∀s,s∈td↔s∈td.take (td.length-1)\/s=td.getD (td.length-1) 0:=λs=>by
    conv=>lhs;rw [e]
    rw [List.mem_append,List.mem_singleton]
  refine ⟨h.len,h.old,h.new,h.root,λs hs=>h.tdn s ((hmem s).2 (.inl hs)),h.nd.sublist (List.take_sublist _ _),h.tdn _ ((hmem _).2 (.inr O)),λs hs h1 h2 h3 h4=>h.prc s hs h1 h2 (λh5=>((hmem s).1 h5).elim h3 h4),λr' hr=>absurd hr (Nat.not_lt_zero _),λq hq=>absurd hq (Nat.not_lt_zero _)⟩
theorem X6 (h0:0<td.length):SO l (td.take (td.length-1))<SO l td:=by unfold SO;rw [List.length_take];omega
theorem Lt.keep (h:Lt ts t n l0 l td k r j) (hP:Qu ts t n l0) (ho:o=(I1 ts (Bl (ts.getD k (0,0,0)) r)).getD j 0) (hj:j<(I1 ts (Bl (ts.getD k (0,0,0)) r)).length) (hr:r<3) (hl:0<=gZ l o):Lt ts t n l0 l td k r (j+1):=by
  have hm:o∈I1 ts (Bl (ts.getD k (0,0,0)) r):=by rw [ho];exact Ez hj
  have hot:=(FN.1 hm).1
  have htc:OL ts k o:=(Ob hot).2 ⟨r,hr,hm⟩
  refine ⟨h.len,h.old,h.new,h.root,h.tdn,h.nd,h.kk,h.prc,h.part,λq hq=>?_⟩
  rcases Nat.lt_or_ge q j with h1|h1
  · exact h.pj q h1
  · rw [show q=j by omega,<-ho]
    rcases Int.lt_or_le (gZ l0 o) 0 with h2|h2
    · rcases h.new o hot h2 with h3|h3
      · omega
      · exact h3.1
    · have:=hP.clo o k hot h.kk.1 htc.symm h2
      have:=h.kk.2.2
      omega
theorem Lt.push (h:Lt ts t n l0 l td k r j) (hP:Qu ts t n l0) (ht:t<ts.length) (ho:o=(I1 ts (Bl (ts.getD k (0,0,0)) r)).getD j 0) (hj:j<(I1 ts (Bl (ts.getD k (0,0,0)) r)).length) (hr:r<3) (hl:gZ l o<0):Lt ts t n l0 (l.set o n) (td++[o]) k r (j+1):=by
  have hm:o∈I1 ts (Bl (ts.getD k (0,0,0)) r):=by rw [ho];exact Ez hj
  have hot:=(FN.1 hm).1
  have htc:OL ts k o:=(Ob hot).2 ⟨r,hr,hm⟩
  have hlt:o<l.length:=by rw [h.len];exact hot
  have h0:gZ l0 o<0:=by
    rcases Int.lt_or_le (gZ l0 o) 0 with h2|h2
    · exact h2
    · have:=h.old o hot h2;omega
  have hck:Iw ts t k:=by
    rcases h.new k h.kk.1 h.kk.2.2 with h3|h3
    · have:=h.kk.2.1;omega
    · exact h3.2
  have up:∀s,gZ l s=n->gZ (l.set o n) s=n:=λs hs=>by
    rw [Dg hlt];split
    · rfl
    · exact hs
  refine ⟨by rw [List.length_set,h.len],λs hs h1=>?_,λs hs h1=>?_,up _ h.root,λs hs=>?_,?_,⟨h.kk.1,up _ h.kk.2.1,h.kk.2.2⟩,λs hs h1 h2 h3 h4 u hu h5=>?_,λr' hr' u hu=>up _ (h.part r' hr' u hu),λq hq=>?_⟩
  · rw [Dg hlt,if_neg (λe=>by subst e;omega)];exact h.old s hs h1
  · rw [Dg hlt]
    split
    · rename_i e;subst e;exact .inr ⟨rfl,hck.step hs htc⟩
    · exact h.new s hs h1
  · rcases List.mem_append.1 hs with hs|hs
    · obtain ⟨a,b,c⟩:=h.tdn s hs;exact ⟨a,up _ b,c⟩
    · rw [List.mem_singleton] at hs;subst hs;exact ⟨hot,by rw [Dg hlt,if_pos rfl],h0⟩
  · refine List.nodup_append.2 ⟨h.nd,by simp,λa ha b hb e=>?_⟩
    rw [List.mem_singleton] at hb
    subst hb e
    have:=(h.tdn a ha).2.1
    omega
  · have hso:s≠o:=λe=>h3 (List.mem_append_right _ (List.mem_singleton.2 e))
    rw [Dg hlt,if_neg hso] at h2
    exact up _ (h.prc s hs h1 h2 (λh6=>h3 (List.mem_append_left _ h6)) h4 u hu h5)
  · rcases Nat.lt_or_ge q j with h1|h1
    · exact up _ (h.pj q h1)
    · rw [show q=j by omega,<-ho,Dg hlt,if_pos rfl]
theorem Lt.tl (h:Lt ts t n l0 l td k r j):td.length<=ts.length:=GF h.nd λx hx=>(h.tdn x hx).1
theorem Lt.isneg (h:Lt ts t n l0 l td k r j) (ho:o<ts.length) (hl:gZ l o<0):gZ l o = -1:=by
  rcases Int.lt_or_le (gZ l0 o) 0 with h2|h2
  · rcases h.new o ho h2 with h3|h3
    · exact h3
    · omega
  · have:=h.old o ho h2;omega
theorem ML (ho:o<l.length) (hl:gZ l o = -1):SO (l.set o (n:Int)) (td++[o])<SO l td:=by
  have hp:0<l.count (-1):=List.count_pos_iff.2 (by rw [<-hl];unfold gZ;rw [List.getD,List.getElem?_eq_getElem ho];exact List.getElem_mem ho)
  have e:(l.set o (n:Int)).count (-1)=l.count (-1)-1:=by
    rw [List.count_set ho]
    have h1:l[o] = -1:=by unfold gZ at hl;rw [List.getD,List.getElem?_eq_getElem ho] at hl;exact hl
    simp [h1]<;>omega
  unfold SO
  rw [e,List.length_append]
  show _+(_+1)<_
  omega
theorem Lt.corner (h:Lt ts t n l0 l td k r j) (hj:(I1 ts (Bl (ts.getD k (0,0,0)) r)).length<=j):Lt ts t n l0 l td k (r+1) 0 :=
  ⟨h.len,h.old,h.new,h.root,h.tdn,h.nd,h.kk,h.prc,λr' hr u hu=>by
    rcases Nat.lt_or_ge r' r with h1|h1
    · exact h.part r' h1 u hu
    · rw [show r'=r by omega] at hu
      obtain ⟨q,hq,rfl⟩:=List.getElem_of_mem hu
      have:=h.pj q Z
      rw [List.getD,List.getElem?_eq_getElem hq] at this
      exact this,λq hq=>absurd hq (Nat.not_lt_zero _)⟩
theorem Lt.close (h:Lt ts t n l0 l td k 3 0):TS ts t n l0 l td:=⟨h.len,h.old,h.new,h.root,h.tdn,h.nd,λs hs h1 h2 h3 u hu h5=>by
  by_cases e:s=k
  · subst e
    obtain ⟨r,hr,hm⟩:=(Ob hu).1 h5
    exact h.part r hr u hm
  · exact h.prc s hs h1 h2 h3 e u hu h5⟩
theorem TS.finish (h:TS ts t n l0 l td) (hP:Qu ts t n l0) (ht:t<ts.length) (h0:td.length=0) (hn:gZ l0 t<0):Qu ts (t+1) (n+1) l:=by
  have htd:td=[]:=List.eq_nil_of_length_eq_zero h0
  subst htd
  have cs:∀s,s<ts.length->(0<=gZ l0 s/\gZ l s=gZ l0 s)\/(gZ l0 s<0/\(gZ l s = -1\/gZ l s=n/\Iw ts t s)):=λs hs=>by
    rcases Int.lt_or_le (gZ l0 s) 0 with h2|h2
    · exact .inr ⟨h2,h.new s hs h2⟩
    · exact .inl ⟨h2,h.old s hs h2⟩
  refine ⟨h.len,λs hs=>?_,λs hs=>?_,λs u hs hu htc h1=>?_,λk hk=>?_,λs u hs hu h1 h2=>?_,by have:=hP.nle;omega⟩
  · have:=hP.rng s hs
    rcases cs s hs with ⟨a,b⟩|⟨a,b|b⟩<;>omega
  · rcases Nat.lt_or_ge s t with h1|h1
    · have h2:=hP.done s h1
      rw [h.old s Z h2];exact h2
    · rw [show s=t by omega,h.root];omega
  · rcases cs s hs with ⟨a,b⟩|⟨a,b|b⟩
    · have h3:=hP.clo s u hs hu htc a
      rw [b,h.old u hu Z,h3]
    · omega
    · rw [b.1];exact h.prc s hs a b.1 (by simp) u hu htc
  · rcases Nat.lt_or_ge k n with h1|h1
    · obtain ⟨f,a,b,c⟩:=hP.fst k h1
      refine ⟨f,Z,by rw [h.old f Z Z];exact b,λs hs=>?_⟩
      have:=hP.done s Z
      rw [h.old s Z this];exact c s hs
    · refine ⟨t,Z,by rw [h.root,show k=n by omega],λs hs=>?_⟩
      have h2:=hP.done s hs
      rw [h.old s Z h2]
      have:=(hP.rng s Z).2
      omega
  · rcases cs s hs with ⟨a,b⟩|⟨a,b|b⟩
    · rcases cs u hu with ⟨a',b'⟩|⟨a',b'|b'⟩
      · exact hP.cnx s u hs hu a Z
      · omega
      · have:=(hP.rng s hs).2;omega
    · omega
    · rcases cs u hu with ⟨a',b'⟩|⟨a',b'|b'⟩
      · have:=(hP.rng u hu).2;omega
      · omega
      · exact (b.2.symm ht).trans b'.2
end
structure Hv (ts:List T3) (l:List Int) (n:Nat):Prop where
  len:l.length=ts.length
  rng:∀s,s<ts.length->0<=gZ l s/\gZ l s<n
  clo:∀s u,s<ts.length->u<ts.length->OL ts s u->gZ l u=gZ l s
  fst:∀k,k<n->∃f,f<ts.length/\gZ l f=(k:Int)/\∀s,s<f->gZ l s<k
  cnx:∀s u,s<ts.length->u<ts.length->gZ l s=gZ l u->Iw ts s u
  nle:n<=ts.length
theorem Qu.fin {ts:List T3} {n:Nat} {l:List Int} (h:Qu ts ts.length n l):Hv ts l n:=⟨h.len,λs hs=>⟨h.done s hs,(h.rng s hs).2⟩,λs u hs hu htc=>h.clo s u hs hu htc (h.done s hs),h.fst,λs u hs hu=>h.cnx s u hs hu (h.done s hs),h.nle⟩
structure VF (ts:List T3) where
  l:List Int
  n:Nat
  pts:Hv ts l n
  r:RX (zL l) l.length
instance {ts:List T3}:CO (VF ts):=⟨λx=>.tuple #[x.r.val,vN x.n],λx=>[x.r.row],λx y hy=>by rcases List.mem_singleton.1 hy with rfl;rfl⟩
theorem Zm {S:Nat->Prop} {W w:World} {L:List As} {ts:List T3} {l:List Int} {n:Nat} (hw:BM ⟨W,none⟩ w L) (i:Nat) {q:Option Addr} {T m c:Nat} (hi:L[i]?=some (rowW q T 1 m c (zL l))) (ho:OwnOk q m c) (hl:m=l.length) (h:Hv ts l n) {v:Value} (hv:v=.tuple #[.slice q m c,vN n]):Al (VF ts) S W (.returned v) w:=by
  subst hl
  refine ⟨⟨l,n,h,⟨q,c,ho.row⟩⟩,by rw [hv];rfl,hw.out,λy hy=>?_⟩
  rcases List.mem_singleton.1 hy with rfl
  exact DS hw i hi ho (by rw [B6,Nat.mul_one])
structure ZP (ts:List T3) where
  x:VF ts
  hc:x.r.c=x.l.length
instance {ts:List T3}:CO (ZP ts):=⟨λy=>CO.val y.x,λy=>CO.rows y.x,λy z hz=>CO.ro y.x z hz⟩
theorem Al.ofPaD {S:Nat->Prop} {W w:World} {e:Ending} {ts:List T3} (h:Al (ZP ts) S W e w):Al (VF ts) S W e w:=by
  obtain ⟨a,h1,h2,h3⟩:=h
  exact ⟨a.x,h1,h2,h3⟩
theorem YT {S:Nat->Prop} {W w:World} {L:List As} {ts:List T3} {l:List Int} {n:Nat} (hw:BM ⟨W,none⟩ w L) (i:Nat) {q:Option Addr} {T m:Nat} (hi:L[i]?=some (rowW q T 1 m m (zL l))) (ho:OwnOk q m m) (hl:m=l.length) (h:Hv ts l n) {v:Value} (hv:v=.tuple #[.slice q m m,vN n]):Al (ZP ts) S W (.returned v) w:=by
  subst hl
  refine ⟨⟨⟨l,n,h,⟨q,l.length,ho.row⟩⟩,rfl⟩,by rw [hv];rfl,hw.out,λy hy=>?_⟩
  rcases List.mem_singleton.1 hy with rfl
  exact DS hw i hi ho (by rw [B6,Nat.mul_one])
def Oc (n t:Nat):List Int:=List.replicate t (-1)++List.replicate (n-t) 0
theorem Lo {n t:Nat} (h:t<=n):(Oc n t).length=n:=by unfold Oc;rw [List.length_append,List.length_replicate,List.length_replicate];omega
theorem XD {n t:Nat} (h:t<n):(Oc n t).set t (-1)=Oc n (t+1):=by
  unfold Oc
  rw [List.set_append_right _ _ (by rw [List.length_replicate];exact Nat.le_refl _),List.length_replicate,Nat.sub_self,show n-t=(n-(t+1))+1 by omega,List.replicate_succ,List.set_cons_zero,List.replicate_succ',List.append_assoc];rfl
theorem W7 {n s:Nat} (h:s<n):gZ (Oc n n) s = -1:=by
  unfold Oc gZ
  rw [Nat.sub_self,List.replicate_zero,List.append_nil,List.getD,List.getElem?_replicate,if_pos h];rfl
section
variable {ts:List T3} {n n':Nat} {l l':List Int}
theorem Hv.iff (h:Hv ts l n) {s u:Nat} (hs:s<ts.length) (hu:u<ts.length):gZ l s=gZ l u↔Iw ts s u:=by
  refine ⟨h.cnx s u hs hu,λc=>?_⟩
  have key:u<ts.length->gZ l s=gZ l u:=by
    clear hu
    induction c with
    | refl=>intro _;rfl
    | step c1 hk htc ih =>
      rename_i j k
      intro _
      have hj:j<ts.length:=by
        cases c1 with
        | refl=>exact hs
        | step _ a _=>exact a
      rw [ih hj,h.clo _ _ hj hk htc]
  exact key hu
theorem Ub (h:Hv ts l n) (h':Hv ts l' n') {k:Nat} (ih:∀j,j<k->∀s,s<ts.length->(gZ l s=(j:Int)↔gZ l' s=(j:Int))) (hk:k<n):k<n'/\∀s,s<ts.length->(gZ l s=(k:Int)↔gZ l' s=(k:Int)):=by
  obtain ⟨f,hf,f1,f2⟩:=h.fst k hk
  have hr:=h'.rng f hf
  have hv:(k:Int)<=gZ l' f:=by
    rcases Int.lt_or_le (gZ l' f) k with h1|h1
    · have h2:=(ih (gZ l' f).toNat Z f hf).2 Z
      omega
    · exact h1
  have hkn:k<n':=by omega
  obtain ⟨g,hg,g1,g2⟩:=h'.fst k hkn
  have hu:(k:Int)<=gZ l g:=by
    have hr2:=h.rng g hg
    rcases Int.lt_or_le (gZ l g) k with h1|h1
    · have h2:=(ih (gZ l g).toNat Z g hg).1 Z
      omega
    · exact h1
  have hfg:f=g:=by
    rcases Nat.lt_trichotomy f g with h1|h1|h1
    · have:=g2 f h1;omega
    · exact h1
    · have:=f2 g h1;omega
  subst hfg
  refine ⟨hkn,λs hs=>?_⟩
  rw [<-f1,h.iff hs hf,f1,<-g1,h'.iff hs hf]
theorem Mb (h:Hv ts l n) (h':Hv ts l' n') (k:Nat):k<n->k<n'/\∀s,s<ts.length->(gZ l s=(k:Int)↔gZ l' s=(k:Int)):=by
  induction k using Nat.strongRecOn with
  | ind k ih=>exact λhk=>Ub h h' (λj hj=>(ih j hj Z).2) hk
theorem Se (h:Hv ts l n) (h':Hv ts l' n'):n=n':=by
  have h1:n<=n':=by
    rcases Nat.eq_zero_or_pos n with e|e
    · omega
    · have:=(Mb h h' (n-1) Z).1;omega
  have h2:n'<=n:=by
    rcases Nat.eq_zero_or_pos n' with e|e
    · omega
    · have:=(Mb h' h (n'-1) Z).1;omega
  omega
theorem ZO (h:Hv ts l n) (h':Hv ts l' n'):l=l':=by
  refine List.ext_getElem (by rw [h.len,h'.len]) λs h1 h2=>?_
  have hs:s<ts.length:=by rw [<-h.len];exact h1
  have hr:=h.rng s hs
  have h3:=((Mb h h' (gZ l s).toNat Z).2 s hs).1 Z
  have e1:gZ l s=l[s]:=by unfold gZ;rw [List.getD,List.getElem?_eq_getElem h1];rfl
  have e2:gZ l' s=l'[s]:=by unfold gZ;rw [List.getD,List.getElem?_eq_getElem h2];rfl
  omega
theorem Qp (h:Hv ts l n) (h0:0<ts.length) (hc:∀s,s<ts.length->Iw ts 0 s):n=1:=by
  have hr:=h.rng 0 h0
  rcases Nat.lt_or_ge 1 n with h1|h1
  · obtain ⟨f,hf,f1,_⟩:=h.fst 0 Z
    obtain ⟨g,hg,g1,_⟩:=h.fst 1 h1
    have e1:=(h.iff h0 hf).2 (hc f hf)
    have e2:=(h.iff h0 hg).2 (hc g hg)
    omega
  · omega
end
structure aD (l:List Nat) where
  r:RX (inL l) l.length
  q:RX [Value.slice r.p l.length r.c] 1
instance {l:List Nat}:CO (aD l):=⟨λx=>x.q.val,λx=>[x.q.row,x.r.row],λx y hy=>by simp only [List.mem_cons,List.not_mem_nil,or_false] at hy;rcases hy with rfl|rfl<;>rfl⟩
theorem Yv {S:Nat->Prop} {W w:World} {ls:List (List Nat)} {l:List Nat} {e:Ending} (hl:ls=[l]) (h:Al (Qt ls) S W e w):Al (aD l) S W e w:=by
  subst hl
  obtain ⟨⟨rs,he,q⟩,h1,h2,h3⟩:=h
  cases rs with
  | nil=>simp at he
  | cons r t =>
    cases t with
    | cons _ _=>simp at he
    | nil =>
      have e2:r.l=l:=by simpa using he
      subst e2
      exact ⟨⟨⟨r.p,r.c,r.ok⟩,q⟩,h1,h2,h3⟩
structure aO (n:Nat) where
  cs:List Value
  q:RX cs n
instance {n:Nat}:CO (aO n):=⟨λx=>x.q.val,λx=>[x.q.row],λx y hy=>by rcases List.mem_singleton.1 hy with rfl;rfl⟩
theorem Xn {S:Nat->Prop} {W w:World} {ls:List (List Nat)} {n:Nat} {e:Ending} (hl:ls.length=n) (h:Al (Qt ls) S W e w):Al (aO n) S W e w:=by
  obtain ⟨⟨rs,he,q⟩,h1,h2,h3⟩:=h
  have e2:rs.length=n:=by rw [<-hl,<-he,List.length_map]
  subst e2
  exact ⟨⟨rvL rs,q⟩,h1,h2,λy hy=>h3 y (by rcases List.mem_singleton.1 hy with rfl;exact List.mem_cons_self)⟩
theorem WU (D:Nat) (a b:T3):JV prog (D+2) 84 (.agg (Am a).toArray) (.agg (Am b).toArray) (decide (a=b)):=by
  rw [<-YO]
  exact JV.struct underlying84 Tryz.stoodInHeld84 (Mm.one (by decide) isAgg3 O O (JV.int underlying3) (Mm.one (by decide) isAgg3 O O (JV.int underlying3) (Mm.one (by decide) isAgg3 O O (JV.int underlying3) Mm.nil)))
theorem K8 (D:Nat) {a b:T3} (h:a=b):JV prog (D+2) 84 (.agg (Am a).toArray) (.agg (Am b).toArray) true:=by
  have:=WU D a b;rwa [decide_eq_true h] at this
end
end Go.Proofs.YtpgncndhhhllfaaGreat
