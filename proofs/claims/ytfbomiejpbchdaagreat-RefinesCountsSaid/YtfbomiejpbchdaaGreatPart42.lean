import Derived.Test.YtfbomiejpbchdaaGreatPart41
namespace Go.Proofs.YtfbomiejpbchdaaGreat
open Go Go.RowKit
set_option linter.unusedVariables false
set_option linter.unusedSimpArgs false
section
abbrev Wx (ps:List Pt) (ss:List T3) (l:List E4) (ts':List T3):List T3:=Nx ps.length ss l ts'
structure CZ (ps:List Pt) (ts ss:List T3) (l:List E4) (ts':List T3):Prop where
  g:GoodM ps ts
  hn:Ba ps.length ts=true
  sd:∃mm,ss=E9 mm ts ps.length ps.length
  got:∀k n,Ab (NR ps l) k=some n->∃j,j<l.length/\n=ps.length+j/\k=((l.getD j E0).a,(l.getD j E0).b)/\(l.getD j E0).a<ps.length/\(l.getD j E0).b<ps.length
  s_llen:l.length<=108
  tl:ts'.length<=4*ts.length
  s_num:Ba (ps.length+l.length) ts'=true
  s_mid:UW (NR ps l) ps.length
  cnt:∃I:List P2,(∀κ,(Bx ts').count κ=((Bx ts).flatMap (Ed (NR ps l))).count κ+2*I.count κ)/\∀κ∈I,Wg (NR ps l) ps.length κ
section
variable {ps:List Pt} {ts ss:List T3} {l:List E4} {ts':List T3}
theorem CZ.s_hN (D:CZ ps ts ss l ts'):ps.length<=108:=D.g.pl
theorem CZ.s_get (D:CZ ps ts ss l ts') {k:P2} {n:Nat} (h:Ab (NR ps l) k=some n):True/\∃j,j<l.length/\n=ps.length+j/\k=((l.getD j E0).a,(l.getD j E0).b)/\(l.getD j E0).a<ps.length/\(l.getD j E0).b<ps.length:=⟨trivial,D.got k n h⟩
theorem CZ.s_ends (D:CZ ps ts ss l ts') {k:P2} (hk:k∈Bx ts):k.1<k.2/\k.2<ps.length:=M6 D.hn (by have:=D.s_hN;omega) hk
theorem CZ.s_rim (D:CZ ps ts ss l ts') {s:T3}:s∈CC ts'↔(∃k,(Bx ts).count k=1/\(s.1,s.2.1)∈Ed (NR ps l) k)/\s.2.2=0 :=
  Uv D.s_mid (λk hk=>D.s_ends hk) D.s_num (by have:=D.s_hN;have:=D.s_llen;omega) D.cnt
theorem CZ.s_side (D:CZ ps ts ss l ts') {k:T3} (hk:k∈ss):(Bx ts).count (k.1,k.2.1)=1/\k.1<k.2.1/\k.2.1<ps.length:=by
  obtain ⟨mm,hs⟩:=D.sd
  rw [hs] at hk
  obtain ⟨_,h2,h3,h4,_⟩:=(Dw _).1 hk
  rw [Nq D.hn h2] at h4
  exact ⟨h4,h2,h3⟩
theorem CZ.s_side_of (D:CZ ps ts ss l ts') {k:P2} (hk:(Bx ts).count k=1):∃s∈ss,(s.1,s.2.1)=k:=by
  obtain ⟨mm,hs⟩:=D.sd
  obtain ⟨a,b⟩:=k
  obtain ⟨h1,h2⟩:=D.s_ends (List.count_pos_iff.1 (show 0<(Bx ts).count (a,b) by rw [hk];decide))
  refine ⟨VT mm a b,?_,rfl⟩
  rw [hs]
  exact (Dw _).2 ⟨by show a<_;simp only at h1 h2;omega,h1,h2,by rw [<-hk];exact Nq D.hn h1,rfl⟩
theorem CZ.s_side_eq (D:CZ ps ts ss l ts') {k k':T3} (hk:k∈ss) (hk':k'∈ss) (h:(k.1,k.2.1)=(k'.1,k'.2.1)):k=k':=by
  obtain ⟨mm,hs⟩:=D.sd
  rw [hs] at hk hk'
  obtain ⟨_,_,_,_,e⟩:=(Dw _).1 hk
  obtain ⟨_,_,_,_,e'⟩:=(Dw _).1 hk'
  injection h with h1 h2
  rw [e,e',h1,h2]
theorem CZ.s_edge (D:CZ ps ts ss l ts') {k:P2} (hk:(Bx ts).count k=1):k∈Bx ts:=List.count_pos_iff.1 (by rw [hk];decide)
theorem CZ.s_pmid (D:CZ ps ts ss l ts') {k:P2} {n:Nat} (h:Ab (NR ps l) k=some n):(Ds ps l).getD n ⟨0,0⟩=B7 (ps.getD k.1 ⟨0,0⟩+ps.getD k.2 ⟨0,0⟩) (1/2):=by
  obtain ⟨_,j,hj,hn,hk,_⟩:=D.s_get h
  rw [hn,S_ hj,hk];rfl
theorem CZ.s_on_fwd (D:CZ ps ts ss l ts') {k k' κ:P2} (hk:(Bx ts).count k=1) (hk':(Bx ts).count k'=1) (hκ:κ∈Ed (NR ps l) k') (h1:onS (ps.getD k.1 ⟨0,0⟩) (ps.getD k.2 ⟨0,0⟩) ((Ds ps l).getD κ.1 ⟨0,0⟩)) (h2:onS (ps.getD k.1 ⟨0,0⟩) (ps.getD k.2 ⟨0,0⟩) ((Ds ps l).getD κ.2 ⟨0,0⟩)):k'=k:=by
  obtain ⟨t,r,he⟩:=Rf (D.s_edge hk)
  obtain ⟨s,r',he'⟩:=Rf (D.s_edge hk')
  have b:=D.s_ends (D.s_edge hk)
  have b':=D.s_ends (D.s_edge hk')
  cases hg:Ab (NR ps l) k' with
  | none =>
    rw [D6 hg,List.mem_singleton] at hκ
    subst hκ
    rw [GG (by omega)] at h1
    rw [GG b'.2] at h2
    have c1:=Ov D.g he (by omega) h1
    have c2:=Ov D.g he b'.2 h2
    exact Prod.ext (by omega) (by omega)
  | some n =>
    have hx:κ.2=n/\(κ.1=k'.1\/κ.1=k'.2):=by
      rw [C4 hg] at hκ
      simp only [List.mem_cons,List.not_mem_nil,or_false] at hκ
      rcases hκ with rfl|rfl
      · exact ⟨rfl,.inl rfl⟩
      · exact ⟨rfl,.inr rfl⟩
    rw [GG (by omega)] at h1
    rw [hx.1,D.s_pmid hg] at h2
    exact W3 D.g he he' b.1 b'.1 b'.2 hx.2 h1 h2
theorem CZ.s_on_bwd (D:CZ ps ts ss l ts') {k κ:P2} (hk:(Bx ts).count k=1) (hκ:κ∈Ed (NR ps l) k):onS (ps.getD k.1 ⟨0,0⟩) (ps.getD k.2 ⟨0,0⟩) ((Ds ps l).getD κ.1 ⟨0,0⟩)/\onS (ps.getD k.1 ⟨0,0⟩) (ps.getD k.2 ⟨0,0⟩) ((Ds ps l).getD κ.2 ⟨0,0⟩):=by
  have b:=D.s_ends (D.s_edge hk)
  have hne:ps.getD k.1 ⟨0,0⟩≠ps.getD k.2 ⟨0,0⟩:=λe=>by have:=Ty D.g (by omega) b.2 e;omega
  obtain ⟨e1,e2,e3⟩:=R_ hne
  cases hg:Ab (NR ps l) k with
  | none =>
    rw [D6 hg,List.mem_singleton] at hκ
    subst hκ
    rw [GG (by omega),GG b.2]
    exact ⟨e1,e2⟩
  | some n =>
    rw [C4 hg] at hκ
    simp only [List.mem_cons,List.not_mem_nil,or_false] at hκ
    rcases hκ with rfl|rfl
    · rw [GG (by show k.1<_;omega),D.s_pmid hg];exact ⟨e1,e3⟩
    · rw [GG (by show k.2<_;omega),D.s_pmid hg];exact ⟨e2,e3⟩
theorem CZ.s_mark (D:CZ ps ts ss l ts') {k:T3} {κ:P2} (hk:k∈ss) (hκ:κ∈Ed (NR ps l) (k.1,k.2.1)):Ng ps.length ss l κ.1 κ.2=k.2.2:=by
  obtain ⟨c,hlt,hlN⟩:=D.s_side hk
  obtain ⟨j,hj,rfl⟩:=List.getElem_of_mem hk
  have ej:ss.getD j (0,0,0)=ss[j]:=by rw [List.getD,List.getElem?_eq_getElem hj];rfl
  have mem:∀i,i<ss.length->ss.getD i (0,0,0)∈ss:=λi hi=>by rw [List.getD,List.getElem?_eq_getElem hi];exact List.getElem_mem _
  have ky:∀{a b:Nat},a<b->BR a b=(a,b):=λ{a b} h=>by
    unfold BR
    rw [Nat.min_eq_left (by omega),Nat.max_eq_right (by omega)]
  have hnd:∀i i',i<ss.length->i'<ss.length->ss.getD i (0,0,0)=ss.getD i' (0,0,0)->i=i':=λi i' hi hi' e=>by
    obtain ⟨mm,hs⟩:=D.sd
    have hp:ss.Pairwise Ta:=by rw [hs];exact FC _
    rw [List.getD,List.getElem?_eq_getElem hi,List.getD,List.getElem?_eq_getElem hi'] at e
    have e:ss[i]=ss[i']:=e
    have hp:=List.pairwise_iff_getElem.1 hp
    rcases Nat.lt_trichotomy i i' with h|h|h
    · have:=hp i i' hi hi' h;rw [e] at this;unfold Ta at this;omega
    · exact h
    · have:=hp i' i hi' hi h;rw [e] at this;unfold Ta at this;omega
  have at_:=Po (N:=ps.length) (ss:=ss) (λi hi=>by have:=D.s_side (mem i hi);omega) (λi i' hi hi' e=>by
    rw [ky (D.s_side (mem i hi)).2.1,ky (D.s_side (mem i' hi')).2.1] at e
    exact hnd i i' hi hi' (D.s_side_eq (mem i hi) (mem i' hi') e)) ss.length (Nat.le_refl _) j (by omega) hj
  rw [ej,ky hlt] at at_
  unfold Ng
  cases hg:Ab (NR ps l) (ss[j].1,ss[j].2.1) with
  | none =>
    rw [D6 hg,List.mem_singleton] at hκ
    rw [hκ]
    show (Ab (DV ps.length ss l l.length) (BR ss[j].1 ss[j].2.1)).getD 0=_
    rw [ky hlt,KO hlN,at_];rfl
  | some n =>
    obtain ⟨_,i,hi,hn,hki,hb⟩:=D.s_get hg
    have hx:κ.2=n/\(κ.1=(l.getD i E0).a\/κ.1=(l.getD i E0).b):=by
      rw [C4 hg,hki] at hκ
      simp only [List.mem_cons,List.not_mem_nil,or_false] at hκ
      rcases hκ with rfl|rfl
      · exact ⟨rfl,.inl rfl⟩
      · exact ⟨rfl,.inr rfl⟩
    have hab:(l.getD i E0).a<(l.getD i E0).b:=by
      have h9:=congrArg Prod.fst hki
      have h8:=congrArg Prod.snd hki
      simp only at h9 h8
      omega
    rw [hx.1,(Fh (show κ.1<ps.length by omega) (show ps.length<=n by omega)).2,hn,NA hb hx.2 _ hi,ky hab,<-hki,at_];rfl
theorem CZ.s_fs_mem (D:CZ ps ts ss l ts') {s:T3} (hs:s∈(Wx ps ss l ts')):(∃k∈ss,(s.1,s.2.1)∈Ed (NR ps l) (k.1,k.2.1)/\s.2.2=k.2.2)/\s.1<ps.length+l.length/\s.2.1<ps.length+l.length:=by
  obtain ⟨r,hr,rfl⟩:=List.mem_map.1 hs
  obtain ⟨⟨k,hk,hm⟩,_⟩:=D.s_rim.1 hr
  obtain ⟨q,hq,rfl⟩:=D.s_side_of hk
  have h9:=PH D.s_num (by have:=D.s_hN;have:=D.s_llen;omega) hr
  exact ⟨⟨q,hq,hm,D.s_mark hq hm⟩,h9⟩
theorem CZ.s_fs_of (D:CZ ps ts ss l ts') {k:T3} (hk:k∈ss) {κ:P2} (hκ:κ∈Ed (NR ps l) (k.1,k.2.1)):∃s∈(Wx ps ss l ts'),(s.1,s.2.1)=κ :=
  ⟨(κ.1,κ.2,Ng ps.length ss l κ.1 κ.2),List.mem_map.2 ⟨(κ.1,κ.2,0),D.s_rim.2 ⟨⟨_,(D.s_side hk).1,hκ⟩,rfl⟩,rfl⟩,rfl⟩
theorem CZ.s_fs_nodup (D:CZ ps ts ss l ts'):((Wx ps ss l ts').map λs=>((s.1,s.2.1):P2)).Nodup:=by
  unfold Wx Nx
  rw [List.map_map]
  refine List.pairwise_map.2 ((NZ D.s_num (by have:=D.s_hN;have:=D.s_llen;omega)).imp λ{a b} h e=>?_)
  have e1:=congrArg Prod.fst e
  have e2:=congrArg Prod.snd e
  simp only [Function.comp_apply] at e1 e2
  unfold Ta at h
  omega
theorem CZ.s_on_iff (D:CZ ps ts ss l ts') {k s:T3} (hk:k∈ss) (hs:s∈(Wx ps ss l ts')):K4 ps (Ds ps l) k s=true↔(s.1,s.2.1)∈Ed (NR ps l) (k.1,k.2.1):=by
  unfold K4
  rw [Bool.and_eq_true,decide_eq_true_eq,decide_eq_true_eq]
  constructor
  · rintro ⟨h1,h2⟩
    obtain ⟨⟨k',hk',hm,_⟩,_⟩:=D.s_fs_mem hs
    rw [<-D.s_on_fwd (k:=(k.1,k.2.1)) (D.s_side hk).1 (D.s_side hk').1 hm h1 h2]
    exact hm
  · intro h
    exact D.s_on_bwd (D.s_side hk).1 h
theorem CZ.s_same (D:CZ ps ts ss l ts') {k s:T3} (hk:k∈ss) (hs:s∈(Wx ps ss l ts')) (h:K4 ps (Ds ps l) k s=true):s.2.2=k.2.2:=by
  obtain ⟨⟨k',hk',hm,he⟩,_⟩:=D.s_fs_mem hs
  have h2:=(D.s_on_iff hk hs).1 h
  rw [he,D.s_side_eq hk' hk (Me D.s_mid (D.s_side hk').2.2 (D.s_side hk).2.2 hm h2)]
theorem CZ.s_sz (D:CZ ps ts ss l ts') (i:Nat):DT ((Ds ps l).getD i ⟨0,0⟩)<=100:=by
  rcases Nat.lt_or_ge i ps.length with h|h
  · rw [GG h];exact Nat.le_trans (D.g.sz i) (by decide)
  · rcases Nat.lt_or_ge (i-ps.length) l.length with h2|h2
    · rw [show i=ps.length+(i-ps.length) by omega,S_ h2]
      unfold Xx
      have k1:=IG (RP ps (l.getD (i-ps.length) E0).a+RP ps (l.getD (i-ps.length) E0).b) (1/2)
      have k2:=L9 (RP ps (l.getD (i-ps.length) E0).a) (RP ps (l.getD (i-ps.length) E0).b)
      have k3:DT (RP ps (l.getD (i-ps.length) E0).a)<=4:=D.g.sz _
      have k4:DT (RP ps (l.getD (i-ps.length) E0).b)<=4:=D.g.sz _
      have k5:Sz (1/2)<=4:=by decide +kernel
      omega
    · rw [List.getD,List.getElem?_eq_none (by rw [Nk];omega)]
      have:DT (⟨0,0⟩:Pt)<=100:=by decide +kernel
      exact this
end
section
variable {ps:List Pt} {ts ss:List T3}
theorem VZ (g:GoodM ps ts) (hn:Ba ps.length ts=true) (sd:∃mm,ss=E9 mm ts ps.length ps.length):CZ ps ts ss (A_ ts) (CF ps.length (A_ ts) ts):=by
  have hp:=g.pl
  have ht:=g.tl
  have he:=MH ts
  refine ⟨g,hn,sd,λk n h=>?_,by omega,Nat.le_of_eq Cf,GU hn (by omega),TM,SY hn (by omega)⟩
  obtain ⟨j,hj,hk,hnn⟩:=FG _ h
  have hm:(A_ ts).getD j E0∈A_ ts:=by rw [List.getD,List.getElem?_eq_getElem hj];exact List.getElem_mem _
  have h1:=EY hn (by omega) hm
  refine ⟨j,hj,hnn,?_,by omega,by omega⟩
  rw [<-hk]
  unfold BR
  rw [Nat.min_eq_left (by omega),Nat.max_eq_right (by omega)]
abbrev UL (ps:List Pt) (ts ss:List T3):List T3:=Wx ps ss (A_ ts) (CF ps.length (A_ ts) ts)
theorem LV {f g:Nat->Nat}:∀K,(∀j,j<K->f j=g j)->Kw f K=Kw g K
  | 0,_=>rfl
  | K+1,h=>by rw [Kw,Kw,LV K λj hj=>h j (by omega),h K (by omega)]
theorem Pr {q:T3->Bool}:∀K,K<=ss.length->Kw (λj=>if q (ss.getD j (0,0,0)) then 2 else 0) K=2*((ss.take K).filter q).length
  | 0,_=>rfl
  | K+1,h=>by
    rw [Kw,Pr K (by omega),FP (by omega),List.filter_append,List.length_append,List.filter_cons]
    split<;>simp<;>omega
theorem GD {i:Nat} (h:i<ss.length):ss.getD i (0,0,0)∈ss:=by rw [List.getD,List.getElem?_eq_getElem h];exact List.getElem_mem _
theorem Wm (D:CZ ps ts ss (A_ ts) (CF ps.length (A_ ts) ts)) {k:T3} (hk:k∈ss):((UL ps ts ss).filter (K4 ps (Ds ps (A_ ts)) k)).length=2:=by
  obtain ⟨hc,hlt,hlN⟩:=D.s_side hk
  have hN:=D.s_hN
  have hp:(((UL ps ts ss).filter (K4 ps (Ds ps (A_ ts)) k)).map λs=>((s.1,s.2.1):P2)).Perm (Ed (NR ps (A_ ts)) (k.1,k.2.1)) :=
    (List.perm_ext_iff_of_nodup (List.Nodup.sublist (List.Sublist.map _ List.filter_sublist) D.s_fs_nodup) (KS (k:=(k.1,k.2.1)) hlt)).2 λκ=>by
      rw [List.mem_map]
      constructor
      · rintro ⟨s,hs,rfl⟩
        obtain ⟨h3,h4⟩:=List.mem_filter.1 hs
        exact (D.s_on_iff hk h3).1 h4
      · intro hκ
        obtain ⟨s,hs,rfl⟩:=D.s_fs_of hk hκ
        exact ⟨s,List.mem_filter.2 ⟨hs,(D.s_on_iff hk hs).2 hκ⟩,rfl⟩
  have h1:=hp.length_eq
  obtain ⟨n,hn⟩:=GQ (N:=ps.length) D.hn (by omega) (D.s_edge hc)
  rw [List.length_map,C4 hn] at h1
  exact h1
theorem La (D:CZ ps ts ss (A_ ts) (CF ps.length (A_ ts) ts)) {s:T3} (hs:s∈UL ps ts ss):∃j,j<ss.length/\K4 ps (Ds ps (A_ ts)) (ss.getD j (0,0,0)) s=true/\s.2.2=(ss.getD j (0,0,0)).2.2/\∀i,i<ss.length->K4 ps (Ds ps (A_ ts)) (ss.getD i (0,0,0)) s=true->i=j:=by
  obtain ⟨⟨k,hk,hm,he⟩,_⟩:=D.s_fs_mem hs
  obtain ⟨j,hj,rfl⟩:=List.getElem_of_mem hk
  have ej:ss.getD j (0,0,0)=ss[j]:=by rw [List.getD,List.getElem?_eq_getElem hj];rfl
  refine ⟨j,hj,by rw [ej];exact (D.s_on_iff hk hs).2 hm,by rw [ej];exact he,λi hi h=>?_⟩
  have h2:=(D.s_on_iff (GD hi) hs).1 h
  have h3:=D.s_side_eq (GD hi) hk (Me D.s_mid (D.s_side (GD hi)).2.2 (D.s_side hk).2.2 h2 hm)
  obtain ⟨mm,hsd⟩:=D.sd
  have hp:ss.Pairwise Ta:=by rw [hsd];exact FC _
  have hp:=List.pairwise_iff_getElem.1 hp
  have h4:ss[i]=ss[j]:=by rw [<-h3,List.getD,List.getElem?_eq_getElem hi];rfl
  rcases Nat.lt_trichotomy i j with h|h|h
  · have:=hp i j hi hj h;rw [h4] at this;unfold Ta at this;omega
  · exact h
  · have:=hp j i hj hi h;rw [h4] at this;unfold Ta at this;omega
theorem Lw (D:CZ ps ts ss (A_ ts) (CF ps.length (A_ ts) ts)) (q:T3->Bool) (hq:∀s t:T3,s.2.2=t.2.2->q s=q t):((UL ps ts ss).filter q).length=2*(ss.filter q).length:=by
  have h1:=Un (K:=ss.length) (q:=λj s=>K4 ps (Ds ps (A_ ts)) (ss.getD j (0,0,0)) s) (xs:=(UL ps ts ss).filter q) λs hs=>by
    obtain ⟨j,a,b,_,d⟩:=La D (List.mem_filter.1 hs).1
    exact ⟨j,a,b,d⟩
  rw [<-h1,LV (g:=λj=>if q (ss.getD j (0,0,0)) then 2 else 0) ss.length λj hj=>?_,Pr _ (Nat.le_refl _),List.take_length]
  have hm:=GD hj
  by_cases e:q (ss.getD j (0,0,0))=true
  · rw [if_pos e,<-Wm D hm,List.filter_filter]
    congr 1
    refine List.filter_congr λs hs=>?_
    by_cases h2:K4 ps (Ds ps (A_ ts)) (ss.getD j (0,0,0)) s=true
    · rw [h2,hq s _ (D.s_same hm hs h2),e];rfl
    · rw [Bool.not_eq_true] at h2;rw [h2];rfl
  · rw [if_neg e,List.length_eq_zero_iff,List.filter_filter]
    refine List.filter_eq_nil_iff.2 λs hs h2=>e ?_
    rw [Bool.and_eq_true] at h2
    rw [<-hq s _ (D.s_same hm hs h2.1)]
    exact h2.2
theorem Tf (D:CZ ps ts ss (A_ ts) (CF ps.length (A_ ts) ts)):(UL ps ts ss).length=2*ss.length:=by
  have h:=Lw D (λ_=>true) λ_ _ _=>rfl
  rwa [List.filter_eq_self.2 λ_ _=>rfl,List.filter_eq_self.2 λ_ _=>rfl] at h
theorem SH (D:CZ ps ts ss (A_ ts) (CF ps.length (A_ ts) ts)) (k:Nat):(ED (UL ps ts ss) k (UL ps ts ss).length).length=2*(ED ss k ss.length).length:=by
  unfold ED
  rw [List.take_length,List.take_length]
  exact Lw D _ λs t e=>by rw [e]
def G2 (ps pf:List Pt) (ss:List T3) (s:T3) (k:Nat):Nat:=Kw (λj=>if (K4 ps pf (ss.getD j (0,0,0)) s&&decide (s.2.2=(ss.getD j (0,0,0)).2.2))=true then 1 else 0) k
theorem OL (D:CZ ps ts ss (A_ ts) (CF ps.length (A_ ts) ts)) {s:T3} (hs:s∈UL ps ts ss):G2 ps (Ds ps (A_ ts)) ss s ss.length=1:=by
  obtain ⟨j,a,b,c,d⟩:=La D hs
  unfold G2
  rw [Mj (q:=λj=>K4 ps (Ds ps (A_ ts)) (ss.getD j (0,0,0)) s&&decide (s.2.2=(ss.getD j (0,0,0)).2.2)) (j:=j) ss.length λi hi h=>d i hi (Bool.and_eq_true _ _▸h).1]
  rw [if_pos ⟨a,by rw [b,decide_eq_true c];rfl⟩]
end
section
variable {ps pf:List Pt} {ss:List T3} {s:T3} {k:Nat}
theorem Vv (h:(K4 ps pf (ss.getD k (0,0,0)) s&&decide (s.2.2=(ss.getD k (0,0,0)).2.2))=true):G2 ps pf ss s k+1=G2 ps pf ss s (k+1):=by
  show _=G2 ps pf ss s k+(if _ then 1 else 0)
  rw [if_pos h]
theorem OP (h:¬(K4 ps pf (ss.getD k (0,0,0)) s&&decide (s.2.2=(ss.getD k (0,0,0)).2.2))=true):G2 ps pf ss s k=G2 ps pf ss s (k+1):=by
  show _=G2 ps pf ss s k+(if _ then 1 else 0)
  rw [if_neg h,Nat.add_zero]
theorem Wp (k:Nat):G2 ps pf ss s k<=k:=by
  have h:=Sn (f:=λj=>if (K4 ps pf (ss.getD j (0,0,0)) s&&decide (s.2.2=(ss.getD j (0,0,0)).2.2))=true then 1 else 0) (M:=1) (λj=>by split<;>omega) k
  unfold G2
  omega
end
end
end Go.Proofs.YtfbomiejpbchdaaGreat
