import Derived.Test.YtfbomiejpbchdaaGreatPart38
import Derived.Test.YtfbomiejpbchdaaGreatPart41
import Derived.Test.YtfbomiejpbchdaaGreatPart42
namespace Go.Proofs.YtfbomiejpbchdaaGreat
open Go Go.RowKit Go.Proofs.Tryz
set_option linter.unusedVariables false
set_option linter.unusedSimpArgs false
section
theorem YG {q:Rat}:0<q.num.sign↔0<q:=by
  rcases HH 0 q with h|h
  · rw [Ni h];exact ⟨λ_=>h,λ_=>by decide⟩
  · by_cases e:q=0
    · rw [Ol e,e];decide
    · rw [Qu (q:=q) (by grind)];exact ⟨λk=>absurd k (by decide),λk=>by grind⟩
theorem Ii {q:Rat}:q.num.sign = -1↔q<0:=by
  rcases HH 0 q with h|h
  · rw [Ni h];exact ⟨λk=>absurd k (by decide),λk=>by grind⟩
  · by_cases e:q=0
    · rw [Ol e,e];decide
    · have:q<0:=by grind
      rw [Qu this];exact ⟨λ_=>this,λ_=>rfl⟩
theorem Pq {p q:Pt} {B:Q3} (h:AJ p q B.1<=0/\AJ p q B.2.1<=0/\AJ p q B.2.2<=0):GH p q B=false:=by
  have k:∀r,AJ p q r<=0->M6 p q r=false:=λr hr=>decide_eq_false (by rw [YG];grind)
  unfold GH
  rw [k _ h.1,k _ h.2.1,k _ h.2.2];rfl
theorem XX {A B:Q3} (h:O1 A.1 A.2.1 A.2.2 B.1 B.2.1 B.2.2):E2 A B=true:=by
  unfold E2
  rcases h with h|h|h
  · rw [Pq h];rfl
  · rw [Pq (p:=A.2.1) (q:=A.2.2) h];simp
  · rw [Pq (p:=A.2.2) (q:=A.1) h];simp
theorem Mq {ps:List Pt} {t:T3} {q:Pt} (hT:0<AJ (cor ps t.1) (cor ps t.2.1) (cor ps t.2.2)):KL ps q t=0↔¬Lb ps t q:=by
  have hd:∀z,0<=z/AJ (cor ps t.1) (cor ps t.2.1) (cor ps t.2.2)↔0<=z:=λz=>by
    have e:z/AJ (cor ps t.1) (cor ps t.2.1) (cor ps t.2.2)*AJ (cor ps t.1) (cor ps t.2.1) (cor ps t.2.2)=z:=Rat.div_mul_cancel (by grind)
    generalize z/AJ (cor ps t.1) (cor ps t.2.1) (cor ps t.2.2)=w at *
    exact ⟨λk=>by rw [<-e];exact Rat.mul_nonneg k (by grind),λk=>by rw [<-e] at k;exact Hd hT k⟩
  have h1:KL ps q t=GG (AJ q (cor ps t.2.1) (cor ps t.2.2)/AJ (cor ps t.1) (cor ps t.2.1) (cor ps t.2.2)) (AJ (cor ps t.1) q (cor ps t.2.2)/AJ (cor ps t.1) (cor ps t.2.1) (cor ps t.2.2)) (AJ (cor ps t.1) (cor ps t.2.1) q/AJ (cor ps t.1) (cor ps t.2.1) (cor ps t.2.2)):=if_neg (λe=>by rw [e] at hT;exact absurd hT Rat.lt_irrefl)
  have h2:∀{x y z:Rat},GG x y z=0↔¬(0<=x/\0<=y/\0<=z):=λ{x y z}=>by
    unfold GG
    split
    · rename_i h
      rw [Ii,Ii,Ii] at h
      exact ⟨λ_=>by grind,λ_=>rfl⟩
    · rename_i h
      rw [Ii,Ii,Ii] at h
      exact ⟨λh=>by omega,λh=>by exfalso;apply h;grind⟩
  rw [h1,h2,hd,hd,hd]
  exact Iff.rfl
def E7 (mv:Nat->Nat->Nat) (t:T3) (l:Nat):Nat:=if l=0 then t.1 else if l=1 then t.2.1 else if l=2 then t.2.2 else if l=3 then mv t.1 t.2.1 else if l=4 then mv t.2.1 t.2.2 else mv t.2.2 t.1
def C3 (mv:Nat->Nat->Nat) (t L:T3):T3:=(E7 mv t L.1,E7 mv t L.2.1,E7 mv t L.2.2)
def Fa (t:T3) (l:Nat):P2:=if l=3 then BY t.1 t.2.1 else if l=4 then BY t.2.1 t.2.2 else BY t.2.2 t.1
def JC (ps:List Pt) (t:T3) (l:Nat):Pt:=LP (cor ps t.1) (cor ps t.2.1) (cor ps t.2.2) l
structure GZ (ps:List Pt) (ts:List T3) (ps':List Pt) (ts':List T3) (mv:Nat->Nat->Nat) (fam:T3->List T3):Prop where
  g:F0 ps ts
  cut:ts'=ts.flatMap λt=>(fam t).map (C3 mv t)
  fok:∀t∈ts,QG (fam t)
  len:ps.length<=ps'.length
  old:∀p,p<ps.length->cor ps' p=cor ps p
  mid:∀t∈ts,∀l,3<=l->l<6->Gm (fam t) l=true->ps.length<=E7 mv t l/\E7 mv t l<ps'.length/\cor ps' (E7 mv t l)=JC ps t l
  new:∀p,ps.length<=p->p<ps'.length->∃t∈ts,∃l,3<=l/\l<6/\Gm (fam t) l=true/\p=E7 mv t l
  cls:∀t∈ts,∀s∈ts,∀l k,3<=l->l<6->3<=k->k<6->Gm (fam s) k=true->Fa t l=Fa s k->Gm (fam t) l=true/\E7 mv t l=E7 mv s k
theorem PI {fam:List T3} {L:T3} {l:Nat} (hL:L∈fam) (h:Cd L l=true):Gm fam l=true:=List.any_eq_true.2 ⟨L,hL,h⟩
theorem aM (L:T3):Cd L L.1=true/\Cd L L.2.1=true/\Cd L L.2.2=true:=by simp [Cd]
theorem NW {mv:Nat->Nat->Nat} {t L:T3} {l:Nat} (h:Cd L l=true):Cd (C3 mv t L) (E7 mv t l)=true:=by
  simp only [Cd,Bool.or_eq_true,beq_iff_eq] at h ⊢
  rcases h with (h|h)|h
  · left;left;show E7 mv t L.1=_;rw [h]
  · left;right;show E7 mv t L.2.1=_;rw [h]
  · right;show E7 mv t L.2.2=_;rw [h]
section
variable {ps ps':List Pt} {ts ts':List T3} {mv:Nat->Nat->Nat} {fam:T3->List T3} {t s c L:T3} {l k p:Nat}
theorem HS (h:t∈ts):∃j,j<ts.length/\ts.getD j (0,0,0)=t:=by
  obtain ⟨j,hj,e⟩:=List.getElem_of_mem h
  exact ⟨j,hj,by rw [List.getD,List.getElem?_eq_getElem hj];exact e⟩
theorem E5 {j:Nat} (h:j<ts.length):ts.getD j (0,0,0)∈ts:=by rw [List.getD,List.getElem?_eq_getElem h];exact List.getElem_mem h
theorem GZ.tri (S:GZ ps ts ps' ts' mv fam) (ht:t∈ts):Y0 ps t:=by
  obtain ⟨j,hj,rfl⟩:=HS ht
  exact S.g.tri j hj
theorem GZ.v_pos (S:GZ ps ts ps' ts' mv fam) (ht:t∈ts):0<AJ (cor ps t.1) (cor ps t.2.1) (cor ps t.2.2):=(S.tri ht).pos
theorem GZ.v_pt (S:GZ ps ts ps' ts' mv fam) (ht:t∈ts) (hl:l<6) (hu:Gm (fam t) l=true):E7 mv t l<ps'.length/\cor ps' (E7 mv t l)=JC ps t l:=by
  have h:=S.tri ht
  have hle:=S.len
  rcases Nat.lt_or_ge l 3 with h3|h3
  · have e:l=0\/l=1\/l=2:=by omega
    rcases e with rfl|rfl|rfl
    · exact ⟨Nat.lt_of_lt_of_le h.a hle,S.old _ h.a⟩
    · exact ⟨Nat.lt_of_lt_of_le h.b hle,S.old _ h.b⟩
    · exact ⟨Nat.lt_of_lt_of_le h.c hle,S.old _ h.c⟩
  · exact (S.mid t ht l h3 hl hu).2
theorem GZ.v_child (S:GZ ps ts ps' ts' mv fam) (hc:c∈ts'):∃t∈ts,∃L∈fam t,c=C3 mv t L:=by
  rw [S.cut] at hc
  obtain ⟨t,ht,hc⟩:=List.mem_flatMap.1 hc
  obtain ⟨L,hL,e⟩:=List.mem_map.1 hc
  exact ⟨t,ht,L,hL,e.symm⟩
theorem GZ.v_c3 (S:GZ ps ts ps' ts' mv fam) (ht:t∈ts) (hL:L∈fam t):cor ps' (C3 mv t L).1=JC ps t L.1/\cor ps' (C3 mv t L).2.1=JC ps t L.2.1/\cor ps' (C3 mv t L).2.2=JC ps t L.2.2:=by
  obtain ⟨h1,h2,h3⟩:=(S.fok t ht).lt L hL
  obtain ⟨u1,u2,u3⟩:=aM L
  exact ⟨(S.v_pt ht h1 (PI hL u1)).2,(S.v_pt ht h2 (PI hL u2)).2,(S.v_pt ht h3 (PI hL u3)).2⟩
theorem GZ.v_turn (S:GZ ps ts ps' ts' mv fam) (ht:t∈ts) (hL:L∈fam t):AJ (cor ps' (C3 mv t L).1) (cor ps' (C3 mv t L).2.1) (cor ps' (C3 mv t L).2.2)*8=((D3 L.1 L.2.1 L.2.2:Int):Rat)*AJ (cor ps t.1) (cor ps t.2.1) (cor ps t.2.2):=by
  obtain ⟨h1,h2,h3⟩:=(S.fok t ht).lt L hL
  obtain ⟨e1,e2,e3⟩:=S.v_c3 ht hL
  rw [e1,e2,e3]
  exact FO h1 h2 h3
theorem GZ.v_cpos (S:GZ ps ts ps' ts' mv fam) (ht:t∈ts) (hL:L∈fam t):0<AJ (cor ps' (C3 mv t L).1) (cor ps' (C3 mv t L).2.1) (cor ps' (C3 mv t L).2.2):=by
  obtain ⟨h1,h2,h3⟩:=(S.fok t ht).lt L hL
  obtain ⟨e1,e2,e3⟩:=S.v_c3 ht hL
  rw [e1,e2,e3]
  exact Wh (S.v_pos ht) h1 h2 h3 ((S.fok t ht).pos L hL)
def BB (ps:List Pt) (c d:T3):Prop:=O1 (cor ps c.1) (cor ps c.2.1) (cor ps c.2.2) (cor ps d.1) (cor ps d.2.1) (cor ps d.2.2)\/O1 (cor ps d.1) (cor ps d.2.1) (cor ps d.2.2) (cor ps c.1) (cor ps c.2.1) (cor ps c.2.2)
theorem Q6 {a b c:Pt} {M:T3} (hT:0<AJ a b c) (hL:L.1<6/\L.2.1<6/\L.2.2<6) (hM:M.1<6/\M.2.1<6/\M.2.2<6) (h:RK L M=true):O1 (LP a b c L.1) (LP a b c L.2.1) (LP a b c L.2.2) (LP a b c M.1) (LP a b c M.2.1) (LP a b c M.2.2):=by
  simp only [RK,Wn,Bool.or_eq_true,Bool.and_eq_true,decide_eq_true_eq] at h
  rcases h with (⟨⟨h1,h2⟩,h3⟩|⟨⟨h1,h2⟩,h3⟩)|⟨⟨h1,h2⟩,h3⟩
  · exact .inl ⟨GE hT hL.1 hL.2.1 hM.1 h1,GE hT hL.1 hL.2.1 hM.2.1 h2,GE hT hL.1 hL.2.1 hM.2.2 h3⟩
  · exact .inr (.inl ⟨GE hT hL.2.1 hL.2.2 hM.1 h1,GE hT hL.2.1 hL.2.2 hM.2.1 h2,GE hT hL.2.1 hL.2.2 hM.2.2 h3⟩)
  · exact .inr (.inr ⟨GE hT hL.2.2 hL.1 hM.1 h1,GE hT hL.2.2 hL.1 hM.2.1 h2,GE hT hL.2.2 hL.1 hM.2.2 h3⟩)
theorem GZ.v_bb (S:GZ ps ts ps' ts' mv fam):ts'.Pairwise (BB ps'):=by
  rw [S.cut]
  refine List.pairwise_flatMap.2 ⟨λt ht=>?_,?_⟩
  · refine List.pairwise_map.2 ((S.fok t ht).sep.imp_of_mem λ{L M} hL hM h=>?_)
    obtain ⟨e1,e2,e3⟩:=S.v_c3 ht hL
    obtain ⟨f1,f2,f3⟩:=S.v_c3 ht hM
    unfold BB
    rw [e1,e2,e3,f1,f2,f3]
    rw [Bool.or_eq_true] at h
    exact h.imp (Q6 (S.v_pos ht) ((S.fok t ht).lt L hL) ((S.fok t ht).lt M hM)) (Q6 (S.v_pos ht) ((S.fok t ht).lt M hM) ((S.fok t ht).lt L hL))
  · have base:ts.Pairwise (Ln ps):=List.pairwise_iff_getElem.2 λi j hi hj hij=>by
      have h:=U_ S.g hi hj Z
      rwa [List.getD,List.getD,List.getElem?_eq_getElem hi,List.getElem?_eq_getElem hj] at h
    refine base.imp_of_mem λ{t s} ht hs ⟨u,k,hu,⟨h1,h2,h3⟩,h4,h5,h6⟩ x hx y hy=>?_
    obtain ⟨L,hL,rfl⟩:=List.mem_map.1 hx
    obtain ⟨M,hM,rfl⟩:=List.mem_map.1 hy
    obtain ⟨l1,l2,l3⟩:=(S.fok t ht).lt L hL
    obtain ⟨m1,m2,m3⟩:=(S.fok s hs).lt M hM
    obtain ⟨e1,e2,e3⟩:=S.v_c3 ht hL
    obtain ⟨f1,f2,f3⟩:=S.v_c3 hs hM
    have a:=S.v_cpos ht hL
    have b:=S.v_cpos hs hM
    refine ah a b hu (k:=k) ?_
    rw [e1,e2,e3,f1,f2,f3]
    exact ⟨⟨NU l1 h1 h2 h3,NU l2 h1 h2 h3,NU l3 h1 h2 h3⟩,Nt m1 h4 h5 h6,Nt m2 h4 h5 h6,Nt m3 h4 h5 h6⟩
theorem GZ.v_up (S:GZ ps ts ps' ts' mv fam) (ht:t∈ts) (hL:L∈fam t) {q:Pt} (h:Lb ps' (C3 mv t L) q):Lb ps t q:=by
  obtain ⟨l1,l2,l3⟩:=(S.fok t ht).lt L hL
  obtain ⟨e1,e2,e3⟩:=S.v_c3 ht hL
  have hc:=S.v_cpos ht hL
  obtain ⟨h1,h2,h3⟩:=h
  have hT:=S.v_pos ht
  have sd:∀i j:Nat,i<6->j<6->(∀l,l<6->0<=D3 i j l)->0<=AJ (JC ps t i) (JC ps t j) q:=λi j hi hj hd =>
    WC hc h1 h2 h3 (by rw [e1];exact HB hT hi hj l1 (hd _ l1)) (by rw [e2];exact HB hT hi hj l2 (hd _ l2)) (by rw [e3];exact HB hT hi hj l3 (hd _ l3))
  have d1:=sd 1 2 (by decide) (by decide) (by decide)
  have d2:=sd 2 0 (by decide) (by decide) (by decide)
  have d3:=sd 0 1 (by decide) (by decide) (by decide)
  have c1:AJ q (cor ps t.2.1) (cor ps t.2.2)=AJ (cor ps t.2.1) (cor ps t.2.2) q:=by simp only [Ci];grind
  have c2:AJ (cor ps t.1) q (cor ps t.2.2)=AJ (cor ps t.2.2) (cor ps t.1) q:=by simp only [Ci];grind
  exact ⟨by show 0<=AJ q (cor ps t.2.1) (cor ps t.2.2);rw [c1];exact d1,by show 0<=AJ (cor ps t.1) q (cor ps t.2.2);rw [c2];exact d2,d3⟩
theorem GZ.v_lab (S:GZ ps ts ps' ts' mv fam) (ht:t∈ts) (hL:L∈fam t) (hl:l<6) (hu:Gm (fam t) l=true) (h:Lb ps' (C3 mv t L) (JC ps t l)):Cd L l=true:=by
  obtain ⟨l1,l2,l3⟩:=(S.fok t ht).lt L hL
  obtain ⟨e1,e2,e3⟩:=S.v_c3 ht hL
  obtain ⟨h1,h2,h3⟩:=h
  have h1:0<=AJ (JC ps t l) (cor ps' (C3 mv t L).2.1) (cor ps' (C3 mv t L).2.2):=h1
  have h2:0<=AJ (cor ps' (C3 mv t L).1) (JC ps t l) (cor ps' (C3 mv t L).2.2):=h2
  have h3:0<=AJ (cor ps' (C3 mv t L).1) (cor ps' (C3 mv t L).2.1) (JC ps t l):=h3
  rw [e2,e3] at h1
  rw [e1,e3] at h2
  rw [e1,e2] at h3
  have hT:=S.v_pos ht
  refine (S.fok t ht).cls L hL l hl hu ?_
  simp only [XN,Bool.and_eq_true,decide_eq_true_eq]
  exact ⟨⟨Py hT hl l2 l3 h1,Py hT l1 hl l3 h2⟩,Py hT l1 l2 hl h3⟩
theorem Nj (h:Cd t p=true):∃l,l<3/\p=E7 mv t l:=by
  simp only [Cd,Bool.or_eq_true,beq_iff_eq] at h
  rcases h with (h|h)|h
  · exact ⟨0,by decide,h.symm⟩
  · exact ⟨1,by decide,h.symm⟩
  · exact ⟨2,by decide,h.symm⟩
theorem Th (hk:3<=k) (hk6:k<6):∃r,r<3/\Fa s k=BY (crn s r) (crn s ((r+1)%3))/\JC ps s k=Cb (cor ps (crn s r)+cor ps (crn s ((r+1)%3))) (1/2):=by
  have e:k=3\/k=4\/k=5:=by omega
  rcases e with rfl|rfl|rfl
  · exact ⟨0,by decide,rfl,rfl⟩
  · exact ⟨1,by decide,rfl,rfl⟩
  · exact ⟨2,by decide,rfl,rfl⟩
theorem TX {x y:Nat} (hx:Cd t x=true) (hy:Cd t y=true) (hne:x≠y):∃l,3<=l/\l<6/\Fa t l=BY x y:=by
  simp only [Cd,Bool.or_eq_true,beq_iff_eq] at hx hy
  have sy:∀a b,BY a b=BY b a:=λa b=>by unfold BY;rw [Nat.min_comm,Nat.max_comm]
  rcases hx with (hx|hx)|hx<;>rcases hy with (hy|hy)|hy<;>subst hx<;>subst hy
  · exact absurd O hne
  · exact ⟨3,by decide,by decide,rfl⟩
  · exact ⟨5,by decide,by decide,sy _ _⟩
  · exact ⟨3,by decide,by decide,sy _ _⟩
  · exact absurd O hne
  · exact ⟨4,by decide,by decide,rfl⟩
  · exact ⟨5,by decide,by decide,rfl⟩
  · exact ⟨4,by decide,by decide,sy _ _⟩
  · exact absurd O hne
theorem GZ.v_mid (S:GZ ps ts ps' ts' mv fam) (ht:t∈ts) (hs:s∈ts) (hk:3<=k) (hk6:k<6) (hu:Gm (fam s) k=true) (h:Lb ps t (JC ps s k)):∃l,3<=l/\l<6/\Gm (fam t) l=true/\E7 mv t l=E7 mv s k:=by
  obtain ⟨r,hr,e1,e2⟩:=Th (ps:=ps) (s:=s) hk hk6
  obtain ⟨i,hi,rfl⟩:=HS hs
  obtain ⟨j,hj,rfl⟩:=HS ht
  rw [e2] at h
  obtain ⟨a,b⟩:=T0 S.g hi hj hr h
  have hne:crn (ts.getD i (0,0,0)) r≠crn (ts.getD i (0,0,0)) ((r+1)%3):=by
    have hT:=S.tri hs
    have er:r=0\/r=1\/r=2:=by omega
    rcases er with rfl|rfl|rfl
    · exact hT.ab
    · exact hT.bc
    · exact hT.ca
  obtain ⟨l,hl,hl6,e⟩:=TX a b hne
  exact ⟨l,hl,hl6,S.cls _ ht _ hs l k hl hl6 hk hk6 hu (by rw [e,e1])⟩
theorem P7 (hT:0<AJ (cor ps t.1) (cor ps t.2.1) (cor ps t.2.2)) (hl:l<6):Lb ps t (JC ps t l):=by
  have e:l=0\/l=1\/l=2\/l=3\/l=4\/l=5:=by omega
  have k1:0<=D3 l 1 2:=by rcases e with rfl|rfl|rfl|rfl|rfl|rfl<;>decide
  have k2:0<=D3 0 l 2:=by rcases e with rfl|rfl|rfl|rfl|rfl|rfl<;>decide
  have k3:0<=D3 0 1 l:=by rcases e with rfl|rfl|rfl|rfl|rfl|rfl<;>decide
  have d1:0<=AJ (JC ps t l) (JC ps t 1) (JC ps t 2):=HB hT hl (by decide) (by decide) k1
  have d2:0<=AJ (JC ps t 0) (JC ps t l) (JC ps t 2):=HB hT (by decide) hl (by decide) k2
  have d3:0<=AJ (JC ps t 0) (JC ps t 1) (JC ps t l):=HB hT (by decide) (by decide) hl k3
  exact ⟨d1,d2,d3⟩
theorem GZ.v_crn (S:GZ ps ts ps' ts' mv fam) (hc:c∈ts') (hp:p<ps'.length) (h:Lb ps' c (cor ps' p)):Cd c p=true:=by
  obtain ⟨t,ht,L,hL,rfl⟩:=S.v_child hc
  rcases Nat.lt_or_ge p ps.length with hlt|hge
  · have h1:=S.v_up ht hL h
    rw [S.old p hlt] at h1
    obtain ⟨j,hj,rfl⟩:=HS ht
    obtain ⟨l,hl,e⟩:=Nj (mv:=mv) (JD S.g hlt hj h1)
    have hu:=(S.fok _ ht).cor l hl
    rw [e,(S.v_pt ht (show l<6 by omega) hu).2] at h
    rw [e]
    exact NW (S.v_lab ht hL Z hu h)
  · obtain ⟨s,hs,k,hk,hk6,hu,e⟩:=S.new p hge hp
    have e2:=(S.mid s hs k hk hk6 hu).2.2
    rw [e,e2] at h
    obtain ⟨l,hl,hl6,hul,el⟩:=S.v_mid ht hs hk hk6 hu (S.v_up ht hL h)
    have e3:=(S.mid t ht l hl hl6 hul).2.2
    rw [<-e2,<-el,e3] at h
    rw [e,<-el]
    exact NW (S.v_lab ht hL hl6 hul h)
theorem GZ.v_dst (S:GZ ps ts ps' ts' mv fam) {p q:Nat} (hp:p<ps'.length) (hq:q<ps'.length) (h:cor ps' p=cor ps' q):p=q:=by
  have one:∀p q,p<ps.length->ps.length<=q->q<ps'.length->cor ps' p≠cor ps' q:=λp q hp hq hq' h=>by
    obtain ⟨s,hs,k,hk,hk6,hu,e⟩:=S.new q hq hq'
    have e2:=(S.mid s hs k hk hk6 hu).2.2
    rw [e,e2,S.old p hp] at h
    have h1:=P7 (S.v_pos hs) hk6
    rw [<-h] at h1
    obtain ⟨j,hj,rfl⟩:=HS hs
    obtain ⟨l,hl,e4⟩:=Nj (mv:=mv) (JD S.g hp hj h1)
    have e5:=(S.v_pt hs (show l<6 by omega) ((S.fok _ hs).cor l hl)).2
    rw [<-e4,S.old p hp] at e5
    have:=QV (S.v_pos hs) (show l<6 by omega) hk6 (e5.symm.trans h)
    omega
  rcases Nat.lt_or_ge p ps.length with hpl|hpg<;>rcases Nat.lt_or_ge q ps.length with hql|hqg
  · rw [S.old p hpl,S.old q hql] at h
    exact TS S.g hpl hql h
  · exact absurd h (one p q hpl hqg hq)
  · exact absurd h.symm (one q p hql hpg hp)
  · obtain ⟨s,hs,k,hk,hk6,hu,e⟩:=S.new p hpg hp
    obtain ⟨t,ht,l,hl,hl6,hul,e'⟩:=S.new q hqg hq
    have e2:=(S.mid s hs k hk hk6 hu).2.2
    have e3:=(S.mid t ht l hl hl6 hul).2.2
    rw [e,e2,e',e3] at h
    have h1:=P7 (S.v_pos ht) hl6
    rw [<-h] at h1
    obtain ⟨l0,h0,h06,hu0,e0⟩:=S.v_mid ht hs hk hk6 hu h1
    have e4:=(S.mid t ht l0 h0 h06 hu0).2.2
    rw [e0,e2,h] at e4
    have:=QV (S.v_pos ht) hl6 h06 e4
    rw [e,e',<-e0,this]
theorem GZ.v_use (S:GZ ps ts ps' ts' mv fam) (hp:p<ps'.length):∃c∈ts',Cd c p=true:=by
  have fin:∀t∈ts,∀l,Gm (fam t) l=true->∃c∈ts',Cd c (E7 mv t l)=true:=λt ht l hu=>by
    obtain ⟨L,hL,h⟩:=List.any_eq_true.1 hu
    exact ⟨C3 mv t L,by rw [S.cut];exact List.mem_flatMap.2 ⟨t,ht,List.mem_map_of_mem hL⟩,NW h⟩
  rcases Nat.lt_or_ge p ps.length with hlt|hge
  · obtain ⟨j,hj,h⟩:=It S.g hlt
    obtain ⟨l,hl,e⟩:=Nj (mv:=mv) h
    rw [e]
    exact fin _ (E5 hj) l ((S.fok _ (E5 hj)).cor l hl)
  · obtain ⟨s,hs,k,hk,hk6,hu,e⟩:=S.new p hge hp
    rw [e]
    exact fin s hs k hu
theorem GZ.chk {ss':List T3} (S:GZ ps ts ps' ts' mv fam) (hpl:ps'.length<=4096) (htl:ts'.length<=8192) (hsl:ss'.length<=24576) (h0:0<ts'.length) (hz:∀k,B5 (cor ps' k)<=1000) (hn:CN ps'.length ts'=true)
    (hs:∀s∈ss',s.1<ps'.length/\s.2.1<ps'.length/\s.2.2<=255) (hr:ss'.map (λs=>(s.1,s.2.1))=(B0 ts').map λs=>(s.1,s.2.1)):Lv ps' ts' ss' where
  pl:=hpl
  tl:=htl
  t0:=h0
  sl:=hsl
  sz:=hz
  num:=hn
  pos j hj:=by
    obtain ⟨t,ht,L,hL,e⟩:=S.v_child (E5 hj)
    rw [e]
    exact Ni (S.v_cpos ht hL)
  sid j hj:=hs _ (E5 hj)
  use p hp:=by
    obtain ⟨c,hc,h⟩:=S.v_use hp
    obtain ⟨j,hj,e⟩:=HS hc
    exact ⟨j,hj,by rw [e];exact h⟩
  dst:=List.pairwise_iff_getElem.2 λi j hi hj hij e=>by
    have:=S.v_dst hi hj (by unfold cor;rw [List.getD,List.getD,List.getElem?_eq_getElem hi,List.getElem?_eq_getElem hj];exact e)
    omega
  apart i k hi hk:=by
    have h:=List.pairwise_iff_getElem.1 S.v_bb k i Z hi hk
    rw [<-show ts'.getD k (0,0,0)=ts'[k] by rw [List.getD,List.getElem?_eq_getElem Z];rfl,<-show ts'.getD i (0,0,0)=ts'[i] by rw [List.getD,List.getElem?_eq_getElem hi];rfl] at h
    rcases h with h|h
    · rw [XX (A:=Bx ps' (ts'.getD k (0,0,0))) (B:=Bx ps' (ts'.getD i (0,0,0))) h];simp
    · rw [XX (A:=Bx ps' (ts'.getD i (0,0,0))) (B:=Bx ps' (ts'.getD k (0,0,0))) h];simp
  crn i p hi hp hn:=by
    have hm:=E5 hi
    obtain ⟨t,ht,L,hL,e⟩:=S.v_child hm
    refine (Mq (by rw [e];exact S.v_cpos ht hL)).2 λh=>?_
    rw [S.v_crn hm hp h] at hn
    cases hn
  rl:=by have h:=congrArg List.length hr;simpa using h
  rim j hj:=by
    have hl:=congrArg List.length hr
    simp only [List.length_map] at hl
    have h:=congrArg (λl:List (Nat×Nat)=>l[j]?) hr
    simp only [List.getElem?_map,List.getElem?_eq_getElem hj,List.getElem?_eq_getElem (show j<(B0 ts').length by omega),Option.map_some,Option.some.injEq,Prod.mk.injEq] at h
    rw [List.getD,List.getD,List.getElem?_eq_getElem hj,List.getElem?_eq_getElem (show j<(B0 ts').length by omega)]
    exact h
end
end
section
def aU (u v p:Pt):Prop:=AJ u v p=0/\¬PY p (ao u v)/\¬PY (ae u v) p
instance (u v p:Pt):Decidable (aU u v p):=by unfold aU;infer_instance
section
variable {u v p q:Pt}
end
section
variable {ps:List Pt} {ts:List T3}
end
end
section
abbrev EC (ps:List Pt) (l:List E4):List (P2×Nat):=BE ps.length l l.length
structure F9 (ps:List Pt) (ts ss:List T3) (l:List E4) (ms:List Int):Prop where
  g:F0 ps ts
  hn:CN ps.length ts=true
  sd:∃mm,ss=Fs mm ts ps.length ps.length
  cut:∃p:E4->Bool,l=(Bq ts).filter p/\∀e,p e=true↔IW ts (Ls ts ms) (e.a,e.b)
section
variable {ps:List Pt} {es:List E4} {N:Nat} {ss:List T3}
theorem J7:∀i,i<=es.length->Iv ps es i=ps++(es.take i).map (Y1 ps)
  | 0,_=>by simp [Iv]
  | i+1,h=>by
    rw [Iv,J7 i Z,Dx (d:=E0) (show i<es.length by omega),List.map_append,List.append_assoc];rfl
theorem YB {i:Nat} (h:i<ps.length):(Dn ps es).getD i ⟨0,0⟩=ps.getD i ⟨0,0⟩:=by
  unfold Dn
  rw [J7 _ (Nat.le_refl _),List.getD,List.getElem?_append_left h];rfl
theorem Sr {j:Nat} (h:j<es.length):(Dn ps es).getD (ps.length+j) ⟨0,0⟩=Y1 ps (es.getD j E0):=by
  unfold Dn
  rw [J7 _ (Nat.le_refl _),List.take_length,List.getD,List.getElem?_append_right Z,show ps.length+j-ps.length=j by omega,List.getElem?_map,List.getD,List.getElem?_eq_getElem h];rfl
theorem LV {k:P2} (hk:k.2<N):∀i,Ae (Dt N ss es i) k=Ae (FN N ss ss.length) k
  | 0=>rfl
  | i+1=>by
    have ne:∀a,k≠BY a (N+i):=λa e=>by
      rw [e] at hk
      unfold BY at hk
      simp only at hk
      omega
    show Ae (BU (BU _ _ _) _ _) k=_
    rw [Bw,if_neg (ne _),Bw,if_neg (ne _),LV hk i]
theorem OI {j x:Nat} (hj:(es.getD j E0).a<N/\(es.getD j E0).b<N) (hx:x=(es.getD j E0).a\/x=(es.getD j E0).b):∀i,j<i->Ae (Dt N ss es i) (x,N+j)=some ((Ae (FN N ss ss.length) (BY (es.getD j E0).a (es.getD j E0).b)).getD 0)
  | 0,h=>absurd h (Nat.not_lt_zero _)
  | i+1,h=>by
    show Ae (BU (BU _ _ _) _ _) _=_
    rw [Bw,Bw]
    rcases Nat.lt_or_ge j i with h1|h1
    · have ne:∀a,((x,N+j):P2)≠BY a (N+i):=λa e=>by
        have:=congrArg Prod.snd e
        unfold BY at this
        simp only at this
        omega
      rw [if_neg (ne _),if_neg (ne _),OI hj hx i h1]
    · have e:i=j:=by omega
      subst e
      have hv:=LV (ss:=ss) (es:=es) (N:=N) (k:=BY (es.getD i E0).a (es.getD i E0).b) (by unfold BY;simp only;omega) i
      rw [hv,(GI hj.1 (Nat.le_add_right N i)).2,(GI hj.2 (Nat.le_add_right N i)).2]
      split
      · rfl
      · rename_i h2
        rw [if_pos]
        rcases hx with rfl|rfl
        · rfl
        · exact absurd O h2
end
section
variable {ps:List Pt} {ts ss:List T3} {l:List E4} {ms:List Int}
theorem F9.k_hN (D:F9 ps ts ss l ms):ps.length<=108:=D.g.pl
theorem F9.k_get (D:F9 ps ts ss l ms) {k:P2} {n:Nat} (h:Ae (EC ps l) k=some n):IW ts (Ls ts ms) k/\∃j,j<l.length/\n=ps.length+j/\k=((l.getD j E0).a,(l.getD j E0).b)/\(l.getD j E0).a<ps.length/\(l.getD j E0).b<ps.length:=by
  obtain ⟨p,hl,ha⟩:=D.cut
  have hN:=D.k_hN
  obtain ⟨j,hj,hk,hn⟩:=EO _ h
  have hm:l.getD j E0∈l:=by rw [List.getD,List.getElem?_eq_getElem hj];exact List.getElem_mem _
  have hs:=(Hs D.hn Z hl).2 _ hm
  have h2:=GV D.hn Z hl _ hm
  have e:BY (l.getD j E0).a (l.getD j E0).b=((l.getD j E0).a,(l.getD j E0).b):=by
    unfold BY
    rw [Nat.min_eq_left Z,Nat.max_eq_right Z]
  rw [e] at hk
  refine ⟨?_,j,hj,hn,hk.symm,h2⟩
  rw [<-hk]
  rw [hl] at hm
  have:=(List.mem_filter.1 hm).2
  rw [<-hl] at this
  exact (ha _).1 this
theorem F9.k_mid (D:F9 ps ts ss l ms):R0 (EC ps l) ps.length:=⟨λk n h=>by
  obtain ⟨_,j,_,hn,_⟩:=D.k_get h
  omega,λk k' n h h'=>Decidable.byContradiction λhc=>Sj h h' hc rfl⟩
theorem F9.k_closed (D:F9 ps ts ss l ms) {t:T3} (ht:t∈ts) (hb:Ae (EC ps l) (Bh t)=none):Ae (EC ps l) (BY t.1 t.2.1)=none/\Ae (EC ps l) (BY t.2.2 t.1)=none:=by
  obtain ⟨p,hl,ha⟩:=D.cut
  have hN:=D.k_hN
  have key:∀k,(k=BY t.1 t.2.1\/k=BY t.2.2 t.1)->Ae (EC ps l) k=none:=λk hk=>by
    cases hg:Ae (EC ps l) k with
    | none=>rfl
    | some n =>
      obtain ⟨n',hn'⟩:=Uv (M:=ps.length) D.hn Z hl ha (QJ ht).2.1 (.up ht (D.k_get hg).1 hk)
      have hn':Ae (EC ps l) (Bh t)=some n':=hn'
      rw [hb] at hn'
      cases hn'
  exact ⟨key _ (.inl O),key _ (.inr O)⟩
theorem F9.k_llen (D:F9 ps ts ss l ms):l.length<=108:=by
  obtain ⟨p,hl,ha⟩:=D.cut
  have h1:=Mt hl
  have h2:=Km ts
  have h3:=D.g.tl
  omega
theorem F9.k_num (D:F9 ps ts ss l ms):CN (ps.length+l.length) (Et (EC ps l) ts)=true:=Qr D.hn
end
end
section
section
variable {f g:Nat->Nat} {K:Nat}
end
section
variable {ps pf:List Pt} {fs:List T3} {k:T3} {i:Nat}
end
section
variable {ps:List Pt} {ts ss:List T3} {l:List E4} {ms:List Int}
end
end
end Go.Proofs.YtfbomiejpbchdaaGreat
