import Derived.Test.YtpgncndhhhllfaaGreatDoorPart30
import Derived.Test.YtpgncndhhhllfaaGreatDoorPart31
namespace Go.Proofs.YtpgncndhhhllfaaGreatDoor
open Go Go.RowKit Go.Proofs.Tryz
set_option linter.unusedVariables false
set_option linter.unusedSimpArgs false
section
theorem ZH {q:Rat}:0<q.num.sign↔0<q:=by
  rcases HT 0 q with h|h
  · rw [NW h];exact ⟨λ_=>h,λ_=>by decide⟩
  · by_cases e:q=0
    · rw [O3 e,e];decide
    · rw [Ru (q:=q) (by grind)];exact ⟨λk=>absurd k (by decide),λk=>by grind⟩
theorem Ix {q:Rat}:q.num.sign = -1↔q<0:=by
  rcases HT 0 q with h|h
  · rw [NW h];exact ⟨λk=>absurd k (by decide),λk=>by grind⟩
  · by_cases e:q=0
    · rw [O3 e,e];decide
    · have:q<0:=by grind
      rw [Ru this];exact ⟨λ_=>this,λ_=>rfl⟩
theorem Pd {p q:Pt} {B:Q3} (h:AX p q B.1<=0/\AX p q B.2.1<=0/\AX p q B.2.2<=0):GS p q B=false:=by
  have k:∀r,AX p q r<=0->NY p q r=false:=λr hr=>decide_eq_false (by rw [ZH];grind)
  unfold GS
  rw [k _ h.1,k _ h.2.1,k _ h.2.2];rfl
theorem Yw {A B:Q3} (h:PT A.1 A.2.1 A.2.2 B.1 B.2.1 B.2.2):EW A B=true:=by
  unfold EW
  rcases h with h|h|h
  · rw [Pd h];rfl
  · rw [Pd (p:=A.2.1) (q:=A.2.2) h];simp
  · rw [Pd (p:=A.2.2) (q:=A.1) h];simp
theorem S8 {ps:List Pt} {t:T3} {q:Pt} (hT:0<AX (cor ps t.1) (cor ps t.2.1) (cor ps t.2.2)):KF ps q t=0↔¬Lf ps t q:=by
  have hd:∀z,0<=z/AX (cor ps t.1) (cor ps t.2.1) (cor ps t.2.2)↔0<=z:=λz=>by
    have e:z/AX (cor ps t.1) (cor ps t.2.1) (cor ps t.2.2)*AX (cor ps t.1) (cor ps t.2.1) (cor ps t.2.2)=z:=Rat.div_mul_cancel (by grind)
    generalize z/AX (cor ps t.1) (cor ps t.2.1) (cor ps t.2.2)=w at *
    exact ⟨λk=>by rw [<-e];exact Rat.mul_nonneg k (by grind),λk=>by rw [<-e] at k;exact Ho hT k⟩
  have h1:KF ps q t=GP (AX q (cor ps t.2.1) (cor ps t.2.2)/AX (cor ps t.1) (cor ps t.2.1) (cor ps t.2.2)) (AX (cor ps t.1) q (cor ps t.2.2)/AX (cor ps t.1) (cor ps t.2.1) (cor ps t.2.2)) (AX (cor ps t.1) (cor ps t.2.1) q/AX (cor ps t.1) (cor ps t.2.1) (cor ps t.2.2)):=if_neg (λe=>by rw [e] at hT;exact absurd hT Rat.lt_irrefl)
  have h2:∀{x y z:Rat},GP x y z=0↔¬(0<=x/\0<=y/\0<=z):=λ{x y z}=>by
    unfold GP
    split
    · rename_i h
      rw [Ix,Ix,Ix] at h
      exact ⟨λ_=>by grind,λ_=>rfl⟩
    · rename_i h
      rw [Ix,Ix,Ix] at h
      exact ⟨λh=>by omega,λh=>by exfalso;apply h;grind⟩
  rw [h1,h2,hd,hd,hd]
  exact Iff.rfl
def GE (mv:Nat->Nat->Nat) (t:T3) (l:Nat):Nat:=if l=0 then t.1 else if l=1 then t.2.1 else if l=2 then t.2.2 else if l=3 then mv t.1 t.2.1 else if l=4 then mv t.2.1 t.2.2 else mv t.2.2 t.1
def Fu (mv:Nat->Nat->Nat) (t L:T3):T3:=(GE mv t L.1,GE mv t L.2.1,GE mv t L.2.2)
def Yp (t:T3) (l:Nat):P2:=if l=3 then CT t.1 t.2.1 else if l=4 then CT t.2.1 t.2.2 else CT t.2.2 t.1
def K8 (ps:List Pt) (t:T3) (l:Nat):Pt:=LP (cor ps t.1) (cor ps t.2.1) (cor ps t.2.2) l
structure IV (ps:List Pt) (ts:List T3) (ps':List Pt) (ts':List T3) (mv:Nat->Nat->Nat) (fam:T3->List T3):Prop where
  g:FJ ps ts
  cut:ts'=ts.flatMap λt=>(fam t).map (Fu mv t)
  fok:∀t∈ts,UJ (fam t)
  len:ps.length<=ps'.length
  old:∀p,p<ps.length->cor ps' p=cor ps p
  mid:∀t∈ts,∀l,3<=l->l<6->Gc (fam t) l=true->ps.length<=GE mv t l/\GE mv t l<ps'.length/\cor ps' (GE mv t l)=K8 ps t l
  new:∀p,ps.length<=p->p<ps'.length->∃t∈ts,∃l,3<=l/\l<6/\Gc (fam t) l=true/\p=GE mv t l
  cls:∀t∈ts,∀s∈ts,∀l k,3<=l->l<6->3<=k->k<6->Gc (fam s) k=true->Yp t l=Yp s k->Gc (fam t) l=true/\GE mv t l=GE mv s k
theorem P5 {fam:List T3} {L:T3} {l:Nat} (hL:L∈fam) (h:CS L l=true):Gc fam l=true:=List.any_eq_true.2 ⟨L,hL,h⟩
theorem dO (L:T3):CS L L.1=true/\CS L L.2.1=true/\CS L L.2.2=true:=by simp [CS]
theorem Nq {mv:Nat->Nat->Nat} {t L:T3} {l:Nat} (h:CS L l=true):CS (Fu mv t L) (GE mv t l)=true:=by
  simp only [CS,Bool.or_eq_true,beq_iff_eq] at h ⊢
  rcases h with (h|h)|h
  · left;left;show GE mv t L.1=_;rw [h]
  · left;right;show GE mv t L.2.1=_;rw [h]
  · right;show GE mv t L.2.2=_;rw [h]
section
variable {ps ps':List Pt} {ts ts':List T3} {mv:Nat->Nat->Nat} {fam:T3->List T3} {t s c L:T3} {l k p:Nat}
theorem HJ (h:t∈ts):∃j,j<ts.length/\ts.getD j (0,0,0)=t:=by
  obtain ⟨j,hj,e⟩:=List.getElem_of_mem h
  exact ⟨j,hj,by rw [List.getD,List.getElem?_eq_getElem hj];exact e⟩
theorem Hy {j:Nat} (h:j<ts.length):ts.getD j (0,0,0)∈ts:=by rw [List.getD,List.getElem?_eq_getElem h];exact List.getElem_mem h
theorem IV.tri (S:IV ps ts ps' ts' mv fam) (ht:t∈ts):an ps t:=by
  obtain ⟨j,hj,rfl⟩:=HJ ht
  exact S.g.tri j hj
theorem IV.v_pos (S:IV ps ts ps' ts' mv fam) (ht:t∈ts):0<AX (cor ps t.1) (cor ps t.2.1) (cor ps t.2.2):=(S.tri ht).pos
theorem IV.v_pt (S:IV ps ts ps' ts' mv fam) (ht:t∈ts) (hl:l<6) (hu:Gc (fam t) l=true):GE mv t l<ps'.length/\cor ps' (GE mv t l)=K8 ps t l:=by
  have h:=S.tri ht
  have hle:=S.len
  rcases Nat.lt_or_ge l 3 with h3|h3
  · have e:l=0\/l=1\/l=2:=by omega
    rcases e with rfl|rfl|rfl
    · exact ⟨Nat.lt_of_lt_of_le h.a hle,S.old _ h.a⟩
    · exact ⟨Nat.lt_of_lt_of_le h.b hle,S.old _ h.b⟩
    · exact ⟨Nat.lt_of_lt_of_le h.c hle,S.old _ h.c⟩
  · exact (S.mid t ht l h3 hl hu).2
theorem IV.v_child (S:IV ps ts ps' ts' mv fam) (hc:c∈ts'):∃t∈ts,∃L∈fam t,c=Fu mv t L:=by
  rw [S.cut] at hc
  obtain ⟨t,ht,hc⟩:=List.mem_flatMap.1 hc
  obtain ⟨L,hL,e⟩:=List.mem_map.1 hc
  exact ⟨t,ht,L,hL,e.symm⟩
theorem IV.v_c3 (S:IV ps ts ps' ts' mv fam) (ht:t∈ts) (hL:L∈fam t):cor ps' (Fu mv t L).1=K8 ps t L.1/\cor ps' (Fu mv t L).2.1=K8 ps t L.2.1/\cor ps' (Fu mv t L).2.2=K8 ps t L.2.2:=by
  obtain ⟨h1,h2,h3⟩:=(S.fok t ht).lt L hL
  obtain ⟨u1,u2,u3⟩:=dO L
  exact ⟨(S.v_pt ht h1 (P5 hL u1)).2,(S.v_pt ht h2 (P5 hL u2)).2,(S.v_pt ht h3 (P5 hL u3)).2⟩
theorem IV.v_cpos (S:IV ps ts ps' ts' mv fam) (ht:t∈ts) (hL:L∈fam t):0<AX (cor ps' (Fu mv t L).1) (cor ps' (Fu mv t L).2.1) (cor ps' (Fu mv t L).2.2):=by
  obtain ⟨h1,h2,h3⟩:=(S.fok t ht).lt L hL
  obtain ⟨e1,e2,e3⟩:=S.v_c3 ht hL
  rw [e1,e2,e3]
  exact Yu (S.v_pos ht) h1 h2 h3 ((S.fok t ht).pos L hL)
def BB (ps:List Pt) (c d:T3):Prop:=PT (cor ps c.1) (cor ps c.2.1) (cor ps c.2.2) (cor ps d.1) (cor ps d.2.1) (cor ps d.2.2)\/PT (cor ps d.1) (cor ps d.2.1) (cor ps d.2.2) (cor ps c.1) (cor ps c.2.1) (cor ps c.2.2)
theorem Rz {a b c:Pt} {M:T3} (hT:0<AX a b c) (hL:L.1<6/\L.2.1<6/\L.2.2<6) (hM:M.1<6/\M.2.1<6/\M.2.2<6) (h:S7 L M=true):PT (LP a b c L.1) (LP a b c L.2.1) (LP a b c L.2.2) (LP a b c M.1) (LP a b c M.2.1) (LP a b c M.2.2):=by
  simp only [S7,X2,Bool.or_eq_true,Bool.and_eq_true,decide_eq_true_eq] at h
  rcases h with (⟨⟨h1,h2⟩,h3⟩|⟨⟨h1,h2⟩,h3⟩)|⟨⟨h1,h2⟩,h3⟩
  · exact .inl ⟨GB hT hL.1 hL.2.1 hM.1 h1,GB hT hL.1 hL.2.1 hM.2.1 h2,GB hT hL.1 hL.2.1 hM.2.2 h3⟩
  · exact .inr (.inl ⟨GB hT hL.2.1 hL.2.2 hM.1 h1,GB hT hL.2.1 hL.2.2 hM.2.1 h2,GB hT hL.2.1 hL.2.2 hM.2.2 h3⟩)
  · exact .inr (.inr ⟨GB hT hL.2.2 hL.1 hM.1 h1,GB hT hL.2.2 hL.1 hM.2.1 h2,GB hT hL.2.2 hL.1 hM.2.2 h3⟩)
theorem IV.v_bb (S:IV ps ts ps' ts' mv fam):ts'.Pairwise (BB ps'):=by
  rw [S.cut]
  refine List.pairwise_flatMap.2 ⟨λt ht=>?_,?_⟩
  · refine List.pairwise_map.2 ((S.fok t ht).sep.imp_of_mem λ{L M} hL hM h=>?_)
    obtain ⟨e1,e2,e3⟩:=S.v_c3 ht hL
    obtain ⟨f1,f2,f3⟩:=S.v_c3 ht hM
    unfold BB
    rw [e1,e2,e3,f1,f2,f3]
    rw [Bool.or_eq_true] at h
    exact h.imp (Rz (S.v_pos ht) ((S.fok t ht).lt L hL) ((S.fok t ht).lt M hM)) (Rz (S.v_pos ht) ((S.fok t ht).lt M hM) ((S.fok t ht).lt L hL))
  · have base:ts.Pairwise (Ln ps):=List.pairwise_iff_getElem.2 λi j hi hj hij=>by
      have h:=Ux S.g hi hj Z
      rwa [List.getD,List.getD,List.getElem?_eq_getElem hi,List.getElem?_eq_getElem hj] at h
    refine base.imp_of_mem λ{t s} ht hs ⟨u,k,hu,⟨h1,h2,h3⟩,h4,h5,h6⟩ x hx y hy=>?_
    obtain ⟨L,hL,rfl⟩:=List.mem_map.1 hx
    obtain ⟨M,hM,rfl⟩:=List.mem_map.1 hy
    obtain ⟨l1,l2,l3⟩:=(S.fok t ht).lt L hL
    obtain ⟨m1,m2,m3⟩:=(S.fok s hs).lt M hM
    obtain ⟨e1,e2,e3⟩:=S.v_c3 ht hL
    obtain ⟨f1,f2,f3⟩:=S.v_c3 hs hM
    have a:=S.v_cpos ht hL
    have b:=S.v_cpos hs hM
    refine de a b hu (k:=k) ?_
    rw [e1,e2,e3,f1,f2,f3]
    exact ⟨⟨Nf l1 h1 h2 h3,Nf l2 h1 h2 h3,Nf l3 h1 h2 h3⟩,Mz m1 h4 h5 h6,Mz m2 h4 h5 h6,Mz m3 h4 h5 h6⟩
theorem IV.v_up (S:IV ps ts ps' ts' mv fam) (ht:t∈ts) (hL:L∈fam t) {q:Pt} (h:Lf ps' (Fu mv t L) q):Lf ps t q:=by
  obtain ⟨l1,l2,l3⟩:=(S.fok t ht).lt L hL
  obtain ⟨e1,e2,e3⟩:=S.v_c3 ht hL
  have hc:=S.v_cpos ht hL
  obtain ⟨h1,h2,h3⟩:=h
  have hT:=S.v_pos ht
  have sd:∀i j:Nat,i<6->j<6->(∀l,l<6->0<=D3 i j l)->0<=AX (K8 ps t i) (K8 ps t j) q:=λi j hi hj hd =>
    YE hc h1 h2 h3 (by rw [e1];exact HF hT hi hj l1 (hd _ l1)) (by rw [e2];exact HF hT hi hj l2 (hd _ l2)) (by rw [e3];exact HF hT hi hj l3 (hd _ l3))
  have d1:=sd 1 2 (by decide) (by decide) (by decide)
  have d2:=sd 2 0 (by decide) (by decide) (by decide)
  have d3:=sd 0 1 (by decide) (by decide) (by decide)
  have c1:AX q (cor ps t.2.1) (cor ps t.2.2)=AX (cor ps t.2.1) (cor ps t.2.2) q:=by simp only [Ca];grind
  have c2:AX (cor ps t.1) q (cor ps t.2.2)=AX (cor ps t.2.2) (cor ps t.1) q:=by simp only [Ca];grind
  exact ⟨by show 0<=AX q (cor ps t.2.1) (cor ps t.2.2);rw [c1];exact d1,by show 0<=AX (cor ps t.1) q (cor ps t.2.2);rw [c2];exact d2,d3⟩
theorem IV.v_lab (S:IV ps ts ps' ts' mv fam) (ht:t∈ts) (hL:L∈fam t) (hl:l<6) (hu:Gc (fam t) l=true) (h:Lf ps' (Fu mv t L) (K8 ps t l)):CS L l=true:=by
  obtain ⟨l1,l2,l3⟩:=(S.fok t ht).lt L hL
  obtain ⟨e1,e2,e3⟩:=S.v_c3 ht hL
  obtain ⟨h1,h2,h3⟩:=h
  have h1:0<=AX (K8 ps t l) (cor ps' (Fu mv t L).2.1) (cor ps' (Fu mv t L).2.2):=h1
  have h2:0<=AX (cor ps' (Fu mv t L).1) (K8 ps t l) (cor ps' (Fu mv t L).2.2):=h2
  have h3:0<=AX (cor ps' (Fu mv t L).1) (cor ps' (Fu mv t L).2.1) (K8 ps t l):=h3
  rw [e2,e3] at h1
  rw [e1,e3] at h2
  rw [e1,e2] at h3
  have hT:=S.v_pos ht
  refine (S.fok t ht).cls L hL l hl hu ?_
  simp only [YC,Bool.and_eq_true,decide_eq_true_eq]
  exact ⟨⟨Pk hT hl l2 l3 h1,Pk hT l1 hl l3 h2⟩,Pk hT l1 l2 hl h3⟩
theorem NN (h:CS t p=true):∃l,l<3/\p=GE mv t l:=by
  simp only [CS,Bool.or_eq_true,beq_iff_eq] at h
  rcases h with (h|h)|h
  · exact ⟨0,by decide,h.symm⟩
  · exact ⟨1,by decide,h.symm⟩
  · exact ⟨2,by decide,h.symm⟩
theorem Wh (hk:3<=k) (hk6:k<6):∃r,r<3/\Yp s k=CT (crn s r) (crn s ((r+1)%3))/\K8 ps s k=Hu (cor ps (crn s r)+cor ps (crn s ((r+1)%3))) (1/2):=by
  have e:k=3\/k=4\/k=5:=by omega
  rcases e with rfl|rfl|rfl
  · exact ⟨0,by decide,rfl,rfl⟩
  · exact ⟨1,by decide,rfl,rfl⟩
  · exact ⟨2,by decide,rfl,rfl⟩
theorem WL {x y:Nat} (hx:CS t x=true) (hy:CS t y=true) (hne:x≠y):∃l,3<=l/\l<6/\Yp t l=CT x y:=by
  simp only [CS,Bool.or_eq_true,beq_iff_eq] at hx hy
  have sy:∀a b,CT a b=CT b a:=λa b=>by unfold CT;rw [Nat.min_comm,Nat.max_comm]
  rcases hx with (hx|hx)|hx<;>rcases hy with (hy|hy)|hy<;>subst hx<;>subst hy
  · exact absurd O hne
  · exact ⟨3,by decide,by decide,rfl⟩
  · exact ⟨5,by decide,by decide,sy _ _⟩
  · exact ⟨3,by decide,by decide,sy _ _⟩
  · exact absurd O hne
  · exact ⟨4,by decide,by decide,rfl⟩
  · exact ⟨5,by decide,by decide,rfl⟩
  · exact ⟨4,by decide,by decide,sy _ _⟩
  · exact absurd O hne
theorem IV.v_mid (S:IV ps ts ps' ts' mv fam) (ht:t∈ts) (hs:s∈ts) (hk:3<=k) (hk6:k<6) (hu:Gc (fam s) k=true) (h:Lf ps t (K8 ps s k)):∃l,3<=l/\l<6/\Gc (fam t) l=true/\GE mv t l=GE mv s k:=by
  obtain ⟨r,hr,e1,e2⟩:=Wh (ps:=ps) (s:=s) hk hk6
  obtain ⟨i,hi,rfl⟩:=HJ hs
  obtain ⟨j,hj,rfl⟩:=HJ ht
  rw [e2] at h
  obtain ⟨a,b⟩:=Vs S.g hi hj hr h
  have hne:crn (ts.getD i (0,0,0)) r≠crn (ts.getD i (0,0,0)) ((r+1)%3):=by
    have hT:=S.tri hs
    have er:r=0\/r=1\/r=2:=by omega
    rcases er with rfl|rfl|rfl
    · exact hT.ab
    · exact hT.bc
    · exact hT.ca
  obtain ⟨l,hl,hl6,e⟩:=WL a b hne
  exact ⟨l,hl,hl6,S.cls _ ht _ hs l k hl hl6 hk hk6 hu (by rw [e,e1])⟩
theorem WB (hT:0<AX (cor ps t.1) (cor ps t.2.1) (cor ps t.2.2)) (hl:l<6):Lf ps t (K8 ps t l):=by
  have e:l=0\/l=1\/l=2\/l=3\/l=4\/l=5:=by omega
  have k1:0<=D3 l 1 2:=by rcases e with rfl|rfl|rfl|rfl|rfl|rfl<;>decide
  have k2:0<=D3 0 l 2:=by rcases e with rfl|rfl|rfl|rfl|rfl|rfl<;>decide
  have k3:0<=D3 0 1 l:=by rcases e with rfl|rfl|rfl|rfl|rfl|rfl<;>decide
  have d1:0<=AX (K8 ps t l) (K8 ps t 1) (K8 ps t 2):=HF hT hl (by decide) (by decide) k1
  have d2:0<=AX (K8 ps t 0) (K8 ps t l) (K8 ps t 2):=HF hT (by decide) hl (by decide) k2
  have d3:0<=AX (K8 ps t 0) (K8 ps t 1) (K8 ps t l):=HF hT (by decide) (by decide) hl k3
  exact ⟨d1,d2,d3⟩
theorem IV.v_crn (S:IV ps ts ps' ts' mv fam) (hc:c∈ts') (hp:p<ps'.length) (h:Lf ps' c (cor ps' p)):CS c p=true:=by
  obtain ⟨t,ht,L,hL,rfl⟩:=S.v_child hc
  rcases Nat.lt_or_ge p ps.length with hlt|hge
  · have h1:=S.v_up ht hL h
    rw [S.old p hlt] at h1
    obtain ⟨j,hj,rfl⟩:=HJ ht
    obtain ⟨l,hl,e⟩:=NN (mv:=mv) (JC S.g hlt hj h1)
    have hu:=(S.fok _ ht).cor l hl
    rw [e,(S.v_pt ht (show l<6 by omega) hu).2] at h
    rw [e]
    exact Nq (S.v_lab ht hL Z hu h)
  · obtain ⟨s,hs,k,hk,hk6,hu,e⟩:=S.new p hge hp
    have e2:=(S.mid s hs k hk hk6 hu).2.2
    rw [e,e2] at h
    obtain ⟨l,hl,hl6,hul,el⟩:=S.v_mid ht hs hk hk6 hu (S.v_up ht hL h)
    have e3:=(S.mid t ht l hl hl6 hul).2.2
    rw [<-e2,<-el,e3] at h
    rw [e,<-el]
    exact Nq (S.v_lab ht hL hl6 hul h)
theorem IV.v_dst (S:IV ps ts ps' ts' mv fam) {p q:Nat} (hp:p<ps'.length) (hq:q<ps'.length) (h:cor ps' p=cor ps' q):p=q:=by
  have one:∀p q,p<ps.length->ps.length<=q->q<ps'.length->cor ps' p≠cor ps' q:=λp q hp hq hq' h=>by
    obtain ⟨s,hs,k,hk,hk6,hu,e⟩:=S.new q hq hq'
    have e2:=(S.mid s hs k hk hk6 hu).2.2
    rw [e,e2,S.old p hp] at h
    have h1:=WB (S.v_pos hs) hk6
    rw [<-h] at h1
    obtain ⟨j,hj,rfl⟩:=HJ hs
    obtain ⟨l,hl,e4⟩:=NN (mv:=mv) (JC S.g hp hj h1)
    have e5:=(S.v_pt hs (show l<6 by omega) ((S.fok _ hs).cor l hl)).2
    rw [<-e4,S.old p hp] at e5
    have:=Rn (S.v_pos hs) (show l<6 by omega) hk6 (e5.symm.trans h)
    omega
  rcases Nat.lt_or_ge p ps.length with hpl|hpg<;>rcases Nat.lt_or_ge q ps.length with hql|hqg
  · rw [S.old p hpl,S.old q hql] at h
    exact UY S.g hpl hql h
  · exact absurd h (one p q hpl hqg hq)
  · exact absurd h.symm (one q p hql hpg hp)
  · obtain ⟨s,hs,k,hk,hk6,hu,e⟩:=S.new p hpg hp
    obtain ⟨t,ht,l,hl,hl6,hul,e'⟩:=S.new q hqg hq
    have e2:=(S.mid s hs k hk hk6 hu).2.2
    have e3:=(S.mid t ht l hl hl6 hul).2.2
    rw [e,e2,e',e3] at h
    have h1:=WB (S.v_pos ht) hl6
    rw [<-h] at h1
    obtain ⟨l0,h0,h06,hu0,e0⟩:=S.v_mid ht hs hk hk6 hu h1
    have e4:=(S.mid t ht l0 h0 h06 hu0).2.2
    rw [e0,e2,h] at e4
    have:=Rn (S.v_pos ht) hl6 h06 e4
    rw [e,e',<-e0,this]
theorem IV.v_use (S:IV ps ts ps' ts' mv fam) (hp:p<ps'.length):∃c∈ts',CS c p=true:=by
  have fin:∀t∈ts,∀l,Gc (fam t) l=true->∃c∈ts',CS c (GE mv t l)=true:=λt ht l hu=>by
    obtain ⟨L,hL,h⟩:=List.any_eq_true.1 hu
    exact ⟨Fu mv t L,by rw [S.cut];exact List.mem_flatMap.2 ⟨t,ht,List.mem_map_of_mem hL⟩,Nq h⟩
  rcases Nat.lt_or_ge p ps.length with hlt|hge
  · obtain ⟨j,hj,h⟩:=Ii S.g hlt
    obtain ⟨l,hl,e⟩:=NN (mv:=mv) h
    rw [e]
    exact fin _ (Hy hj) l ((S.fok _ (Hy hj)).cor l hl)
  · obtain ⟨s,hs,k,hk,hk6,hu,e⟩:=S.new p hge hp
    rw [e]
    exact fin s hs k hu
theorem IV.chk {ss':List T3} (S:IV ps ts ps' ts' mv fam) (hpl:ps'.length<=4096) (htl:ts'.length<=8192) (hsl:ss'.length<=24576) (h0:0<ts'.length) (hz:∀k,B_ (cor ps' k)<=1000) (hn:By ps'.length ts'=true)
    (hs:∀s∈ss',s.1<ps'.length/\s.2.1<ps'.length/\s.2.2<=255) (hr:ss'.map (λs=>(s.1,s.2.1))=(Bi ts').map λs=>(s.1,s.2.1)):Jc ps' ts' ss' where
  pl:=hpl
  tl:=htl
  t0:=h0
  sl:=hsl
  sz:=hz
  num:=hn
  pos j hj:=by
    obtain ⟨t,ht,L,hL,e⟩:=S.v_child (Hy hj)
    rw [e]
    exact NW (S.v_cpos ht hL)
  sid j hj:=hs _ (Hy hj)
  use p hp:=by
    obtain ⟨c,hc,h⟩:=S.v_use hp
    obtain ⟨j,hj,e⟩:=HJ hc
    exact ⟨j,hj,by rw [e];exact h⟩
  dst:=List.pairwise_iff_getElem.2 λi j hi hj hij e=>by
    have:=S.v_dst hi hj (by unfold cor;rw [List.getD,List.getD,List.getElem?_eq_getElem hi,List.getElem?_eq_getElem hj];exact e)
    omega
  apart i k hi hk:=by
    have h:=List.pairwise_iff_getElem.1 S.v_bb k i Z hi hk
    rw [<-show ts'.getD k (0,0,0)=ts'[k] by rw [List.getD,List.getElem?_eq_getElem Z];rfl,<-show ts'.getD i (0,0,0)=ts'[i] by rw [List.getD,List.getElem?_eq_getElem hi];rfl] at h
    rcases h with h|h
    · rw [Yw (A:=Bl ps' (ts'.getD k (0,0,0))) (B:=Bl ps' (ts'.getD i (0,0,0))) h];simp
    · rw [Yw (A:=Bl ps' (ts'.getD i (0,0,0))) (B:=Bl ps' (ts'.getD k (0,0,0))) h];simp
  crn i p hi hp hn:=by
    have hm:=Hy hi
    obtain ⟨t,ht,L,hL,e⟩:=S.v_child hm
    refine (S8 (by rw [e];exact S.v_cpos ht hL)).2 λh=>?_
    rw [S.v_crn hm hp h] at hn
    cases hn
  rl:=by have h:=congrArg List.length hr;simpa using h
  rim j hj:=by
    have hl:=congrArg List.length hr
    simp only [List.length_map] at hl
    have h:=congrArg (λl:List (Nat×Nat)=>l[j]?) hr
    simp only [List.getElem?_map,List.getElem?_eq_getElem hj,List.getElem?_eq_getElem (show j<(Bi ts').length by omega),Option.map_some,Option.some.injEq,Prod.mk.injEq] at h
    rw [List.getD,List.getD,List.getElem?_eq_getElem hj,List.getElem?_eq_getElem (show j<(Bi ts').length by omega)]
    exact h
end
end
section
section
variable {ps:List Pt} {ts ss:List T3} {c:T3}
def QF (b:Nat):T3:=if b=0 then (0,1,2) else if b=1 then (1,2,0) else (2,0,1)
theorem Xv (b:Nat):UJ [QF b]:=by
  unfold QF
  split
  · exact O9 (by decide) (by decide)
  · split<;>exact O9 (by decide) (by decide)
theorem OF (b:Nat) {l:Nat} (h3:3<=l):Gc [QF b] l=false:=by
  unfold QF
  have e:∀x,x<3->¬x=l:=λx hx=>by omega
  split
  · simp [Gc,CS];omega
  · split<;>(simp [Gc,CS];omega)
theorem UU (mv:Nat->Nat->Nat) (t:T3) {b:Nat} (hb:b<3):Fu mv t (QF b)=L3 t b:=by
  have e:b=0\/b=1\/b=2:=by omega
  rcases e with rfl|rfl|rfl<;>rfl
theorem L7 {α β:Type} (f:α->β):∀l:List α,l.map f=l.flatMap λt=>[f t]
  | []=>rfl
  | x::r=>by rw [List.map_cons,List.flatMap_cons,List.singleton_append,L7 f r]
theorem Wx (g:FJ ps ts) {h:T3->Nat} (hh:∀t,h t<3):IV ps ts ps (ts.map λt=>L3 t (h t)) (λ_ _=>0) (λt=>[QF (h t)]):=by
  refine ⟨g,?_,λt _=>Xv _,Nat.le_refl _,λ_ _=>rfl,λt _ l hl _ hu=>?_,λp h1 h2=>by omega,λt _ s _ l k _ _ hk _ hu=>?_⟩
  · have e:(λt=>[QF (h t)].map (Fu (λ_ _=>0) t))=λt=>[L3 t (h t)]:=funext λt=>by rw [List.map_cons,List.map_nil,UU _ _ (hh t)]
    rw [e]
    exact L7 _ _
  · rw [OF _ hl] at hu;cases hu
  · rw [OF _ hk] at hu;cases hu
theorem Uz (h:T3->Nat) (hh:∀t,h t<3):(GF ts).Perm (GF (ts.map λt=>L3 t (h t))):=by
  unfold GF
  refine flatMap_perm2 (0,0,0) (by rw [List.length_map]) λj hj=>?_
  have e:(ts.map λt=>L3 t (h t)).getD j (0,0,0)=L3 (ts.getD j (0,0,0)) (h (ts.getD j (0,0,0))):=by simp [List.getD,hj]
  rw [e]
  generalize ts.getD j (0,0,0)=T
  have hb:=hh T
  have eb:h T=0\/h T=1\/h T=2:=by omega
  obtain ⟨a,b,d⟩:=T
  rcases eb with eb|eb|eb<;>rw [eb]
  · exact List.Perm.refl _
  · show [CT a b,CT b d,CT d a].Perm [CT b d,CT d a,CT a b]
    exact (List.perm_append_comm (l₁:=[CT a b]) (l₂:=[CT b d,CT d a]))
  · show [CT a b,CT b d,CT d a].Perm [CT d a,CT a b,CT b d]
    exact (List.perm_append_comm (l₁:=[CT a b,CT b d]) (l₂:=[CT d a]))
theorem Xl (g:FJ ps ts) (hn:By ps.length ts=true) (sd:∃mm,ss=E3 mm ts ps.length ps.length) (hsl:ss.length<=24576) {h:T3->Nat} (hh:∀t,h t<3) (hn':By ps.length (ts.map λt=>L3 t (h t))=true):Jc ps (ts.map λt=>L3 t (h t)) ss:=by
  have hp:=g.pl
  have ht:=g.tl
  have h0:=List.length_pos_iff.2 g.ne
  obtain ⟨mm,hmm⟩:=sd
  refine (Wx g hh).chk Z (by rw [List.length_map];omega) hsl (by rw [List.length_map];omega) (λk=>Nat.le_trans (g.sz k) (by decide)) hn' (λs hs=>?_) ?_
  · rw [hmm] at hs
    obtain ⟨h1,h2,h3,_,h5⟩:=(GG _).1 hs
    refine ⟨h1,h3,?_⟩
    rw [h5]
    show (s.1+3*s.2.1+mm.fst)%5<=255
    omega
  · rw [hmm,S2 hn Z,<-VP hn hn' Z (Uz h hh),List.map_map]
    rfl
end
end
section
section
variable {ps:List Pt} {ts us ss:List T3} {N:Nat}
theorem Tv (g:FJ ps ts) (hn:By ps.length ts=true) (sd:∃mm,ss=E3 mm ts ps.length ps.length) (hsl:ss.length<=24576):Jc ps ts ss:=by
  have e:(ts.map λt=>L3 t ((λ_=>0) t))=ts:=by
    have e2:(λt:T3=>L3 t ((λ_=>0) t))=id:=funext λt=>rfl
    rw [e2,List.map_id]
  have h:=Xl (h:=λ_=>0) g hn sd hsl (λ_=>by decide) (by rw [e];exact hn)
  rwa [e] at h
end
end
section
structure RM (N:Nat) (ts ss:List T3) where
  cs:List Value
  a:RX cs N
  b:RX (rowsL Ai ts) ts.length
  c:RX (rowsL Ai ss) ss.length
def F1 {N:Nat} {ts ss:List T3} (x:RM N ts ss):List Value:=[x.a.val,x.b.val,x.c.val]
theorem a8 {N:Nat} {ts ss:List T3} {x:RM N ts ss} {y:As} (hy:y∈[x.a.row,x.b.row,x.c.row]):y.ro=true:=by
  simp only [List.mem_cons,List.not_mem_nil,or_false] at hy
  rcases hy with rfl|rfl|rfl<;>rfl
instance {N:Nat} {ts ss:List T3}:DN (RM N ts ss):=⟨λx=>aG (F1 x),λx=>[x.a.row,x.b.row,x.c.row],λx y hy=>a8 hy⟩
section
variable {S:Nat->Prop} {w:World} {N:Nat} {ts ss:List T3}
end
def Dt (t:T3) (a b:Nat):Bool:=(decide (t.1=a)&&decide (t.2.1=b))||((decide (t.2.1=a)&&decide (t.2.2=b))||(decide (t.2.2=a)&&decide (t.1=b)))
def IF (ts:List T3) (a b:Nat):Nat->Int
  | 0 => -1
  | n+1=>if IF ts a b n = -1 then (if Dt (ts.getD n (0,0,0)) a b=true then (n:Int) else -1) else IF ts a b n
section
variable {ts:List T3} {a b t:Nat}
theorem Jq:∀n,(∀j,j<n->Dt (ts.getD j (0,0,0)) a b=false)->IF ts a b n = -1
  | 0,_=>rfl
  | n+1,h=>by
    rw [IF,Jq n λj hj=>h j Z,if_pos rfl,h n Z]
    rfl
theorem O1:∀n,t<n->Dt (ts.getD t (0,0,0)) a b=true->(∀j,j<t->Dt (ts.getD j (0,0,0)) a b=false)->IF ts a b n=(t:Int)
  | 0,h,_,_=>absurd h (Nat.not_lt_zero _)
  | n+1,h,h1,h2=>by
    rw [IF]
    rcases Nat.lt_or_ge t n with k|k
    · rw [O1 n k h1 h2,if_neg Z]
    · have e:n=t:=by omega
      subst e
      rw [Jq n h2,if_pos rfl,if_pos h1]
end
def Y_ (t:T3) (a b:Nat):Bool:=Dt t a b||Dt t b a
def H_ (ts:List T3) (a b:Nat):Nat->Nat
  | 0=>0
  | t+1=>if Y_ (ts.getD t (0,0,0)) a b=true then H_ ts a b t+1 else H_ ts a b t
def ID (ts:List T3) (a:Nat):Nat->List T3
  | 0=>[]
  | j+1=>if H_ ts a (a+1+j) ts.length=1 then ID ts a j++[(a,a+1+j,0)] else ID ts a j
def Qk (ts:List T3) (N:Nat):Nat->List T3
  | 0=>[]
  | a+1=>Qk ts N a++ID ts a (N-(a+1))
section
variable {ts:List T3} {a b N t:Nat}
theorem WH (h:Y_ (ts.getD t (0,0,0)) a b=true):H_ ts a b (t+1)=H_ ts a b t+1:=if_pos h
theorem Xc (h:¬Y_ (ts.getD t (0,0,0)) a b=true):H_ ts a b (t+1)=H_ ts a b t:=if_neg h
theorem VF {j:Nat} (hj:a+1<=j) (h:H_ ts a j ts.length=1):ID ts a (j+1-(a+1))=ID ts a (j-(a+1))++[(a,j,0)]:=by
  rw [show j+1-(a+1)=(j-(a+1))+1 by omega,ID,if_pos (by rw [show a+1+(j-(a+1))=j by omega];exact h),show a+1+(j-(a+1))=j by omega]
theorem XI {j:Nat} (hj:a+1<=j) (h:¬H_ ts a j ts.length=1):ID ts a (j+1-(a+1))=ID ts a (j-(a+1)):=by
  rw [show j+1-(a+1)=(j-(a+1))+1 by omega,ID,if_neg (by rw [show a+1+(j-(a+1))=j by omega];exact h)]
theorem G9 {s:T3}:∀j,s∈ID ts a j↔s.1=a/\a<s.2.1/\s.2.1<a+1+j/\H_ ts s.1 s.2.1 ts.length=1/\s.2.2=0
  | 0=>⟨λh=>(by cases h),λh=>Z⟩
  | j+1=>by
    rw [ID]
    split
    · rename_i hc
      rw [List.mem_append,G9 j,List.mem_singleton]
      constructor
      · rintro (h|rfl)
        · exact ⟨h.1,h.2.1,Z,h.2.2.2⟩
        · exact ⟨rfl,(by show a<a+1+j;omega),(by show a+1+j<a+1+(j+1);omega),hc,rfl⟩
      · rintro ⟨h1,h2,h3,h4,h5⟩
        rcases Nat.lt_or_ge s.2.1 (a+1+j) with h6|h6
        · exact .inl ⟨h1,h2,h6,h4,h5⟩
        · exact .inr (Prod.ext h1 (Prod.ext (show s.2.1=a+1+j by omega) h5))
    · rename_i hc
      rw [G9 j]
      constructor
      · exact λh=>⟨h.1,h.2.1,Z,h.2.2.2⟩
      · rintro ⟨h1,h2,h3,h4,h5⟩
        rcases Nat.lt_or_ge s.2.1 (a+1+j) with h6|h6
        · exact ⟨h1,h2,h6,h4,h5⟩
        · rw [h1,show s.2.1=a+1+j by omega] at h4;exact absurd h4 hc
theorem K0 {s:T3}:∀A,s∈Qk ts N A↔s.1<A/\s.1<s.2.1/\s.2.1<N/\H_ ts s.1 s.2.1 ts.length=1/\s.2.2=0
  | 0=>⟨λh=>(by cases h),λh=>Z⟩
  | A+1=>by
    rw [Qk,List.mem_append,K0 A,G9]
    constructor
    · rintro (h|h)
      · exact ⟨Z,h.2⟩
      · exact ⟨Z,Z,Z,h.2.2.2⟩
    · rintro ⟨h1,h2,h3,h4⟩
      rcases Nat.lt_or_ge s.1 A with h5|h5
      · exact .inl ⟨h5,h2,h3,h4⟩
      · exact .inr ⟨Z,Z,Z,h4⟩
theorem Gl:∀j,(ID ts a j).Pairwise ST
  | 0=>List.Pairwise.nil
  | j+1=>by
    rw [ID]
    split
    · refine List.pairwise_append.2 ⟨Gl j,List.pairwise_singleton _ _,λx hx y hy=>?_⟩
      rw [List.mem_singleton] at hy
      subst hy
      have h:=(G9 j).1 hx
      exact .inr ⟨h.1,(by show x.2.1<a+1+j;exact h.2.2.1)⟩
    · exact Gl j
theorem JK:∀A,(Qk ts N A).Pairwise ST
  | 0=>List.Pairwise.nil
  | A+1=>List.pairwise_append.2 ⟨JK A,Gl _,λx hx y hy=>.inl (by
      have h1:=(K0 A).1 hx
      have h2:=(G9 _).1 hy
      omega)⟩
theorem Xn {T:T3} (hab:a<b) (h:T.1≠T.2.1/\T.2.1≠T.2.2/\T.2.2≠T.1):[CT T.1 T.2.1,CT T.2.1 T.2.2,CT T.2.2 T.1].count (a,b)=if Y_ T a b=true then 1 else 0:=by
  rw [Ry hab h]
  have e:(EQ T a=true/\EQ T b=true)↔Y_ T a b=true:=by
    obtain ⟨x,y,z⟩:=T
    unfold EQ Y_ Dt
    simp only [Bool.or_eq_true,Bool.and_eq_true,decide_eq_true_eq,beq_iff_eq] at h ⊢
    omega
  simp only [e]
theorem Ng (hn:By N ts=true) (hab:a<b):∀i,i<=ts.length->H_ ts a b i=(GF (ts.take i)).count (a,b)
  | 0,_=>rfl
  | i+1,h=>by
    have hi:i<ts.length:=by omega
    rw [G6 (d:=(0,0,0)) hi]
    unfold GF
    rw [List.flatMap_append,List.count_append]
    have ih:=Ng hn hab i Z
    unfold GF at ih
    rw [<-ih]
    simp only [List.flatMap_cons,List.flatMap_nil,List.append_nil]
    rw [Xn hab (Mw (Cc hn hi)),H_]
    split<;>rfl
theorem XT (hn:By N ts=true) (hN:N<=4611686018427387904):Qk ts N N=Bi ts:=by
  refine F6 ST.asymm (JK N) (FQ hn hN) λs=>?_
  rw [K0,Fx hn hN]
  constructor
  · rintro ⟨_,h2,_,h4,h5⟩
    rw [Ng hn h2 _ (Nat.le_refl _),List.take_length] at h4
    exact ⟨h4,h5⟩
  · rintro ⟨h1,h2⟩
    have hm:(s.1,s.2.1)∈GF ts:=List.count_pos_iff.1 Z
    obtain ⟨k1,k2⟩:=Ki hn hN hm
    exact ⟨Z,k1,k2,by rw [Ng hn k1 _ (Nat.le_refl _),List.take_length];exact h1,h2⟩
end
section
variable {ts:List T3} {a b N t i:Nat}
end
def PR (ts:List T3) (p n:Nat):List Nat:=(List.range n).filter λt=>EQ (ts.getD t (0,0,0)) p
section
variable {ts:List T3} {p n:Nat}
theorem XG (h:EQ (ts.getD n (0,0,0)) p=true):PR ts p (n+1)=PR ts p n++[n]:=by
  unfold PR;rw [List.range_succ,List.filter_append,List.filter_cons,if_pos h];rfl
theorem aH (h:¬EQ (ts.getD n (0,0,0)) p=true):PR ts p (n+1)=PR ts p n:=by
  unfold PR;rw [List.range_succ,List.filter_append,List.filter_cons,if_neg h];simp
theorem Yt (p n:Nat):(PR ts p n).length<=n:=by
  have h:=List.length_filter_le (λt=>EQ (ts.getD t (0,0,0)) p) (List.range n)
  rw [List.length_range] at h
  exact h
end
end
end Go.Proofs.YtpgncndhhhllfaaGreatDoor
