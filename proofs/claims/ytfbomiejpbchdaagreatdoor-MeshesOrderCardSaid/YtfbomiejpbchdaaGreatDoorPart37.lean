import Derived.Test.YtfbomiejpbchdaaGreatDoorPart29
import Derived.Test.YtfbomiejpbchdaaGreatDoorPart35
import Derived.Test.YtfbomiejpbchdaaGreatDoorPart36
namespace Go.Proofs.YtfbomiejpbchdaaGreatDoor
open Go Go.RowKit Go.Proofs.Tryz
set_option linter.unusedVariables false
set_option linter.unusedSimpArgs false
section
theorem Vs {q:Rat}:0<q.num.sign↔0<q:=by
  rcases GV 0 q with h|h
  · rw [Lm h];exact ⟨λ_=>h,λ_=>by decide⟩
  · by_cases e:q=0
    · rw [Me e,e];decide
    · rw [Oy (q:=q) (by grind)];exact ⟨λk=>absurd k (by decide),λk=>by grind⟩
theorem ID {q:Rat}:q.num.sign = -1↔q<0:=by
  rcases GV 0 q with h|h
  · rw [Lm h];exact ⟨λk=>absurd k (by decide),λk=>by grind⟩
  · by_cases e:q=0
    · rw [Me e,e];decide
    · have:q<0:=by grind
      rw [Oy this];exact ⟨λ_=>this,λ_=>rfl⟩
theorem Nu {p q:Pt} {B:Q3} (h:AO p q B.1<=0/\AO p q B.2.1<=0/\AO p q B.2.2<=0):D0 p q B=false:=by
  have k:∀r,AO p q r<=0->KN p q r=false:=λr hr=>decide_eq_false (by rw [Vs];grind)
  unfold D0
  rw [k _ h.1,k _ h.2.1,k _ h.2.2];rfl
theorem Va {A B:Q3} (h:NV A.1 A.2.1 A.2.2 B.1 B.2.1 B.2.2):DM A B=true:=by
  unfold DM
  rcases h with h|h|h
  · rw [Nu h];rfl
  · rw [Nu (p:=A.2.1) (q:=A.2.2) h];simp
  · rw [Nu (p:=A.2.2) (q:=A.1) h];simp
theorem P7 {ps:List Pt} {t:T3} {q:Pt} (hT:0<AO (cor ps t.1) (cor ps t.2.1) (cor ps t.2.2)):F3 ps q t=0↔¬Js ps t q:=by
  have hd:∀z,0<=z/AO (cor ps t.1) (cor ps t.2.1) (cor ps t.2.2)↔0<=z:=λz=>by
    have e:z/AO (cor ps t.1) (cor ps t.2.1) (cor ps t.2.2)*AO (cor ps t.1) (cor ps t.2.1) (cor ps t.2.2)=z:=Rat.div_mul_cancel (by grind)
    generalize z/AO (cor ps t.1) (cor ps t.2.1) (cor ps t.2.2)=w at *
    exact ⟨λk=>by rw [<-e];exact Rat.mul_nonneg k (by grind),λk=>by rw [<-e] at k;exact G8 hT k⟩
  have h1:F3 ps q t=D9 (AO q (cor ps t.2.1) (cor ps t.2.2)/AO (cor ps t.1) (cor ps t.2.1) (cor ps t.2.2)) (AO (cor ps t.1) q (cor ps t.2.2)/AO (cor ps t.1) (cor ps t.2.1) (cor ps t.2.2)) (AO (cor ps t.1) (cor ps t.2.1) q/AO (cor ps t.1) (cor ps t.2.1) (cor ps t.2.2)):=if_neg (λe=>by rw [e] at hT;exact absurd hT Rat.lt_irrefl)
  have h2:∀{x y z:Rat},D9 x y z=0↔¬(0<=x/\0<=y/\0<=z):=λ{x y z}=>by
    unfold D9
    split
    · rename_i h
      rw [ID,ID,ID] at h
      exact ⟨λ_=>by grind,λ_=>rfl⟩
    · rename_i h
      rw [ID,ID,ID] at h
      exact ⟨λh=>by omega,λh=>by exfalso;apply h;grind⟩
  rw [h1,h2,hd,hd,hd]
  exact Iff.rfl
def FS (mv:Nat->Nat->Nat) (t:T3) (l:Nat):Nat:=if l=0 then t.1 else if l=1 then t.2.1 else if l=2 then t.2.2 else if l=3 then mv t.1 t.2.1 else if l=4 then mv t.2.1 t.2.2 else mv t.2.2 t.1
def FG (mv:Nat->Nat->Nat) (t L:T3):T3:=(FS mv t L.1,FS mv t L.2.1,FS mv t L.2.2)
def VK (t:T3) (l:Nat):P2:=if l=3 then B9 t.1 t.2.1 else if l=4 then B9 t.2.1 t.2.2 else B9 t.2.2 t.1
def Jg (ps:List Pt) (t:T3) (l:Nat):Pt:=LP (cor ps t.1) (cor ps t.2.1) (cor ps t.2.2) l
structure HH (ps:List Pt) (ts:List T3) (ps':List Pt) (ts':List T3) (mv:Nat->Nat->Nat) (fam:T3->List T3):Prop where
  g:Ek ps ts
  cut:ts'=ts.flatMap λt=>(fam t).map (FG mv t)
  fok:∀t∈ts,SP (fam t)
  len:ps.length<=ps'.length
  old:∀p,p<ps.length->cor ps' p=cor ps p
  mid:∀t∈ts,∀l,3<=l->l<6->Fo (fam t) l=true->ps.length<=FS mv t l/\FS mv t l<ps'.length/\cor ps' (FS mv t l)=Jg ps t l
  new:∀p,ps.length<=p->p<ps'.length->∃t∈ts,∃l,3<=l/\l<6/\Fo (fam t) l=true/\p=FS mv t l
  cls:∀t∈ts,∀s∈ts,∀l k,3<=l->l<6->3<=k->k<6->Fo (fam s) k=true->VK t l=VK s k->Fo (fam t) l=true/\FS mv t l=FS mv s k
theorem OI {fam:List T3} {L:T3} {l:Nat} (hL:L∈fam) (h:B_ L l=true):Fo fam l=true:=List.any_eq_true.2 ⟨L,hL,h⟩
theorem YC (L:T3):B_ L L.1=true/\B_ L L.2.1=true/\B_ L L.2.2=true:=by simp [B_]
theorem Lt {mv:Nat->Nat->Nat} {t L:T3} {l:Nat} (h:B_ L l=true):B_ (FG mv t L) (FS mv t l)=true:=by
  simp only [B_,Bool.or_eq_true,beq_iff_eq] at h ⊢
  rcases h with (h|h)|h
  · left;left;show FS mv t L.1=_;rw [h]
  · left;right;show FS mv t L.2.1=_;rw [h]
  · right;show FS mv t L.2.2=_;rw [h]
section
variable {ps ps':List Pt} {ts ts':List T3} {mv:Nat->Nat->Nat} {fam:T3->List T3} {t s c L:T3} {l k p:Nat}
theorem GO (h:t∈ts):∃j,j<ts.length/\ts.getD j (0,0,0)=t:=by
  obtain ⟨j,hj,e⟩:=List.getElem_of_mem h
  exact ⟨j,hj,by rw [List.getD,List.getElem?_eq_getElem hj];exact e⟩
theorem HP {j:Nat} (h:j<ts.length):ts.getD j (0,0,0)∈ts:=by rw [List.getD,List.getElem?_eq_getElem h];exact List.getElem_mem h
theorem HH.tri (S:HH ps ts ps' ts' mv fam) (ht:t∈ts):XJ ps t:=by
  obtain ⟨j,hj,rfl⟩:=GO ht
  exact S.g.tri j hj
theorem HH.v_pos (S:HH ps ts ps' ts' mv fam) (ht:t∈ts):0<AO (cor ps t.1) (cor ps t.2.1) (cor ps t.2.2):=(S.tri ht).pos
theorem HH.v_pt (S:HH ps ts ps' ts' mv fam) (ht:t∈ts) (hl:l<6) (hu:Fo (fam t) l=true):FS mv t l<ps'.length/\cor ps' (FS mv t l)=Jg ps t l:=by
  have h:=S.tri ht
  have hle:=S.len
  rcases Nat.lt_or_ge l 3 with h3|h3
  · have e:l=0\/l=1\/l=2:=by omega
    rcases e with rfl|rfl|rfl
    · exact ⟨Nat.lt_of_lt_of_le h.a hle,S.old _ h.a⟩
    · exact ⟨Nat.lt_of_lt_of_le h.b hle,S.old _ h.b⟩
    · exact ⟨Nat.lt_of_lt_of_le h.c hle,S.old _ h.c⟩
  · exact (S.mid t ht l h3 hl hu).2
theorem HH.v_child (S:HH ps ts ps' ts' mv fam) (hc:c∈ts'):∃t∈ts,∃L∈fam t,c=FG mv t L:=by
  rw [S.cut] at hc
  obtain ⟨t,ht,hc⟩:=List.mem_flatMap.1 hc
  obtain ⟨L,hL,e⟩:=List.mem_map.1 hc
  exact ⟨t,ht,L,hL,e.symm⟩
theorem HH.v_c3 (S:HH ps ts ps' ts' mv fam) (ht:t∈ts) (hL:L∈fam t):cor ps' (FG mv t L).1=Jg ps t L.1/\cor ps' (FG mv t L).2.1=Jg ps t L.2.1/\cor ps' (FG mv t L).2.2=Jg ps t L.2.2:=by
  obtain ⟨h1,h2,h3⟩:=(S.fok t ht).lt L hL
  obtain ⟨u1,u2,u3⟩:=YC L
  exact ⟨(S.v_pt ht h1 (OI hL u1)).2,(S.v_pt ht h2 (OI hL u2)).2,(S.v_pt ht h3 (OI hL u3)).2⟩
theorem HH.v_cpos (S:HH ps ts ps' ts' mv fam) (ht:t∈ts) (hL:L∈fam t):0<AO (cor ps' (FG mv t L).1) (cor ps' (FG mv t L).2.1) (cor ps' (FG mv t L).2.2):=by
  obtain ⟨h1,h2,h3⟩:=(S.fok t ht).lt L hL
  obtain ⟨e1,e2,e3⟩:=S.v_c3 ht hL
  rw [e1,e2,e3]
  exact UM (S.v_pos ht) h1 h2 h3 ((S.fok t ht).pos L hL)
def BB (ps:List Pt) (c d:T3):Prop:=NV (cor ps c.1) (cor ps c.2.1) (cor ps c.2.2) (cor ps d.1) (cor ps d.2.1) (cor ps d.2.2)\/NV (cor ps d.1) (cor ps d.2.1) (cor ps d.2.2) (cor ps c.1) (cor ps c.2.1) (cor ps c.2.2)
theorem Ox {a b c:Pt} {M:T3} (hT:0<AO a b c) (hL:L.1<6/\L.2.1<6/\L.2.2<6) (hM:M.1<6/\M.2.1<6/\M.2.2<6) (h:P3 L M=true):NV (LP a b c L.1) (LP a b c L.2.1) (LP a b c L.2.2) (LP a b c M.1) (LP a b c M.2.1) (LP a b c M.2.2):=by
  simp only [P3,UC,Bool.or_eq_true,Bool.and_eq_true,decide_eq_true_eq] at h
  rcases h with (⟨⟨h1,h2⟩,h3⟩|⟨⟨h1,h2⟩,h3⟩)|⟨⟨h1,h2⟩,h3⟩
  · exact .inl ⟨FW hT hL.1 hL.2.1 hM.1 h1,FW hT hL.1 hL.2.1 hM.2.1 h2,FW hT hL.1 hL.2.1 hM.2.2 h3⟩
  · exact .inr (.inl ⟨FW hT hL.2.1 hL.2.2 hM.1 h1,FW hT hL.2.1 hL.2.2 hM.2.1 h2,FW hT hL.2.1 hL.2.2 hM.2.2 h3⟩)
  · exact .inr (.inr ⟨FW hT hL.2.2 hL.1 hM.1 h1,FW hT hL.2.2 hL.1 hM.2.1 h2,FW hT hL.2.2 hL.1 hM.2.2 h3⟩)
theorem HH.v_bb (S:HH ps ts ps' ts' mv fam):ts'.Pairwise (BB ps'):=by
  rw [S.cut]
  refine List.pairwise_flatMap.2 ⟨λt ht=>?_,?_⟩
  · refine List.pairwise_map.2 ((S.fok t ht).sep.imp_of_mem λ{L M} hL hM h=>?_)
    obtain ⟨e1,e2,e3⟩:=S.v_c3 ht hL
    obtain ⟨f1,f2,f3⟩:=S.v_c3 ht hM
    unfold BB
    rw [e1,e2,e3,f1,f2,f3]
    rw [Bool.or_eq_true] at h
    exact h.imp (Ox (S.v_pos ht) ((S.fok t ht).lt L hL) ((S.fok t ht).lt M hM)) (Ox (S.v_pos ht) ((S.fok t ht).lt M hM) ((S.fok t ht).lt L hL))
  · have base:ts.Pairwise (Ln ps):=List.pairwise_iff_getElem.2 λi j hi hj hij=>by
      have h:=Sc S.g hi hj Z
      rwa [List.getD,List.getD,List.getElem?_eq_getElem hi,List.getElem?_eq_getElem hj] at h
    refine base.imp_of_mem λ{t s} ht hs ⟨u,k,hu,⟨h1,h2,h3⟩,h4,h5,h6⟩ x hx y hy=>?_
    obtain ⟨L,hL,rfl⟩:=List.mem_map.1 hx
    obtain ⟨M,hM,rfl⟩:=List.mem_map.1 hy
    obtain ⟨l1,l2,l3⟩:=(S.fok t ht).lt L hL
    obtain ⟨m1,m2,m3⟩:=(S.fok s hs).lt M hM
    obtain ⟨e1,e2,e3⟩:=S.v_c3 ht hL
    obtain ⟨f1,f2,f3⟩:=S.v_c3 hs hM
    have a:=S.v_cpos ht hL
    have b:=S.v_cpos hs hM
    refine YS a b hu (k:=k) ?_
    rw [e1,e2,e3,f1,f2,f3]
    exact ⟨⟨Lb l1 h1 h2 h3,Lb l2 h1 h2 h3,Lb l3 h1 h2 h3⟩,L7 m1 h4 h5 h6,L7 m2 h4 h5 h6,L7 m3 h4 h5 h6⟩
theorem HH.v_up (S:HH ps ts ps' ts' mv fam) (ht:t∈ts) (hL:L∈fam t) {q:Pt} (h:Js ps' (FG mv t L) q):Js ps t q:=by
  obtain ⟨l1,l2,l3⟩:=(S.fok t ht).lt L hL
  obtain ⟨e1,e2,e3⟩:=S.v_c3 ht hL
  have hc:=S.v_cpos ht hL
  obtain ⟨h1,h2,h3⟩:=h
  have hT:=S.v_pos ht
  have sd:∀i j:Nat,i<6->j<6->(∀l,l<6->0<=D3 i j l)->0<=AO (Jg ps t i) (Jg ps t j) q:=λi j hi hj hd =>
    Uj hc h1 h2 h3 (by rw [e1];exact Ge hT hi hj l1 (hd _ l1)) (by rw [e2];exact Ge hT hi hj l2 (hd _ l2)) (by rw [e3];exact Ge hT hi hj l3 (hd _ l3))
  have d1:=sd 1 2 (by decide) (by decide) (by decide)
  have d2:=sd 2 0 (by decide) (by decide) (by decide)
  have d3:=sd 0 1 (by decide) (by decide) (by decide)
  have c1:AO q (cor ps t.2.1) (cor ps t.2.2)=AO (cor ps t.2.1) (cor ps t.2.2) q:=by simp only [B5];grind
  have c2:AO (cor ps t.1) q (cor ps t.2.2)=AO (cor ps t.2.2) (cor ps t.1) q:=by simp only [B5];grind
  exact ⟨by show 0<=AO q (cor ps t.2.1) (cor ps t.2.2);rw [c1];exact d1,by show 0<=AO (cor ps t.1) q (cor ps t.2.2);rw [c2];exact d2,d3⟩
theorem HH.v_lab (S:HH ps ts ps' ts' mv fam) (ht:t∈ts) (hL:L∈fam t) (hl:l<6) (hu:Fo (fam t) l=true) (h:Js ps' (FG mv t L) (Jg ps t l)):B_ L l=true:=by
  obtain ⟨l1,l2,l3⟩:=(S.fok t ht).lt L hL
  obtain ⟨e1,e2,e3⟩:=S.v_c3 ht hL
  obtain ⟨h1,h2,h3⟩:=h
  have h1:0<=AO (Jg ps t l) (cor ps' (FG mv t L).2.1) (cor ps' (FG mv t L).2.2):=h1
  have h2:0<=AO (cor ps' (FG mv t L).1) (Jg ps t l) (cor ps' (FG mv t L).2.2):=h2
  have h3:0<=AO (cor ps' (FG mv t L).1) (cor ps' (FG mv t L).2.1) (Jg ps t l):=h3
  rw [e2,e3] at h1
  rw [e1,e3] at h2
  rw [e1,e2] at h3
  have hT:=S.v_pos ht
  refine (S.fok t ht).cls L hL l hl hu ?_
  simp only [VE,Bool.and_eq_true,decide_eq_true_eq]
  exact ⟨⟨N3 hT hl l2 l3 h1,N3 hT l1 hl l3 h2⟩,N3 hT l1 l2 hl h3⟩
theorem Ly (h:B_ t p=true):∃l,l<3/\p=FS mv t l:=by
  simp only [B_,Bool.or_eq_true,beq_iff_eq] at h
  rcases h with (h|h)|h
  · exact ⟨0,by decide,h.symm⟩
  · exact ⟨1,by decide,h.symm⟩
  · exact ⟨2,by decide,h.symm⟩
theorem TV (hk:3<=k) (hk6:k<6):∃r,r<3/\VK s k=B9 (crn s r) (crn s ((r+1)%3))/\Jg ps s k=Gt (cor ps (crn s r)+cor ps (crn s ((r+1)%3))) (1/2):=by
  have e:k=3\/k=4\/k=5:=by omega
  rcases e with rfl|rfl|rfl
  · exact ⟨0,by decide,rfl,rfl⟩
  · exact ⟨1,by decide,rfl,rfl⟩
  · exact ⟨2,by decide,rfl,rfl⟩
theorem SN {x y:Nat} (hx:B_ t x=true) (hy:B_ t y=true) (hne:x≠y):∃l,3<=l/\l<6/\VK t l=B9 x y:=by
  simp only [B_,Bool.or_eq_true,beq_iff_eq] at hx hy
  have sy:∀a b,B9 a b=B9 b a:=λa b=>by unfold B9;rw [Nat.min_comm,Nat.max_comm]
  rcases hx with (hx|hx)|hx<;>rcases hy with (hy|hy)|hy<;>subst hx<;>subst hy
  · exact absurd O hne
  · exact ⟨3,by decide,by decide,rfl⟩
  · exact ⟨5,by decide,by decide,sy _ _⟩
  · exact ⟨3,by decide,by decide,sy _ _⟩
  · exact absurd O hne
  · exact ⟨4,by decide,by decide,rfl⟩
  · exact ⟨5,by decide,by decide,rfl⟩
  · exact ⟨4,by decide,by decide,sy _ _⟩
  · exact absurd O hne
theorem HH.v_mid (S:HH ps ts ps' ts' mv fam) (ht:t∈ts) (hs:s∈ts) (hk:3<=k) (hk6:k<6) (hu:Fo (fam s) k=true) (h:Js ps t (Jg ps s k)):∃l,3<=l/\l<6/\Fo (fam t) l=true/\FS mv t l=FS mv s k:=by
  obtain ⟨r,hr,e1,e2⟩:=TV (ps:=ps) (s:=s) hk hk6
  obtain ⟨i,hi,rfl⟩:=GO hs
  obtain ⟨j,hj,rfl⟩:=GO ht
  rw [e2] at h
  obtain ⟨a,b⟩:=TQ S.g hi hj hr h
  have hne:crn (ts.getD i (0,0,0)) r≠crn (ts.getD i (0,0,0)) ((r+1)%3):=by
    have hT:=S.tri hs
    have er:r=0\/r=1\/r=2:=by omega
    rcases er with rfl|rfl|rfl
    · exact hT.ab
    · exact hT.bc
    · exact hT.ca
  obtain ⟨l,hl,hl6,e⟩:=SN a b hne
  exact ⟨l,hl,hl6,S.cls _ ht _ hs l k hl hl6 hk hk6 hu (by rw [e,e1])⟩
theorem TC (hT:0<AO (cor ps t.1) (cor ps t.2.1) (cor ps t.2.2)) (hl:l<6):Js ps t (Jg ps t l):=by
  have e:l=0\/l=1\/l=2\/l=3\/l=4\/l=5:=by omega
  have k1:0<=D3 l 1 2:=by rcases e with rfl|rfl|rfl|rfl|rfl|rfl<;>decide
  have k2:0<=D3 0 l 2:=by rcases e with rfl|rfl|rfl|rfl|rfl|rfl<;>decide
  have k3:0<=D3 0 1 l:=by rcases e with rfl|rfl|rfl|rfl|rfl|rfl<;>decide
  have d1:0<=AO (Jg ps t l) (Jg ps t 1) (Jg ps t 2):=Ge hT hl (by decide) (by decide) k1
  have d2:0<=AO (Jg ps t 0) (Jg ps t l) (Jg ps t 2):=Ge hT (by decide) hl (by decide) k2
  have d3:0<=AO (Jg ps t 0) (Jg ps t 1) (Jg ps t l):=Ge hT (by decide) (by decide) hl k3
  exact ⟨d1,d2,d3⟩
theorem HH.v_crn (S:HH ps ts ps' ts' mv fam) (hc:c∈ts') (hp:p<ps'.length) (h:Js ps' c (cor ps' p)):B_ c p=true:=by
  obtain ⟨t,ht,L,hL,rfl⟩:=S.v_child hc
  rcases Nat.lt_or_ge p ps.length with hlt|hge
  · have h1:=S.v_up ht hL h
    rw [S.old p hlt] at h1
    obtain ⟨j,hj,rfl⟩:=GO ht
    obtain ⟨l,hl,e⟩:=Ly (mv:=mv) (IX S.g hlt hj h1)
    have hu:=(S.fok _ ht).cor l hl
    rw [e,(S.v_pt ht (show l<6 by omega) hu).2] at h
    rw [e]
    exact Lt (S.v_lab ht hL Z hu h)
  · obtain ⟨s,hs,k,hk,hk6,hu,e⟩:=S.new p hge hp
    have e2:=(S.mid s hs k hk hk6 hu).2.2
    rw [e,e2] at h
    obtain ⟨l,hl,hl6,hul,el⟩:=S.v_mid ht hs hk hk6 hu (S.v_up ht hL h)
    have e3:=(S.mid t ht l hl hl6 hul).2.2
    rw [<-e2,<-el,e3] at h
    rw [e,<-el]
    exact Lt (S.v_lab ht hL hl6 hul h)
theorem HH.v_dst (S:HH ps ts ps' ts' mv fam) {p q:Nat} (hp:p<ps'.length) (hq:q<ps'.length) (h:cor ps' p=cor ps' q):p=q:=by
  have one:∀p q,p<ps.length->ps.length<=q->q<ps'.length->cor ps' p≠cor ps' q:=λp q hp hq hq' h=>by
    obtain ⟨s,hs,k,hk,hk6,hu,e⟩:=S.new q hq hq'
    have e2:=(S.mid s hs k hk hk6 hu).2.2
    rw [e,e2,S.old p hp] at h
    have h1:=TC (S.v_pos hs) hk6
    rw [<-h] at h1
    obtain ⟨j,hj,rfl⟩:=GO hs
    obtain ⟨l,hl,e4⟩:=Ly (mv:=mv) (IX S.g hp hj h1)
    have e5:=(S.v_pt hs (show l<6 by omega) ((S.fok _ hs).cor l hl)).2
    rw [<-e4,S.old p hp] at e5
    have:=Oz (S.v_pos hs) (show l<6 by omega) hk6 (e5.symm.trans h)
    omega
  rcases Nat.lt_or_ge p ps.length with hpl|hpg<;>rcases Nat.lt_or_ge q ps.length with hql|hqg
  · rw [S.old p hpl,S.old q hql] at h
    exact SZ S.g hpl hql h
  · exact absurd h (one p q hpl hqg hq)
  · exact absurd h.symm (one q p hql hpg hp)
  · obtain ⟨s,hs,k,hk,hk6,hu,e⟩:=S.new p hpg hp
    obtain ⟨t,ht,l,hl,hl6,hul,e'⟩:=S.new q hqg hq
    have e2:=(S.mid s hs k hk hk6 hu).2.2
    have e3:=(S.mid t ht l hl hl6 hul).2.2
    rw [e,e2,e',e3] at h
    have h1:=TC (S.v_pos ht) hl6
    rw [<-h] at h1
    obtain ⟨l0,h0,h06,hu0,e0⟩:=S.v_mid ht hs hk hk6 hu h1
    have e4:=(S.mid t ht l0 h0 h06 hu0).2.2
    rw [e0,e2,h] at e4
    have:=Oz (S.v_pos ht) hl6 h06 e4
    rw [e,e',<-e0,this]
theorem HH.v_use (S:HH ps ts ps' ts' mv fam) (hp:p<ps'.length):∃c∈ts',B_ c p=true:=by
  have fin:∀t∈ts,∀l,Fo (fam t) l=true->∃c∈ts',B_ c (FS mv t l)=true:=λt ht l hu=>by
    obtain ⟨L,hL,h⟩:=List.any_eq_true.1 hu
    exact ⟨FG mv t L,by rw [S.cut];exact List.mem_flatMap.2 ⟨t,ht,List.mem_map_of_mem hL⟩,Lt h⟩
  rcases Nat.lt_or_ge p ps.length with hlt|hge
  · obtain ⟨j,hj,h⟩:=Hq S.g hlt
    obtain ⟨l,hl,e⟩:=Ly (mv:=mv) h
    rw [e]
    exact fin _ (HP hj) l ((S.fok _ (HP hj)).cor l hl)
  · obtain ⟨s,hs,k,hk,hk6,hu,e⟩:=S.new p hge hp
    rw [e]
    exact fin s hs k hu
theorem HH.chk {ss':List T3} (S:HH ps ts ps' ts' mv fam) (hpl:ps'.length<=4096) (htl:ts'.length<=8192) (hsl:ss'.length<=24576) (h0:0<ts'.length) (hz:∀k,CG (cor ps' k)<=1000) (hn:Bn ps'.length ts'=true)
    (hs:∀s∈ss',s.1<ps'.length/\s.2.1<ps'.length/\s.2.2<=255) (hr:ss'.map (λs=>(s.1,s.2.1))=(Eu ts').map λs=>(s.1,s.2.1)):Ft ps' ts' ss' where
  pl:=hpl
  tl:=htl
  t0:=h0
  sl:=hsl
  sz:=hz
  num:=hn
  pos j hj:=by
    obtain ⟨t,ht,L,hL,e⟩:=S.v_child (HP hj)
    rw [e]
    exact Lm (S.v_cpos ht hL)
  sid j hj:=hs _ (HP hj)
  use p hp:=by
    obtain ⟨c,hc,h⟩:=S.v_use hp
    obtain ⟨j,hj,e⟩:=GO hc
    exact ⟨j,hj,by rw [e];exact h⟩
  dst:=List.pairwise_iff_getElem.2 λi j hi hj hij e=>by
    have:=S.v_dst hi hj (by unfold cor;rw [List.getD,List.getD,List.getElem?_eq_getElem hi,List.getElem?_eq_getElem hj];exact e)
    omega
  apart i k hi hk:=by
    have h:=List.pairwise_iff_getElem.1 S.v_bb k i Z hi hk
    rw [<-show ts'.getD k (0,0,0)=ts'[k] by rw [List.getD,List.getElem?_eq_getElem Z];rfl,<-show ts'.getD i (0,0,0)=ts'[i] by rw [List.getD,List.getElem?_eq_getElem hi];rfl] at h
    rcases h with h|h
    · rw [Va (A:=BW ps' (ts'.getD k (0,0,0))) (B:=BW ps' (ts'.getD i (0,0,0))) h];simp
    · rw [Va (A:=BW ps' (ts'.getD i (0,0,0))) (B:=BW ps' (ts'.getD k (0,0,0))) h];simp
  crn i p hi hp hn:=by
    have hm:=HP hi
    obtain ⟨t,ht,L,hL,e⟩:=S.v_child hm
    refine (P7 (by rw [e];exact S.v_cpos ht hL)).2 λh=>?_
    rw [S.v_crn hm hp h] at hn
    cases hn
  rl:=by have h:=congrArg List.length hr;simpa using h
  rim j hj:=by
    have hl:=congrArg List.length hr
    simp only [List.length_map] at hl
    have h:=congrArg (λl:List (Nat×Nat)=>l[j]?) hr
    simp only [List.getElem?_map,List.getElem?_eq_getElem hj,List.getElem?_eq_getElem (show j<(Eu ts').length by omega),Option.map_some,Option.some.injEq,Prod.mk.injEq] at h
    rw [List.getD,List.getD,List.getElem?_eq_getElem hj,List.getElem?_eq_getElem (show j<(Eu ts').length by omega)]
    exact h
end
end
section
section
variable {ps:List Pt} {ts ss:List T3} {c:T3}
def N0 (b:Nat):T3:=if b=0 then (0,1,2) else if b=1 then (1,2,0) else (2,0,1)
theorem Uq (b:Nat):SP [N0 b]:=by
  unfold N0
  split
  · exact NJ (by decide) (by decide)
  · split<;>exact NJ (by decide) (by decide)
theorem NS (b:Nat) {l:Nat} (h3:3<=l):Fo [N0 b] l=false:=by
  unfold N0
  have e:∀x,x<3->¬x=l:=λx hx=>by omega
  split
  · simp [Fo,B_];omega
  · split<;>(simp [Fo,B_];omega)
theorem R1 (mv:Nat->Nat->Nat) (t:T3) {b:Nat} (hb:b<3):FG mv t (N0 b)=Cv t b:=by
  have e:b=0\/b=1\/b=2:=by omega
  rcases e with rfl|rfl|rfl<;>rfl
theorem Kr {α β:Type} (f:α->β):∀l:List α,l.map f=l.flatMap λt=>[f t]
  | []=>rfl
  | x::r=>by rw [List.map_cons,List.flatMap_cons,List.singleton_append,Kr f r]
theorem Ts (g:Ek ps ts) {h:T3->Nat} (hh:∀t,h t<3):HH ps ts ps (ts.map λt=>Cv t (h t)) (λ_ _=>0) (λt=>[N0 (h t)]):=by
  refine ⟨g,?_,λt _=>Uq _,Nat.le_refl _,λ_ _=>rfl,λt _ l hl _ hu=>?_,λp h1 h2=>by omega,λt _ s _ l k _ _ hk _ hu=>?_⟩
  · have e:(λt=>[N0 (h t)].map (FG (λ_ _=>0) t))=λt=>[Cv t (h t)]:=funext λt=>by rw [List.map_cons,List.map_nil,R1 _ _ (hh t)]
    rw [e]
    exact Kr _ _
  · rw [NS _ hl] at hu;cases hu
  · rw [NS _ hk] at hu;cases hu
theorem TX (h:T3->Nat) (hh:∀t,h t<3):(FF ts).Perm (FF (ts.map λt=>Cv t (h t))):=by
  unfold FF
  refine flatMap_perm2 (0,0,0) (by rw [List.length_map]) λj hj=>?_
  have e:(ts.map λt=>Cv t (h t)).getD j (0,0,0)=Cv (ts.getD j (0,0,0)) (h (ts.getD j (0,0,0))):=by simp [List.getD,hj]
  rw [e]
  generalize ts.getD j (0,0,0)=T
  have hb:=hh T
  have eb:h T=0\/h T=1\/h T=2:=by omega
  obtain ⟨a,b,d⟩:=T
  rcases eb with eb|eb|eb<;>rw [eb]
  · exact List.Perm.refl _
  · show [B9 a b,B9 b d,B9 d a].Perm [B9 b d,B9 d a,B9 a b]
    exact (List.perm_append_comm (l₁:=[B9 a b]) (l₂:=[B9 b d,B9 d a]))
  · show [B9 a b,B9 b d,B9 d a].Perm [B9 d a,B9 a b,B9 b d]
    exact (List.perm_append_comm (l₁:=[B9 a b,B9 b d]) (l₂:=[B9 d a]))
theorem Uu (g:Ek ps ts) (hn:Bn ps.length ts=true) (sd:∃mm,ss=EX mm ts ps.length ps.length) (hsl:ss.length<=24576) {h:T3->Nat} (hh:∀t,h t<3) (hn':Bn ps.length (ts.map λt=>Cv t (h t))=true):Ft ps (ts.map λt=>Cv t (h t)) ss:=by
  have hp:=g.pl
  have ht:=g.tl
  have h0:=List.length_pos_iff.2 g.ne
  obtain ⟨mm,hmm⟩:=sd
  refine (Ts g hh).chk Z (by rw [List.length_map];omega) hsl (by rw [List.length_map];omega) (λk=>Nat.le_trans (g.sz k) (by decide)) hn' (λs hs=>?_) ?_
  · rw [hmm] at hs
    obtain ⟨h1,h2,h3,_,h5⟩:=(FX _).1 hs
    refine ⟨h1,h3,?_⟩
    rw [h5]
    show (s.1+3*s.2.1+mm.fst)%5<=255
    omega
  · rw [hmm,Qb hn Z,<-Hj hn hn' Z (TX h hh),List.map_map]
    rfl
theorem At.swap {w0:BK} {S:Nat->Prop} {us:List T3} {x:MX ps us ss} {y:MX ps ts ss} (hx:At w0 S x) (hy:At w0 S y):At w0 S (⟨x.a,y.b,x.c⟩:MX ps ts ss):=λz hz b e=>by
  have hz:z∈[x.a.row,y.b.row,x.c.row]:=hz
  simp only [List.mem_cons,List.not_mem_nil,or_false] at hz
  rcases hz with rfl|rfl|rfl
  · exact hx _ (show x.a.row∈[x.a.row,x.b.row,x.c.row] by simp) b e
  · exact hy _ (show y.b.row∈[y.a.row,y.b.row,y.c.row] by simp) b e
  · exact hx _ (show x.c.row∈[x.a.row,x.b.row,x.c.row] by simp) b e
end
end
section
section
variable {ps:List Pt} {ts us ss:List T3} {N:Nat}
theorem HQ {j:Nat} (h:j<ts.length):ts.getD j (0,0,0)∈ts:=by
  rw [List.getD,List.getElem?_eq_getElem h];exact List.getElem_mem h
theorem Hb {t:T3} (h:t∈ts):∃j,j<ts.length/\ts.getD j (0,0,0)=t:=by
  obtain ⟨j,hj,rfl⟩:=List.getElem_of_mem h
  exact ⟨j,hj,by rw [List.getD,List.getElem?_eq_getElem hj];rfl⟩
theorem EJ (h:ts.Perm us) (hn:Bn N ts=true):Bn N us=true:=List.all_eq_true.2 λt ht=>List.all_eq_true.1 hn t (h.mem_iff.2 ht)
theorem Kv (h:ts.Perm us):(FF ts).Perm (FF us):=by
  unfold FF
  induction h with
  | nil=>exact List.Perm.refl _
  | cons x _ ih=>rw [List.flatMap_cons,List.flatMap_cons];exact (List.Perm.refl _).append ih
  | swap x y l=>simp only [List.flatMap_cons,<-List.append_assoc];exact List.perm_append_comm.append (List.Perm.refl _)
  | trans _ _ h1 h2=>exact h1.trans h2
theorem QC {a b:List Rat} (h:a.Perm b):Hl a=Hl b:=by
  induction h with
  | nil=>rfl
  | cons x _ ih=>simp only [Hl,ih]
  | swap x y l=>simp only [Hl];grind
  | trans _ _ h1 h2=>rw [h1,h2]
theorem QF (h:ts.Perm us):Dh ps us us.length=Dh ps ts ts.length:=by rw [Ml,Ml];exact QC (h.map _).symm
def We (ps:List Pt) (s t:T3):Prop:=(!DM (BW ps s) (BW ps t)&&!DM (BW ps t) (BW ps s))=false
theorem We.symm {s t:T3} (h:We ps s t):We ps t s:=by unfold We at *;rw [Bool.and_comm];exact h
theorem NE:(∀i k,i<ts.length->k<i->We ps (ts.getD i (0,0,0)) (ts.getD k (0,0,0)))↔ts.Pairwise (We ps):=by
  rw [List.pairwise_iff_getElem]
  have e:∀j (h:j<ts.length),ts.getD j (0,0,0)=ts[j]:=λj h=>by rw [List.getD,List.getElem?_eq_getElem h];rfl
  constructor
  · intro h i j hi hj hij
    have:=h j i hj hij
    rw [e j hj,e i hi] at this
    exact this.symm
  · intro h i k hi hk
    rw [e i hi,e k Z]
    exact (h k i Z hi hk).symm
theorem Sx (h:ts.Perm us) (c:Ft ps ts ss):Ft ps us ss:=by
  have hl:=h.length_eq
  refine ⟨c.pl,by rw [<-hl];exact c.tl,by rw [<-hl];exact c.t0,c.sl,c.sz,EJ h c.num,λj hj=>?_,c.sid,λp hp=>?_,c.dst,?_,λi p hi hp hh=>?_,?_,?_⟩
  · obtain ⟨k,hk,e⟩:=Hb (h.mem_iff.2 (HQ hj));rw [<-e];exact c.pos k hk
  · obtain ⟨j,hj,h1⟩:=c.use p hp
    obtain ⟨k,hk,e⟩:=Hb (h.mem_iff.1 (HQ hj))
    exact ⟨k,hk,by rw [e];exact h1⟩
  · exact NE.2 ((h.pairwise_iff λh=>We.symm h).1 (NE.1 c.apart))
  · obtain ⟨k,hk,e⟩:=Hb (h.mem_iff.2 (HQ hi));rw [<-e] at hh ⊢;exact c.crn k p hk hp hh
  · have hp:=c.pl
    rw [<-Hj c.num (EJ h c.num) Z (Kv h)];exact c.rl
  · have hp:=c.pl
    rw [<-Hj c.num (EJ h c.num) Z (Kv h)];exact c.rim
theorem Dj (t:T3) (i:Nat):Cv t i=t\/Cv t i=(t.2.1,t.2.2,t.1)\/Cv t i=(t.2.2,t.1,t.2.1):=by
  rw [Qx]
  have e:i%3=0\/i%3=1\/i%3=2:=by omega
  rcases e with e|e|e<;>rw [e]
  · exact .inl O
  · exact .inr (.inl O)
  · exact .inr (.inr O)
theorem Mp (t:T3) (i p:Nat):B_ (Cv t i) p=B_ t p:=by
  rcases Dj t i with e|e|e<;>rw [e]<;>unfold B_<;>cases t.1 == p<;>cases t.2.1 == p<;>cases t.2.2 == p<;>rfl
theorem Kz (ps:List Pt) (t:T3) (i:Nat):AO (cor ps (Cv t i).1) (cor ps (Cv t i).2.1) (cor ps (Cv t i).2.2)=AO (cor ps t.1) (cor ps t.2.1) (cor ps t.2.2):=by
  rcases Dj t i with e|e|e<;>rw [e]
  · exact FT _ _ _
  · show AO (cor ps t.2.2) (cor ps t.1) (cor ps t.2.1)=_
    rw [<-FT]
theorem OJ (x y z:Rat):D9 y z x=D9 x y z:=by
  unfold D9
  by_cases h:x.num.sign = -1\/y.num.sign = -1\/z.num.sign = -1
  · rw [if_pos h,if_pos (by rcases h with h|h|h<;>simp [h])]
  · rw [if_neg h,if_neg (λk=>h (by rcases k with k|k|k<;>simp [k]))];omega
theorem JO (a b c p:Pt):G3 b c a p=G3 a b c p:=by
  unfold G3
  rw [FT a b c,show AO p c a=AO a p c by simp only [B5];grind,show AO b p a=AO a b p by simp only [B5];grind,show AO b c p=AO p b c by simp only [B5];grind,OJ]
theorem Og (ps:List Pt) (q:Pt) (t:T3) (i:Nat):F3 ps q (Cv t i)=F3 ps q t:=by
  unfold F3
  rcases Dj t i with e|e|e<;>rw [e]
  · exact JO _ _ _ _
  · show G3 (cor ps t.2.2) (cor ps t.1) (cor ps t.2.1) q=_
    rw [<-JO]
theorem KA (ps:List Pt) (p q:Pt) (t:T3) (i:Nat):D0 p q (BW ps (Cv t i))=D0 p q (BW ps t):=by
  rcases Dj t i with e|e|e<;>rw [e]<;>unfold D0 BW<;>simp only<;>cases KN p q (cor ps t.1)<;>cases KN p q (cor ps t.2.1)<;>cases KN p q (cor ps t.2.2)<;>rfl
theorem NR (ps:List Pt) (s t:T3) (i k:Nat):DM (BW ps (Cv s i)) (BW ps (Cv t k))=DM (BW ps s) (BW ps t):=by
  unfold DM
  rw [KA,KA,KA]
  rcases Dj s i with e|e|e<;>rw [e]<;>unfold BW<;>simp only<;>cases D0 (cor ps s.1) (cor ps s.2.1) (cor ps t.1,cor ps t.2.1,cor ps t.2.2)<;>cases D0 (cor ps s.2.1) (cor ps s.2.2) (cor ps t.1,cor ps t.2.1,cor ps t.2.2)<;>cases D0 (cor ps s.2.2) (cor ps s.1) (cor ps t.1,cor ps t.2.1,cor ps t.2.2)<;>rfl
theorem Pu (f:Nat->Nat):(FF ts).Perm (FF (Dx ts f ts.length)):=by
  unfold FF
  refine flatMap_perm2 (0,0,0) (DE f _).symm λj hj=>?_
  rw [EY f _ _ (Nat.le_refl _) hj,if_pos hj]
  rcases Dj (ts.getD j (0,0,0)) (f j) with e|e|e<;>rw [e]
  · exact (List.perm_append_comm (l₁:=[B9 _ _]) (l₂:=[B9 _ _,B9 _ _]))
  · exact (List.perm_append_comm (l₁:=[B9 _ _,B9 _ _]) (l₂:=[B9 _ _]))
theorem Mm (f:Nat->Nat):∀i,i<=ts.length->Dh ps (Dx ts f ts.length) i=Dh ps ts i
  | 0,_=>rfl
  | i+1,h=>by
    show Dh ps (Dx ts f ts.length) i+_=Dh ps ts i+_
    rw [Mm f i Z,EY f _ _ (Nat.le_refl _) Z,if_pos Z]
    unfold MN
    rw [Kz]
theorem Tv (f:Nat->Nat) (c:Ft ps ts ss):Ft ps (Dx ts f ts.length) ss:=by
  have hp:=c.pl
  have hg:∀j,j<ts.length->(Dx ts f ts.length).getD j (0,0,0)=Cv (ts.getD j (0,0,0)) (f j):=λj hj=>by rw [EY f _ _ (Nat.le_refl _) hj,if_pos hj]
  have hl:=DE (ts:=ts) f ts.length
  have hr:=Hj c.num (JZ f c.num) Z (Pu f)
  refine ⟨c.pl,by rw [hl];exact c.tl,by rw [hl];exact c.t0,c.sl,c.sz,JZ f c.num,λj hj=>?_,c.sid,λp hp=>?_,c.dst,λi k hi hk=>?_,λi p hi hp hh=>?_,by rw [<-hr];exact c.rl,by rw [<-hr];exact c.rim⟩
  · rw [hl] at hj
    rw [hg j hj,Kz];exact c.pos j hj
  · obtain ⟨j,hj,h1⟩:=c.use p hp
    exact ⟨j,by rw [hl];exact hj,by rw [hg j hj,Mp];exact h1⟩
  · rw [hl] at hi
    rw [hg i hi,hg k Z,NR,NR];exact c.apart i k hi hk
  · rw [hl] at hi
    rw [hg i hi] at hh ⊢
    rw [Mp] at hh
    rw [Og];exact c.crn i p hi hp hh
theorem R9 (g:Ek ps ts) (hn:Bn ps.length ts=true) (sd:∃mm,ss=EX mm ts ps.length ps.length) (hsl:ss.length<=24576):Ft ps ts ss:=by
  have e:(ts.map λt=>Cv t ((λ_=>0) t))=ts:=by
    have e2:(λt:T3=>Cv t ((λ_=>0) t))=id:=funext λt=>rfl
    rw [e2,List.map_id]
  have h:=Uu (h:=λ_=>0) g hn sd hsl (λ_=>by decide) (by rw [e];exact hn)
  rwa [e] at h
def k4 (e:E4):Nat×Nat×Bool×Bool:=(e.a,e.b,decide (e.l<0),decide (e.r<0))
def Ws (x y:Nat×Nat×Bool×Bool):Prop:=x.1<y.1\/(x.1=y.1/\x.2.1<y.2.1)
theorem Ws.asymm (x y:Nat×Nat×Bool×Bool) (h:Ws x y):¬Ws y x:=by unfold Ws at *;omega
theorem Kg (hn:Bn N ts=true) (hN:N<=4611686018427387904):((edL ts).map k4).Pairwise Ws:=List.pairwise_map.2 ((Fc hn hN).imp λh=>h)
theorem Mk (h:ts.Perm us) {a b:Nat} (k:∃u,u<3*ts.length/\Bg ts u=(a,b)):∃u,u<3*us.length/\Bg us u=(a,b):=by
  obtain ⟨u,hu,e⟩:=k
  obtain ⟨j,hj,e2⟩:=Hb (h.mem_iff.1 (HQ (show u/3<ts.length by omega)))
  refine ⟨3*j+u%3,Z,?_⟩
  rw [EG Z,e2,<-e]
  rfl
theorem HG.neg {s a b:Nat} {z:Int} (h:HG ts s a b z):z<0↔¬∃u,u<s/\Bg ts u=(a,b):=by
  rcases h with ⟨h1,h2⟩|⟨u,h1,h2,h3,_⟩
  · exact ⟨λ_ ⟨u,hu,e⟩=>h2 u hu e,λ_=>by omega⟩
  · exact ⟨λh=>by omega,λh=>absurd ⟨u,h1,h3⟩ h⟩
theorem Jk (ts:List T3) (a b:Nat):∀s,∃z,HG ts s a b z
  | 0=>⟨-1,HG.none λu hu=>absurd hu (Nat.not_lt_zero _)⟩
  | s+1=>by
    obtain ⟨z,h⟩:=Jk ts a b s
    by_cases e:Bg ts s=(a,b)
    · by_cases hz:z = -1
      · subst hz;exact ⟨_,h.take e⟩
      · exact ⟨z,h.keep hz⟩
    · exact ⟨z,h.skip e⟩
theorem Qy (h:ts.Perm us) (hn:Bn N ts=true) (hN:N<=4611686018427387904) {x:Nat×Nat×Bool×Bool} (hx:x∈(edL ts).map k4):x∈(edL us).map k4:=by
  obtain ⟨e,he,rfl⟩:=List.mem_map.1 hx
  have k:=(Gd hn hN).1 he
  obtain ⟨zl,hl⟩:=Jk us e.a e.b (3*us.length)
  obtain ⟨zr,hr⟩:=Jk us e.b e.a (3*us.length)
  have lt:e.a<e.b:=k.lt
  have kl:HG ts (3*ts.length) e.a e.b e.l:=k.l
  have kr:HG ts (3*ts.length) e.b e.a e.r:=k.r
  have d:∀a b,(∃u,u<3*ts.length/\Bg ts u=(a,b))↔∃u,u<3*us.length/\Bg us u=(a,b):=λa b=>⟨Mk h,Mk h.symm⟩
  refine List.mem_map.2 ⟨⟨e.a,e.b,zl,zr⟩,(Gd (EJ h hn) hN).2 ⟨rfl,rfl,lt,hl,hr,?_⟩,?_⟩
  · obtain ⟨u,hu,h1⟩:=k.some
    rcases h1 with h1|h1
    · obtain ⟨v,hv,h2⟩:=(d _ _).1 ⟨u,hu,h1⟩;exact ⟨v,hv,.inl h2⟩
    · obtain ⟨v,hv,h2⟩:=(d _ _).1 ⟨u,hu,h1⟩;exact ⟨v,hv,.inr h2⟩
  · have e1:zl<0↔e.l<0:=by rw [hl.neg,kl.neg,d]
    have e2:zr<0↔e.r<0:=by rw [hr.neg,kr.neg,d]
    unfold k4
    simp only [e1,e2]
theorem LY (h:ts.Perm us) (hn:Bn N ts=true) (hN:N<=4611686018427387904):(edL ts).map k4=(edL us).map k4 :=
  Fa Ws.asymm (Kg hn hN) (Kg (EJ h hn) hN) λx=>⟨Qy h hn hN,Qy h.symm (EJ h hn) hN⟩
theorem Vx {i:Nat} (h:ts.Perm us) (hn:Bn N ts=true) (hN:N<=4611686018427387904) (hi:i<(edL ts).length):k4 ((edL ts).getD i ⟨0,0,0,0⟩)=k4 ((edL us).getD i ⟨0,0,0,0⟩):=by
  have hl:(edL ts).length=(edL us).length:=by have:=congrArg List.length (LY h hn hN);rwa [List.length_map,List.length_map] at this
  have e:∀{l:List E4},i<l.length->(l.map k4)[i]?=some (k4 (l.getD i ⟨0,0,0,0⟩)):=λ{l} h=>by rw [List.getElem?_map,List.getD,List.getElem?_eq_getElem h];rfl
  have h1:=e hi
  rw [LY h hn hN,e (hl▸hi)] at h1
  exact (Option.some.inj h1).symm
theorem ME (h:ts.Perm us) (hn:Bn N ts=true) (hN:N<=4611686018427387904):(edL us).length=(edL ts).length:=by
  have:=congrArg List.length (LY h hn hN);rw [List.length_map,List.length_map] at this;exact this.symm
end
end
section
section
variable {P:Program} {ops:Array Oper} {rest:List Oper} {Q:Exit->Act->World->Prop} {n:Nat} {F:List (Nat×Value)} {w0:BK} {L:List As} {S:Nat->Prop} {ps:List Pt} {ts us ss:List T3}
theorem AE.litT {b U:Nat} {cs:List Value} (LL:RX (rowsL Am ts) ts.length->List As) (i:Nat) (h:L[i]?=some (Ae b U cs)) (hex:w0.ex=none) (e:cs=rowsL Am ts)
    (hL:L.set i (Ah (some ⟨b,0,none⟩) cs)=LL ⟨some ⟨b,0,none⟩,ts.length,GZ _ _⟩)
    (next:∀tt:RX (rowsL Am ts) ts.length,At w0 S tt->AE P ops rest Q n F w0 (LL tt)):AE P ops rest Q n F w0 L:=λa w ha hw=>by
  subst e
  have n1:=L3 hw h hex
  have w1:=hw.freeze (x:=Ae b U (rowsL Am ts)) (y:=Ah (some ⟨b,0,none⟩) (rowsL Am ts)) h rfl (λo hp=>FH hp) (λe=>by cases e)
  rw [hL] at w1
  refine next _ (λy hy c eb=>?_) a w ha w1
  rcases List.mem_singleton.1 hy with rfl
  injection eb with eb;subst eb;exact .inl (by assumption)
theorem At.withT {x:MX ps us ss} {t:RX (rowsL Am ts) ts.length} (hx:At w0 S x) (ht:At w0 S t):At w0 S (⟨x.a,t,x.c⟩:MX ps ts ss):=λz hz b e=>by
  have hz:z∈[x.a.row,t.row,x.c.row]:=hz
  simp only [List.mem_cons,List.not_mem_nil,or_false] at hz
  rcases hz with rfl|rfl|rfl
  · exact hx _ (show x.a.row∈[x.a.row,x.b.row,x.c.row] by simp) b e
  · exact ht _ (List.mem_singleton.2 O) b e
  · exact hx _ (show x.c.row∈[x.a.row,x.b.row,x.c.row] by simp) b e
end
def Eg:List Pt:=[⟨0,0⟩,⟨1,0⟩,⟨1,1⟩,⟨0,1⟩]
def Cg:List T3:=[(0,1,2),(0,2,3)]
def N9:List T3:=[(0,1,2),(0,3,2)]
def Ke:List T3:=[(0,1,1),(0,3,0),(1,2,0),(2,3,0)]
theorem OF (i:Nat):CG (cor Eg i)<=1000:=Wm (by decide +kernel) (by decide +kernel) i
theorem Wh:∀i,i<Cg.length->∀k,k<i->(!DM (BW Eg (Cg.getD i (0,0,0))) (BW Eg (Cg.getD k (0,0,0)))&&!DM (BW Eg (Cg.getD k (0,0,0))) (BW Eg (Cg.getD i (0,0,0))))=false:=by decide +kernel
theorem Wj:∀i,i<Cg.length->∀p,p<Eg.length->B_ (Cg.getD i (0,0,0)) p=false->F3 Eg (cor Eg p) (Cg.getD i (0,0,0))=0:=by decide +kernel
theorem UK:Ft Eg Cg Ke:=by
  refine ⟨by decide,by decide,by decide,by decide,OF,by decide +kernel,by decide +kernel,by decide +kernel,λp hp=>?_,by decide +kernel,λi k hi hk=>Wh i hi k hk,λi p hi hp=>Wj i hi p hp,by decide +kernel,by decide +kernel⟩
  have hp:p<4:=hp
  have e:p=0\/p=1\/p=2\/p=3:=by omega
  rcases e with rfl|rfl|rfl|rfl
  · exact ⟨0,by decide,by decide +kernel⟩
  · exact ⟨0,by decide,by decide +kernel⟩
  · exact ⟨0,by decide,by decide +kernel⟩
  · exact ⟨1,by decide,by decide +kernel⟩
end
end Go.Proofs.YtfbomiejpbchdaaGreatDoor
