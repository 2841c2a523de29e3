import Derived.Test.YtbfdamnfcmefmaaGreatDoorPend27
namespace Go.Proofs.YtbfdamnfcmefmaaGreatDoor
open Go Go.RowKit Go.Proofs.Tryz
open Go.Value renaming slice→qz,bool→qa
set_option linter.unusedVariables false
set_option linter.unusedSimpArgs false
abbrev T2:=P2×P2×P2
def b_ (A B:P2) (X Y:Nat):Int:=((B.1:Int)-A.1)*((Y:Int)-2*A.2)-((B.2:Int)-A.2)*((X:Int)-2*A.1)
def bv (t:T2) (X Y:Nat):Bool:=decide (0<=b_ t.2.1 t.2.2 X Y)&&decide (0<=b_ t.2.2 t.1 X Y)&&decide (0<=b_ t.1 t.2.1 X Y)
def Kr (t:T2) (q:P2):Bool:=t.1 == q||t.2.1 == q||t.2.2 == q
def TG (u v c:Nat):List T2 :=
  let x:=2*u;let y:=2*v
  if c=0 then [((x,y),(x+2,y),(x+2,y+2)),((x,y),(x+2,y+2),(x,y+2))]
  else if c=1 then [((x,y),(x+2,y),(x,y+2)),((x+2,y),(x+2,y+2),(x,y+2))]
  else if c=2 then [((x,y),(x+2,y),(x+1,y+1)),((x+2,y),(x+2,y+2),(x+1,y+1)),((x+2,y+2),(x,y+2),(x+1,y+1)),((x,y+2),(x,y),(x+1,y+1))] else []
def Xi (way i:Nat):Nat:=if way<3\/(way=7/\i=0) then 0 else if way<5 then 1 else if way<7 then 2 else 3
theorem Mn (nx way i:Nat):Co nx way i=TG (i%nx) (i/nx) (Xi way i):=by
  unfold Co TG Xi
  simp only
  split
  · rfl
  · split
    · rfl
    · split<;>rfl
theorem J5 (way i:Nat):Xi way i<4:=by
  unfold Xi
  split
  · omega
  · split
    · omega
    · split<;>omega
def OF (s t:T2):Bool :=
  [s.1,s.2.1,s.2.2].all (λq=>!bv t (2*q.1) (2*q.2)||Kr t q) &&
  [(s.1,s.2.1),(s.2.1,s.2.2),(s.2.2,s.1)].all (λe=>!bv t (e.1.1+e.2.1) (e.1.2+e.2.2)||(Kr t e.1&&Kr t e.2))
def Gj:List (Tq3):=[0,1,2].flatMap λu=>[0,1,2].flatMap λv=>[0,1,2,3].map λc=>(u,v,c)
def cH:Bool:=Gj.all λp=>Gj.all λq=>(decide (p.1=q.1/\p.2.1=q.2.1/\p.2.2≠q.2.2))||(TG p.1 p.2.1 p.2.2).all λs=>(TG q.1 q.2.1 q.2.2).all λt=>OF s t
theorem Qk:cH=true:=by decide +kernel
theorem Eu {u v c:Nat} (hu:u<=2) (hv:v<=2) (hc:c<4):(u,v,c)∈Gj:=by
  have h1:u=0\/u=1\/u=2:=by omega
  have h2:v=0\/v=1\/v=2:=by omega
  have h3:c=0\/c=1\/c=2\/c=3:=by omega
  rcases h1 with rfl|rfl|rfl<;>rcases h2 with rfl|rfl|rfl<;>rcases h3 with rfl|rfl|rfl|rfl<;>decide
theorem Rx {m:MQ} {s t:T2} (hs:s∈Aw m) (ht:t∈Aw m):OF s t=true:=by
  obtain ⟨i,hi,h1⟩:=EJ m _ s hs
  obtain ⟨j,hj,h2⟩:=EJ m _ t ht
  have hx:=JB m
  have hy:=JC m
  have b:∀k,k<GA m*S4 m->k%GA m<=2/\k/GA m<=2:=λk hk=>by
    have a1:=Nat.mod_lt k (show 0<GA m by omega)
    have a2:k/GA m<S4 m:=Nat.div_lt_of_lt_mul hk
    omega
  rw [Mn] at h1 h2
  have h:=List.all_eq_true.1 (List.all_eq_true.1 Qk _ (Eu (b i hi).1 (b i hi).2 (J5 (Gg m i) i))) _ (Eu (b j hj).1 (b j hj).2 (J5 (Gg m j) j))
  rw [yy,xV] at h
  rcases h with ⟨e1,e2,e3⟩|h
  · exfalso
    have e:i=j:=by rw [<-Nat.div_add_mod i (GA m),<-Nat.div_add_mod j (GA m),show i%GA m=j%GA m from e1,show i/GA m=j/GA m from e2]
    subst e
    exact e3 O
  · exact List.all_eq_true.1 (List.all_eq_true.1 h s h1) t h2
theorem Vc (A B:P2) (X Y:Nat):KL A B ((X:Rat)*(1/2)) ((Y:Rat)*(1/2))=((b_ A B X Y:Int):Rat)*(1/2):=by
  simp only [KL,b_,Rat.intCast_sub,Rat.intCast_mul,Rat.intCast_natCast,show ((2:Int):Rat)=2 from rfl]
  grind
theorem VO {t:T2} {X Y:Nat} (h:inC t ((X:Rat)*(1/2)) ((Y:Rat)*(1/2))):bv t X Y=true:=by
  obtain ⟨h1,h2,h3⟩:=h
  rw [Vc] at h1 h2 h3
  have c:∀z:Int,0<=(z:Rat)*(1/2)->0<=z:=λz hz=>by
    have:(0:Rat)<=(z:Rat):=by grind
    exact_mod_cast this
  simp only [bv,yz,xV]
  exact ⟨⟨c _ h1,c _ h2⟩,c _ h3⟩
theorem Nf {t:T2} {q:P2} (h:Kr t q=true):∃r,r<3/\C0 t r=q:=by
  simp only [Kr,yy,beq_iff_eq] at h
  rcases h with (h|h)|h
  · exact ⟨0,Z,h⟩
  · exact ⟨1,Z,h⟩
  · exact ⟨2,Z,h⟩
theorem Uk (t:T2) {r:Nat} (h:r<3):C0 t r∈[t.1,t.2.1,t.2.2]:=by
  have:r=0\/r=1\/r=2:=by omega
  rcases this with rfl|rfl|rfl<;>simp [C0]
theorem Oz {m:MQ} {s t:T2} (hs:s∈Aw m) (ht:t∈Aw m) {r:Nat} (hr:r<3) (h:inC t ((C0 s r).1:Rat) ((C0 s r).2:Rat)):∃k,k<3/\C0 t k=C0 s r:=by
  have hp:=Rx hs ht
  unfold OF at hp
  rw [yz] at hp
  have h1:=List.all_eq_true.1 hp.1 _ (Uk s hr)
  have h2:bv t (2*(C0 s r).1) (2*(C0 s r).2)=true:=VO (by
    rw [Gk,Gk,show 2*((C0 s r).1:Rat)*(1/2)=((C0 s r).1:Rat) by grind,show 2*((C0 s r).2:Rat)*(1/2)=((C0 s r).2:Rat) by grind]
    exact h)
  rw [h2] at h1
  exact Nf (by simpa using h1)
theorem Um {m:MQ} {s t:T2} (hs:s∈Aw m) (ht:t∈Aw m) {r:Nat} (hr:r<3) (h:inC t ((((C0 s r).1+(C0 s ((r+1)%3)).1:Nat):Rat)*(1/2)) ((((C0 s r).2+(C0 s ((r+1)%3)).2:Nat):Rat)*(1/2))) :
    (∃k,k<3/\C0 t k=C0 s r)/\∃k,k<3/\C0 t k=C0 s ((r+1)%3):=by
  have hp:=Rx hs ht
  unfold OF at hp
  rw [yz] at hp
  have hm:(C0 s r,C0 s ((r+1)%3))∈[(s.1,s.2.1),(s.2.1,s.2.2),(s.2.2,s.1)]:=by
    have:r=0\/r=1\/r=2:=by omega
    rcases this with rfl|rfl|rfl<;>simp [C0]
  have h1:=List.all_eq_true.1 hp.2 _ hm
  rw [VO h] at h1
  have h2:Kr t (C0 s r)=true/\Kr t (C0 s ((r+1)%3))=true:=by simpa using h1
  exact ⟨Nf h2.1,Nf h2.2⟩
section
def PQ (k:DB) (den:Nat) (X Y:Rat):Pt:=⟨((k.a:Rat)*X+(k.b:Rat)*Y)/(((max den 1:Nat):Int):Rat),((k.c:Rat)*X+(k.d:Rat)*Y)/(((max den 1:Nat):Int):Rat)⟩
theorem JV (k:DB) (den:Nat) (A:P2):CK (Ge k den A)=PQ k den (A.1:Rat) (A.2:Rat):=by
  simp only [CK,Ge,Oa,DB.at_,PQ,Rat.intCast_add,Rat.intCast_mul,Rat.intCast_natCast]
theorem Zk (k:DB) (den:Nat) (A B:P2):G0 (CK (Ge k den A)+CK (Ge k den B)) (1/2)=PQ k den (((A.1+B.1:Nat):Rat)*(1/2)) (((A.2+B.2:Nat):Rat)*(1/2)):=by
  rw [JV,JV]
  refine Pt.ext ?_ ?_<;>simp only [PQ,R6,R7,ZL,ZM,Rat.natCast_add,Rat.div_def]<;>generalize (((max den 1:Nat):Int):Rat)⁻¹=e<;>grind
theorem PB {k:DB} (h:k.Ok) (den:Nat):∃c:Rat,0<c/\∀(A B:P2) (X Y:Rat),AC (CK (Ge k den A)) (CK (Ge k den B)) (PQ k den X Y)=c*KL A B X Y:=by
  have hD:0<(((max den 1:Nat):Int):Rat):=by exact_mod_cast (show (0:Int)<((max den 1:Nat):Int) by omega)
  have hd:(0:Rat)<(k.det:Rat):=by exact_mod_cast h.pos
  have ed:(k.det:Rat)=(k.a:Rat)*(k.d:Rat)-(k.b:Rat)*(k.c:Rat):=by simp only [DB.det,Rat.intCast_sub,Rat.intCast_mul]
  have hi:=Rat.inv_pos.2 hD
  refine ⟨(k.det:Rat)*((((max den 1:Nat):Int):Rat)⁻¹*(((max den 1:Nat):Int):Rat)⁻¹),Rat.mul_pos hd (Rat.mul_pos hi hi),λA B X Y=>?_⟩
  rw [JV,JV,ed]
  simp only [BC,PQ,KL,Rat.div_def]
  generalize (((max den 1:Nat):Int):Rat)⁻¹=e
  grind
theorem aj (m:MQ) (t:Nat) {k:Nat} (hk:k<3):∃r,r<3/\JI m t r=k:=by
  unfold JI
  generalize t*(m.fst/3)=q
  have e:(m.fst+q)%3=0\/(m.fst+q)%3=1\/(m.fst+q)%3=2:=by omega
  rcases e with e|e|e
  · exact ⟨k,hk,Z⟩
  · exact ⟨(k+2)%3,Nat.mod_lt _ jY,Z⟩
  · exact ⟨(k+1)%3,Nat.mod_lt _ jY,Z⟩
theorem PY (m:MQ) (t r:Nat):JI m t ((r+1)%3)=(JI m t r+1)%3:=by unfold JI;omega
def crn (t:Tq3) (r:Nat):Nat:=if r=0 then t.1 else if r=1 then t.2.1 else t.2.2
def B4 (t:Tq3) (p:Nat):Bool:=t.1 == p||t.2.1 == p||t.2.2 == p
theorem LJ {t:Tq3} {p:Nat}:B4 t p=true↔∃r,r<3/\crn t r=p:=by
  simp only [B4,yy,beq_iff_eq]
  constructor
  · rintro ((h|h)|h)
    · exact ⟨0,Z,h⟩
    · exact ⟨1,Z,h⟩
    · exact ⟨2,Z,h⟩
  · rintro ⟨r,hr,h⟩
    have:r=0\/r=1\/r=2:=by omega
    rcases this with rfl|rfl|rfl
    · exact .inl (.inl h)
    · exact .inl (.inr h)
    · exact .inr h
theorem JW.crn {m:MQ} {pl:List P2} {n:Tq3} {t:Nat} (h:JW m pl n t) {r:Nat} (hr:r<3):Go.Proofs.YtbfdamnfcmefmaaGreatDoor.crn n r<pl.length/\pl.getD (Go.Proofs.YtbfdamnfcmefmaaGreatDoor.crn n r) (0,0)=Ai m t r:=by
  have:r=0\/r=1\/r=2:=by omega
  rcases this with rfl|rfl|rfl
  · exact h.a
  · exact h.b
  · exact h.c
section
variable {ps:List Pt} {ts:List (Tq3)}
structure Zh (ps:List Pt) (ts:List (Tq3)) (m:MQ) (pl:List P2):Prop where
  inv:NS m (Aw m).length pl ts
  dst:XP pl
  pl_len:ps.length=pl.length
  at_:∀i,i<pl.length->ps.getD i ⟨0,0⟩=CK (Ge (mapM m) (Bz m) (pl.getD i (0,0)))
theorem FY.lattice (g:FY ps ts):∃m pl,Zh ps ts m pl:=by
  obtain ⟨m,pl,h1,h2,h3⟩:=g.lat
  have hz:(Ft m pl).length=pl.length:=by simp [Ft]
  refine ⟨m,pl,h1,h2,by rw [h3,KU Z],λi hi=>?_⟩
  rw [h3,<-hz,R0 (by rw [hz];exact hi),Ka hi]
  rfl
theorem Zh.cell {m:MQ} {pl:List P2} (l:Zh ps ts m pl) {t:Nat} (ht:t<ts.length):(Aw m).getD t ((0,0),(0,0),(0,0))∈Aw m:=by
  have h:=l.inv.tl
  rw [List.getD,xP Z];exact List.getElem_mem _
theorem Zh.inC {m:MQ} {pl:List P2} (l:Zh ps ts m pl) {t:Nat} (ht:t<ts.length) {X Y:Rat} (h:Kh ps (ts.getD t (0,0,0)) (PQ (mapM m) (Bz m) X Y)):Go.Proofs.YtbfdamnfcmefmaaGreatDoor.inC ((Aw m).getD t ((0,0),(0,0),(0,0))) X Y:=by
  obtain ⟨c,hc,key⟩:=PB (Fe m.a m.b m.c m.d) (Bz m)
  have hk:mapM m=Gd m.a m.b m.c m.d:=rfl
  rw [<-hk] at key
  have hat:=l.inv.at_ t (by have:=l.inv.tl;omega)
  obtain ⟨⟨a1,a2⟩,⟨b1,b2⟩,⟨c1,c2⟩⟩:=hat
  obtain ⟨k1,k2,k3⟩:=h
  rw [l.at_ _ b1,l.at_ _ c1,b2,c2,<-BZ,key] at k1
  rw [l.at_ _ a1,l.at_ _ c1,a2,c2,BZ,key] at k2
  rw [l.at_ _ a1,l.at_ _ b1,a2,b2,key] at k3
  exact (Nd m t X Y).2 (Hj hc k1) (Hj hc k2) (Hj hc k3)
theorem Zh.idx {m:MQ} {pl:List P2} (l:Zh ps ts m pl) {t p:Nat} (ht:t<ts.length) (hp:p<pl.length) (h:∃k,k<3/\C0 ((Aw m).getD t ((0,0),(0,0),(0,0))) k=pl.getD p (0,0)):B4 (ts.getD t (0,0,0)) p=true:=by
  obtain ⟨k,hk,e⟩:=h
  obtain ⟨r,hr,e2⟩:=aj m t hk
  obtain ⟨h1,h2⟩:=(l.inv.at_ t (by have:=l.inv.tl;omega)).crn hr
  have e3:Ai m t r=pl.getD p (0,0):=by rw [<-e,<-e2];rfl
  exact LJ.2 ⟨r,hr,l.dst _ _ h1 hp (by rw [h2,e3])⟩
theorem I5 (g:FY ps ts) {p:Nat} (hp:p<ps.length):∃j,j<ts.length/\B4 (ts.getD j (0,0,0)) p=true:=by
  obtain ⟨m,pl,l⟩:=g.lattice
  obtain ⟨j,hj,h⟩:=l.inv.used p (by rw [<-l.pl_len];exact hp)
  refine ⟨j,by have:=l.inv.tl;omega,?_⟩
  simp only [B4,yy,beq_iff_eq]
  rcases h with h|h|h
  · exact .inl (.inl h)
  · exact .inl (.inr h)
  · exact .inr h
theorem Vg (g:FY ps ts) {p q:Nat} (hp:p<ps.length) (hq:q<ps.length) (h:ps.getD p ⟨0,0⟩=ps.getD q ⟨0,0⟩):p=q:=by
  obtain ⟨m,pl,l⟩:=g.lattice
  obtain ⟨j,hj,hh⟩:=I5 g hq
  obtain ⟨r,hr,e⟩:=LJ.1 hh
  have hp':p<pl.length:=by rw [<-l.pl_len];exact hp
  have hq':q<pl.length:=by rw [<-l.pl_len];exact hq
  rw [l.at_ p hp',l.at_ q hq'] at h
  refine l.dst p q hp' hq' ?_
  have hD:0<(((max (Bz m) 1:Nat):Int):Rat):=by exact_mod_cast (show (0:Int)<((max (Bz m) 1:Nat):Int) by omega)
  have hk:=Fe m.a m.b m.c m.d
  have hdet:=hk.pos
  have hx:=congrArg Pt.x h
  have hy:=congrArg Pt.y h
  rw [JV,JV] at hx hy
  simp only [PQ,Rat.div_def] at hx hy
  have hi:=Rat.inv_pos.2 hD
  generalize (((max (Bz m) 1:Nat):Int):Rat)⁻¹=e at *
  generalize pl.getD p (0,0)=A at *
  generalize pl.getD q (0,0)=B at *
  obtain ⟨x1,y1⟩:=A
  obtain ⟨x2,y2⟩:=B
  simp only at hx hy
  have hd:(0:Rat)<((mapM m).det:Rat):=by exact_mod_cast hdet
  have ed:((mapM m).det:Rat)=((mapM m).a:Rat)*((mapM m).d:Rat)-((mapM m).b:Rat)*((mapM m).c:Rat):=by simp only [DB.det,Rat.intCast_sub,Rat.intCast_mul]
  rw [ed] at hd
  generalize ((mapM m).a:Rat)=a at *
  generalize ((mapM m).b:Rat)=b at *
  generalize ((mapM m).c:Rat)=c at *
  generalize ((mapM m).d:Rat)=d at *
  clear hD hk hdet ed h
  have hX:((x1:Rat)-(x2:Rat))*(a*d-b*c)*e=0:=by grind
  have hY:((y1:Rat)-(y2:Rat))*(a*d-b*c)*e=0:=by grind
  have z1:(x1:Rat)-(x2:Rat)=0:=by
    rcases Rat.mul_eq_zero.1 hX with h|h
    · rcases Rat.mul_eq_zero.1 h with h|h
      · exact h
      · grind
    · grind
  have z2:(y1:Rat)-(y2:Rat)=0:=by
    rcases Rat.mul_eq_zero.1 hY with h|h
    · rcases Rat.mul_eq_zero.1 h with h|h
      · exact h
      · grind
    · grind
  have w1:(x1:Rat)=(x2:Rat):=by grind
  have w2:(y1:Rat)=(y2:Rat):=by grind
  exact Prod.ext (by exact_mod_cast w1) (by exact_mod_cast w2)
theorem Ji (g:FY ps ts) {p t:Nat} (hp:p<ps.length) (ht:t<ts.length) (h:Kh ps (ts.getD t (0,0,0)) (ps.getD p ⟨0,0⟩)):B4 (ts.getD t (0,0,0)) p=true:=by
  obtain ⟨m,pl,l⟩:=g.lattice
  have hp':p<pl.length:=by rw [<-l.pl_len];exact hp
  obtain ⟨j,hj,hh⟩:=I5 g hp
  obtain ⟨r,hr,e⟩:=LJ.1 hh
  have hc:=((l.inv.at_ j (by have:=l.inv.tl;omega)).crn hr).2
  rw [e] at hc
  refine l.idx ht hp' ?_
  rw [l.at_ p hp',JV] at h
  have h2:=l.inC ht h
  rw [hc] at h2 ⊢
  exact Oz (l.cell hj) (l.cell ht) (Nat.mod_lt _ jY) h2
theorem Vh (g:FY ps ts) {s t r:Nat} (hs:s<ts.length) (ht:t<ts.length) (hr:r<3) (h:Kh ps (ts.getD t (0,0,0)) (G0 (ps.getD (crn (ts.getD s (0,0,0)) r) ⟨0,0⟩+ps.getD (crn (ts.getD s (0,0,0)) ((r+1)%3)) ⟨0,0⟩) (1/2))) :
    B4 (ts.getD t (0,0,0)) (crn (ts.getD s (0,0,0)) r)=true/\B4 (ts.getD t (0,0,0)) (crn (ts.getD s (0,0,0)) ((r+1)%3))=true:=by
  obtain ⟨m,pl,l⟩:=g.lattice
  have hat:=l.inv.at_ s (by have:=l.inv.tl;omega)
  obtain ⟨a1,a2⟩:=hat.crn hr
  obtain ⟨b1,b2⟩:=hat.crn (Nat.mod_lt (r+1) (show 0<3 by decide))
  rw [l.at_ _ a1,l.at_ _ b1,Zk,a2,b2] at h
  have h2:=l.inC ht h
  unfold Ai at h2
  rw [PY] at h2
  obtain ⟨k1,k2⟩:=Um (l.cell hs) (l.cell ht) (r:=JI m s r) (Nat.mod_lt _ jY) h2
  refine ⟨l.idx ht a1 ?_,l.idx ht b1 ?_⟩
  · rw [a2];exact k1
  · rw [b2];unfold Ai;rw [PY];exact k2
end
end
section
def VS (t:T3) (p:Nat):Int:=if p=t.1 then 0 else if p=t.2.1 then 1 else if p=t.2.2 then 2 else -1
theorem YL (t:T3) (p:Nat):decide (0<=VS t p)=B4 t p:=by
  unfold VS B4
  by_cases h1:p=t.1
  · rw [if_pos h1,h1];simp
  · have h1':¬t.1=p:=λe=>h1 e.symm
    rw [if_neg h1]
    by_cases h2:p=t.2.1
    · rw [if_pos h2,h2];simp
    · have h2':¬t.2.1=p:=λe=>h2 e.symm
      rw [if_neg h2]
      by_cases h3:p=t.2.2
      · rw [if_pos h3,h3];simp
      · have h3':¬t.2.2=p:=λe=>h3 e.symm
        rw [if_neg h3];simp [h1',h2',h3']
abbrev Q3:=Pt×Pt×Pt
def H8 (x:Q3):List Value:=Aa x.1++(Aa x.2.1++(Aa x.2.2++[]))
theorem cI (a b c:Pt):Aa a++Aa b++Aa c=H8 (a,b,c):=by simp [H8]
def Bd (ps:List Pt) (t:T3):Q3:=(cor ps t.1,cor ps t.2.1,cor ps t.2.2)
def MH (p q r:Pt):Bool:=decide (0<(AC p q r).num.sign)
def VR (p q:Pt) (B:Q3):Int:=if MH p q B.1=true then 0 else if MH p q B.2.1=true then 1 else if MH p q B.2.2=true then 2 else -1
def Fp (p q:Pt) (B:Q3):Bool:=MH p q B.1||MH p q B.2.1||MH p q B.2.2
theorem YK (p q:Pt) (B:Q3):decide (0<=VR p q B)=Fp p q B:=by
  unfold VR Fp
  cases MH p q B.1<;>cases MH p q B.2.1<;>cases MH p q B.2.2<;>rfl
def Dw (A B:Q3):Bool:=!Fp A.1 A.2.1 B||(!Fp A.2.1 A.2.2 B||!Fp A.2.2 A.1 B)
structure Eo (ps:List Pt) (ts ss:List T3):Prop where
  pl:ps.length<=4096
  tl:ts.length<=8192
  t0:0<ts.length
  sl:ss.length<=24576
  sz:∀k,Bl (cor ps k)<=1000
  num:Ba ps.length ts=true
  pos:∀j,j<ts.length->(AC (cor ps (ts.getD j (0,0,0)).1) (cor ps (ts.getD j (0,0,0)).2.1) (cor ps (ts.getD j (0,0,0)).2.2)).num.sign=1
  sid:∀j,j<ss.length->(ss.getD j (0,0,0)).1<ps.length/\(ss.getD j (0,0,0)).2.1<ps.length/\(ss.getD j (0,0,0)).2.2<=255
  use:∀p,p<ps.length->∃j,j<ts.length/\B4 (ts.getD j (0,0,0)) p=true
  dst:ps.Nodup
  apart:∀i k,i<ts.length->k<i->(!Dw (Bd ps (ts.getD i (0,0,0))) (Bd ps (ts.getD k (0,0,0)))&&!Dw (Bd ps (ts.getD k (0,0,0))) (Bd ps (ts.getD i (0,0,0))))=false
  crn:∀i p,i<ts.length->p<ps.length->B4 (ts.getD i (0,0,0)) p=false->JR ps (cor ps p) (ts.getD i (0,0,0))=0
  rl:ss.length=(Ea ts).length
  rim:∀j,j<ss.length->(ss.getD j (0,0,0)).1=((Ea ts).getD j (0,0,0)).1/\(ss.getD j (0,0,0)).2.1=((Ea ts).getD j (0,0,0)).2.1
theorem Eo.szM {ps:List Pt} {ts ss:List T3} (h:Eo ps ts ss) (k:Nat):Bl (cor ps k)<=1000000:=xM (h.sz k) jY
def Nb (x y:Pt):Int:=if Vd x y then -1 else if Vd y x then 1 else 0
theorem Fx {x y:Pt}:Nb x y<0↔Vd x y:=by
  unfold Nb
  split
  · exact ⟨λ_=>by assumption,λ_=>by decide⟩
  · rename_i h
    split<;>exact ⟨λk=>absurd k jY,λk=>absurd k h⟩
theorem S0 {ys:List Pt} (h:ys.Nodup) {k:Nat} (h1:1<=k) (hk:k<ys.length) (e:ys.getD k ⟨0,0⟩=ys.getD (k-1) ⟨0,0⟩):False:=by
  rw [List.getD,List.getD,xP hk,xP (show k-1<ys.length by omega)] at e
  have:=(List.getElem_inj h).1 e
  omega
def bL (us:List Bool):List Value:=us.map qa
theorem NT (us:List Bool):(bL us).length=us.length:=xK _
theorem P0 (us:List Bool) (j:Nat) (v:Bool):(bL us).set j (.bool v)=bL (us.set j v):=by unfold bL;rw [List.map_set]
theorem Zr {us:List Bool} {j:Nat} (h:j<us.length):(bL us)[j*1]?=some (.bool (us.getD j false)):=by simp [bL,h]
def L9 (ts:List T3) (n i:Nat):List Bool:=(List.range n).map λp=>(ts.take i).any λt=>B4 t p
theorem HA (ts:List T3) (n i:Nat):(L9 ts n i).length=n:=by simp [L9]
theorem TV (ts:List T3) (n:Nat):List.replicate n false=L9 ts n 0:=by
  unfold L9
  rw [List.take_zero]
  apply List.ext_getElem?
  intro j
  rcases Nat.lt_or_ge j n with h|h
  · simp [h]
  · rw [List.getElem?_eq_none (by simpa using h),List.getElem?_eq_none (by simpa using h)]
theorem TU {ts:List T3} {n i:Nat} (h:i<ts.length):(((L9 ts n i).set (ts.getD i (0,0,0)).1 true).set (ts.getD i (0,0,0)).2.1 true).set (ts.getD i (0,0,0)).2.2 true=L9 ts n (i+1):=by
  apply List.ext_getElem?
  intro j
  have e:ts.take (i+1)=ts.take i++[ts.getD i (0,0,0)]:=by rw [List.take_add_one,List.getD,xP h];rfl
  generalize ts.getD i (0,0,0)=T at *
  unfold L9
  rw [e]
  simp only [List.getElem?_set,List.length_set,xK,List.length_range,List.getElem?_map,List.any_append,List.any_cons,List.any_nil,Bool.or_false]
  rcases Nat.lt_or_ge j n with hj|hj
  · rw [List.getElem?_range hj]
    simp only [Option.map_some]
    unfold B4
    by_cases h1:T.1=j<;>by_cases h2:T.2.1=j<;>by_cases h3:T.2.2=j<;>simp [h1,h2,h3]<;>try omega
  · rw [List.getElem?_eq_none (by simpa using hj)]
    simp only [Option.map_none]
    by_cases h1:T.1=j<;>by_cases h2:T.2.1=j<;>by_cases h3:T.2.2=j<;>simp [h1,h2,h3]<;>omega
theorem Wz {ts:List T3} {n p:Nat} (hp:p<n) (h:∃j,j<ts.length/\B4 (ts.getD j (0,0,0)) p=true):(L9 ts n ts.length).getD p false=true:=by
  unfold L9
  rw [List.getD,List.getElem?_map,List.getElem?_range hp,Option.map_some,Option.getD_some,List.take_length,List.any_eq_true]
  obtain ⟨j,hj,h⟩:=h
  exact ⟨_,List.getElem_mem hj,by rwa [List.getD,xP hj] at h⟩
section
variable {P:Program} {ops:Array Oper} {rest:List Oper} {Q:Exit->Act->World->Prop} {n d i z m c:Nat} {F:List (Nat×Value)} {w0:BD} {L L':List As} {t ty T:TypeId} {p:String} {af:Array Edge} {x y:Operand} {cs vs:List Value} {q:Option Addr} {v:Value}
theorem AR.makeBool {ki kj:IntKind} {bytes:Nat} (ht:T9 P t T (.bool false) bytes) (hx:evF F x=some (.int ki (m:Nat))) (hy:evF F y=some (.int kj (m:Nat))) (hm:m<=1099511627776) (hb:Nat.ble bytes 16=true) (hd:Nat.ble (d+1) n=true)
    (next:∀b,OwnOk (jk b) m m->AR P ops rest Q n ((d,.slice (jk b) m m)::F) w0 (rowW (jk b) T 1 m m (bL (List.replicate m false))::L)) :
    AR P ops (⟨some d,.makeSlice t x y,ty,p,af,none⟩::rest) Q n F w0 L:=AR.makeRow ht hx hy hm hb hd λb ho=>by
  have h:=next b ho
  unfold bL at h
  rw [List.map_replicate] at h
  exact h
end
section
variable {P:Program} {n:Nat} {F:List (Nat×Value)} {w0:BD} {L:List As} {x:Operand} {d:Option Tmp} {t:TypeId} {p:String} {af:Array Edge} {g:Option (Nat×Bool)}
theorem No {tx e:TypeId} {b off len k:Nat} (hx:evF F x=some (.pointer (some ⟨b,off,none⟩))) (hu:P.underlying tx=some (.array len e)) (hs:∀w,(sizeOf e).run P w=.ok k w) (h0:0<len) :
    Ex P n F w0 L ⟨d,.slice tx x none none none,t,p,af,g⟩ (.slice (some ⟨b,off,none⟩) len len):=λA w ha _=>by
  have e1:¬len=0:=by omega
  simp [execOp,ha.ev hx,Instr.sliceAt,run_underlying hu,Instr.sureAddr,Instr.sliceBounds,Instr.sliceBound,hs,e1,Addr.add_lit]
end
theorem Yy {S:Nat->Prop} {w:World} {ts:List T3} {x:RX (rowsL Af ts) ts.length} (h:Ro S w x) {j:Nat} (hj:j<ts.length) (ok:A8 (some ⟨pB x.p,pO x.p+j*3,none⟩) 3 3):Ro S w (⟨some ⟨pB x.p,pO x.p+j*3,none⟩,3,ok⟩:RX (Af (ts.getD j (0,0,0))) 3):=λy hy=>by
  rcases xO.1 hy with rfl
  obtain ⟨h1,h2⟩:=h (AN x.p (rowsL Af ts)) (xO.2 rfl)
  obtain ⟨a,hp⟩:∃a,x.p=some a:=by
    cases hp:x.p with
    | none=>have:=(x.ok.nil hp).1;omega
    | some a=>exact ⟨a,rfl⟩
  have e:(some (⟨pB x.p,pO x.p+j*3,none⟩:Addr)).map (·.block)=x.p.map (·.block):=by rw [hp];rfl
  refine ⟨λb hb=>?_,λb hb=>h2 b (e.symm.trans hb)⟩
  obtain ⟨o,ho,cur,T,fr,rfl,hc⟩:=h1 b (e.symm.trans hb)
  refine ⟨_,ho,cur,T,fr,rfl,?_⟩
  have hl:=Ae Av (0,0,0) ts j hj
  have hz:=AZ Av ts
  show (cur.toList.drop (pO x.p+j*3)).take 3=_
  refine Eq.trans ?_ hl
  refine Eq.trans ?_ (congrArg (λl:List Value=>(l.drop (j*3)).take 3) hc)
  show _=(((cur.toList.drop (pO x.p)).take (rowsL Af ts).length).drop (j*3)).take 3
  rw [List.drop_take,List.take_take,List.drop_drop]
  congr 1
  omega
theorem ak (b o:Nat):A8 (some ⟨b,o,none⟩) 3 3:=⟨λe=>(by cases e),λa e=>(by injection e with e;subst e;rfl),Nat.le_refl _⟩
end
def F7 (ps:List Pt) (t:T3):Rat:=AC (cor ps t.1) (cor ps t.2.1) (cor ps t.2.2)*(1/2)
def Er (ps:List Pt) (ts:List T3):Nat->Rat
  | 0=>0
  | i+1=>Er ps ts i+F7 ps (ts.getD i (0,0,0))
theorem KZ {ps:List Pt} (hz:∀k,Bl (cor ps k)<=1000) (t:T3):Sz (F7 ps t)<=8009:=by
  have h1:=Dz (cor ps t.1) (cor ps t.2.1) (cor ps t.2.2)
  have z1:=hz t.1
  have z2:=hz t.2.1
  have z3:=hz t.2.2
  have h2:=Cz (AC (cor ps t.1) (cor ps t.2.1) (cor ps t.2.2)) (1/2)
  have h3:=RD
  unfold F7
  omega
theorem RF {ps:List Pt} (hz:∀k,Bl (cor ps k)<=1000) (ts:List T3):∀i,Sz (Er ps ts i)<=2+i*8010
  | 0=>by show Sz (0:Rat)<=2+0*8010;decide +kernel
  | i+1=>by
    have h:=RF hz ts i
    have h1:=KZ hz (ts.getD i (0,0,0))
    have h4:=Eh (Er ps ts i) (F7 ps (ts.getD i (0,0,0)))
    show Sz (Er ps ts i+F7 ps (ts.getD i (0,0,0)))<=_
    omega
section
section
variable {ts:List T3} {ps:List Pt} {p:Int} {i:Nat}
end
end
section
def dt (a b:Pt):Rat:=a.x*b.y-a.y*b.x
theorem Nk (a b:Pt):dt a b = -dt b a:=by unfold dt;grind
theorem J9 (a:Pt):dt a a=0:=by unfold dt;grind
theorem H0 {c z:Rat} (hc:0<c) (h:0<=z*c):0<=z:=Hj hc (by rw [Rat.mul_comm];exact h)
theorem Xs {u:Pt} (h:∀z,dt u z=0):u=⟨0,0⟩:=by
  have h1:=h ⟨0,1⟩;have h2:=h ⟨1,0⟩
  obtain ⟨x,y⟩:=u
  unfold dt at h1 h2
  simp only at h1 h2
  have e1:x=0:=by grind
  have e2:y=0:=by grind
  rw [e1,e2]
section
variable {p q r s u w:Pt}
def eX (p q r s w x:Pt):Prop:=0<=dt p x/\0<=dt x q/\0<=dt r x/\0<=dt x s/\0<=dt x w
theorem R3 {x:Pt} {k l:Rat} (hk:0<k) (hl:0<l) (h:∀z,k*dt u z=l*dt x z) (hp:0<=dt p u) (hq:0<=dt u q) (hr:0<=dt r u) (hs:0<=dt u s) (hw:0<=dt u w):eX p q r s w x:=by
  have key:∀z,0<=dt u z->0<=dt x z:=λz hz=>Hj hl (by rw [<-h];exact Rat.mul_nonneg (Rat.le_of_lt hk) hz)
  have key2:∀z,0<=dt z u->0<=dt z x:=λz hz=>by
    rw [Nk z x];rw [Nk z u] at hz
    have e:=h z
    have h1:0<=k * -dt u z:=Rat.mul_nonneg (Rat.le_of_lt hk) hz
    exact Hj hl (by grind)
  exact ⟨key2 _ hp,key _ hq,key2 _ hr,key _ hs,key _ hw⟩
theorem WF (hpq:0<dt p q) (hu:u≠⟨0,0⟩) (hp:0<=dt p u) (hq:0<=dt u q) (h:dt p u=0\/dt u q=0):∃x k l,(x=p\/x=q)/\0<k/\0<l/\∀z,k*dt u z=l*dt x z:=by
  have cr:∀z,dt p q*dt u z=dt u q*dt p z+dt p u*dt q z:=λz=>by unfold dt;grind
  have ne:¬(dt p u=0/\dt u q=0):=λ⟨a,b⟩=>hu (Xs λz=>by
    have e:=cr z
    rw [a,b] at e
    have:dt p q*dt u z=0:=by grind
    rcases Rat.mul_eq_zero.1 this with c|c
    · rw [c] at hpq;exact absurd hpq (Rat.lt_irrefl)
    · exact c)
  rcases h with h|h
  · exact ⟨p,dt p q,dt u q,.inl O,hpq,by grind,λz=>by rw [cr,h];grind⟩
  · exact ⟨q,dt p q,dt p u,.inr O,hpq,by grind,λz=>by rw [cr,h];grind⟩
theorem Ul (hpq:0<dt p q) (hrs:0<dt r s) (hu:u≠⟨0,0⟩) (hp:0<=dt p u) (hq:0<=dt u q) (hr:0<=dt r u) (hs:0<=dt u s) (hw:0<=dt u w):∃x,(x=p\/x=q\/x=r\/x=s)/\eX p q r s w x:=by
  by_cases d1:dt p u=0\/dt u q=0
  · obtain ⟨x,k,l,hx,hk,hl,h⟩:=WF hpq hu hp hq d1
    exact ⟨x,hx.elim .inl (λe=>.inr (.inl e)),R3 hk hl h hp hq hr hs hw⟩
  by_cases d2:dt r u=0\/dt u s=0
  · obtain ⟨x,k,l,hx,hk,hl,h⟩:=WF hrs hu hr hs d2
    exact ⟨x,.inr (.inr hx),R3 hk hl h hp hq hr hs hw⟩
  have p1:0<dt p u:=by grind
  have p2:0<dt u q:=by grind
  have p3:0<dt r u:=by grind
  have p4:0<dt u s:=by grind
  have mn:∀{a b:Rat},0<=a->0<=b->0<=a*b:=λa b=>Rat.mul_nonneg a b
  have X:∃x,(x=p\/x=q\/x=r\/x=s)/\0<dt x u/\0<=dt p x/\0<=dt x q/\0<=dt r x/\0<=dt x s:=by
    by_cases c:0<=dt p r
    · have h1:0<=dt r q*dt p u:=by
        have e:dt r q*dt p u=dt p r*dt u q+dt r u*dt p q:=by unfold dt;grind
        have:=mn c hq;have:=mn hr (Rat.le_of_lt hpq);grind
      exact ⟨r,.inr (.inr (.inl O)),p3,c,H0 p1 h1,by rw [J9];exact Rat.le_refl,Rat.le_of_lt hrs⟩
    · have c':0<=dt r p:=by rw [Nk r p];grind
      have h1:0<=dt p s*dt r u:=by
        have e:dt p s*dt r u=dt r p*dt u s+dt p u*dt r s:=by unfold dt;grind
        have:=mn c' hs;have:=mn hp (Rat.le_of_lt hrs);grind
      exact ⟨p,.inl O,p1,by rw [J9];exact Rat.le_refl,Rat.le_of_lt hpq,c',H0 p3 h1⟩
  have Y:∃x,(x=p\/x=q\/x=r\/x=s)/\0<dt u x/\0<=dt p x/\0<=dt x q/\0<=dt r x/\0<=dt x s:=by
    by_cases c:0<=dt q s
    · have h1:0<=dt r q*dt u s:=by
        have e:dt r q*dt u s=dt r u*dt q s+dt r s*dt u q:=by unfold dt;grind
        have:=mn hr c;have:=mn (Rat.le_of_lt hrs) hq;grind
      exact ⟨q,.inr (.inl O),p2,Rat.le_of_lt hpq,by rw [J9];exact Rat.le_refl,H0 p4 h1,c⟩
    · have c':0<=dt s q:=by rw [Nk s q];grind
      have h1:0<=dt p s*dt u q:=by
        have e:dt p s*dt u q=dt p u*dt s q+dt p q*dt u s:=by unfold dt;grind
        have:=mn hp c';have:=mn (Rat.le_of_lt hpq) hs;grind
      exact ⟨s,.inr (.inr (.inr O)),p4,H0 p2 h1,c',Rat.le_of_lt hrs,by rw [J9];exact Rat.le_refl⟩
  obtain ⟨x,hx,x0,x1,x2,x3,x4⟩:=X
  obtain ⟨y,hy,y0,y1,y2,y3,y4⟩:=Y
  have hxy:0<=dt x y*dt p u:=by
    have e:dt x y*dt p u=dt p x*dt u y+dt x u*dt p y:=by unfold dt;grind
    have:=mn x1 (Rat.le_of_lt y0);have:=mn (Rat.le_of_lt x0) y1;grind
  have hxy:=H0 p1 hxy
  by_cases a:0<=dt x w
  · exact ⟨x,hx,x1,x2,x3,x4,a⟩
  by_cases b:0<=dt y w
  · exact ⟨y,hy,y1,y2,y3,y4,b⟩
  exfalso
  have e:dt x y*dt u w=dt u y*dt x w+dt x u*dt y w:=by unfold dt;grind
  have h1:=mn hxy hw
  have h2:0<dt u y * -dt x w:=Rat.mul_pos y0 (by grind)
  have h3:0<dt x u * -dt y w:=Rat.mul_pos x0 (by grind)
  grind
end
def Fl (a b c d e f:Pt):Prop:=(AC a b d<=0/\AC a b e<=0/\AC a b f<=0)\/(AC b c d<=0/\AC b c e<=0/\AC b c f<=0)\/(AC c a d<=0/\AC c a e<=0/\AC c a f<=0)
def Ew (a b:Pt):Pt:=⟨a.x-b.x,a.y-b.y⟩
section
variable {a b c d e f u:Pt}
theorem am (hA:0<AC a b c) (hB:0<AC d e f) (hu:u≠⟨0,0⟩) (h1:dt u a<=dt u b) (h2:dt u a<=dt u c) (h3:dt u e<=dt u d) (h4:dt u f<=dt u d) (h5:dt u d<=dt u a) :
    (AC a b d<=0/\AC a b e<=0/\AC a b f<=0)\/(AC c a d<=0/\AC c a e<=0/\AC c a f<=0)\/(AC d e a<=0/\AC d e b<=0/\AC d e c<=0)\/(AC f d a<=0/\AC f d b<=0/\AC f d c<=0):=by
  have key:=Ul (p:=Ew a c) (q:=Ew b a) (r:=Ew f d) (s:=Ew d e) (u:=u) (w:=Ew a d) (by simp only [BC] at hA;unfold dt Ew;grind) (by simp only [BC] at hB;unfold dt Ew;grind) hu
    (by unfold dt Ew at *;grind) (by unfold dt Ew at *;grind) (by unfold dt Ew at *;grind) (by unfold dt Ew at *;grind) (by unfold dt Ew at *;grind)
  clear h1 h2 h3 h4 h5 hA hB hu
  obtain ⟨x,hx,k1,k2,k3,k4,k5⟩:=key
  simp only [BC]
  unfold dt Ew at k1 k2 k3 k4 k5
  rcases hx with rfl|rfl|rfl|rfl
  · right;left;simp only at k1 k2 k3 k4 k5;unfold Ew at *;simp only at k1 k2 k3 k4 k5;refine ⟨?_,?_,?_⟩<;>grind
  · left;simp only at k1 k2 k3 k4 k5;unfold Ew at *;simp only at k1 k2 k3 k4 k5;refine ⟨?_,?_,?_⟩<;>grind
  · right;right;right;simp only at k1 k2 k3 k4 k5;unfold Ew at *;simp only at k1 k2 k3 k4 k5;refine ⟨?_,?_,?_⟩<;>grind
  · right;right;left;simp only at k1 k2 k3 k4 k5;unfold Ew at *;simp only at k1 k2 k3 k4 k5;refine ⟨?_,?_,?_⟩<;>grind
theorem KW (a b c:Pt):AC b c a=AC a b c:=by simp only [BC];grind
def ba (u:Pt) (k:Rat) (a b c d e f:Pt):Prop:=(k<=dt u a/\k<=dt u b/\k<=dt u c)/\dt u d<=k/\dt u e<=k/\dt u f<=k
theorem cD (x y z:Rat):(x<=y/\x<=z)\/(y<=z/\y<=x)\/(z<=x/\z<=y):=by grind
theorem an (hA:0<AC a b c) (hB:0<AC d e f) (hu:u≠⟨0,0⟩) (h1:dt u a<=dt u b) (h2:dt u a<=dt u c) (h3:dt u d<=dt u a) (h4:dt u e<=dt u a) (h5:dt u f<=dt u a):Fl a b c d e f\/Fl d e f a b c:=by
  rcases cD (-dt u d) (-dt u e) (-dt u f) with m|m|m
  · rcases am hA hB hu h1 h2 (by grind) (by grind) h3 with k|k|k|k
    · exact .inl (.inl k)
    · exact .inl (.inr (.inr k))
    · exact .inr (.inl k)
    · exact .inr (.inr (.inr k))
  · rcases am (d:=e) (e:=f) (f:=d) hA (by rw [KW];exact hB) hu h1 h2 (by grind) (by grind) h4 with k|k|k|k
    · exact .inl (.inl ⟨k.2.2,k.1,k.2.1⟩)
    · exact .inl (.inr (.inr ⟨k.2.2,k.1,k.2.1⟩))
    · exact .inr (.inr (.inl k))
    · exact .inr (.inl k)
  · rcases am (d:=f) (e:=d) (f:=e) hA (by rw [<-KW];exact hB) hu h1 h2 (by grind) (by grind) h5 with k|k|k|k
    · exact .inl (.inl ⟨k.2.1,k.2.2,k.1⟩)
    · exact .inl (.inr (.inr ⟨k.2.1,k.2.2,k.1⟩))
    · exact .inr (.inr (.inr k))
    · exact .inr (.inr (.inl k))
theorem Fl.rot1 (h:Fl b c a d e f):Fl a b c d e f:=by
  rcases h with k|k|k
  · exact .inr (.inl k)
  · exact .inr (.inr k)
  · exact .inl k
theorem Fl.rot2 (h:Fl d e f b c a):Fl d e f a b c:=by
  rcases h with k|k|k
  · exact .inl ⟨k.2.2,k.1,k.2.1⟩
  · exact .inr (.inl ⟨k.2.2,k.1,k.2.1⟩)
  · exact .inr (.inr ⟨k.2.2,k.1,k.2.1⟩)
theorem fd {k:Rat} (hA:0<AC a b c) (hB:0<AC d e f) (hu:u≠⟨0,0⟩) (h:ba u k a b c d e f):Fl a b c d e f\/Fl d e f a b c:=by
  obtain ⟨⟨h1,h2,h3⟩,h4,h5,h6⟩:=h
  rcases cD (dt u a) (dt u b) (dt u c) with m|m|m
  · exact an hA hB hu m.1 m.2 (by grind) (by grind) (by grind)
  · exact (an (a:=b) (b:=c) (c:=a) (by rw [KW];exact hA) hB hu m.1 m.2 (by grind) (by grind) (by grind)).imp Fl.rot1 Fl.rot2
  · exact (an (a:=c) (b:=a) (c:=b) (by rw [<-KW];exact hA) hB hu m.1 m.2 (by grind) (by grind) (by grind)).imp (λq=>q.rot1.rot1) (λq=>q.rot2.rot2)
end
end
section
def cZ (ts:List T3):Nat->List (P2×Nat)
  | 0=>[]
  | s+1=>Bj (cZ ts s) (CC ts s) (s/3)
section
variable {ts:List T3} {N t r s:Nat}
end
structure SX (ts:List T3) (o:Bool) where
  b:Nat
  kvs:List (P2×Nat)
  ok:OZ Yj kvs
  fin:o=true->kvs=cZ ts (3*ts.length)
instance {ts:List T3} {o:Bool}:Cy (SX ts o):=⟨λx=>.tuple #[.map (some x.b),.bool o],λx=>[cA x.b Jv vN x.kvs],λx y hy=>by rcases xO.1 hy with rfl;rfl⟩
end
section
section
variable {P:Program} {Q:Exit->Act->World->Prop} {n:Nat} {F:List (Nat×Value)} {w0:BD} {L:List As} {c x y:Code}
end
end
section
section
variable {ts:List T3} {N:Nat} {k k0:P2} {i:Nat}
end
section
variable {ts:List T3} {N:Nat} {k k0:P2} {i:Nat} {dn dn0:List (P2×Nat)} {l:List Nat}
end
section
variable {ts:List T3} {N i:Nat} {dn dn2:List (P2×Nat)} {wq:T3} {l:List Nat}
end
end
section
theorem Zt {c:T2} (h:0<Bq c.1 c.2.1 c.2.2):∃x y:Rat,XD c x y:=by
  obtain ⟨⟨a1,a2⟩,⟨b1,b2⟩,⟨c1,c2⟩⟩:=c
  have h2:(0:Rat)<(Bq (a1,a2) (b1,b2) (c1,c2):Int):=by exact_mod_cast h
  have e:((Bq (a1,a2) (b1,b2) (c1,c2):Int):Rat)=((b1:Rat)-a1)*((c2:Rat)-a2)-((b2:Rat)-a2)*((c1:Rat)-a1):=by
    simp only [Bq,Rat.intCast_sub,Rat.intCast_mul,Rat.intCast_natCast]
  rw [e] at h2
  refine ⟨((a1:Rat)+b1+c1)/3,((a2:Rat)+b2+c2)/3,?_,?_,?_⟩<;>simp only [KL]<;>grind
section
variable {ps:List Pt} {ts:List T3}
theorem Wu {m:MQ} {pl:List P2} {n:T3} {t:Nat} (h:JW m pl n t) {r:Nat} (hr:r<3):pl.getD (FW n r) (0,0)=Ai m t r:=by
  have e:r=0\/r=1\/r=2:=by omega
  rcases e with rfl|rfl|rfl
  · exact h.a.2
  · exact h.b.2
  · exact h.c.2
end
end
end Go.Proofs.YtbfdamnfcmefmaaGreatDoor
