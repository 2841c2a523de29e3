import Derived.Test.YtbfdamnfcmefmaaGreatDoorPart27
namespace Go.Proofs.YtbfdamnfcmefmaaGreatDoor
open Go Go.RowKit Go.Proofs.Tryz
open Go.Value renaming slice→qz,bool→qa
set_option linter.unusedVariables false
set_option linter.unusedSimpArgs false
abbrev T2:=P2×P2×P2
def be (A B:P2) (X Y:Nat):Int:=((B.1:Int)-A.1)*((Y:Int)-2*A.2)-((B.2:Int)-A.2)*((X:Int)-2*A.1)
def bb (t:T2) (X Y:Nat):Bool:=decide (0<=be t.2.1 t.2.2 X Y)&&decide (0<=be t.2.2 t.1 X Y)&&decide (0<=be t.1 t.2.1 X Y)
def Kv (t:T2) (q:P2):Bool:=t.1 == q||t.2.1 == q||t.2.2 == q
def TJ (u v c:Nat):List T2 :=
  let x:=2*u;let y:=2*v
  if c=0 then [((x,y),(x+2,y),(x+2,y+2)),((x,y),(x+2,y+2),(x,y+2))]
  else if c=1 then [((x,y),(x+2,y),(x,y+2)),((x+2,y),(x+2,y+2),(x,y+2))]
  else if c=2 then [((x,y),(x+2,y),(x+1,y+1)),((x+2,y),(x+2,y+2),(x+1,y+1)),((x+2,y+2),(x,y+2),(x+1,y+1)),((x,y+2),(x,y),(x+1,y+1))] else []
def Xc (way i:Nat):Nat:=if way<3\/(way=7/\i=0) then 0 else if way<5 then 1 else if way<7 then 2 else 3
theorem Mn (nx way i:Nat):Cu nx way i=TJ (i%nx) (i/nx) (Xc way i):=by
  unfold Cu TJ Xc
  simp only
  split
  · rfl
  · split
    · rfl
    · split<;>rfl
theorem KD (way i:Nat):Xc way i<4:=by
  unfold Xc
  split
  · omega
  · split
    · omega
    · split<;>omega
def OH (s t:T2):Bool :=
  [s.1,s.2.1,s.2.2].all (λq=>!bb t (2*q.1) (2*q.2)||Kv t q) &&
  [(s.1,s.2.1),(s.2.1,s.2.2),(s.2.2,s.1)].all (λe=>!bb t (e.1.1+e.2.1) (e.1.2+e.2.2)||(Kv t e.1&&Kv t e.2))
def Gp:List (Tq3):=[0,1,2].flatMap λu=>[0,1,2].flatMap λv=>[0,1,2,3].map λc=>(u,v,c)
def bv:Bool:=Gp.all λp=>Gp.all λq=>(decide (p.1=q.1/\p.2.1=q.2.1/\p.2.2≠q.2.2))||(TJ p.1 p.2.1 p.2.2).all λs=>(TJ q.1 q.2.1 q.2.2).all λt=>OH s t
theorem Qi:bv=true:=by decide +kernel
theorem Ew {u v c:Nat} (hu:u<=2) (hv:v<=2) (hc:c<4):(u,v,c)∈Gp:=by
  have h1:u=0\/u=1\/u=2:=by omega
  have h2:v=0\/v=1\/v=2:=by omega
  have h3:c=0\/c=1\/c=2\/c=3:=by omega
  rcases h1 with rfl|rfl|rfl<;>rcases h2 with rfl|rfl|rfl<;>rcases h3 with rfl|rfl|rfl|rfl<;>decide
theorem Rw {m:MQ} {s t:T2} (hs:s∈A6 m) (ht:t∈A6 m):OH s t=true:=by
  obtain ⟨i,hi,h1⟩:=EP m _ s hs
  obtain ⟨j,hj,h2⟩:=EP m _ t ht
  have hx:=JK m
  have hy:=JL m
  have b:∀k,k<GD m*S6 m->k%GD m<=2/\k/GD m<=2:=λk hk=>by
    have a1:=Nat.mod_lt k (show 0<GD m by omega)
    have a2:k/GD m<S6 m:=Nat.div_lt_of_lt_mul hk
    omega
  rw [Mn] at h1 h2
  have h:=List.all_eq_true.1 (List.all_eq_true.1 Qi _ (Ew (b i hi).1 (b i hi).2 (KD (Gm m i) i))) _ (Ew (b j hj).1 (b j hj).2 (KD (Gm m j) j))
  rw [yy,xW] at h
  rcases h with ⟨e1,e2,e3⟩|h
  · exfalso
    have e:i=j:=by rw [<-Nat.div_add_mod i (GD m),<-Nat.div_add_mod j (GD m),show i%GD m=j%GD m from e1,show i/GD m=j/GD m from e2]
    subst e
    exact e3 O
  · exact List.all_eq_true.1 (List.all_eq_true.1 h s h1) t h2
theorem VZ (A B:P2) (X Y:Nat):KS A B ((X:Rat)*(1/2)) ((Y:Rat)*(1/2))=((be A B X Y:Int):Rat)*(1/2):=by
  simp only [KS,be,Rat.intCast_sub,Rat.intCast_mul,Rat.intCast_natCast,show ((2:Int):Rat)=2 from rfl]
  grind
theorem VL {t:T2} {X Y:Nat} (h:inC t ((X:Rat)*(1/2)) ((Y:Rat)*(1/2))):bb t X Y=true:=by
  obtain ⟨h1,h2,h3⟩:=h
  rw [VZ] at h1 h2 h3
  have c:∀z:Int,0<=(z:Rat)*(1/2)->0<=z:=λz hz=>by
    have:(0:Rat)<=(z:Rat):=by grind
    exact_mod_cast this
  simp only [bb,yz,xW]
  exact ⟨⟨c _ h1,c _ h2⟩,c _ h3⟩
theorem Ng {t:T2} {q:P2} (h:Kv t q=true):∃r,r<3/\C3 t r=q:=by
  simp only [Kv,yy,beq_iff_eq] at h
  rcases h with (h|h)|h
  · exact ⟨0,Z,h⟩
  · exact ⟨1,Z,h⟩
  · exact ⟨2,Z,h⟩
theorem Uh (t:T2) {r:Nat} (h:r<3):C3 t r∈[t.1,t.2.1,t.2.2]:=by
  have:r=0\/r=1\/r=2:=by omega
  rcases this with rfl|rfl|rfl<;>simp [C3]
theorem O2 {m:MQ} {s t:T2} (hs:s∈A6 m) (ht:t∈A6 m) {r:Nat} (hr:r<3) (h:inC t ((C3 s r).1:Rat) ((C3 s r).2:Rat)):∃k,k<3/\C3 t k=C3 s r:=by
  have hp:=Rw hs ht
  unfold OH at hp
  rw [yz] at hp
  have h1:=List.all_eq_true.1 hp.1 _ (Uh s hr)
  have h2:bb t (2*(C3 s r).1) (2*(C3 s r).2)=true:=VL (by
    rw [Gq,Gq,show 2*((C3 s r).1:Rat)*(1/2)=((C3 s r).1:Rat) by grind,show 2*((C3 s r).2:Rat)*(1/2)=((C3 s r).2:Rat) by grind]
    exact h)
  rw [h2] at h1
  exact Ng (by simpa using h1)
theorem Uj {m:MQ} {s t:T2} (hs:s∈A6 m) (ht:t∈A6 m) {r:Nat} (hr:r<3) (h:inC t ((((C3 s r).1+(C3 s ((r+1)%3)).1:Nat):Rat)*(1/2)) ((((C3 s r).2+(C3 s ((r+1)%3)).2:Nat):Rat)*(1/2))) :
    (∃k,k<3/\C3 t k=C3 s r)/\∃k,k<3/\C3 t k=C3 s ((r+1)%3):=by
  have hp:=Rw hs ht
  unfold OH at hp
  rw [yz] at hp
  have hm:(C3 s r,C3 s ((r+1)%3))∈[(s.1,s.2.1),(s.2.1,s.2.2),(s.2.2,s.1)]:=by
    have:r=0\/r=1\/r=2:=by omega
    rcases this with rfl|rfl|rfl<;>simp [C3]
  have h1:=List.all_eq_true.1 hp.2 _ hm
  rw [VL h] at h1
  have h2:Kv t (C3 s r)=true/\Kv t (C3 s ((r+1)%3))=true:=by simpa using h1
  exact ⟨Ng h2.1,Ng h2.2⟩
section
def PQ (k:DG) (den:Nat) (X Y:Rat):Pt:=⟨((k.a:Rat)*X+(k.b:Rat)*Y)/(((max den 1:Nat):Int):Rat),((k.c:Rat)*X+(k.d:Rat)*Y)/(((max den 1:Nat):Int):Rat)⟩
theorem Jd (k:DG) (den:Nat) (A:P2):CR (Gk k den A)=PQ k den (A.1:Rat) (A.2:Rat):=by
  simp only [CR,Gk,Of,DG.at_,PQ,Rat.intCast_add,Rat.intCast_mul,Rat.intCast_natCast]
theorem Zd (k:DG) (den:Nat) (A B:P2):G4 (CR (Gk k den A)+CR (Gk k den B)) (1/2)=PQ k den (((A.1+B.1:Nat):Rat)*(1/2)) (((A.2+B.2:Nat):Rat)*(1/2)):=by
  rw [Jd,Jd]
  refine Pt.ext ?_ ?_<;>simp only [PQ,R6,R7,ZE,ZF,Rat.natCast_add,Rat.div_def]<;>generalize (((max den 1:Nat):Int):Rat)⁻¹=e<;>grind
theorem PF {k:DG} (h:k.Ok) (den:Nat):∃c:Rat,0<c/\∀(A B:P2) (X Y:Rat),AF (CR (Gk k den A)) (CR (Gk k den B)) (PQ k den X Y)=c*KS A B X Y:=by
  have hD:0<(((max den 1:Nat):Int):Rat):=by exact_mod_cast (show (0:Int)<((max den 1:Nat):Int) by omega)
  have hd:(0:Rat)<(k.det:Rat):=by exact_mod_cast h.pos
  have ed:(k.det:Rat)=(k.a:Rat)*(k.d:Rat)-(k.b:Rat)*(k.c:Rat):=by simp only [DG.det,Rat.intCast_sub,Rat.intCast_mul]
  have hi:=Rat.inv_pos.2 hD
  refine ⟨(k.det:Rat)*((((max den 1:Nat):Int):Rat)⁻¹*(((max den 1:Nat):Int):Rat)⁻¹),Rat.mul_pos hd (Rat.mul_pos hi hi),λA B X Y=>?_⟩
  rw [Jd,Jd,ed]
  simp only [BO,PQ,KS,Rat.div_def]
  generalize (((max den 1:Nat):Int):Rat)⁻¹=e
  grind
theorem aQ (m:MQ) (t:Nat) {k:Nat} (hk:k<3):∃r,r<3/\JR m t r=k:=by
  unfold JR
  generalize t*(m.fst/3)=q
  have e:(m.fst+q)%3=0\/(m.fst+q)%3=1\/(m.fst+q)%3=2:=by omega
  rcases e with e|e|e
  · exact ⟨k,hk,Z⟩
  · exact ⟨(k+2)%3,Nat.mod_lt _ jY,Z⟩
  · exact ⟨(k+1)%3,Nat.mod_lt _ jY,Z⟩
theorem PY (m:MQ) (t r:Nat):JR m t ((r+1)%3)=(JR m t r+1)%3:=by unfold JR;omega
def crn (t:Tq3) (r:Nat):Nat:=if r=0 then t.1 else if r=1 then t.2.1 else t.2.2
def B_ (t:Tq3) (p:Nat):Bool:=t.1 == p||t.2.1 == p||t.2.2 == p
theorem LS {t:Tq3} {p:Nat}:B_ t p=true↔∃r,r<3/\crn t r=p:=by
  simp only [B_,yy,beq_iff_eq]
  constructor
  · rintro ((h|h)|h)
    · exact ⟨0,Z,h⟩
    · exact ⟨1,Z,h⟩
    · exact ⟨2,Z,h⟩
  · rintro ⟨r,hr,h⟩
    have:r=0\/r=1\/r=2:=by omega
    rcases this with rfl|rfl|rfl
    · exact .inl (.inl h)
    · exact .inl (.inr h)
    · exact .inr h
theorem Je.crn {m:MQ} {pl:List P2} {n:Tq3} {t:Nat} (h:Je m pl n t) {r:Nat} (hr:r<3):Go.Proofs.YtbfdamnfcmefmaaGreatDoor.crn n r<pl.length/\pl.getD (Go.Proofs.YtbfdamnfcmefmaaGreatDoor.crn n r) (0,0)=Al m t r:=by
  have:r=0\/r=1\/r=2:=by omega
  rcases this with rfl|rfl|rfl
  · exact h.a
  · exact h.b
  · exact h.c
section
variable {ps:List Pt} {ts:List (Tq3)}
structure Za (ps:List Pt) (ts:List (Tq3)) (m:MQ) (pl:List P2):Prop where
  inv:NW m (A6 m).length pl ts
  dst:XK pl
  pl_len:ps.length=pl.length
  at_:∀i,i<pl.length->ps.getD i ⟨0,0⟩=CR (Gk (mapM m) (B5 m) (pl.getD i (0,0)))
theorem FV.lattice (g:FV ps ts):∃m pl,Za ps ts m pl:=by
  obtain ⟨m,pl,h1,h2,h3⟩:=g.lat
  have hz:(Fq m pl).length=pl.length:=by simp [Fq]
  refine ⟨m,pl,h1,h2,by rw [h3,Ka Z],λi hi=>?_⟩
  rw [h3,<-hz,Ry (by rw [hz];exact hi),Kg hi]
  rfl
theorem Za.cell {m:MQ} {pl:List P2} (l:Za ps ts m pl) {t:Nat} (ht:t<ts.length):(A6 m).getD t ((0,0),(0,0),(0,0))∈A6 m:=by
  have h:=l.inv.tl
  rw [List.getD,xQ Z];exact List.getElem_mem _
theorem Za.inC {m:MQ} {pl:List P2} (l:Za ps ts m pl) {t:Nat} (ht:t<ts.length) {X Y:Rat} (h:Kl ps (ts.getD t (0,0,0)) (PQ (mapM m) (B5 m) X Y)):Go.Proofs.YtbfdamnfcmefmaaGreatDoor.inC ((A6 m).getD t ((0,0),(0,0),(0,0))) X Y:=by
  obtain ⟨c,hc,key⟩:=PF (Fc m.a m.b m.c m.d) (B5 m)
  have hk:mapM m=Gj m.a m.b m.c m.d:=rfl
  rw [<-hk] at key
  have hat:=l.inv.at_ t (by have:=l.inv.tl;omega)
  obtain ⟨⟨a1,a2⟩,⟨b1,b2⟩,⟨c1,c2⟩⟩:=hat
  obtain ⟨k1,k2,k3⟩:=h
  rw [l.at_ _ b1,l.at_ _ c1,b2,c2,<-Bq,key] at k1
  rw [l.at_ _ a1,l.at_ _ c1,a2,c2,Bq,key] at k2
  rw [l.at_ _ a1,l.at_ _ b1,a2,b2,key] at k3
  exact (Nf m t X Y).2 (Hq hc k1) (Hq hc k2) (Hq hc k3)
theorem Za.idx {m:MQ} {pl:List P2} (l:Za ps ts m pl) {t p:Nat} (ht:t<ts.length) (hp:p<pl.length) (h:∃k,k<3/\C3 ((A6 m).getD t ((0,0),(0,0),(0,0))) k=pl.getD p (0,0)):B_ (ts.getD t (0,0,0)) p=true:=by
  obtain ⟨k,hk,e⟩:=h
  obtain ⟨r,hr,e2⟩:=aQ m t hk
  obtain ⟨h1,h2⟩:=(l.inv.at_ t (by have:=l.inv.tl;omega)).crn hr
  have e3:Al m t r=pl.getD p (0,0):=by rw [<-e,<-e2];rfl
  exact LS.2 ⟨r,hr,l.dst _ _ h1 hp (by rw [h2,e3])⟩
theorem JF (g:FV ps ts) {p:Nat} (hp:p<ps.length):∃j,j<ts.length/\B_ (ts.getD j (0,0,0)) p=true:=by
  obtain ⟨m,pl,l⟩:=g.lattice
  obtain ⟨j,hj,h⟩:=l.inv.used p (by rw [<-l.pl_len];exact hp)
  refine ⟨j,by have:=l.inv.tl;omega,?_⟩
  simp only [B_,yy,beq_iff_eq]
  rcases h with h|h|h
  · exact .inl (.inl h)
  · exact .inl (.inr h)
  · exact .inr h
theorem Vc (g:FV ps ts) {p q:Nat} (hp:p<ps.length) (hq:q<ps.length) (h:ps.getD p ⟨0,0⟩=ps.getD q ⟨0,0⟩):p=q:=by
  obtain ⟨m,pl,l⟩:=g.lattice
  obtain ⟨j,hj,hh⟩:=JF g hq
  obtain ⟨r,hr,e⟩:=LS.1 hh
  have hp':p<pl.length:=by rw [<-l.pl_len];exact hp
  have hq':q<pl.length:=by rw [<-l.pl_len];exact hq
  rw [l.at_ p hp',l.at_ q hq'] at h
  refine l.dst p q hp' hq' ?_
  have hD:0<(((max (B5 m) 1:Nat):Int):Rat):=by exact_mod_cast (show (0:Int)<((max (B5 m) 1:Nat):Int) by omega)
  have hk:=Fc m.a m.b m.c m.d
  have hdet:=hk.pos
  have hx:=congrArg Pt.x h
  have hy:=congrArg Pt.y h
  rw [Jd,Jd] at hx hy
  simp only [PQ,Rat.div_def] at hx hy
  have hi:=Rat.inv_pos.2 hD
  generalize (((max (B5 m) 1:Nat):Int):Rat)⁻¹=e at *
  generalize pl.getD p (0,0)=A at *
  generalize pl.getD q (0,0)=B at *
  obtain ⟨x1,y1⟩:=A
  obtain ⟨x2,y2⟩:=B
  simp only at hx hy
  have hd:(0:Rat)<((mapM m).det:Rat):=by exact_mod_cast hdet
  have ed:((mapM m).det:Rat)=((mapM m).a:Rat)*((mapM m).d:Rat)-((mapM m).b:Rat)*((mapM m).c:Rat):=by simp only [DG.det,Rat.intCast_sub,Rat.intCast_mul]
  rw [ed] at hd
  generalize ((mapM m).a:Rat)=a at *
  generalize ((mapM m).b:Rat)=b at *
  generalize ((mapM m).c:Rat)=c at *
  generalize ((mapM m).d:Rat)=d at *
  clear hD hk hdet ed h
  have hX:((x1:Rat)-(x2:Rat))*(a*d-b*c)*e=0:=by grind
  have hY:((y1:Rat)-(y2:Rat))*(a*d-b*c)*e=0:=by grind
  have z1:(x1:Rat)-(x2:Rat)=0:=by
    rcases Rat.mul_eq_zero.1 hX with h|h
    · rcases Rat.mul_eq_zero.1 h with h|h
      · exact h
      · grind
    · grind
  have z2:(y1:Rat)-(y2:Rat)=0:=by
    rcases Rat.mul_eq_zero.1 hY with h|h
    · rcases Rat.mul_eq_zero.1 h with h|h
      · exact h
      · grind
    · grind
  have w1:(x1:Rat)=(x2:Rat):=by grind
  have w2:(y1:Rat)=(y2:Rat):=by grind
  exact Prod.ext (by exact_mod_cast w1) (by exact_mod_cast w2)
theorem Jq (g:FV ps ts) {p t:Nat} (hp:p<ps.length) (ht:t<ts.length) (h:Kl ps (ts.getD t (0,0,0)) (ps.getD p ⟨0,0⟩)):B_ (ts.getD t (0,0,0)) p=true:=by
  obtain ⟨m,pl,l⟩:=g.lattice
  have hp':p<pl.length:=by rw [<-l.pl_len];exact hp
  obtain ⟨j,hj,hh⟩:=JF g hp
  obtain ⟨r,hr,e⟩:=LS.1 hh
  have hc:=((l.inv.at_ j (by have:=l.inv.tl;omega)).crn hr).2
  rw [e] at hc
  refine l.idx ht hp' ?_
  rw [l.at_ p hp',Jd] at h
  have h2:=l.inC ht h
  rw [hc] at h2 ⊢
  exact O2 (l.cell hj) (l.cell ht) (Nat.mod_lt _ jY) h2
theorem Vd (g:FV ps ts) {s t r:Nat} (hs:s<ts.length) (ht:t<ts.length) (hr:r<3) (h:Kl ps (ts.getD t (0,0,0)) (G4 (ps.getD (crn (ts.getD s (0,0,0)) r) ⟨0,0⟩+ps.getD (crn (ts.getD s (0,0,0)) ((r+1)%3)) ⟨0,0⟩) (1/2))) :
    B_ (ts.getD t (0,0,0)) (crn (ts.getD s (0,0,0)) r)=true/\B_ (ts.getD t (0,0,0)) (crn (ts.getD s (0,0,0)) ((r+1)%3))=true:=by
  obtain ⟨m,pl,l⟩:=g.lattice
  have hat:=l.inv.at_ s (by have:=l.inv.tl;omega)
  obtain ⟨a1,a2⟩:=hat.crn hr
  obtain ⟨b1,b2⟩:=hat.crn (Nat.mod_lt (r+1) (show 0<3 by decide))
  rw [l.at_ _ a1,l.at_ _ b1,Zd,a2,b2] at h
  have h2:=l.inC ht h
  unfold Al at h2
  rw [PY] at h2
  obtain ⟨k1,k2⟩:=Uj (l.cell hs) (l.cell ht) (r:=JR m s r) (Nat.mod_lt _ jY) h2
  refine ⟨l.idx ht a1 ?_,l.idx ht b1 ?_⟩
  · rw [a2];exact k1
  · rw [b2];unfold Al;rw [PY];exact k2
end
end
section
def VP (t:T3) (p:Nat):Int:=if p=t.1 then 0 else if p=t.2.1 then 1 else if p=t.2.2 then 2 else -1
theorem X_ (t:T3) (p:Nat):decide (0<=VP t p)=B_ t p:=by
  unfold VP B_
  by_cases h1:p=t.1
  · rw [if_pos h1,h1];simp
  · have h1':¬t.1=p:=λe=>h1 e.symm
    rw [if_neg h1]
    by_cases h2:p=t.2.1
    · rw [if_pos h2,h2];simp
    · have h2':¬t.2.1=p:=λe=>h2 e.symm
      rw [if_neg h2]
      by_cases h3:p=t.2.2
      · rw [if_pos h3,h3];simp
      · have h3':¬t.2.2=p:=λe=>h3 e.symm
        rw [if_neg h3];simp [h1',h2',h3']
abbrev Q3:=Pt×Pt×Pt
def ID (x:Q3):List Value:=AZ x.1++(AZ x.2.1++(AZ x.2.2++[]))
theorem bw (a b c:Pt):AZ a++AZ b++AZ c=ID (a,b,c):=by simp [ID]
def Be (ps:List Pt) (t:T3):Q3:=(cor ps t.1,cor ps t.2.1,cor ps t.2.2)
def MK (p q r:Pt):Bool:=decide (0<(AF p q r).num.sign)
def VO (p q:Pt) (B:Q3):Int:=if MK p q B.1=true then 0 else if MK p q B.2.1=true then 1 else if MK p q B.2.2=true then 2 else -1
def Fk (p q:Pt) (B:Q3):Bool:=MK p q B.1||MK p q B.2.1||MK p q B.2.2
theorem X9 (p q:Pt) (B:Q3):decide (0<=VO p q B)=Fk p q B:=by
  unfold VO Fk
  cases MK p q B.1<;>cases MK p q B.2.1<;>cases MK p q B.2.2<;>rfl
def Dy (A B:Q3):Bool:=!Fk A.1 A.2.1 B||(!Fk A.2.1 A.2.2 B||!Fk A.2.2 A.1 B)
structure Fr (ps:List Pt) (ts ss:List T3):Prop where
  pl:ps.length<=4096
  tl:ts.length<=8192
  t0:0<ts.length
  sl:ss.length<=24576
  sz:∀k,Bn (cor ps k)<=1000
  num:BV ps.length ts=true
  pos:∀j,j<ts.length->(AF (cor ps (ts.getD j (0,0,0)).1) (cor ps (ts.getD j (0,0,0)).2.1) (cor ps (ts.getD j (0,0,0)).2.2)).num.sign=1
  sid:∀j,j<ss.length->(ss.getD j (0,0,0)).1<ps.length/\(ss.getD j (0,0,0)).2.1<ps.length/\(ss.getD j (0,0,0)).2.2<=255
  use:∀p,p<ps.length->∃j,j<ts.length/\B_ (ts.getD j (0,0,0)) p=true
  dst:ps.Nodup
  apart:∀i k,i<ts.length->k<i->(!Dy (Be ps (ts.getD i (0,0,0))) (Be ps (ts.getD k (0,0,0)))&&!Dy (Be ps (ts.getD k (0,0,0))) (Be ps (ts.getD i (0,0,0))))=false
  crn:∀i p,i<ts.length->p<ps.length->B_ (ts.getD i (0,0,0)) p=false->JZ ps (cor ps p) (ts.getD i (0,0,0))=0
  rl:ss.length=(Eh ts).length
  rim:∀j,j<ss.length->(ss.getD j (0,0,0)).1=((Eh ts).getD j (0,0,0)).1/\(ss.getD j (0,0,0)).2.1=((Eh ts).getD j (0,0,0)).2.1
theorem Fr.szM {ps:List Pt} {ts ss:List T3} (h:Fr ps ts ss) (k:Nat):Bn (cor ps k)<=1000000:=xN (h.sz k) jY
def Nc (x y:Pt):Int:=if Va x y then -1 else if Va y x then 1 else 0
theorem Fx {x y:Pt}:Nc x y<0↔Va x y:=by
  unfold Nc
  split
  · exact ⟨λ_=>by assumption,λ_=>by decide⟩
  · rename_i h
    split<;>exact ⟨λk=>absurd k jY,λk=>absurd k h⟩
theorem S2 {ys:List Pt} (h:ys.Nodup) {k:Nat} (h1:1<=k) (hk:k<ys.length) (e:ys.getD k ⟨0,0⟩=ys.getD (k-1) ⟨0,0⟩):False:=by
  rw [List.getD,List.getD,xQ hk,xQ (show k-1<ys.length by omega)] at e
  have:=(List.getElem_inj h).1 e
  omega
def bL (us:List Bool):List Value:=us.map qa
theorem NY (us:List Bool):(bL us).length=us.length:=xL _
theorem P3 (us:List Bool) (j:Nat) (v:Bool):(bL us).set j (.bool v)=bL (us.set j v):=by unfold bL;rw [List.map_set]
theorem Zj {us:List Bool} {j:Nat} (h:j<us.length):(bL us)[j*1]?=some (.bool (us.getD j false)):=by simp [bL,h]
def MC (ts:List T3) (n i:Nat):List Bool:=(List.range n).map λp=>(ts.take i).any λt=>B_ t p
theorem HE (ts:List T3) (n i:Nat):(MC ts n i).length=n:=by simp [MC]
theorem TZ (ts:List T3) (n:Nat):List.replicate n false=MC ts n 0:=by
  unfold MC
  rw [List.take_zero]
  apply List.ext_getElem?
  intro j
  rcases Nat.lt_or_ge j n with h|h
  · simp [h]
  · rw [List.getElem?_eq_none (by simpa using h),List.getElem?_eq_none (by simpa using h)]
theorem TY {ts:List T3} {n i:Nat} (h:i<ts.length):(((MC ts n i).set (ts.getD i (0,0,0)).1 true).set (ts.getD i (0,0,0)).2.1 true).set (ts.getD i (0,0,0)).2.2 true=MC ts n (i+1):=by
  apply List.ext_getElem?
  intro j
  have e:ts.take (i+1)=ts.take i++[ts.getD i (0,0,0)]:=by rw [List.take_add_one,List.getD,xQ h];rfl
  generalize ts.getD i (0,0,0)=T at *
  unfold MC
  rw [e]
  simp only [List.getElem?_set,List.length_set,xL,List.length_range,List.getElem?_map,List.any_append,List.any_cons,List.any_nil,Bool.or_false]
  rcases Nat.lt_or_ge j n with hj|hj
  · rw [List.getElem?_range hj]
    simp only [Option.map_some]
    unfold B_
    by_cases h1:T.1=j<;>by_cases h2:T.2.1=j<;>by_cases h3:T.2.2=j<;>simp [h1,h2,h3]<;>try omega
  · rw [List.getElem?_eq_none (by simpa using hj)]
    simp only [Option.map_none]
    by_cases h1:T.1=j<;>by_cases h2:T.2.1=j<;>by_cases h3:T.2.2=j<;>simp [h1,h2,h3]<;>omega
theorem Ww {ts:List T3} {n p:Nat} (hp:p<n) (h:∃j,j<ts.length/\B_ (ts.getD j (0,0,0)) p=true):(MC ts n ts.length).getD p false=true:=by
  unfold MC
  rw [List.getD,List.getElem?_map,List.getElem?_range hp,Option.map_some,Option.getD_some,List.take_length,List.any_eq_true]
  obtain ⟨j,hj,h⟩:=h
  exact ⟨_,List.getElem_mem hj,by rwa [List.getD,xQ hj] at h⟩
section
variable {P:Program} {ops:Array Oper} {rest:List Oper} {Q:Exit->Act->World->Prop} {n d i z m c:Nat} {F:List (Nat×Value)} {w0:BF} {L L':List As} {t ty T:TypeId} {p:String} {af:Array Edge} {x y:Operand} {cs vs:List Value} {q:Option Addr} {v:Value}
theorem AU.makeBool {ki kj:IntKind} {bytes:Nat} (ht:T0 P t T (.bool false) bytes) (hx:evF F x=some (.int ki (m:Nat))) (hy:evF F y=some (.int kj (m:Nat))) (hm:m<=1099511627776) (hb:Nat.ble bytes 16=true) (hd:Nat.ble (d+1) n=true)
    (next:∀b,OwnOk (jk b) m m->AU P ops rest Q n ((d,.slice (jk b) m m)::F) w0 (rowW (jk b) T 1 m m (bL (List.replicate m false))::L)) :
    AU P ops (⟨some d,.makeSlice t x y,ty,p,af,none⟩::rest) Q n F w0 L:=AU.makeRow ht hx hy hm hb hd λb ho=>by
  have h:=next b ho
  unfold bL at h
  rw [List.map_replicate] at h
  exact h
end
section
variable {P:Program} {n:Nat} {F:List (Nat×Value)} {w0:BF} {L:List As} {x:Operand} {d:Option Tmp} {t:TypeId} {p:String} {af:Array Edge} {g:Option (Nat×Bool)}
theorem No {tx e:TypeId} {b off len k:Nat} (hx:evF F x=some (.pointer (some ⟨b,off,none⟩))) (hu:P.underlying tx=some (.array len e)) (hs:∀w,(sizeOf e).run P w=.ok k w) (h0:0<len) :
    Ex P n F w0 L ⟨d,.slice tx x none none none,t,p,af,g⟩ (.slice (some ⟨b,off,none⟩) len len):=λA w ha _=>by
  have e1:¬len=0:=by omega
  simp [execOp,ha.ev hx,Instr.sliceAt,run_underlying hu,Instr.sureAddr,Instr.sliceBounds,Instr.sliceBound,hs,e1,Addr.add_lit]
end
theorem Ym {S:Nat->Prop} {w:World} {ts:List T3} {x:RX (rowsL Ad ts) ts.length} (h:Ro S w x) {j:Nat} (hj:j<ts.length) (ok:Aw (some ⟨pB x.p,pO x.p+j*3,none⟩) 3 3):Ro S w (⟨some ⟨pB x.p,pO x.p+j*3,none⟩,3,ok⟩:RX (Ad (ts.getD j (0,0,0))) 3):=λy hy=>by
  rcases xP.1 hy with rfl
  obtain ⟨h1,h2⟩:=h (AP x.p (rowsL Ad ts)) (xP.2 rfl)
  obtain ⟨a,hp⟩:∃a,x.p=some a:=by
    cases hp:x.p with
    | none=>have:=(x.ok.nil hp).1;omega
    | some a=>exact ⟨a,rfl⟩
  have e:(some (⟨pB x.p,pO x.p+j*3,none⟩:Addr)).map (·.block)=x.p.map (·.block):=by rw [hp];rfl
  refine ⟨λb hb=>?_,λb hb=>h2 b (e.symm.trans hb)⟩
  obtain ⟨o,ho,cur,T,fr,rfl,hc⟩:=h1 b (e.symm.trans hb)
  refine ⟨_,ho,cur,T,fr,rfl,?_⟩
  have hl:=Ae An (0,0,0) ts j hj
  have hz:=Ac An ts
  show (cur.toList.drop (pO x.p+j*3)).take 3=_
  refine Eq.trans ?_ hl
  refine Eq.trans ?_ (congrArg (λl:List Value=>(l.drop (j*3)).take 3) hc)
  show _=(((cur.toList.drop (pO x.p)).take (rowsL Ad ts).length).drop (j*3)).take 3
  rw [List.drop_take,List.take_take,List.drop_drop]
  congr 1
  omega
theorem aR (b o:Nat):Aw (some ⟨b,o,none⟩) 3 3:=⟨λe=>(by cases e),λa e=>(by injection e with e;subst e;rfl),Nat.le_refl _⟩
end
def F9 (ps:List Pt) (t:T3):Rat:=AF (cor ps t.1) (cor ps t.2.1) (cor ps t.2.2)*(1/2)
def Fu (ps:List Pt) (ts:List T3):Nat->Rat
  | 0=>0
  | i+1=>Fu ps ts i+F9 ps (ts.getD i (0,0,0))
theorem Kf {ps:List Pt} (hz:∀k,Bn (cor ps k)<=1000) (t:T3):Sz (F9 ps t)<=8009:=by
  have h1:=D0 (cor ps t.1) (cor ps t.2.1) (cor ps t.2.2)
  have z1:=hz t.1
  have z2:=hz t.2.1
  have z3:=hz t.2.2
  have h2:=C2 (AF (cor ps t.1) (cor ps t.2.1) (cor ps t.2.2)) (1/2)
  have h3:=RC
  unfold F9
  omega
theorem RE {ps:List Pt} (hz:∀k,Bn (cor ps k)<=1000) (ts:List T3):∀i,Sz (Fu ps ts i)<=2+i*8010
  | 0=>by show Sz (0:Rat)<=2+0*8010;decide +kernel
  | i+1=>by
    have h:=RE hz ts i
    have h1:=Kf hz (ts.getD i (0,0,0))
    have h4:=En (Fu ps ts i) (F9 ps (ts.getD i (0,0,0)))
    show Sz (Fu ps ts i+F9 ps (ts.getD i (0,0,0)))<=_
    omega
section
section
variable {ts:List T3} {ps:List Pt} {p:Int} {i:Nat}
end
end
section
def dt (a b:Pt):Rat:=a.x*b.y-a.y*b.x
theorem Nl (a b:Pt):dt a b = -dt b a:=by unfold dt;grind
theorem KH (a:Pt):dt a a=0:=by unfold dt;grind
theorem H_ {c z:Rat} (hc:0<c) (h:0<=z*c):0<=z:=Hq hc (by rw [Rat.mul_comm];exact h)
theorem Xl {u:Pt} (h:∀z,dt u z=0):u=⟨0,0⟩:=by
  have h1:=h ⟨0,1⟩;have h2:=h ⟨1,0⟩
  obtain ⟨x,y⟩:=u
  unfold dt at h1 h2
  simp only at h1 h2
  have e1:x=0:=by grind
  have e2:y=0:=by grind
  rw [e1,e2]
section
variable {p q r s u w:Pt}
def eL (p q r s w x:Pt):Prop:=0<=dt p x/\0<=dt x q/\0<=dt r x/\0<=dt x s/\0<=dt x w
theorem R2 {x:Pt} {k l:Rat} (hk:0<k) (hl:0<l) (h:∀z,k*dt u z=l*dt x z) (hp:0<=dt p u) (hq:0<=dt u q) (hr:0<=dt r u) (hs:0<=dt u s) (hw:0<=dt u w):eL p q r s w x:=by
  have key:∀z,0<=dt u z->0<=dt x z:=λz hz=>Hq hl (by rw [<-h];exact Rat.mul_nonneg (Rat.le_of_lt hk) hz)
  have key2:∀z,0<=dt z u->0<=dt z x:=λz hz=>by
    rw [Nl z x];rw [Nl z u] at hz
    have e:=h z
    have h1:0<=k * -dt u z:=Rat.mul_nonneg (Rat.le_of_lt hk) hz
    exact Hq hl (by grind)
  exact ⟨key2 _ hp,key _ hq,key2 _ hr,key _ hs,key _ hw⟩
theorem WC (hpq:0<dt p q) (hu:u≠⟨0,0⟩) (hp:0<=dt p u) (hq:0<=dt u q) (h:dt p u=0\/dt u q=0):∃x k l,(x=p\/x=q)/\0<k/\0<l/\∀z,k*dt u z=l*dt x z:=by
  have cr:∀z,dt p q*dt u z=dt u q*dt p z+dt p u*dt q z:=λz=>by unfold dt;grind
  have ne:¬(dt p u=0/\dt u q=0):=λ⟨a,b⟩=>hu (Xl λz=>by
    have e:=cr z
    rw [a,b] at e
    have:dt p q*dt u z=0:=by grind
    rcases Rat.mul_eq_zero.1 this with c|c
    · rw [c] at hpq;exact absurd hpq (Rat.lt_irrefl)
    · exact c)
  rcases h with h|h
  · exact ⟨p,dt p q,dt u q,.inl O,hpq,by grind,λz=>by rw [cr,h];grind⟩
  · exact ⟨q,dt p q,dt p u,.inr O,hpq,by grind,λz=>by rw [cr,h];grind⟩
theorem Ui (hpq:0<dt p q) (hrs:0<dt r s) (hu:u≠⟨0,0⟩) (hp:0<=dt p u) (hq:0<=dt u q) (hr:0<=dt r u) (hs:0<=dt u s) (hw:0<=dt u w):∃x,(x=p\/x=q\/x=r\/x=s)/\eL p q r s w x:=by
  by_cases d1:dt p u=0\/dt u q=0
  · obtain ⟨x,k,l,hx,hk,hl,h⟩:=WC hpq hu hp hq d1
    exact ⟨x,hx.elim .inl (λe=>.inr (.inl e)),R2 hk hl h hp hq hr hs hw⟩
  by_cases d2:dt r u=0\/dt u s=0
  · obtain ⟨x,k,l,hx,hk,hl,h⟩:=WC hrs hu hr hs d2
    exact ⟨x,.inr (.inr hx),R2 hk hl h hp hq hr hs hw⟩
  have p1:0<dt p u:=by grind
  have p2:0<dt u q:=by grind
  have p3:0<dt r u:=by grind
  have p4:0<dt u s:=by grind
  have mn:∀{a b:Rat},0<=a->0<=b->0<=a*b:=λa b=>Rat.mul_nonneg a b
  have X:∃x,(x=p\/x=q\/x=r\/x=s)/\0<dt x u/\0<=dt p x/\0<=dt x q/\0<=dt r x/\0<=dt x s:=by
    by_cases c:0<=dt p r
    · have h1:0<=dt r q*dt p u:=by
        have e:dt r q*dt p u=dt p r*dt u q+dt r u*dt p q:=by unfold dt;grind
        have:=mn c hq;have:=mn hr (Rat.le_of_lt hpq);grind
      exact ⟨r,.inr (.inr (.inl O)),p3,c,H_ p1 h1,by rw [KH];exact Rat.le_refl,Rat.le_of_lt hrs⟩
    · have c':0<=dt r p:=by rw [Nl r p];grind
      have h1:0<=dt p s*dt r u:=by
        have e:dt p s*dt r u=dt r p*dt u s+dt p u*dt r s:=by unfold dt;grind
        have:=mn c' hs;have:=mn hp (Rat.le_of_lt hrs);grind
      exact ⟨p,.inl O,p1,by rw [KH];exact Rat.le_refl,Rat.le_of_lt hpq,c',H_ p3 h1⟩
  have Y:∃x,(x=p\/x=q\/x=r\/x=s)/\0<dt u x/\0<=dt p x/\0<=dt x q/\0<=dt r x/\0<=dt x s:=by
    by_cases c:0<=dt q s
    · have h1:0<=dt r q*dt u s:=by
        have e:dt r q*dt u s=dt r u*dt q s+dt r s*dt u q:=by unfold dt;grind
        have:=mn hr c;have:=mn (Rat.le_of_lt hrs) hq;grind
      exact ⟨q,.inr (.inl O),p2,Rat.le_of_lt hpq,by rw [KH];exact Rat.le_refl,H_ p4 h1,c⟩
    · have c':0<=dt s q:=by rw [Nl s q];grind
      have h1:0<=dt p s*dt u q:=by
        have e:dt p s*dt u q=dt p u*dt s q+dt p q*dt u s:=by unfold dt;grind
        have:=mn hp c';have:=mn (Rat.le_of_lt hpq) hs;grind
      exact ⟨s,.inr (.inr (.inr O)),p4,H_ p2 h1,c',Rat.le_of_lt hrs,by rw [KH];exact Rat.le_refl⟩
  obtain ⟨x,hx,x0,x1,x2,x3,x4⟩:=X
  obtain ⟨y,hy,y0,y1,y2,y3,y4⟩:=Y
  have hxy:0<=dt x y*dt p u:=by
    have e:dt x y*dt p u=dt p x*dt u y+dt x u*dt p y:=by unfold dt;grind
    have:=mn x1 (Rat.le_of_lt y0);have:=mn (Rat.le_of_lt x0) y1;grind
  have hxy:=H_ p1 hxy
  by_cases a:0<=dt x w
  · exact ⟨x,hx,x1,x2,x3,x4,a⟩
  by_cases b:0<=dt y w
  · exact ⟨y,hy,y1,y2,y3,y4,b⟩
  exfalso
  have e:dt x y*dt u w=dt u y*dt x w+dt x u*dt y w:=by unfold dt;grind
  have h1:=mn hxy hw
  have h2:0<dt u y * -dt x w:=Rat.mul_pos y0 (by grind)
  have h3:0<dt x u * -dt y w:=Rat.mul_pos x0 (by grind)
  grind
end
def Gf (a b c d e f:Pt):Prop:=(AF a b d<=0/\AF a b e<=0/\AF a b f<=0)\/(AF b c d<=0/\AF b c e<=0/\AF b c f<=0)\/(AF c a d<=0/\AF c a e<=0/\AF c a f<=0)
def Ez (a b:Pt):Pt:=⟨a.x-b.x,a.y-b.y⟩
section
variable {a b c d e f u:Pt}
theorem aS (hA:0<AF a b c) (hB:0<AF d e f) (hu:u≠⟨0,0⟩) (h1:dt u a<=dt u b) (h2:dt u a<=dt u c) (h3:dt u e<=dt u d) (h4:dt u f<=dt u d) (h5:dt u d<=dt u a) :
    (AF a b d<=0/\AF a b e<=0/\AF a b f<=0)\/(AF c a d<=0/\AF c a e<=0/\AF c a f<=0)\/(AF d e a<=0/\AF d e b<=0/\AF d e c<=0)\/(AF f d a<=0/\AF f d b<=0/\AF f d c<=0):=by
  have key:=Ui (p:=Ez a c) (q:=Ez b a) (r:=Ez f d) (s:=Ez d e) (u:=u) (w:=Ez a d) (by simp only [BO] at hA;unfold dt Ez;grind) (by simp only [BO] at hB;unfold dt Ez;grind) hu
    (by unfold dt Ez at *;grind) (by unfold dt Ez at *;grind) (by unfold dt Ez at *;grind) (by unfold dt Ez at *;grind) (by unfold dt Ez at *;grind)
  clear h1 h2 h3 h4 h5 hA hB hu
  obtain ⟨x,hx,k1,k2,k3,k4,k5⟩:=key
  simp only [BO]
  unfold dt Ez at k1 k2 k3 k4 k5
  rcases hx with rfl|rfl|rfl|rfl
  · right;left;simp only at k1 k2 k3 k4 k5;unfold Ez at *;simp only at k1 k2 k3 k4 k5;refine ⟨?_,?_,?_⟩<;>grind
  · left;simp only at k1 k2 k3 k4 k5;unfold Ez at *;simp only at k1 k2 k3 k4 k5;refine ⟨?_,?_,?_⟩<;>grind
  · right;right;right;simp only at k1 k2 k3 k4 k5;unfold Ez at *;simp only at k1 k2 k3 k4 k5;refine ⟨?_,?_,?_⟩<;>grind
  · right;right;left;simp only at k1 k2 k3 k4 k5;unfold Ez at *;simp only at k1 k2 k3 k4 k5;refine ⟨?_,?_,?_⟩<;>grind
theorem Kb (a b c:Pt):AF b c a=AF a b c:=by simp only [BO];grind
def bP (u:Pt) (k:Rat) (a b c d e f:Pt):Prop:=(k<=dt u a/\k<=dt u b/\k<=dt u c)/\dt u d<=k/\dt u e<=k/\dt u f<=k
theorem bj (x y z:Rat):(x<=y/\x<=z)\/(y<=z/\y<=x)\/(z<=x/\z<=y):=by grind
theorem aT (hA:0<AF a b c) (hB:0<AF d e f) (hu:u≠⟨0,0⟩) (h1:dt u a<=dt u b) (h2:dt u a<=dt u c) (h3:dt u d<=dt u a) (h4:dt u e<=dt u a) (h5:dt u f<=dt u a):Gf a b c d e f\/Gf d e f a b c:=by
  rcases bj (-dt u d) (-dt u e) (-dt u f) with m|m|m
  · rcases aS hA hB hu h1 h2 (by grind) (by grind) h3 with k|k|k|k
    · exact .inl (.inl k)
    · exact .inl (.inr (.inr k))
    · exact .inr (.inl k)
    · exact .inr (.inr (.inr k))
  · rcases aS (d:=e) (e:=f) (f:=d) hA (by rw [Kb];exact hB) hu h1 h2 (by grind) (by grind) h4 with k|k|k|k
    · exact .inl (.inl ⟨k.2.2,k.1,k.2.1⟩)
    · exact .inl (.inr (.inr ⟨k.2.2,k.1,k.2.1⟩))
    · exact .inr (.inr (.inl k))
    · exact .inr (.inl k)
  · rcases aS (d:=f) (e:=d) (f:=e) hA (by rw [<-Kb];exact hB) hu h1 h2 (by grind) (by grind) h5 with k|k|k|k
    · exact .inl (.inl ⟨k.2.1,k.2.2,k.1⟩)
    · exact .inl (.inr (.inr ⟨k.2.1,k.2.2,k.1⟩))
    · exact .inr (.inr (.inr k))
    · exact .inr (.inr (.inl k))
theorem Gf.rot1 (h:Gf b c a d e f):Gf a b c d e f:=by
  rcases h with k|k|k
  · exact .inr (.inl k)
  · exact .inr (.inr k)
  · exact .inl k
theorem Gf.rot2 (h:Gf d e f b c a):Gf d e f a b c:=by
  rcases h with k|k|k
  · exact .inl ⟨k.2.2,k.1,k.2.1⟩
  · exact .inr (.inl ⟨k.2.2,k.1,k.2.1⟩)
  · exact .inr (.inr ⟨k.2.2,k.1,k.2.1⟩)
theorem fO {k:Rat} (hA:0<AF a b c) (hB:0<AF d e f) (hu:u≠⟨0,0⟩) (h:bP u k a b c d e f):Gf a b c d e f\/Gf d e f a b c:=by
  obtain ⟨⟨h1,h2,h3⟩,h4,h5,h6⟩:=h
  rcases bj (dt u a) (dt u b) (dt u c) with m|m|m
  · exact aT hA hB hu m.1 m.2 (by grind) (by grind) (by grind)
  · exact (aT (a:=b) (b:=c) (c:=a) (by rw [Kb];exact hA) hB hu m.1 m.2 (by grind) (by grind) (by grind)).imp Gf.rot1 Gf.rot2
  · exact (aT (a:=c) (b:=a) (c:=b) (by rw [<-Kb];exact hA) hB hu m.1 m.2 (by grind) (by grind) (by grind)).imp (λq=>q.rot1.rot1) (λq=>q.rot2.rot2)
end
end
section
def cM (ts:List T3):Nat->List (P2×Nat)
  | 0=>[]
  | s+1=>Bl (cM ts s) (Br ts s) (s/3)
section
variable {ts:List T3} {N t r s:Nat}
end
structure SX (ts:List T3) (o:Bool) where
  b:Nat
  kvs:List (P2×Nat)
  ok:Oe YX kvs
  fin:o=true->kvs=cM ts (3*ts.length)
instance {ts:List T3} {o:Bool}:C6 (SX ts o):=⟨λx=>.tuple #[.map (some x.b),.bool o],λx=>[bf x.b J4 vN x.kvs],λx y hy=>by rcases xP.1 hy with rfl;rfl⟩
end
section
section
variable {P:Program} {Q:Exit->Act->World->Prop} {n:Nat} {F:List (Nat×Value)} {w0:BF} {L:List As} {c x y:Code}
end
end
section
section
variable {ts:List T3} {N:Nat} {k k0:P2} {i:Nat}
end
section
variable {ts:List T3} {N:Nat} {k k0:P2} {i:Nat} {dn dn0:List (P2×Nat)} {l:List Nat}
end
section
variable {ts:List T3} {N i:Nat} {dn dn2:List (P2×Nat)} {wq:T3} {l:List Nat}
end
end
section
theorem Zl {c:T2} (h:0<Bs c.1 c.2.1 c.2.2):∃x y:Rat,W_ c x y:=by
  obtain ⟨⟨a1,a2⟩,⟨b1,b2⟩,⟨c1,c2⟩⟩:=c
  have h2:(0:Rat)<(Bs (a1,a2) (b1,b2) (c1,c2):Int):=by exact_mod_cast h
  have e:((Bs (a1,a2) (b1,b2) (c1,c2):Int):Rat)=((b1:Rat)-a1)*((c2:Rat)-a2)-((b2:Rat)-a2)*((c1:Rat)-a1):=by
    simp only [Bs,Rat.intCast_sub,Rat.intCast_mul,Rat.intCast_natCast]
  rw [e] at h2
  refine ⟨((a1:Rat)+b1+c1)/3,((a2:Rat)+b2+c2)/3,?_,?_,?_⟩<;>simp only [KS]<;>grind
section
variable {ps:List Pt} {ts:List T3}
theorem Wq {m:MQ} {pl:List P2} {n:T3} {t:Nat} (h:Je m pl n t) {r:Nat} (hr:r<3):pl.getD (FB n r) (0,0)=Al m t r:=by
  have e:r=0\/r=1\/r=2:=by omega
  rcases e with rfl|rfl|rfl
  · exact h.a.2
  · exact h.b.2
  · exact h.c.2
end
end
end Go.Proofs.YtbfdamnfcmefmaaGreatDoor
