import Derived.Test.YtfbomiejpbchdaaGreatPart20
import Derived.Test.YtfbomiejpbchdaaGreatPart31
import Derived.Test.YtfbomiejpbchdaaGreatPart32
namespace Go.Proofs.YtfbomiejpbchdaaGreat
open Go Go.RowKit Go.Proofs.Tryz
set_option linter.unusedVariables false
set_option linter.unusedSimpArgs false
section
def PQ (k:DB) (den:Nat) (X Y:Rat):Pt:=⟨((k.a:Rat)*X+(k.b:Rat)*Y)/(((max den 1:Nat):Int):Rat),((k.c:Rat)*X+(k.d:Rat)*Y)/(((max den 1:Nat):Int):Rat)⟩
theorem Iw (k:DB) (den:Nat) (A:P2):CP (GM k den A)=PQ k den (A.1:Rat) (A.2:Rat):=by
  simp only [CP,GM,NY,DB.at_,PQ,Rat.intCast_add,Rat.intCast_mul,Rat.intCast_natCast]
theorem Xl (k:DB) (den:Nat) (A B:P2):Cp (CP (GM k den A)+CP (GM k den B)) (1/2)=PQ k den (((A.1+B.1:Nat):Rat)*(1/2)) (((A.2+B.2:Nat):Rat)*(1/2)):=by
  rw [Iw,Iw]
  refine Pt.ext ?_ ?_<;>simp only [PQ,Qi,QN,XK,XI,Rat.natCast_add,Rat.div_def]<;>generalize (((max den 1:Nat):Int):Rat)⁻¹=e<;>grind
theorem Na {k:DB} (h:k.Ok) (den:Nat):∃c:Rat,0<c/\∀(A B:P2) (X Y:Rat),AU (CP (GM k den A)) (CP (GM k den B)) (PQ k den X Y)=c*Jb A B X Y:=by
  have hD:0<(((max den 1:Nat):Int):Rat):=by exact_mod_cast (show (0:Int)<((max den 1:Nat):Int) by omega)
  have hd:(0:Rat)<(k.det:Rat):=by exact_mod_cast h.pos
  have ed:(k.det:Rat)=(k.a:Rat)*(k.d:Rat)-(k.b:Rat)*(k.c:Rat):=by simp only [DB.det,Rat.intCast_sub,Rat.intCast_mul]
  have hi:=Rat.inv_pos.2 hD
  refine ⟨(k.det:Rat)*((((max den 1:Nat):Int):Rat)⁻¹*(((max den 1:Nat):Int):Rat)⁻¹),Rat.mul_pos hd (Rat.mul_pos hi hi),λA B X Y=>?_⟩
  rw [Iw,Iw,ed]
  simp only [Ch,PQ,Jb,Rat.div_def]
  generalize (((max den 1:Nat):Int):Rat)⁻¹=e
  grind
theorem YR (m:MQ) (t:Nat) {k:Nat} (hk:k<3):∃r,r<3/\Ij m t r=k:=by
  unfold Ij
  generalize t*(m.fst/3)=q
  have e:(m.fst+q)%3=0\/(m.fst+q)%3=1\/(m.fst+q)%3=2:=by omega
  rcases e with e|e|e
  · exact ⟨k,hk,Z⟩
  · exact ⟨(k+2)%3,Nat.mod_lt _ (by decide),Z⟩
  · exact ⟨(k+1)%3,Nat.mod_lt _ (by decide),Z⟩
theorem OC (m:MQ) (t r:Nat):Ij m t ((r+1)%3)=(Ij m t r+1)%3:=by unfold Ij;omega
def crn (t:Nat×Nat×Nat) (r:Nat):Nat:=if r=0 then t.1 else if r=1 then t.2.1 else t.2.2
def CS (t:Nat×Nat×Nat) (p:Nat):Bool:=t.1 == p||t.2.1 == p||t.2.2 == p
theorem Kn {t:Nat×Nat×Nat} {p:Nat}:CS t p=true↔∃r,r<3/\crn t r=p:=by
  simp only [CS,Bool.or_eq_true,beq_iff_eq]
  constructor
  · rintro ((h|h)|h)
    · exact ⟨0,Z,h⟩
    · exact ⟨1,Z,h⟩
    · exact ⟨2,Z,h⟩
  · rintro ⟨r,hr,h⟩
    have:r=0\/r=1\/r=2:=by omega
    rcases this with rfl|rfl|rfl
    · exact .inl (.inl h)
    · exact .inl (.inr h)
    · exact .inr h
theorem Iu.crn {m:MQ} {pl:List P2} {n:Nat×Nat×Nat} {t:Nat} (h:Iu m pl n t) {r:Nat} (hr:r<3):Go.Proofs.YtfbomiejpbchdaaGreat.crn n r<pl.length/\pl.getD (Go.Proofs.YtfbomiejpbchdaaGreat.crn n r) (0,0)=Ax m t r:=by
  have:r=0\/r=1\/r=2:=by omega
  rcases this with rfl|rfl|rfl
  · exact h.a
  · exact h.b
  · exact h.c
section
variable {ps:List Pt} {ts:List (Nat×Nat×Nat)}
structure Xw (ps:List Pt) (ts:List (Nat×Nat×Nat)) (m:MQ) (pl:List P2):Prop where
  inv:Mj m (BD m).length pl ts
  dst:XN pl
  pl_len:ps.length=pl.length
  at_:∀i,i<pl.length->ps.getD i ⟨0,0⟩=CP (GM (mapM m) (B9 m) (pl.getD i (0,0)))
theorem FQ.lattice (g:FQ ps ts):∃m pl,Xw ps ts m pl:=by
  obtain ⟨m,pl,h1,h2,h3⟩:=g.lat
  have hz:(Fa m pl).length=pl.length:=by simp [Fa]
  refine ⟨m,pl,h1,h2,by rw [h3,Jd Z],λi hi=>?_⟩
  rw [h3,<-hz,P9 (by rw [hz];exact hi),Ji hi]
  rfl
theorem Xw.cell {m:MQ} {pl:List P2} (l:Xw ps ts m pl) {t:Nat} (ht:t<ts.length):(BD m).getD t ((0,0),(0,0),(0,0))∈BD m:=by
  have h:=l.inv.tl
  rw [List.getD,List.getElem?_eq_getElem Z];exact List.getElem_mem _
theorem Xw.inC {m:MQ} {pl:List P2} (l:Xw ps ts m pl) {t:Nat} (ht:t<ts.length) {X Y:Rat} (h:KU ps (ts.getD t (0,0,0)) (PQ (mapM m) (B9 m) X Y)):Go.Proofs.YtfbomiejpbchdaaGreat.inC ((BD m).getD t ((0,0),(0,0),(0,0))) X Y:=by
  obtain ⟨c,hc,key⟩:=Na (FK m.a m.b m.c m.d) (B9 m)
  have hk:mapM m=GP m.a m.b m.c m.d:=rfl
  rw [<-hk] at key
  have hat:=l.inv.at_ t (by have:=l.inv.tl;omega)
  obtain ⟨⟨a1,a2⟩,⟨b1,b2⟩,⟨c1,c2⟩⟩:=hat
  obtain ⟨k1,k2,k3⟩:=h
  rw [l.at_ _ b1,l.at_ _ c1,b2,c2,<-Fg,key] at k1
  rw [l.at_ _ a1,l.at_ _ c1,a2,c2,Fg,key] at k2
  rw [l.at_ _ a1,l.at_ _ b1,a2,b2,key] at k3
  exact (MV m t X Y).2 (HN hc k1) (HN hc k2) (HN hc k3)
theorem Xw.idx {m:MQ} {pl:List P2} (l:Xw ps ts m pl) {t p:Nat} (ht:t<ts.length) (hp:p<pl.length) (h:∃k,k<3/\Cw ((BD m).getD t ((0,0),(0,0),(0,0))) k=pl.getD p (0,0)):CS (ts.getD t (0,0,0)) p=true:=by
  obtain ⟨k,hk,e⟩:=h
  obtain ⟨r,hr,e2⟩:=YR m t hk
  obtain ⟨h1,h2⟩:=(l.inv.at_ t (by have:=l.inv.tl;omega)).crn hr
  have e3:Ax m t r=pl.getD p (0,0):=by rw [<-e,<-e2];rfl
  exact Kn.2 ⟨r,hr,l.dst _ _ h1 hp (by rw [h2,e3])⟩
theorem If (g:FQ ps ts) {p:Nat} (hp:p<ps.length):∃j,j<ts.length/\CS (ts.getD j (0,0,0)) p=true:=by
  obtain ⟨m,pl,l⟩:=g.lattice
  obtain ⟨j,hj,h⟩:=l.inv.used p (by rw [<-l.pl_len];exact hp)
  refine ⟨j,by have:=l.inv.tl;omega,?_⟩
  simp only [CS,Bool.or_eq_true,beq_iff_eq]
  rcases h with h|h|h
  · exact .inl (.inl h)
  · exact .inl (.inr h)
  · exact .inr h
theorem TU (g:FQ ps ts) {p q:Nat} (hp:p<ps.length) (hq:q<ps.length) (h:ps.getD p ⟨0,0⟩=ps.getD q ⟨0,0⟩):p=q:=by
  obtain ⟨m,pl,l⟩:=g.lattice
  obtain ⟨j,hj,hh⟩:=If g hq
  obtain ⟨r,hr,e⟩:=Kn.1 hh
  have hp':p<pl.length:=by rw [<-l.pl_len];exact hp
  have hq':q<pl.length:=by rw [<-l.pl_len];exact hq
  rw [l.at_ p hp',l.at_ q hq'] at h
  refine l.dst p q hp' hq' ?_
  have hD:0<(((max (B9 m) 1:Nat):Int):Rat):=by exact_mod_cast (show (0:Int)<((max (B9 m) 1:Nat):Int) by omega)
  have hk:=FK m.a m.b m.c m.d
  have hdet:=hk.pos
  have hx:=congrArg Pt.x h
  have hy:=congrArg Pt.y h
  rw [Iw,Iw] at hx hy
  simp only [PQ,Rat.div_def] at hx hy
  have hi:=Rat.inv_pos.2 hD
  generalize (((max (B9 m) 1:Nat):Int):Rat)⁻¹=e at *
  generalize pl.getD p (0,0)=A at *
  generalize pl.getD q (0,0)=B at *
  obtain ⟨x1,y1⟩:=A
  obtain ⟨x2,y2⟩:=B
  simp only at hx hy
  have hd:(0:Rat)<((mapM m).det:Rat):=by exact_mod_cast hdet
  have ed:((mapM m).det:Rat)=((mapM m).a:Rat)*((mapM m).d:Rat)-((mapM m).b:Rat)*((mapM m).c:Rat):=by simp only [DB.det,Rat.intCast_sub,Rat.intCast_mul]
  rw [ed] at hd
  generalize ((mapM m).a:Rat)=a at *
  generalize ((mapM m).b:Rat)=b at *
  generalize ((mapM m).c:Rat)=c at *
  generalize ((mapM m).d:Rat)=d at *
  clear hD hk hdet ed h
  have hX:((x1:Rat)-(x2:Rat))*(a*d-b*c)*e=0:=by grind
  have hY:((y1:Rat)-(y2:Rat))*(a*d-b*c)*e=0:=by grind
  have z1:(x1:Rat)-(x2:Rat)=0:=by
    rcases Rat.mul_eq_zero.1 hX with h|h
    · rcases Rat.mul_eq_zero.1 h with h|h
      · exact h
      · grind
    · grind
  have z2:(y1:Rat)-(y2:Rat)=0:=by
    rcases Rat.mul_eq_zero.1 hY with h|h
    · rcases Rat.mul_eq_zero.1 h with h|h
      · exact h
      · grind
    · grind
  have w1:(x1:Rat)=(x2:Rat):=by grind
  have w2:(y1:Rat)=(y2:Rat):=by grind
  exact Prod.ext (by exact_mod_cast w1) (by exact_mod_cast w2)
theorem I3 (g:FQ ps ts) {p t:Nat} (hp:p<ps.length) (ht:t<ts.length) (h:KU ps (ts.getD t (0,0,0)) (ps.getD p ⟨0,0⟩)):CS (ts.getD t (0,0,0)) p=true:=by
  obtain ⟨m,pl,l⟩:=g.lattice
  have hp':p<pl.length:=by rw [<-l.pl_len];exact hp
  obtain ⟨j,hj,hh⟩:=If g hp
  obtain ⟨r,hr,e⟩:=Kn.1 hh
  have hc:=((l.inv.at_ j (by have:=l.inv.tl;omega)).crn hr).2
  rw [e] at hc
  refine l.idx ht hp' ?_
  rw [l.at_ p hp',Iw] at h
  have h2:=l.inC ht h
  rw [hc] at h2 ⊢
  exact N0 (l.cell hj) (l.cell ht) (Nat.mod_lt _ (by decide)) h2
theorem So (g:FQ ps ts) {s t r:Nat} (hs:s<ts.length) (ht:t<ts.length) (hr:r<3) (h:KU ps (ts.getD t (0,0,0)) (Cp (ps.getD (crn (ts.getD s (0,0,0)) r) ⟨0,0⟩+ps.getD (crn (ts.getD s (0,0,0)) ((r+1)%3)) ⟨0,0⟩) (1/2))) :
    CS (ts.getD t (0,0,0)) (crn (ts.getD s (0,0,0)) r)=true/\CS (ts.getD t (0,0,0)) (crn (ts.getD s (0,0,0)) ((r+1)%3))=true:=by
  obtain ⟨m,pl,l⟩:=g.lattice
  have hat:=l.inv.at_ s (by have:=l.inv.tl;omega)
  obtain ⟨a1,a2⟩:=hat.crn hr
  obtain ⟨b1,b2⟩:=hat.crn (Nat.mod_lt (r+1) (show 0<3 by decide))
  rw [l.at_ _ a1,l.at_ _ b1,Xl,a2,b2] at h
  have h2:=l.inC ht h
  unfold Ax at h2
  rw [OC] at h2
  obtain ⟨k1,k2⟩:=Tz (l.cell hs) (l.cell ht) (r:=Ij m s r) (Nat.mod_lt _ (by decide)) h2
  refine ⟨l.idx ht a1 ?_,l.idx ht b1 ?_⟩
  · rw [a2];exact k1
  · rw [b2];unfold Ax;rw [OC];exact k2
end
end
section
def UW (A B:P2) (t:T2):Bool:=decide (Bv A B t.1<=0)&&decide (Bv A B t.2.1<=0)&&decide (Bv A B t.2.2<=0)
def Ti (s t:T2):Bool:=UW s.1 s.2.1 t||UW s.2.1 s.2.2 t||UW s.2.2 s.1 t
def TK (s t:T2):Bool:=s == t||(Ti s t||Ti t s)
def Tk:Bool:=Gg.all λp=>Gg.all λq=>(decide (p.1=q.1/\p.2.1=q.2.1/\p.2.2≠q.2.2))||(RL p.1 p.2.1 p.2.2).all λs=>(RL q.1 q.2.1 q.2.2).all λt=>TK s t
theorem La:Tk=true:=by decide +kernel
theorem S4 {m:MQ} {s t:T2} (hs:s∈BD m) (ht:t∈BD m):TK s t=true:=by
  obtain ⟨i,hi,h1⟩:=EH m _ s hs
  obtain ⟨j,hj,h2⟩:=EH m _ t ht
  have hx:=IX m
  have hy:=Ig m
  have b:∀k,k<Fq m*R_ m->k%Fq m<=2/\k/Fq m<=2:=λk hk=>by
    have a1:=Nat.mod_lt k (show 0<Fq m by omega)
    have a2:k/Fq m<R_ m:=Nat.div_lt_of_lt_mul hk
    omega
  rw [L6] at h1 h2
  have h:=List.all_eq_true.1 (List.all_eq_true.1 La _ (Ek (b i hi).1 (b i hi).2 (Jf (GK m i) i))) _ (Ek (b j hj).1 (b j hj).2 (Jf (GK m j) j))
  rw [Bool.or_eq_true,decide_eq_true_eq] at h
  rcases h with ⟨e1,e2,e3⟩|h
  · exfalso
    have e:i=j:=by rw [<-Nat.div_add_mod i (Fq m),<-Nat.div_add_mod j (Fq m),show i%Fq m=j%Fq m from e1,show i/Fq m=j/Fq m from e2]
    subst e
    exact e3 O
  · exact List.all_eq_true.1 (List.all_eq_true.1 h s h1) t h2
theorem NB {A B:P2} {t:T2} (h:UW A B t=true):∀q,q<3->Bv A B (Cw t q)<=0:=by
  simp only [UW,Bool.and_eq_true,decide_eq_true_eq] at h
  intro q hq
  have e:q=0\/q=1\/q=2:=by omega
  rcases e with rfl|rfl|rfl
  · exact h.1.1
  · exact h.1.2
  · exact h.2
theorem YI {s t:T2} (h:Ti s t=true) (hp:0<Bv s.1 s.2.1 s.2.2):∃A B X:P2,0<Bv A B X/\(∀q,q<3->0<=Bv A B (Cw s q))/\∀q,q<3->Bv A B (Cw t q)<=0:=by
  have hs:∀A B C:P2,0<Bv A B C->(A=s.1/\B=s.2.1/\C=s.2.2\/A=s.2.1/\B=s.2.2/\C=s.1\/A=s.2.2/\B=s.1/\C=s.2.1)->∀q,q<3->0<=Bv A B (Cw s q):=λA B C hc he q hq=>by
    have e:q=0\/q=1\/q=2:=by omega
    have s1:=(DI A B).2.1
    have s2:=(DI A B).2.2
    rcases he with ⟨rfl,rfl,rfl⟩|⟨rfl,rfl,rfl⟩|⟨rfl,rfl,rfl⟩<;>rcases e with rfl|rfl|rfl<;>simp only [Cw,if_true]<;>first|exact Int.le_of_lt hc|(simp;first|exact Int.le_of_lt hc|(rw [s1];exact Int.le_refl 0)|(have:=(DI s.1 s.2.1);have:=(DI s.2.1 s.2.2);have:=(DI s.2.2 s.1);unfold Bv at *;omega)|(unfold Bv;grind))
  simp only [Ti,Bool.or_eq_true] at h
  rcases h with (h|h)|h
  · exact ⟨_,_,_,hp,hs _ _ _ hp (.inl ⟨rfl,rfl,rfl⟩),NB h⟩
  · have hp':0<Bv s.2.1 s.2.2 s.1:=by rw [Ev];exact hp
    exact ⟨_,_,_,hp',hs _ _ _ hp' (.inr (.inl ⟨rfl,rfl,rfl⟩)),NB h⟩
  · have hp':0<Bv s.2.2 s.1 s.2.1:=by rw [Ev,Ev];exact hp
    exact ⟨_,_,_,hp',hs _ _ _ hp' (.inr (.inr ⟨rfl,rfl,rfl⟩)),NB h⟩
def Ln (ps:List Pt) (s t:T3):Prop:=∃(u:Pt) (k:Rat),u≠⟨0,0⟩/\ZF u k (cor ps s.1) (cor ps s.2.1) (cor ps s.2.2) (cor ps t.1) (cor ps t.2.1) (cor ps t.2.2)
theorem Ln.symm {ps:List Pt} {s t:T3} (h:Ln ps s t):Ln ps t s:=by
  obtain ⟨u,k,hu,⟨h1,h2,h3⟩,h4,h5,h6⟩:=h
  have ng:∀a,dt ⟨-u.x,-u.y⟩ a = -dt u a:=λa=>by unfold dt;grind
  refine ⟨⟨-u.x,-u.y⟩,-k,λe=>hu ?_,⟨?_,?_,?_⟩,?_,?_,?_⟩
  · obtain ⟨x,y⟩:=u
    injection e with e1 e2
    simp only at e1 e2
    rw [show x=0 by grind,show y=0 by grind]
  all_goals rw [ng];grind
section
variable {ps:List Pt} {ts:List T3}
theorem Uj (g:FQ ps ts) {i j:Nat} (hi:i<ts.length) (hj:j<ts.length) (hne:i≠j):Ln ps (ts.getD i (0,0,0)) (ts.getD j (0,0,0)):=by
  obtain ⟨m,pl,l⟩:=g.lattice
  obtain ⟨c,hc,hT⟩:=Na (FK m.a m.b m.c m.d) (B9 m)
  have hlen:=l.inv.tl
  have dz:T2:=((0,0),(0,0),(0,0))
  have key:∀i j,i<ts.length->j<ts.length->Ti ((BD m).getD i ((0,0),(0,0),(0,0))) ((BD m).getD j ((0,0),(0,0),(0,0)))=true->Ln ps (ts.getD i (0,0,0)) (ts.getD j (0,0,0)):=λi j hi hj h=>by
    obtain ⟨A,B,X,hX,hs,ht⟩:=YI h (G6 m _ (l.cell hi)).1
    have pt:∀k,k<ts.length->∀r,r<3->∃q,q<3/\cor ps (Bi (ts.getD k (0,0,0)) r)=PQ (mapM m) (B9 m) ((Cw ((BD m).getD k ((0,0),(0,0),(0,0))) q).1:Rat) ((Cw ((BD m).getD k ((0,0),(0,0),(0,0))) q).2:Rat):=λk hk r hr=>by
      have hat:=l.inv.at_ k Z
      have e:=UA hat hr
      have hlt:Bi (ts.getD k (0,0,0)) r<pl.length:=by
        have er:r=0\/r=1\/r=2:=by omega
        rcases er with rfl|rfl|rfl
        · exact hat.a.1
        · exact hat.b.1
        · exact hat.c.1
      refine ⟨Ij m k r,Nat.mod_lt _ (by decide),?_⟩
      show ps.getD _ ⟨0,0⟩=_
      rw [l.at_ _ hlt,Iw,e]
      rfl
    have q2:∀C:P2,AU (CP (GM (mapM m) (B9 m) A)) (CP (GM (mapM m) (B9 m) B)) (PQ (mapM m) (B9 m) (C.1:Rat) (C.2:Rat))=c*((Bv A B C:Int):Rat):=λC=>by
      rw [show mapM m=GP m.a m.b m.c m.d from rfl,hT]
      congr 1
      simp only [Jb,Bv,Rat.intCast_sub,Rat.intCast_mul,Rat.intCast_natCast]
    have dq:∀P:Pt,AU (CP (GM (mapM m) (B9 m) A)) (CP (GM (mapM m) (B9 m) B)) P=dt (Ei (CP (GM (mapM m) (B9 m) B)) (CP (GM (mapM m) (B9 m) A))) P-dt (Ei (CP (GM (mapM m) (B9 m) B)) (CP (GM (mapM m) (B9 m) A))) (CP (GM (mapM m) (B9 m) A)):=λP=>by
      simp only [Ch,dt,Ei];grind
    have lf:∀r,r<3->dt (Ei (CP (GM (mapM m) (B9 m) B)) (CP (GM (mapM m) (B9 m) A))) (CP (GM (mapM m) (B9 m) A))<=dt (Ei (CP (GM (mapM m) (B9 m) B)) (CP (GM (mapM m) (B9 m) A))) (cor ps (Bi (ts.getD i (0,0,0)) r)):=λr hr=>by
      obtain ⟨q,hq,e⟩:=pt i hi r hr
      have h1:=dq (cor ps (Bi (ts.getD i (0,0,0)) r))
      rw [e,q2] at h1
      rw [e]
      have h2:(0:Rat)<=((Bv A B (Cw ((BD m).getD i ((0,0),(0,0),(0,0))) q):Int):Rat):=by exact_mod_cast hs q hq
      have h3:=Rat.mul_nonneg (Rat.le_of_lt hc) h2
      grind
    have rt:∀r,r<3->dt (Ei (CP (GM (mapM m) (B9 m) B)) (CP (GM (mapM m) (B9 m) A))) (cor ps (Bi (ts.getD j (0,0,0)) r))<=dt (Ei (CP (GM (mapM m) (B9 m) B)) (CP (GM (mapM m) (B9 m) A))) (CP (GM (mapM m) (B9 m) A)):=λr hr=>by
      obtain ⟨q,hq,e⟩:=pt j hj r hr
      have h1:=dq (cor ps (Bi (ts.getD j (0,0,0)) r))
      rw [e,q2] at h1
      rw [e]
      have h2:(0:Rat) <= -((Bv A B (Cw ((BD m).getD j ((0,0),(0,0),(0,0))) q):Int):Rat):=by
        have h9:((Bv A B (Cw ((BD m).getD j ((0,0),(0,0),(0,0))) q):Int):Rat)<=0:=by exact_mod_cast ht q hq
        grind
      have h3:=Rat.mul_nonneg (Rat.le_of_lt hc) h2
      grind
    refine ⟨_,_,λe=>?_,⟨lf 0 (by decide),lf 1 (by decide),lf 2 (by decide)⟩,rt 0 (by decide),rt 1 (by decide),rt 2 (by decide)⟩
    have h1:=dq (PQ (mapM m) (B9 m) (X.1:Rat) (X.2:Rat))
    rw [q2,e] at h1
    have h2:(0:Rat)<((Bv A B X:Int):Rat):=by exact_mod_cast hX
    have h3:=Rat.mul_pos hc h2
    unfold dt at h1
    grind
  have h3:=S4 (l.cell hi) (l.cell hj)
  simp only [TK,Bool.or_eq_true,beq_iff_eq] at h3
  rcases h3 with h3|h3|h3
  · exfalso
    obtain ⟨x,y,ho⟩:=YV (G6 m _ (l.cell hi)).1
    refine ML m (show i<(BD m).length by omega) (show j<(BD m).length by omega) hne ((0,0),(0,0),(0,0)) x y ho ?_
    rw [<-h3]
    exact ⟨by have:=ho.1;grind,by have:=ho.2.1;grind,by have:=ho.2.2;grind⟩
  · exact key i j hi hj h3
  · exact (key j i hj hi h3).symm
end
end
def Sr (p q:Pt):Prop:=p.x<q.x\/(p.x=q.x/\p.y<q.y)
instance (p q:Pt):Decidable (Sr p q):=by unfold Sr;infer_instance
theorem X4 {p q:Pt} (h:D8 p.x q.x≠0):decide (D8 p.x q.x<0)=decide (Sr p q):=by
  have h2:¬p.x=q.x:=λe=>h (Qa.2 e)
  refine decide_eq_decide.2 ⟨λk=>.inl (Jj.1 k),λk=>?_⟩
  rcases k with k|k
  · exact Jj.2 k
  · exact absurd k.1 h2
theorem YY {p q:Pt} (h:D8 p.x q.x=0):decide (D8 p.y q.y<0)=decide (Sr p q):=by
  have h2:p.x=q.x:=Qa.1 h
  refine decide_eq_decide.2 ⟨λk=>.inr ⟨h2,Jj.1 k⟩,λk=>?_⟩
  rcases k with k|k
  · rw [h2] at k;exact absurd k (by grind)
  · exact Jj.2 k.2
def m7 (m:MQ) (k:Nat):List Nat:=(m.cs.take k).map (·%7)
section
def S9 (t:T3) (p:Nat):Int:=if p=t.1 then 0 else if p=t.2.1 then 1 else if p=t.2.2 then 2 else -1
theorem W6 (t:T3) (p:Nat):decide (0<=S9 t p)=CS t p:=by
  unfold S9 CS
  by_cases h1:p=t.1
  · rw [if_pos h1,h1];simp
  · have h1':¬t.1=p:=λe=>h1 e.symm
    rw [if_neg h1]
    by_cases h2:p=t.2.1
    · rw [if_pos h2,h2];simp
    · have h2':¬t.2.1=p:=λe=>h2 e.symm
      rw [if_neg h2]
      by_cases h3:p=t.2.2
      · rw [if_pos h3,h3];simp
      · have h3':¬t.2.2=p:=λe=>h3 e.symm
        rw [if_neg h3];simp [h1',h2',h3']
abbrev Q3:=Pt×Pt×Pt
def HR (x:Q3):List Value:=Am x.1++(Am x.2.1++(Am x.2.2++[]))
theorem Yl (a b c:Pt):Am a++Am b++Am c=HR (a,b,c):=by simp [HR]
def Bs (ps:List Pt) (t:T3):Q3:=(cor ps t.1,cor ps t.2.1,cor ps t.2.2)
def NT (p q r:Pt):Bool:=decide (0<(AU p q r).num.sign)
def Se (p q:Pt) (B:Q3):Int:=if NT p q B.1=true then 0 else if NT p q B.2.1=true then 1 else if NT p q B.2.2=true then 2 else -1
def Fx (p q:Pt) (B:Q3):Bool:=NT p q B.1||NT p q B.2.1||NT p q B.2.2
theorem Vq (p q:Pt) (B:Q3):decide (0<=Se p q B)=Fx p q B:=by
  unfold Se Fx
  cases NT p q B.1<;>cases NT p q B.2.1<;>cases NT p q B.2.2<;>rfl
def Em (A B:Q3):Bool:=!Fx A.1 A.2.1 B||(!Fx A.2.1 A.2.2 B||!Fx A.2.2 A.1 B)
structure J1 (ps:List Pt) (ts ss:List T3):Prop where
  pl:ps.length<=4096
  tl:ts.length<=8192
  t0:0<ts.length
  sl:ss.length<=24576
  sz:∀k,B5 (cor ps k)<=1000
  num:CD ps.length ts=true
  pos:∀j,j<ts.length->(AU (cor ps (ts.getD j (0,0,0)).1) (cor ps (ts.getD j (0,0,0)).2.1) (cor ps (ts.getD j (0,0,0)).2.2)).num.sign=1
  sid:∀j,j<ss.length->(ss.getD j (0,0,0)).1<ps.length/\(ss.getD j (0,0,0)).2.1<ps.length/\(ss.getD j (0,0,0)).2.2<=255
  use:∀p,p<ps.length->∃j,j<ts.length/\CS (ts.getD j (0,0,0)) p=true
  dst:ps.Nodup
  apart:∀i k,i<ts.length->k<i->(!Em (Bs ps (ts.getD i (0,0,0))) (Bs ps (ts.getD k (0,0,0)))&&!Em (Bs ps (ts.getD k (0,0,0))) (Bs ps (ts.getD i (0,0,0))))=false
  crn:∀i p,i<ts.length->p<ps.length->CS (ts.getD i (0,0,0)) p=false->NS ps (cor ps p) (ts.getD i (0,0,0))=0
  rl:ss.length=(Bx ts).length
  rim:∀j,j<ss.length->(ss.getD j (0,0,0)).1=((Bx ts).getD j (0,0,0)).1/\(ss.getD j (0,0,0)).2.1=((Bx ts).getD j (0,0,0)).2.1
theorem J1.szM {ps:List Pt} {ts ss:List T3} (h:J1 ps ts ss) (k:Nat):B5 (cor ps k)<=1000000:=Nat.le_trans (h.sz k) (by decide)
def M_ (x y:Pt):Int:=if Sr x y then -1 else if Sr y x then 1 else 0
theorem Fl {x y:Pt}:M_ x y<0↔Sr x y:=by
  unfold M_
  split
  · exact ⟨λ_=>by assumption,λ_=>by decide⟩
  · rename_i h
    split<;>exact ⟨λk=>absurd k (by decide),λk=>absurd k h⟩
theorem RK {ys:List Pt} (h:ys.Nodup) {k:Nat} (h1:1<=k) (hk:k<ys.length) (e:ys.getD k ⟨0,0⟩=ys.getD (k-1) ⟨0,0⟩):False:=by
  rw [List.getD,List.getD,List.getElem?_eq_getElem hk,List.getElem?_eq_getElem (show k-1<ys.length by omega)] at e
  have:=(List.getElem_inj h).1 e
  omega
def bL (us:List Bool):List Value:=us.map Value.bool
theorem M5 (us:List Bool):(bL us).length=us.length:=List.length_map _
theorem Pk (us:List Bool) (j:Nat) (v:Bool):(bL us).set j (.bool v)=bL (us.set j v):=by unfold bL;rw [List.map_set]
theorem Xq {us:List Bool} {j:Nat} (h:j<us.length):(bL us)[j*1]?=some (.bool (us.getD j false)):=by simp [bL,h]
def Ki (ts:List T3) (n i:Nat):List Bool:=(List.range n).map λp=>(ts.take i).any λt=>CS t p
theorem Ge (ts:List T3) (n i:Nat):(Ki ts n i).length=n:=by simp [Ki]
theorem Rw (ts:List T3) (n:Nat):List.replicate n false=Ki ts n 0:=by
  unfold Ki
  rw [List.take_zero]
  apply List.ext_getElem?
  intro j
  rcases Nat.lt_or_ge j n with h|h
  · simp [h]
  · rw [List.getElem?_eq_none (by simpa using h),List.getElem?_eq_none (by simpa using h)]
theorem Ra {ts:List T3} {n i:Nat} (h:i<ts.length):(((Ki ts n i).set (ts.getD i (0,0,0)).1 true).set (ts.getD i (0,0,0)).2.1 true).set (ts.getD i (0,0,0)).2.2 true=Ki ts n (i+1):=by
  apply List.ext_getElem?
  intro j
  have e:ts.take (i+1)=ts.take i++[ts.getD i (0,0,0)]:=by rw [List.take_add_one,List.getD,List.getElem?_eq_getElem h];rfl
  generalize ts.getD i (0,0,0)=T at *
  unfold Ki
  rw [e]
  simp only [List.getElem?_set,List.length_set,List.length_map,List.length_range,List.getElem?_map,List.any_append,List.any_cons,List.any_nil,Bool.or_false]
  rcases Nat.lt_or_ge j n with hj|hj
  · rw [List.getElem?_range hj]
    simp only [Option.map_some]
    unfold CS
    by_cases h1:T.1=j<;>by_cases h2:T.2.1=j<;>by_cases h3:T.2.2=j<;>simp [h1,h2,h3]<;>try omega
  · rw [List.getElem?_eq_none (by simpa using hj)]
    simp only [Option.map_none]
    by_cases h1:T.1=j<;>by_cases h2:T.2.1=j<;>by_cases h3:T.2.2=j<;>simp [h1,h2,h3]<;>omega
theorem SR {ts:List T3} {n p:Nat} (hp:p<n) (h:∃j,j<ts.length/\CS (ts.getD j (0,0,0)) p=true):(Ki ts n ts.length).getD p false=true:=by
  unfold Ki
  rw [List.getD,List.getElem?_map,List.getElem?_range hp,Option.map_some,Option.getD_some,List.take_length,List.any_eq_true]
  obtain ⟨j,hj,h⟩:=h
  exact ⟨_,List.getElem_mem hj,by rwa [List.getD,List.getElem?_eq_getElem hj] at h⟩
section
variable {P:Program} {ops:Array Oper} {rest:List Oper} {Q:Exit->Act->World->Prop} {n d i z m c:Nat} {F:List (Nat×Value)} {w0:BM} {L L':List As} {t ty T:TypeId} {p:String} {af:Array Edge} {x y:Operand} {cs vs:List Value} {q:Option Addr} {v:Value}
theorem AE.makeBool {ki kj:IntKind} {bytes:Nat} (ht:UG P t T (.bool false) bytes) (hx:evF F x=some (.int ki (m:Nat))) (hy:evF F y=some (.int kj (m:Nat))) (hm:m<=1099511627776) (hb:Nat.ble bytes 16=true) (hd:Nat.ble (d+1) n=true)
    (next:∀b,OwnOk (some ⟨b,0,none⟩) m m->AE P ops rest Q n ((d,.slice (some ⟨b,0,none⟩) m m)::F) w0 (rowW (some ⟨b,0,none⟩) T 1 m m (bL (List.replicate m false))::L)) :
    AE P ops (⟨some d,.makeSlice t x y,ty,p,af,none⟩::rest) Q n F w0 L:=AE.makeRow ht hx hy hm hb hd λb ho=>by
  have h:=next b ho
  unfold bL at h
  rw [List.map_replicate] at h
  exact h
end
section
variable {P:Program} {n:Nat} {F:List (Nat×Value)} {w0:BM} {L:List As} {x:Operand} {d:Option Tmp} {t:TypeId} {p:String} {af:Array Edge} {g:Option (Nat×Bool)}
theorem Ml {tx e:TypeId} {b off len k:Nat} (hx:evF F x=some (.pointer (some ⟨b,off,none⟩))) (hu:P.underlying tx=some (.array len e)) (hs:∀w,(sizeOf e).run P w=.ok k w) (h0:0<len) :
    Ex P n F w0 L ⟨d,.slice tx x none none none,t,p,af,g⟩ (.slice (some ⟨b,off,none⟩) len len):=λA w ha _=>by
  have e1:¬len=0:=by omega
  simp [execOp,ha.ev hx,Instr.sliceAt,run_underlying hu,Instr.sureAddr,Instr.sliceBounds,Instr.sliceBound,hs,e1,Addr.add_lit]
end
theorem V9 {S:Nat->Prop} {w:World} {ts:List T3} {x:RX (rowsL Af ts) ts.length} (h:Ro S w x) {j:Nat} (hj:j<ts.length) (ok:BI (some ⟨pB x.p,pO x.p+j*3,none⟩) 3 3):Ro S w (⟨some ⟨pB x.p,pO x.p+j*3,none⟩,3,ok⟩:RX (Af (ts.getD j (0,0,0))) 3):=λy hy=>by
  rcases List.mem_singleton.1 hy with rfl
  obtain ⟨h1,h2⟩:=h (AY x.p (rowsL Af ts)) (List.mem_singleton.2 rfl)
  obtain ⟨a,hp⟩:∃a,x.p=some a:=by
    cases hp:x.p with
    | none=>have:=(x.ok.nil hp).1;omega
    | some a=>exact ⟨a,rfl⟩
  have e:(some (⟨pB x.p,pO x.p+j*3,none⟩:Addr)).map (·.block)=x.p.map (·.block):=by rw [hp];rfl
  refine ⟨λb hb=>?_,λb hb=>h2 b (e.symm.trans hb)⟩
  obtain ⟨o,ho,cur,T,fr,rfl,hc⟩:=h1 b (e.symm.trans hb)
  refine ⟨_,ho,cur,T,fr,rfl,?_⟩
  have hl:=An Ah (0,0,0) ts j hj
  have hz:=Aa Ah ts
  show (cur.toList.drop (pO x.p+j*3)).take 3=_
  refine Eq.trans ?_ hl
  refine Eq.trans ?_ (congrArg (λl:List Value=>(l.drop (j*3)).take 3) hc)
  show _=(((cur.toList.drop (pO x.p)).take (rowsL Af ts).length).drop (j*3)).take 3
  rw [List.drop_take,List.take_take,List.drop_drop]
  congr 1
  omega
theorem YH (b o:Nat):BI (some ⟨b,o,none⟩) 3 3:=⟨λe=>(by cases e),λa e=>(by injection e with e;subst e;rfl),Nat.le_refl _⟩
end
theorem L9 {P:Program} {f:FuncId} {fn:Func} {c:Code} {args:List Value} {w:World} {R:Ending->World->Prop} {n:Nat} {w0:BM} {L:List As}
    (hf:P.funcs[f]?=some fn) (hb:fn.body=some c) (hn:fn.ntmps=n) (hl:args.length<=n) (hW:Own w0 w L)
    (h:AF P c (bodyPost P fn R) n (FL 0 args) w0 L):Calls P f args.toArray w R:=by
  refine calls_of_wp hf hb ?_
  rw [hn]
  exact h _ _ (HD hl _ λk v hk=>by simpa using (DR args 0 k v hk).2) hW
theorem AE.callT {P:Program} {ops:Array Oper} {rest:List Oper} {Q:Exit->Act->World->Prop} {n:Nat} {F:List (Nat×Value)} {w0:BM} {L L2:List As} {o:Oper} {f:FuncId} {args:List Value} {v:Value} {α:Type} {K:α->Prop} {LO:α->List As} (hw:Wt ops n F o)
    (he:∀a w,Frm n a F->Own w0 w L->(execOp a.eval o).run P w=.ok (.enter f args.toArray) w) (hp:L.Perm L2)
    (hc:∀w,Own w0 w L2->Calls P f args.toArray w λe w'=>e=.returned v/\∃a:α,K a/\Own w0 w' (LO a))
    (hd:∀d,o.dst=some d->d<n) (next:∀a,K a->AE P ops rest Q n (match o.dst with|some d=>(d,v)::F|none=>F) w0 (LO a)):AE P ops (o::rest) Q n F w0 L:=λa w ha hW=>by
  unfold wpList
  rw [if_pos (hw a ha)]
  left
  unfold Oper.wp
  rw [he a w ha hW,Oper.upon_enter]
  refine (hc w (hW.perm hp)).mono ?_
  rintro e w' ⟨rfl,x,hk,hW'⟩
  have next:=next x hk
  cases hdst:o.dst with
  | none=>rw [hdst] at next;exact next _ _ ha.put_none hW'
  | some d=>rw [hdst] at next;exact next _ _ (ha.put (hd d hdst)) hW'
theorem FD {α:Type}:∀l:List α,(l.map some).filterMap id=l
  | []=>rfl
  | x::r=>by show x::(r.map some).filterMap id=x::r;rw [FD r]
theorem Nz {α:Type} {L L':List α} (idx:List Nat) (h1:idx.Perm (List.range L.length)) (h2:(idx.map λi=>L[i]?)=L'.map some):L.Perm L':=by
  have h3:((List.range L.length).map λi=>L[i]?)=L.map some:=by
    refine List.ext_getElem (by simp) λj a b=>?_
    simp at a
    simp [a]
  have h4:=(h1.map λi=>L[i]?)
  rw [h2,h3] at h4
  have h5:=h4.filterMap id
  rw [FD,FD] at h5
  exact h5.symm
def CX (md:List (P2×Nat)):Nat->T3->List T3
  | 0,c=>[c]
  | d+1,c=>match Ao md (B7 c) with
    | none=>[c]
    | some n=>CX md d (n,c.1,c.2.1)++CX md d (n,c.2.2,c.1)
theorem Gz (md:List (P2×Nat)):∀d c,(CX md d c).length<=2^d
  | 0,c=>Nat.le_refl _
  | d+1,c=>by
    unfold CX
    split
    · exact Nat.one_le_two_pow
    · rename_i n _
      rw [List.length_append,Nat.pow_succ]
      have h1:=Gz md d (n,c.1,c.2.1)
      have h2:=Gz md d (n,c.2.2,c.1)
      omega
def Ep (n p:Nat):List Nat:=List.replicate n p
theorem XB (a b p:Nat):Ep (a+b) p=Ep a p++Ep b p:=List.replicate_append_replicate.symm
theorem GZ {md:List (P2×Nat)} {d:Nat} {c:T3} (h:Ao md (B7 c)=none):CX md d c=[c]:=by
  cases d with
  | zero=>rfl
  | succ d=>show (match Ao md (B7 c) with|none=>_|some n=>_)=_;rw [h]
theorem Jm {md:List (P2×Nat)} {d n:Nat} {c:T3} (h:Ao md (B7 c)=some n):CX md (d+1) c=CX md d (n,c.1,c.2.1)++CX md d (n,c.2.2,c.1):=by
  show (match Ao md (B7 c) with|none=>_|some n=>_)=_;rw [h]
structure Yi where
  pa:Option Addr
  ca:Nat
  pp:Option Addr
  cp:Nat
structure Zf where
  b:Nat
  bm:Nat
  ba:Nat
  bp:Nat
  bf:Nat
section
section
variable {N:Nat} {es:List E4} {T:T3}
theorem Ez {k:P2} {n:Nat}:∀i,Ao (De N es i) k=some n->∃j,j<i/\B_ (es.getD j E0).a (es.getD j E0).b=k/\n=N+j
  | 0,h=>by cases h
  | i+1,h=>by
    have h:Ao (BT (De N es i) (B_ (es.getD i E0).a (es.getD i E0).b) (N+i)) k=some n:=h
    rw [CV] at h
    split at h
    · rename_i e
      injection h with h
      exact ⟨i,Z,e.symm,h.symm⟩
    · obtain ⟨j,h1,h2,h3⟩:=Ez i h
      exact ⟨j,Z,h2,h3⟩
theorem X1 {k k':P2} {n n' i:Nat} (h:Ao (De N es i) k=some n) (h':Ao (De N es i) k'=some n') (hk:k≠k'):n≠n':=λe=>by
  obtain ⟨j,_,h1,h2⟩:=Ez i h
  obtain ⟨j',_,h1',h2'⟩:=Ez i h'
  have:j=j':=by omega
  subst this
  exact hk (h1.symm.trans h1')
theorem Tl {a b c:Nat} (h1:a≠b) (h2:b≠c) (h3:c≠a):B_ a b≠B_ b c:=λe=>by
  unfold B_ at e
  injection e with e1 e2
  omega
def ZN (M:Nat) (t:T3):Prop:=(t.1<M/\t.2.1<M/\t.2.2<M)/\t.1≠t.2.1/\t.2.1≠t.2.2/\t.2.2≠t.1
theorem Y9 (hT:ZN N T) {t:T3} (ht:t∈CX (De N es es.length) 2 T):ZN (N+es.length) t:=by
  obtain ⟨⟨a1,a2,a3⟩,d1,d2,d3⟩:=hT
  cases hb:Ao (De N es es.length) (B7 T) with
  | none =>
    rw [GZ hb,List.mem_singleton] at ht
    subst ht
    exact ⟨⟨Z,Z,Z⟩,d1,d2,d3⟩
  | some n =>
    rw [Jm hb,List.mem_append] at ht
    obtain ⟨j,hj,hk,hn⟩:=Ez _ hb
    have one:∀{c e:Nat},c<N->e<N->c≠e->B_ c e≠B7 T->t∈CX (De N es es.length) 1 (n,c,e)->ZN (N+es.length) t:=λ{c e} hc he hce hne hm=>by
      cases hb2:Ao (De N es es.length) (B7 (n,c,e)) with
      | none =>
        rw [GZ hb2,List.mem_singleton] at hm
        subst hm
        exact ⟨⟨by show n<_;omega,by show c<_;omega,by show e<_;omega⟩,by show n≠c;omega,hce,by show e≠n;omega⟩
      | some n' =>
        rw [Jm hb2] at hm
        obtain ⟨j',hj',_,hn'⟩:=Ez _ hb2
        have hnn:=X1 hb2 hb (show B7 (n,c,e)≠B7 T from hne)
        have hm:t=(n',n,c)\/t=(n',e,n):=by simpa [CX] using hm
        rcases hm with rfl|rfl
        · exact ⟨⟨by show n'<_;omega,by show n<_;omega,by show c<_;omega⟩,hnn,by show n≠c;omega,by show c≠n';omega⟩
        · exact ⟨⟨by show n'<_;omega,by show e<_;omega,by show n<_;omega⟩,by show n'≠e;omega,by show e≠n;omega,hnn.symm⟩
    rcases ht with ht|ht
    · exact one a1 a2 d1 (by unfold B7;exact Tl d1 d2 d3) ht
    · exact one a3 a1 d3 (by unfold B7;exact (Tl d2 d3 d1).symm) ht
end
end
section
section
variable {m:MQ} {ts:List T3} {a b N:Nat}
theorem H5 {s:T3}:∀j,s∈JF m ts a j↔s.1=a/\a<s.2.1/\s.2.1<a+1+j/\HV ts s.1 s.2.1 ts.length=1/\s=Vp m s.1 s.2.1
  | 0=>⟨λh=>(by cases h),λh=>Z⟩
  | j+1=>by
    show s∈JF m ts a j++(if _ then _ else _)↔_
    rw [List.mem_append,H5 j]
    constructor
    · rintro (h|h)
      · exact ⟨h.1,h.2.1,Z,h.2.2.2⟩
      · split at h
        · rename_i hc
          rw [List.mem_singleton] at h
          subst h
          exact ⟨rfl,(by show a<a+1+j;omega),(by show a+1+j<a+1+(j+1);omega),hc,rfl⟩
        · cases h
    · rintro ⟨h1,h2,h3,h4,h5⟩
      rcases Nat.lt_or_ge s.2.1 (a+1+j) with h6|h6
      · exact .inl ⟨h1,h2,h6,h4,h5⟩
      · have e:s.2.1=a+1+j:=by omega
        rw [h1,e] at h4 h5
        rw [if_pos h4]
        exact .inr (List.mem_singleton.2 h5)
theorem F3 {s:T3}:∀A,s∈FC m ts N A↔s.1<A/\s.1<s.2.1/\s.2.1<N/\HV ts s.1 s.2.1 ts.length=1/\s=Vp m s.1 s.2.1
  | 0=>⟨λh=>(by cases h),λh=>Z⟩
  | A+1=>by
    show s∈FC m ts N A++JF m ts A (N-(A+1))↔_
    rw [List.mem_append,F3 A,H5]
    constructor
    · rintro (h|h)
      · exact ⟨Z,h.2⟩
      · exact ⟨Z,Z,Z,h.2.2.2⟩
    · rintro ⟨h1,h2,h3,h4⟩
      rcases Nat.lt_or_ge s.1 A with h5|h5
      · exact .inl ⟨h5,h2,h3,h4⟩
      · exact .inr ⟨Z,Z,Z,h4⟩
theorem Gp:∀j,(JF m ts a j).Pairwise VF
  | 0=>List.Pairwise.nil
  | j+1=>by
    show (JF m ts a j++(if _ then _ else _)).Pairwise VF
    split
    · refine List.pairwise_append.2 ⟨Gp j,List.pairwise_singleton _ _,λx hx y hy=>?_⟩
      rw [List.mem_singleton] at hy
      subst hy
      have h:=(H5 j).1 hx
      exact .inr ⟨h.1,(by show x.2.1<a+1+j;exact h.2.2.1)⟩
    · rw [List.append_nil];exact Gp j
theorem HM:∀A,(FC m ts N A).Pairwise VF
  | 0=>List.Pairwise.nil
  | A+1=>List.pairwise_append.2 ⟨HM A,Gp _,λx hx y hy=>.inl (by
      have h1:=(F3 A).1 hx
      have h2:=(H5 _).1 hy
      omega)⟩
theorem Mx {x y:Nat} (hab:a<b) (hxy:x≠y):B_ x y=(a,b)↔(x=a/\y=b)\/(x=b/\y=a):=by
  unfold B_
  rw [Prod.mk.injEq]
  omega
theorem WX {t:T3} (hab:a<b) (h:t.1≠t.2.1/\t.2.1≠t.2.2/\t.2.2≠t.1):[B_ t.1 t.2.1,B_ t.2.1 t.2.2,B_ t.2.2 t.1].count (a,b)=if GN t a=true/\GN t b=true then 1 else 0:=by
  obtain ⟨h1,h2,h3⟩:=h
  simp only [List.count_cons,List.count_nil,beq_iff_eq,Mx hab h1,Mx hab h2,Mx hab h3,GN,Bool.or_eq_true,decide_eq_true_eq]
  split<;>split<;>split<;>split<;>omega
theorem P8 (hn:CD N ts=true) (hab:a<b):∀i,i<=ts.length->HV ts a b i=((ts.take i).flatMap λt=>[B_ t.1 t.2.1,B_ t.2.1 t.2.2,B_ t.2.2 t.1]).count (a,b)
  | 0,_=>rfl
  | i+1,hi=>by
    rw [Ls Z,List.flatMap_append,List.count_append,<-P8 hn hab i Z]
    have h:=Mf (Cf hn (show i<ts.length by omega))
    have e:=WX hab h
    show HV ts a b i+(if _ then 1 else 0)=_
    rw [<-e]
    simp [List.flatMap]
theorem Nx (hn:CD N ts=true) (hab:a<b):HV ts a b ts.length=(IJ ts).count (a,b):=by
  rw [P8 hn hab _ (Nat.le_refl _),List.take_length];rfl
theorem U3 (hn:CD N ts=true) (hN:N<=4611686018427387904) (h:(a,b)∈IJ ts):a<b/\b<N:=by
  obtain ⟨e,he,rfl,rfl⟩:=(OL hn hN).1 h
  exact IW hn hN he
theorem Ql (hn:CD N ts=true) (hN:N<=4611686018427387904):FC m ts N N=(Bx ts).map λs=>Vp m s.1 s.2.1:=by
  refine KS VF.asymm (HM N) ?_ λs=>?_
  · exact List.pairwise_map.2 ((Gl hn hN).imp λ{x y} h=>h)
  · rw [F3,List.mem_map]
    constructor
    · rintro ⟨h1,h2,h3,h4,h5⟩
      refine ⟨(s.1,s.2.1,0),(Hu hn hN).2 ⟨?_,rfl⟩,h5.symm⟩
      rw [<-Nx hn h2];exact h4
    · rintro ⟨r,hr,rfl⟩
      have h:=(Hu hn hN).1 hr
      have hk:=U3 hn hN (List.count_pos_iff.1 (by rw [h.1];decide))
      exact ⟨by show r.1<N;omega,hk.1,hk.2,by show HV ts r.1 r.2.1 ts.length=1;rw [Nx hn hk.1];exact h.1,rfl⟩
end
end
end Go.Proofs.YtfbomiejpbchdaaGreat
