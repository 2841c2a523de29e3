import Derived.Test.YtbfdamnfcmefmaaGreatDoorPend19
namespace Go.Proofs.YtbfdamnfcmefmaaGreatDoor
open Go Go.RowKit Go.Proofs.Tryz
open Go.Value renaming slice→qz,bool→qa
set_option linter.unusedVariables false
set_option linter.unusedSimpArgs false
theorem HW (a b:Rat):a<b\/b<=a:=by grind
def KL (A B:P2) (x y:Rat):Rat:=((B.1:Rat)-(A.1:Rat))*(y-(A.2:Rat))-((B.2:Rat)-(A.2:Rat))*(x-(A.1:Rat))
def XD (t:P2×P2×P2) (x y:Rat):Prop:=0<KL t.2.1 t.2.2 x y/\0<KL t.2.2 t.1 x y/\0<KL t.1 t.2.1 x y
def inC (t:P2×P2×P2) (x y:Rat):Prop:=0<=KL t.2.1 t.2.2 x y/\0<=KL t.2.2 t.1 x y/\0<=KL t.1 t.2.1 x y
def dS (s t:P2×P2×P2):Prop:=∀x y,(XD s x y->¬inC t x y)/\(XD t x y->¬inC s x y)
theorem Gk (u:Nat):((2*u:Nat):Rat)=2*(u:Rat):=by rw [Rat.natCast_mul];rfl
theorem J4 (u:Nat):((2*u+2:Nat):Rat)=2*(u:Rat)+2:=by rw [Rat.natCast_add,Gk];rfl
theorem RJ (u:Nat):((2*u+1:Nat):Rat)=2*(u:Rat)+1:=by rw [Rat.natCast_add,Gk];rfl
theorem Rg {t:P2×P2×P2} {nx way i u v:Nat} (hu:u=i%nx) (hv:v=i/nx) (ht:t∈Co nx way i) (x y:Rat) :
    (XD t x y->(2*(u:Rat)<x/\x<2*(u:Rat)+2)/\2*(v:Rat)<y/\y<2*(v:Rat)+2)/\(inC t x y->(2*(u:Rat)<=x/\x<=2*(u:Rat)+2)/\2*(v:Rat)<=y/\y<=2*(v:Rat)+2):=by
  have key:t∈[((2*u,2*v),(2*u+2,2*v),(2*u+2,2*v+2)),((2*u,2*v),(2*u+2,2*v+2),(2*u,2*v+2)),((2*u,2*v),(2*u+2,2*v),(2*u,2*v+2)),((2*u+2,2*v),(2*u+2,2*v+2),(2*u,2*v+2)),
      ((2*u,2*v),(2*u+2,2*v),(2*u+1,2*v+1)),((2*u+2,2*v),(2*u+2,2*v+2),(2*u+1,2*v+1)),((2*u+2,2*v+2),(2*u,2*v+2),(2*u+1,2*v+1)),((2*u,2*v+2),(2*u,2*v),(2*u+1,2*v+1))]:=by
    subst hu;subst hv
    unfold Co at ht
    simp only at ht
    split at ht
    · simp only [xN,List.not_mem_nil,or_false] at ht ⊢;rcases ht with h|h<;>simp [h]
    · split at ht
      · simp only [xN,List.not_mem_nil,or_false] at ht ⊢;rcases ht with h|h<;>simp [h]
      · split at ht
        · simp only [xN,List.not_mem_nil,or_false] at ht ⊢;rcases ht with h|h|h|h<;>simp [h]
        · cases ht
  clear hu hv ht
  simp only [xN,List.not_mem_nil,or_false] at key
  rcases key with rfl|rfl|rfl|rfl|rfl|rfl|rfl|rfl<;>(simp only [XD,inC,KL,Gk,J4,RJ];generalize (u:Rat)=U;generalize (v:Rat)=V;refine ⟨λh=>?_,λh=>?_⟩<;>obtain ⟨h1,h2,h3⟩:=h<;>refine ⟨⟨?_,?_⟩,?_,?_⟩<;>grind)
theorem TD {s t:P2×P2×P2} {nx way way' i j:Nat} (hij:i≠j) (hs:s∈Co nx way i) (ht:t∈Co nx way' j):dS s t:=λx y=>by
  have a:=Rg rfl rfl hs x y
  have b:=Rg rfl rfl ht x y
  have hne:i%nx≠j%nx\/i/nx≠j/nx:=by
    rcases Decidable.em (i%nx=j%nx) with e|e
    · rcases Decidable.em (i/nx=j/nx) with e2|e2
      · exact absurd (by rw [<-Nat.div_add_mod i nx,<-Nat.div_add_mod j nx,e,e2]) hij
      · exact .inr e2
    · exact .inl e
  have lt:∀{p q:Nat},p<q->(p:Rat)+1<=(q:Rat):=λ{p q} h=>by
    have h1:((p+1:Nat):Rat)<=(q:Rat):=by exact_mod_cast h
    rw [Rat.natCast_add] at h1
    exact h1
  have four:(i%nx:Nat)+1<=j%nx\/(j%nx:Nat)+1<=i%nx\/(i/nx:Nat)+1<=j/nx\/(j/nx:Nat)+1<=i/nx:=by omega
  revert a b
  rcases four with h|h|h|h<;>have h:=lt h<;>generalize ((i%nx:Nat):Rat)=A at*<;> generalize ((j%nx:Nat):Rat)=B at*<;> generalize ((i/nx:Nat):Rat)=C at*<;> generalize ((j/nx:Nat):Rat)=D at*<;> intro a b<;>refine ⟨λh1 h2=>?_,λh1 h2=>?_⟩ <;>
    first
      | (have a1:=a.1 h1;have b1:=b.2 h2;obtain ⟨⟨_,_⟩,_,_⟩:=a1;obtain ⟨⟨_,_⟩,_,_⟩:=b1;grind)
      | (have a1:=a.2 h2;have b1:=b.1 h1;obtain ⟨⟨_,_⟩,_,_⟩:=a1;obtain ⟨⟨_,_⟩,_,_⟩:=b1;grind)
theorem WT (nx way i:Nat):(Co nx way i).Pairwise dS:=by
  unfold Co
  simp only
  generalize i%nx=u
  generalize i/nx=v
  split
  · refine List.pairwise_pair.2 λx y=>?_
    simp only [XD,inC,KL,Gk,J4];generalize (u:Rat)=U;generalize (v:Rat)=V
    refine ⟨λh k=>?_,λh k=>?_⟩<;>obtain ⟨h1,h2,h3⟩:=h<;>obtain ⟨k1,k2,k3⟩:=k<;>grind
  · split
    · refine List.pairwise_pair.2 λx y=>?_
      simp only [XD,inC,KL,Gk,J4];generalize (u:Rat)=U;generalize (v:Rat)=V
      refine ⟨λh k=>?_,λh k=>?_⟩<;>obtain ⟨h1,h2,h3⟩:=h<;>obtain ⟨k1,k2,k3⟩:=k<;>grind
    · split
      · simp only [List.pairwise_cons,xN,List.not_mem_nil,or_false,forall_eq_or_imp,forall_eq,List.Pairwise.nil,and_true,false_implies,implies_true]
        refine ⟨⟨?_,?_,?_⟩,⟨?_,?_⟩,?_⟩<;>intro x y<;>simp only [XD,inC,KL,Gk,J4,RJ]<;>generalize (u:Rat)=U<;>generalize (v:Rat)=V<;>refine ⟨λh k=>?_,λh k=>?_⟩<;>obtain ⟨h1,h2,h3⟩:=h<;>obtain ⟨k1,k2,k3⟩:=k<;>grind
      · exact List.Pairwise.nil
theorem EJ (m:MQ):∀i t,t∈EG m i->∃j,j<i/\t∈Co (GA m) (Gg m j) j
  | 0,t,h=>by cases h
  | i+1,t,h=>by
    rcases List.mem_append.1 h with h|h
    · obtain ⟨j,hj,h⟩:=EJ m i t h;exact ⟨j,Z,h⟩
    · exact ⟨i,Z,h⟩
theorem Kn (m:MQ):∀i,(EG m i).Pairwise dS
  | 0=>List.Pairwise.nil
  | i+1=>List.pairwise_append.2 ⟨Kn m i,WT _ _ _,λs hs t ht=>by
      obtain ⟨j,hj,h⟩:=EJ m i s hs
      exact TD Z h ht⟩
theorem Mq (m:MQ) {i j:Nat} (hi:i<(Aw m).length) (hj:j<(Aw m).length) (hne:i≠j) (d:P2×P2×P2):∀x y,XD ((Aw m).getD i d) x y->¬inC ((Aw m).getD j d) x y:=λx y h=>by
  have hp:=List.pairwise_iff_getElem.1 (Kn m (GA m*S4 m))
  rw [List.getD,xP hi] at h
  rw [List.getD,xP hj]
  rcases Nat.lt_or_gt_of_ne hne with hlt|hgt
  · exact (hp i j hi hj hlt x y).1 h
  · exact (hp j i hj hi hgt x y).2 h
theorem lattice {k:DB} (h:k.Ok) (den:Nat) (q:Pt):∃x y c:Rat,0<c/\∀A B:P2,AC (CK (Ge k den A)) (CK (Ge k den B)) q=c*KL A B x y:=by
  have hD:0<(((max den 1:Nat):Int):Rat):=by exact_mod_cast (show (0:Int)<((max den 1:Nat):Int) by omega)
  have hd:(0:Rat)<(k.det:Rat):=by exact_mod_cast h.pos
  have ed:(k.det:Rat)=(k.a:Rat)*(k.d:Rat)-(k.b:Rat)*(k.c:Rat):=by simp only [DB.det,Rat.intCast_sub,Rat.intCast_mul]
  have hi:=Rat.inv_pos.2 hD
  have he:((((max den 1:Nat):Int):Rat)⁻¹)*(((max den 1:Nat):Int):Rat)=1:=Rat.inv_mul_cancel _ (by grind)
  have hdi:((k.det:Rat)⁻¹)*(k.det:Rat)=1:=Rat.inv_mul_cancel _ (by grind)
  obtain ⟨qx,qy⟩:=q
  refine ⟨((k.d:Rat)*qx-(k.b:Rat)*qy)*(((max den 1:Nat):Int):Rat)*(k.det:Rat)⁻¹,((k.a:Rat)*qy-(k.c:Rat)*qx)*(((max den 1:Nat):Int):Rat)*(k.det:Rat)⁻¹,(k.det:Rat)*((((max den 1:Nat):Int):Rat)⁻¹*(((max den 1:Nat):Int):Rat)⁻¹),Rat.mul_pos hd (Rat.mul_pos hi hi),λA B=>?_⟩
  simp only [BC,CK,Ge,Oa,DB.at_,KL,Rat.div_def,Rat.intCast_add,Rat.intCast_mul]
  rw [ed] at hdi ⊢
  clear hD hd hi ed
  generalize (((max den 1:Nat):Int):Rat)⁻¹=e at *
  generalize (((max den 1:Nat):Int):Rat)=D at *
  simp only [Rat.intCast_natCast]
  generalize ((k.a:Rat)*(k.d:Rat)-(k.b:Rat)*(k.c:Rat))⁻¹=f at *
  generalize (k.a:Rat)=a at *
  generalize (k.b:Rat)=b at *
  generalize (k.c:Rat)=c at *
  generalize (k.d:Rat)=d at *
  generalize (A.1:Rat)=A1
  generalize (A.2:Rat)=A2
  generalize (B.1:Rat)=B1
  generalize (B.2:Rat)=B2
  clear h
  have hx:qx=(a*((d*qx-b*qy)*D*f)+b*((a*qy-c*qx)*D*f))*e:=by grind
  have hy:qy=(c*((d*qx-b*qy)*D*f)+d*((a*qy-c*qx)*D*f))*e:=by grind
  generalize (d*qx-b*qy)*D*f=X at *
  generalize (a*qy-c*qx)*D*f=Y at *
  subst hx
  subst hy
  grind
theorem D_ {α:Type} {enc:α->List Value} {z:Nat} (h:∀x,(enc x).length=z) (d:α) (xs:List α) (j r:Nat) (hj:j<xs.length) (hr:r<z) {v:Value} (hv:(enc (xs.getD j d))[r]?=some v):(rowsL enc xs)[j*z+r]?=some v:=by
  have h1:=Ae h d xs j hj
  rw [<-h1,List.getElem?_take_of_lt hr,List.getElem?_drop] at hv
  exact hv
theorem Ap (p:Pt):(Aa p).length=10:=rfl
structure bb (ps:List Pt) (t:Tq3):Prop where
  a:t.1<ps.length
  b:t.2.1<ps.length
  c:t.2.2<ps.length
  ab:t.1≠t.2.1
  bc:t.2.1≠t.2.2
  ca:t.2.2≠t.1
  pos:0<AC (ps.getD t.1 ⟨0,0⟩) (ps.getD t.2.1 ⟨0,0⟩) (ps.getD t.2.2 ⟨0,0⟩)
def dT (ps:List Pt) (t:Tq3) (q:Pt):Prop:=0<AC q (ps.getD t.2.1 ⟨0,0⟩) (ps.getD t.2.2 ⟨0,0⟩)/\0<AC (ps.getD t.1 ⟨0,0⟩) q (ps.getD t.2.2 ⟨0,0⟩)/\0<AC (ps.getD t.1 ⟨0,0⟩) (ps.getD t.2.1 ⟨0,0⟩) q
def Kh (ps:List Pt) (t:Tq3) (q:Pt):Prop:=0<=AC q (ps.getD t.2.1 ⟨0,0⟩) (ps.getD t.2.2 ⟨0,0⟩)/\0<=AC (ps.getD t.1 ⟨0,0⟩) q (ps.getD t.2.2 ⟨0,0⟩)/\0<=AC (ps.getD t.1 ⟨0,0⟩) (ps.getD t.2.1 ⟨0,0⟩) q
def Bz (m:MQ):Nat:=1+m.den%6
def Th (m:MQ) (z:Int×Int):PD:=⟨⟨z.1,Bz m⟩,⟨z.2,Bz m⟩⟩
def S6 (m:MQ) (zs:List (Int×Int)) (i:Nat):List Pt:=(zs.take i).map λz=>CK (Th m z)
theorem KU {m:MQ} {zs:List (Int×Int)} {i:Nat} (h:i<=zs.length):(S6 m zs i).length=i:=by simp [S6];omega
theorem WD {m:MQ} {zs:List (Int×Int)} {i:Nat} (h:i<zs.length):S6 m zs (i+1)=S6 m zs i++[CK (Th m (zs.getD i (0,0)))]:=by
  unfold S6
  rw [List.take_add_one,xP h,List.map_append,List.getD,xP h]
  rfl
theorem R0 {m:MQ} {zs:List (Int×Int)} {i:Nat} (h:i<zs.length):(S6 m zs zs.length).getD i ⟨0,0⟩=CK (Th m (zs.getD i (0,0))):=by
  unfold S6
  rw [List.take_length,List.getD,List.getElem?_map,xP h,List.getD,xP h]
  rfl
def Ft (m:MQ) (pl:List P2):List (Int×Int):=pl.map λp=>(mapM m).at_ p
structure FY (ps:List Pt) (ts:List (Tq3)):Prop where
  ne:ts≠[]
  tl:ts.length<=36
  pl:ps.length<=108
  sz:∀i,Bl (ps.getD i ⟨0,0⟩)<=4
  tri:∀j,j<ts.length->bb ps (ts.getD j (0,0,0))
  apart:∀i j,i<ts.length->j<ts.length->i≠j->∀q,dT ps (ts.getD i (0,0,0)) q->¬Kh ps (ts.getD j (0,0,0)) q
  lat:∃(m:MQ) (pl:List P2),NS m (Aw m).length pl ts/\XP pl/\ps=S6 m (Ft m pl) pl.length
structure MG where
  ps:List Pt
  ts:List (Tq3)
  ss:List (Tq3)
  good:FY ps ts
  sl:ss.length<=108*108
  sd:∃m:MQ,ss=FP m ts ps.length ps.length
  a:RX (rowsL Aa ps) ps.length
  b:RX (rowsL Af ts) ts.length
  c:RX (rowsL Af ss) ss.length
def dG (x:MG):List Value:=[x.a.val,x.b.val,x.c.val]
theorem ZS {x:MG} {y:As} (hy:y∈[x.a.row,x.b.row,x.c.row]):y.ro=true:=by
  simp only [xN,List.not_mem_nil,or_false] at hy
  rcases hy with rfl|rfl|rfl<;>rfl
instance:Cy MG:=⟨λx=>aG (dG x),λx=>[x.a.row,x.b.row,x.c.row],λx y hy=>ZS hy⟩
theorem eG {S:Nat->Prop} {W w:World} {L:List As} {m:MQ} {x:WM m} (h:Ro (SL ⟨W,none⟩ S L) w x):Holds w x.b.row/\∀b,x.b.row.foot=some b->W.heap.size<=b\/S b:=by
  have h1:=h x.b.row (List.mem_cons_of_mem _ List.mem_cons_self)
  exact ⟨h1.1,λb e=>(h1.2 b e).2⟩
theorem Ka {m:MQ} {pl:List P2} {i:Nat} (h:i<pl.length):(Ft m pl).getD i (0,0)=(mapM m).at_ (pl.getD i (0,0)):=by
  simp [Ft,List.getD,h]
theorem ZZ {m:MQ} {pl:List P2} (hs:∀p∈pl,p.1<=6/\p.2<=6) {i:Nat} (h:i<pl.length):(Th m ((Ft m pl).getD i (0,0))).ok:=by
  rw [Ka h]
  have hp:=hs (pl.getD i (0,0)) (by rw [List.getD,xP h];exact List.getElem_mem h)
  obtain ⟨⟨h1,h2⟩,h3,h4⟩:=UP (Fe m.a m.b m.c m.d) hp
  have hd:Bz m<4294967296:=by unfold Bz;omega
  have e:mapM m=Gd m.a m.b m.c m.d:=rfl
  rw [<-e] at h1 h2 h3 h4
  exact ⟨⟨by show -9223372036854775808<=((mapM m).at_ _).1;omega,by show ((mapM m).at_ _).1<_;omega,hd⟩,⟨by show -9223372036854775808<=((mapM m).at_ _).2;omega,by show ((mapM m).at_ _).2<_;omega,hd⟩⟩
theorem E7 (a b c:P2):Bq b c a=Bq a b c:=by unfold Bq;grind
theorem DQ (a b:P2):Bq a a b=0/\Bq a b b=0/\Bq b a b=0:=by unfold Bq;exact ⟨by grind,by grind,by grind⟩
theorem SS {m:MQ} {t:Nat} (h:t<(Aw m).length):0<Bq (Ai m t 0) (Ai m t 1) (Ai m t 2):=by
  have h1:=HH m ((Aw m).getD t ((0,0),(0,0),(0,0))) (by rw [List.getD,xP h];exact List.getElem_mem h)
  unfold Ai JI
  generalize (Aw m).getD t ((0,0),(0,0),(0,0))=c at *
  generalize t*(m.fst/3)=q at *
  have h0:=h1.1
  have e:(m.fst+q)%3=0\/(m.fst+q)%3=1\/(m.fst+q)%3=2:=by omega
  rcases e with e|e|e
  · rw [show (0+m.fst+q)%3=0 by omega,show (1+m.fst+q)%3=1 by omega,show (2+m.fst+q)%3=2 by omega]
    exact h0
  · rw [show (0+m.fst+q)%3=1 by omega,show (1+m.fst+q)%3=2 by omega,show (2+m.fst+q)%3=0 by omega]
    show 0<Bq c.2.1 c.2.2 c.1
    rw [E7];exact h0
  · rw [show (0+m.fst+q)%3=2 by omega,show (1+m.fst+q)%3=0 by omega,show (2+m.fst+q)%3=1 by omega]
    show 0<Bq c.2.2 c.1 c.2.1
    rw [E7 c.2.1,E7];exact h0
theorem Nd (m:MQ) (t:Nat) (x y:Rat):(0<KL (Ai m t 1) (Ai m t 2) x y->0<KL (Ai m t 2) (Ai m t 0) x y->0<KL (Ai m t 0) (Ai m t 1) x y->XD ((Aw m).getD t ((0,0),(0,0),(0,0))) x y) /\
    (0<=KL (Ai m t 1) (Ai m t 2) x y->0<=KL (Ai m t 2) (Ai m t 0) x y->0<=KL (Ai m t 0) (Ai m t 1) x y->inC ((Aw m).getD t ((0,0),(0,0),(0,0))) x y):=by
  unfold Ai JI
  generalize (Aw m).getD t ((0,0),(0,0),(0,0))=c at *
  generalize t*(m.fst/3)=q at *
  have e:(m.fst+q)%3=0\/(m.fst+q)%3=1\/(m.fst+q)%3=2:=by omega
  rcases e with e|e|e
  · rw [show (0+m.fst+q)%3=0 by omega,show (1+m.fst+q)%3=1 by omega,show (2+m.fst+q)%3=2 by omega]
    exact ⟨λa b c=>⟨a,b,c⟩,λa b c=>⟨a,b,c⟩⟩
  · rw [show (0+m.fst+q)%3=1 by omega,show (1+m.fst+q)%3=2 by omega,show (2+m.fst+q)%3=0 by omega]
    exact ⟨λa b c=>⟨c,a,b⟩,λa b c=>⟨c,a,b⟩⟩
  · rw [show (0+m.fst+q)%3=2 by omega,show (1+m.fst+q)%3=0 by omega,show (2+m.fst+q)%3=1 by omega]
    exact ⟨λa b c=>⟨b,c,a⟩,λa b c=>⟨b,c,a⟩⟩
theorem Qm {c z:Rat} (hc:0<c) (h:0<c*z):0<z:=by
  rcases HW 0 z with h1|h1
  · exact h1
  · have:=Rat.mul_nonneg (show 0<=c by grind) (show 0 <= -z by grind)
    grind
theorem Hj {c z:Rat} (hc:0<c) (h:0<=c*z):0<=z:=by
  rcases HW z 0 with h1|h1
  · have:=Rat.mul_pos hc (show 0 < -z by grind)
    grind
  · exact h1
theorem X_ {m:MQ} (x:WM m) {ps:List Pt} (h:ps=S6 m (Ft m x.pl) x.pl.length):FY ps x.ts:=by
  have hz:(Ft m x.pl).length=x.pl.length:=by simp [Ft]
  rw [<-hz] at h
  have hl:ps.length=x.pl.length:=by rw [h,KU (Nat.le_refl _),hz]
  have hg:∀i,i<x.pl.length->ps.getD i ⟨0,0⟩=CK (Ge (mapM m) (Bz m) (x.pl.getD i (0,0))):=λi hi=>by
    rw [h,R0 (by rw [hz];exact hi),Ka hi];rfl
  have hi:=x.inv
  have hcl:=Hr m
  refine ⟨λe=>SO m (List.eq_nil_of_length_eq_zero (by rw [<-hi.tl,e];rfl)),by rw [hi.tl];exact hcl,by rw [hl];have:=hi.pll;omega,λi=>?_,λj hj=>?_,λi j hi1 hj1 hne q ho hcl2=>?_,⟨m,x.pl,x.inv,x.dst,by rw [h,hz]⟩⟩
  · rcases Nat.lt_or_ge i x.pl.length with h1|h1
    · have hok:=ZZ (m:=m) hi.small h1
      rw [hg i h1]
      have:=UF hok
      rw [Ka h1] at this
      exact this
    · rw [List.getD,List.getElem?_eq_none (by rw [hl];exact h1)];decide +kernel
  · rw [hi.tl] at hj
    have ht:=hi.at_ j hj
    have hc:=SS hj
    have hp:=ZC (Fe m.a m.b m.c m.d) (Bz m) hc
    obtain ⟨⟨a1,a2⟩,⟨b1,b2⟩,⟨c1,c2⟩⟩:=ht
    refine ⟨by rw [hl];exact a1,by rw [hl];exact b1,by rw [hl];exact c1,λe=>?_,λe=>?_,λe=>?_,?_⟩
    · rw [e,b2] at a2;rw [<-a2,(DQ _ _).1] at hc;omega
    · rw [e,c2] at b2;rw [<-b2,(DQ _ _).2.1] at hc;omega
    · rw [e,a2] at c2;rw [<-c2,(DQ _ _).2.2] at hc;omega
    · rw [hg _ a1,hg _ b1,hg _ c1,a2,b2,c2];exact hp
  · rw [hi.tl] at hi1 hj1
    obtain ⟨x',y',c,hc,key⟩:=lattice (Fe m.a m.b m.c m.d) (Bz m) q
    obtain ⟨⟨a1,a2⟩,⟨b1,b2⟩,⟨c1,c2⟩⟩:=hi.at_ i hi1
    obtain ⟨⟨d1,d2⟩,⟨e1,e2⟩,⟨f1,f2⟩⟩:=hi.at_ j hj1
    obtain ⟨o1,o2,o3⟩:=ho
    obtain ⟨k1,k2,k3⟩:=hcl2
    rw [hg _ b1,hg _ c1,b2,c2,<-BZ,show mapM m=Gd m.a m.b m.c m.d from rfl,key] at o1
    rw [hg _ a1,hg _ c1,a2,c2,BZ,show mapM m=Gd m.a m.b m.c m.d from rfl,key] at o2
    rw [hg _ a1,hg _ b1,a2,b2,show mapM m=Gd m.a m.b m.c m.d from rfl,key] at o3
    rw [hg _ e1,hg _ f1,e2,f2,<-BZ,show mapM m=Gd m.a m.b m.c m.d from rfl,key] at k1
    rw [hg _ d1,hg _ f1,d2,f2,BZ,show mapM m=Gd m.a m.b m.c m.d from rfl,key] at k2
    rw [hg _ d1,hg _ e1,d2,e2,show mapM m=Gd m.a m.b m.c m.d from rfl,key] at k3
    exact Mq m hi1 hj1 hne _ x' y' ((Nd m i x' y').1 (Qm hc o1) (Qm hc o2) (Qm hc o3)) ((Nd m j x' y').2 (Hj hc k1) (Hj hc k2) (Hj hc k3))
def bY (m:MQ) (ps:List Pt) (ts:List (Tq3)):Prop:=∃pl:List P2,NS m (Aw m).length pl ts/\XP pl/\ps=S6 m (Ft m pl) pl.length
theorem YS {m:MQ} (x:WM m) {ps:List Pt} (h:ps=S6 m (Ft m x.pl) x.pl.length):bY m ps x.ts:=⟨x.pl,x.inv,x.dst,h⟩
structure MF (m:MQ) where
  g:MG
  lat:bY m g.ps g.ts
instance {m:MQ}:Cy (MF m):=⟨λx=>aG (dG x.g),λx=>[x.g.a.row,x.g.b.row,x.g.c.row],λx y hy=>ZS hy⟩
theorem BP.ofMF {m:MQ} {S:Nat->Prop} {W w:World} {e:Ending} (h:BP (MF m) S W e w):BP MG S W e w:=by
  obtain ⟨a,h1,h2,h3⟩:=h
  exact ⟨a.g,h1,h2,h3⟩
structure bM (m:MQ) where
  f:MF m
  ob:OwnOk f.g.b.p f.g.ts.length f.g.b.c
  da:∀x,f.g.b.p.map (·.block)=some x->f.g.a.p.map (·.block)≠some x
  dc:∀x,f.g.b.p.map (·.block)=some x->f.g.c.p.map (·.block)≠some x
def Vj {m:MQ} (y:bM m):As:=JJ y.f.g.b.p 71 3 y.f.g.ts.length y.f.g.b.c (rowsL Af y.f.g.ts)
instance {m:MQ}:Cy (bM m):=⟨λy=>aG (dG y.f.g),λy=>[y.f.g.a.row,y.f.g.b.row,y.f.g.c.row,Vj y],λx y hy=>by
  simp only [xN,List.not_mem_nil,or_false] at hy
  rcases hy with rfl|rfl|rfl|rfl<;>rfl⟩
theorem aY {m:MQ} {W w:World} {L:List As} (hw:BH ⟨W,none⟩ w L) (x:bM m) (h1:Holds w x.f.g.a.row/\∀b,x.f.g.a.row.foot=some b->W.heap.size<=b\/False) (h2:Holds w x.f.g.b.row/\∀b,x.f.g.b.row.foot=some b->W.heap.size<=b\/False) (h3:Holds w x.f.g.c.row/\∀b,x.f.g.c.row.foot=some b->W.heap.size<=b\/False) (h4:Holds w (Vj x)/\∀b,(Vj x).foot=some b->W.heap.size<=b\/False) {v:Value} (hv:v=aG (dG x.f.g)):BP (bM m) (λ_=>False) W (.returned v) w:=by
  refine ⟨x,by rw [hv];rfl,hw.out,λy hy=>?_⟩
  have hy:y∈[x.f.g.a.row,x.f.g.b.row,x.f.g.c.row,Vj x]:=hy
  simp only [xN,List.not_mem_nil,or_false] at hy
  rcases hy with rfl|rfl|rfl|rfl
  · exact h1
  · exact h2
  · exact h3
  · exact h4
theorem BP.ofMGF {m:MQ} {S:Nat->Prop} {W w:World} {e:Ending} (h:BP (bM m) (λ_=>False) W e w):BP (MF m) S W e w:=by
  obtain ⟨a,h1,h2,h3⟩:=h
  refine ⟨a.f,h1,h2,λy hy=>?_⟩
  have h4:=h3 y (by
    have hy:y∈[a.f.g.a.row,a.f.g.b.row,a.f.g.c.row]:=hy
    show y∈[a.f.g.a.row,a.f.g.b.row,a.f.g.c.row,Vj a]
    simp only [xN,List.not_mem_nil,or_false] at hy ⊢
    rcases hy with rfl|rfl|rfl<;>simp)
  exact ⟨h4.1,λb e=>(h4.2 b e).imp id λk=>k.elim⟩
section
set_option maxRecDepth 100000
theorem UA (q:QD) (h:q.ok) (w:World)  :Calls prog 83 #[(aG (aX q))] w (Ac w (aG (AF (Oa q)))):=by
 obtain ⟨h1,h2,h3⟩:=h
 refine AW (args:=[(aG (aX q))]) func83 O O (A_ O) (zM (sL [0] O) (q4 (BV (cs:=aX q) O λb1=>al DO O λb2=>q3 (sL [1,2] O) (AD (v:=(pP b1 0)) (AA O underlying92 O sizeOf2 O) O (BG 1 (vI q.n) OO O (AD (v:=(pP b1 1)) (AA O underlying92 O sizeOf89 O) O (BG 1 (vK .u32 q.d) eP O (AD (GH (c:=((max q.d 1:Nat):Int)) O O (by split<;>omega)) O (AD (Aq (c:=((max q.d 1:Nat):Int)) O underlying89 underlying2 (CP Z)) O ?_)))))))))
 refine ck' call61 (QG (q.n:Int) ((max q.d 1:Nat):Int) Z Z Z Z Z) O (AL O (AD (AJ (v:=(aG (AF (((q.n:Int):Rat)/(((max q.d 1:Nat):Int):Rat))))) O O) O (AD (AJ (v:=(vI 0)) O O) O (al DO O λb3=>Ah O sizeOf68 O (asg' O (q3 (sL [2,3] O) (Ak 0 Be O (CM O sizeOf68 O (oNl' (zB (sL [2,3] O) ?_))))))))))
 exact zA (zG (ret_one O (An (i:=1) (cs:=AF (((q.n:Int):Rat)/(((max q.d 1:Nat):Int):Rat))) O O isAgg68 sizeOf68 O) (λw hw=>⟨rfl,hw.out⟩)))
theorem Es (x0:Rat) (x1:Rat):Instr.fill ([(0,5),(5,5)].toArray[·]?) (Aa (⟨0,0⟩:Pt)).toArray [(0,.agg (AF x0).toArray),(1,.agg (AF x1).toArray)]=some (AF x0++AF x1).toArray:=by kernel_rfl
theorem Zj (p:PD) (h:p.ok) (w:World)  :Calls prog 30 #[(aG (dH p))] w (Ac w (aG (Aa (CK p)))):=by
 have h1:=h.1
 have h2:=h.2
 refine AW (args:=[(aG (dH p))]) func30 O O (A_ O) (zM (sL [0] O) (q4 (BV (cs:=dH p) O λb1=>al Em O λb2=>q6 (sL [1,2] O) (C8 [(0,true),(1,true),(3,true),(4,true),(2,false),(5,false),(6,true),(7,false)] (sl sr) (Al (v:=(pP b1 0)) O (AA O underlying94 O sizeOf92 O) (IK 0 (aX p.x) cd O (Al (v:=(pP b1 2)) O (AA O underlying94 O sizeOf92 O) (IK 0 (aX p.y) cd O (zN O ?_)))))))))
 refine ck' call83 (UA p.x (by assumption)) O (zD (sl sr) (zN O (ck' call83 (UA p.y (by assumption)) O (zD (sl sr) (Al (v:=(aG (AF (Oa p.x)++AF (Oa p.y)))) O (AQ (zs:=Aa (⟨0,0⟩:Pt)) (vs:=AF (Oa p.x)++AF (Oa p.y)) (pv:=[(0,(aG (AF (Oa p.x)))),(1,(aG (AF (Oa p.y))))]) (places:=[(0,5),(5,5)]) zeroValue78 underlying78 (λw=>by simp [sizeOf68]) O (Es (Oa p.x) (Oa p.y))) (zN O (Ah O sizeOf78 O (zD (sl sr) (zQ (zB (sL [2] O) (zA ?_)))))))))))
 exact zG (ret_one O (An (i:=0) (cs:=AF (Oa p.x)++AF (Oa p.y)) O O isAgg78 sizeOf78 O) (λw hw=>⟨rfl,hw.out⟩))
end
section
set_option maxRecDepth 100000
theorem bA:ElemT prog 29 80 3 24:=⟨underlying29,FC jV⟩
theorem cg:ElemT prog 32 78 10 112:=⟨underlying32,FC jV⟩
theorem Ly (x0:Pt):Instr.fill (λi=>some (i*10,10)) ((Array.range (1*10)).map ((Value.agg (Aa (⟨0,0⟩:Pt)).toArray).cells[·%(Value.agg (Aa (⟨0,0⟩:Pt)).toArray).cells.size]!)) [(0,.agg (Aa x0).toArray)]=some (Aa x0).toArray:=by kernel_rfl
theorem Lz (x0:Tq3):Instr.fill (λi=>some (i*3,3)) ((Array.range (1*3)).map ((Value.agg (Af jJ).toArray).cells[·%(Value.agg (Af jJ).toArray).cells.size]!)) [(0,.agg (Af x0).toArray)]=some (Af x0).toArray:=by kernel_rfl
set_option maxHeartbeats 2000000 in
theorem St (m:MQ) (w:World) {S:Nat->Prop} (hm:Ro S w m):Calls prog 8 #[(aG (E2 m))] w (BP (bM m) (λ_=>False) w):=by
 have hd:=m.hden
 have hdm:Bz m<256:=by unfold Bz;omega
 have lm:=DT (W:=w) hm
 refine Ag (args:=[(aG (E2 m))]) (L:=[AN m.p (DC m.cs)]) func8 O O (A_ O) (DU hm Az) (zM (sL [0] O) (q4 (BV (cs:=E2 m) O λb1=>al G6 O λb2=>q3 (sL [1,2] O) (Ak 1 ON O (yI (S:=λ_=>False) (α:=Zo m) (args:=[(aG (E2 m))]) call29 (λw hw=>(Qe m w (CL hw 2 O lm)).mono λe w1 h=>h.weak λb k=>k.elim) O O O λgf lgf=>al bD O λb3=>Ah O sizeOf87 O (q3 (sL [1,2,3] O) (al G6 O λb4=>?_)))))))
 refine z6 78 10 (z6 80 3 (oNl' (q2 (AD (v:=(pP b1 7)) (AA O underlying26 O sizeOf5 O) O (BG 9 (vK .u8 m.den) Wo O (AD (CE (c:=((m.den%6:Nat):Int)) O O Z (JH (a:=m.den) (b:=6))) O (AD (AS (c:=((Bz m:Nat):Int)) O O (XY (a:=1) (b:=m.den%6) Z)) O (AD (Aq (c:=((Bz m:Nat):Int)) O underlying5 underlying89 (CW Z)) O (asg' O (q6 (sL [1,2,3,4,5] O) (q4 ?_)))))))))))
 refine asg' O (oNl' (zA (zI ?_)))
 refine yR (tg λ(i:Nat) (p1:Option Addr) (c1:Nat) (ps:List Pt)=>i<=gf.x.pl.length/\OwnOk p1 ps.length c1/\ps=S6 m (Ft m gf.x.pl) i) (tg λ(i:Nat) (p1:Option Addr) (c1:Nat) (ps:List Pt)=>[(2,(pP b2 0)),(3,(pP b3 0)),(4,(pP b4 0)),(5,(vK .u32 (Bz m))),(6,(vN i))]) (tg λ(i:Nat) (p1:Option Addr) (c1:Nat) (ps:List Pt)=>[rowW none 80 3 0 0 (rowsL Af ([])),rowW p1 78 10 ps.length c1 (rowsL Aa ps),AY b4 34 ([(qz p1 ps.length c1),jj,jj]),AY b3 87 ([(qz gf.x.a.p gf.x.pl.length gf.x.a.c),(qz gf.x.b.p gf.x.ts.length gf.x.b.c),(qz gf.x.c.p gf.x.ss.length gf.x.c.c)]),AN gf.x.a.p (rowsL CT (Ft m gf.x.pl)),AN gf.x.b.p (rowsL Af gf.x.ts),AN gf.x.c.p (rowsL Af gf.x.ss),OT gf,AY b2 34 ([jj,jj,jj]),AY b1 26 (E2 m),AN m.p (DC m.cs)]) (tg λ(i:Nat) (p1:Option Addr) (c1:Nat) (ps:List Pt)=>gf.x.pl.length-i) 0 none 0 ([]:List Pt) (⟨xJ _,OwnOk.none,rfl⟩) (sF O) sr (λi p1 c1 ps hJ=>?_)
 obtain ⟨hi,h1,hps⟩:=hJ
 have hzl:(Ft m gf.x.pl).length=gf.x.pl.length:=by simp [Ft]
 have hll:=gf.x.inv.pll
 have hcl:=Hr m
 have hpl:ps.length<=108:=by rw [hps,KU (by rw [hzl];omega)];omega
 refine zX (q4 (AL O (AD (v:=(pP b3 0)) (AA O underlying87 O sizeOf85 O) O (BG 3 (qz gf.x.a.p gf.x.pl.length gf.x.a.c) TP O (AD (v:=(vN gf.x.pl.length)) (AE O underlying85) O (AD (Ab (c:=(decide (i<gf.x.pl.length))) O O (DA (a:=i) (b:=gf.x.pl.length))) O (oNl' (zB (sL [2,3,4,5,6,20] O) (zA ?_)))))))))
 refine zK O (λhc0=>?_) (λhc0=>?_)
 ·replace hc0:=xT hc0
  refine zC (q1 (zI (zX (C8 (El 17++[(17,false),(18,false)]) sr (Al (v:=(pP b3 0)) O (AA O underlying87 O sizeOf85 O) (BQ 3 (qz gf.x.a.p gf.x.pl.length gf.x.a.c) TP O (Bp O (Al (v:=(pP (pB gf.x.a.p) (pO gf.x.a.p+i*2))) O (AO (j:=i) O O gf.x.a.ok underlying85 sizeOf90 O Z) (Al (v:=(pP (pB gf.x.a.p) (pO gf.x.a.p+(i*2+0)))) O (AB (j:=0) O O underlying90 sizeOf2 O jY (Nat.add_assoc _ _ _)) (Al O (BA (v:=(vI (((Ft m gf.x.pl).getD i ((0,0):Int×Int)).1))) (i:=4) O O (A8.ne gf.x.a.ok Z) OO (D_ F4 ((0,0):Int×Int) _ _ 0 Z jY O)) (Bp O ?_)))))))))))
  refine Al (v:=(aG ([(vI (((Ft m gf.x.pl).getD i ((0,0):Int×Int)).1)),(vK .u32 (Bz m))]))) O (AQ (zs:=[(vI 0),(Value.int .u32 (0:Int))]) (vs:=[(vI (((Ft m gf.x.pl).getD i ((0,0):Int×Int)).1)),(vK .u32 (Bz m))]) (pv:=[(0,(vI (((Ft m gf.x.pl).getD i ((0,0):Int×Int)).1))),(1,(vK .u32 (Bz m)))]) (places:=[(0,1),(1,1)]) zeroValue92 underlying92 (λw=>by simp [sizeOf2,sizeOf89]) O O) (Al (v:=(pP b3 0)) O (AA O underlying87 O sizeOf85 O) (BQ 3 (qz gf.x.a.p gf.x.pl.length gf.x.a.c) TP O (Bp O (Al (v:=(pP (pB gf.x.a.p) (pO gf.x.a.p+i*2))) O (AO (j:=i) O O gf.x.a.ok underlying85 sizeOf90 O Z) (Al (v:=(pP (pB gf.x.a.p) (pO gf.x.a.p+(i*2+1)))) O (AB (j:=1) O O underlying90 sizeOf2 O jY (Nat.add_assoc _ _ _)) (Al O (BA (v:=(vI (((Ft m gf.x.pl).getD i ((0,0):Int×Int)).2))) (i:=4) O O (A8.ne gf.x.a.ok Z) OO (D_ F4 ((0,0):Int×Int) _ _ 1 Z jY O)) (Bp O (Al (v:=(aG ([(vI (((Ft m gf.x.pl).getD i ((0,0):Int×Int)).2)),(vK .u32 (Bz m))]))) O (AQ (zs:=[(vI 0),(Value.int .u32 (0:Int))]) (vs:=[(vI (((Ft m gf.x.pl).getD i ((0,0):Int×Int)).2)),(vK .u32 (Bz m))]) (pv:=[(0,(vI (((Ft m gf.x.pl).getD i ((0,0):Int×Int)).2))),(1,(vK .u32 (Bz m)))]) (places:=[(0,1),(1,1)]) zeroValue92 underlying92 (λw=>by simp [sizeOf2,sizeOf89]) O O) (Al (v:=(aG ([(vI (((Ft m gf.x.pl).getD i ((0,0):Int×Int)).1)),(vK .u32 (Bz m)),(vI (((Ft m gf.x.pl).getD i ((0,0):Int×Int)).2)),(vK .u32 (Bz m))]))) O (AQ (zs:=[(vI 0),(Value.int .u32 (0:Int)),(vI 0),(Value.int .u32 (0:Int))]) (vs:=[(vI (((Ft m gf.x.pl).getD i ((0,0):Int×Int)).1)),(vK .u32 (Bz m)),(vI (((Ft m gf.x.pl).getD i ((0,0):Int×Int)).2)),(vK .u32 (Bz m))]) (pv:=[(0,(aG ([(vI (((Ft m gf.x.pl).getD i ((0,0):Int×Int)).1)),(vK .u32 (Bz m))]))),(1,(aG ([(vI (((Ft m gf.x.pl).getD i ((0,0):Int×Int)).2)),(vK .u32 (Bz m))])))]) (places:=[(0,2),(2,2)]) zeroValue94 underlying94 (λw=>by simp [sizeOf92]) O O) (zN O (al eS O λb5=>?_)))))))))))
  refine zD (sl sr) (zN O (Ah O sizeOf94 O (zD (sl sr) (zQ (zB (sL [2,3,4,5,6,7] O) (zA (rC [(0,true),(1,true),(2,true),(3,false),(4,false),(5,false),(6,true)] 7 [] (sk (sk (sl sr))) (sk (sk (sl sr))) jV (λ_ _ d _ _ h=>by cases d<;>exact h) (vE (v:=(pP b4 0)) O (AA O underlying34 O sizeOf32 O) O (vE O (AH (i:=2) (v:=(qz p1 ps.length c1)) O O C2.a O) O (vE (v:=(aG ([(vI (((Ft m gf.x.pl).getD i ((0,0):Int×Int)).1)),(vK .u32 (Bz m)),(vI (((Ft m gf.x.pl).getD i ((0,0):Int×Int)).2)),(vK .u32 (Bz m))]))) O (Ad (i:=0) (vs:=[(vI (((Ft m gf.x.pl).getD i ((0,0):Int×Int)).1)),(vK .u32 (Bz m)),(vI (((Ft m gf.x.pl).getD i ((0,0):Int×Int)).2)),(vK .u32 (Bz m))]) O O cf.a cf.s O O) O (zu O ?_)))))))))))
  refine ck' call30 (Zj (Th m ((Ft m gf.x.pl).getD i (0,0))) (ZZ gf.x.inv.small Z)) O (zp (sk (sk (sl sr))) (zu O (ze (V:=λb6=>(qz (jk b6) 1 1)) (T:=78) (cs:=Aa (CK (Th m ((Ft m gf.x.pl).getD i (0,0))))) (AI O) (Ax (z:=.agg (Aa (⟨0,0⟩:Pt)).toArray) (cs:=Aa (CK (Th m ((Ft m gf.x.pl).getD i (0,0))))) (pv:=[(0,(aG (Aa (CK (Th m ((Ft m gf.x.pl).getD i (0,0)))))))]) underlying32 sizeOf78 zeroValue78 jY jY O (Ly (CK (Th m ((Ft m gf.x.pl).getD i (0,0)))))) O (A_ O) λb6=>zp (sl (sk (sk (sl sr)))) (zu O (zw 3 (j:=0) (cs2:=rowsL Aa (ps++[CK (Th m ((Ft m gf.x.pl).getD i (0,0)))])) cg O h1 (AZ Ap _) O O O O O jY (Ma Z) Z (by rw [Bb];rfl) O λp_1 c_1 ho_1 hne_1=>zp (sl (sk (sk (sl sr)))) (vE (v:=(pP b4 0)) O (AA O underlying34 O sizeOf32 O) O (yL O (Fj 4 (off:=0) (vs:=[(qz p_1 (ps.length+1) c_1)]) (cs':=[(qz p_1 (ps.length+1) c_1),jj,jj]) (AI O) O sizeOf32 O (zD (sl (sk (sk (sl (sl sr))))) ?_)))))))))
  refine zQ (zB (sL [2,3,4,5,6,7] O) (zF (zA (zH (AL O (AD (AS (c:=((i+1:Nat):Int)) O O (AV (a:=i) (b:=1) Z)) O (asg' O (oNl' (zB (sL [2,3,4,5,6,7] O) ?_)))))))))
  rw [show ps.length+1=(ps++[CK (Th m ((Ft m gf.x.pl).getD i (0,0)))]).length by simp]
  exact z8 (i+1) p_1 c_1 (ps++[CK (Th m ((Ft m gf.x.pl).getD i (0,0)))]) (⟨Z,(by simpa using ho_1),by rw [hps,WD (by rw [hzl];omega)]⟩) Z (sF O) (sl (sl sr))
 ·replace hc0:=xS hc0
  have hps9:ps.length=gf.x.pl.length:=by rw [hps,show i=gf.x.pl.length by omega,KU (by rw [hzl];omega)]
  have hfin:ps=S6 m (Ft m gf.x.pl) gf.x.pl.length:=by rw [hps,show i=gf.x.pl.length by omega]
  refine zU (zO (yC (zP (q2 (AD (v:=(pP b3 1)) (AA O underlying87 O sizeOf28 O) O (BG 3 (qz gf.x.b.p gf.x.ts.length gf.x.b.c) C5 O (AD (v:=(pP b4 1)) (AA O underlying34 O sizeOf28 O) O (Fj 2 (off:=1) (vs:=[(qz gf.x.b.p gf.x.ts.length gf.x.b.c)]) (cs':=[(qz p1 ps.length c1),(qz gf.x.b.p gf.x.ts.length gf.x.b.c),jj]) (AI O) O sizeOf28 O (q6 (sL [2,3,4,5,6] O) (q4 (asg' O ?_)))))))))))
  refine oNl' (zA (zI ?_))
  refine yR (tg λ(j:Nat) (p2:Option Addr) (c2:Nat) (ss:List (Tq3))=>j<=gf.x.ss.length/\OwnOk p2 ss.length c2/\ss.length=j/\ss=gf.x.ss.take j) (tg λ(j:Nat) (p2:Option Addr) (c2:Nat) (ss:List (Tq3))=>[(2,(pP b2 0)),(3,(pP b3 0)),(4,(pP b4 0)),(8,(vN j))]) (tg λ(j:Nat) (p2:Option Addr) (c2:Nat) (ss:List (Tq3))=>[rowW p2 80 3 ss.length c2 (rowsL Af ss),rowW p1 78 10 ps.length c1 (rowsL Aa ps),AY b4 34 ([(qz p1 ps.length c1),(qz gf.x.b.p gf.x.ts.length gf.x.b.c),(qz p2 ss.length c2)]),AY b3 87 ([(qz gf.x.a.p gf.x.pl.length gf.x.a.c),(qz gf.x.b.p gf.x.ts.length gf.x.b.c),(qz gf.x.c.p gf.x.ss.length gf.x.c.c)]),AN gf.x.a.p (rowsL CT (Ft m gf.x.pl)),AN gf.x.b.p (rowsL Af gf.x.ts),AN gf.x.c.p (rowsL Af gf.x.ss),OT gf,AY b2 34 ([jj,jj,jj]),AY b1 26 (E2 m),AN m.p (DC m.cs)]) (tg λ(j:Nat) (p2:Option Addr) (c2:Nat) (ss:List (Tq3))=>gf.x.ss.length-j) 0 none 0 ([]:List (Tq3)) (⟨xJ _,OwnOk.none,rfl,rfl⟩) (sF O) sr (λj p2 c2 ss hJ=>?_)
  obtain ⟨hj,h2,hsl,hsd⟩:=hJ
  have hgs:=gf.x.sl
  refine zX (q4 (AL O (AD (v:=(pP b3 2)) (AA O underlying87 O sizeOf28 O) O (BG 3 (qz gf.x.c.p gf.x.ss.length gf.x.c.c) C5 O (AD (v:=(vN gf.x.ss.length)) (AE O underlying28) O (AD (Ab (c:=(decide (j<gf.x.ss.length))) O O (DA (a:=j) (b:=gf.x.ss.length))) O (oNl' (zB (sL [2,3,4,8,54] O) (zA ?_)))))))))
  refine zK O (λhc1=>?_) (λhc1=>?_)
  ·replace hc1:=xT hc1
   refine zC (q1 (zI (rC [(0,true),(1,true),(2,true),(3,true),(4,true),(5,true),(6,true),(7,true),(8,true),(9,true),(10,true),(11,true),(12,true),(13,true),(14,true),(15,true),(16,true),(17,true),(18,true),(19,true),(20,true),(21,false),(22,false),(23,true)] 24 [] (sl sr) (sk (sl sr)) jV (λ_ _ d _ _ h=>by cases d<;>exact h) (vE (v:=(pP b4 2)) O (AA O underlying34 O sizeOf29 O) O (vE O (AH (i:=1) (v:=(qz p2 ss.length c2)) O O Qz.a O) O (vE (v:=(pP b3 2)) O (AA O underlying87 O sizeOf28 O) O (vE O (AH (i:=2) (v:=(qz gf.x.c.p gf.x.ss.length gf.x.c.c)) O O C5.a O) O (vM O O O (vE (v:=(pP (pB gf.x.c.p) (pO gf.x.c.p+j*3))) O (AO (j:=j) O O gf.x.c.ok underlying28 sizeOf71 O Z) O (vE (v:=(pP (pB gf.x.c.p) (pO gf.x.c.p+(j*3+0)))) O (AB (j:=0) O O underlying71 sizeOf3 O jY (Nat.add_assoc _ _ _)) O (vE O (BA (v:=(vN ((gf.x.ss.getD j jJ).1))) (i:=5) O O (A8.ne gf.x.c.ok Z) Bk (D_ Av jJ _ _ 0 Z jY O)) O ?_)))))))))))
   refine vE (v:=(pP b3 2)) O (AA O underlying87 O sizeOf28 O) O (vE O (AH (i:=2) (v:=(qz gf.x.c.p gf.x.ss.length gf.x.c.c)) O O C5.a O) O (vM O O O (vE (v:=(pP (pB gf.x.c.p) (pO gf.x.c.p+j*3))) O (AO (j:=j) O O gf.x.c.ok underlying28 sizeOf71 O Z) O (vE (v:=(pP (pB gf.x.c.p) (pO gf.x.c.p+(j*3+1)))) O (AB (j:=1) O O underlying71 sizeOf3 O jY (Nat.add_assoc _ _ _)) O (vE O (BA (v:=(vN ((gf.x.ss.getD j jJ).2.1))) (i:=5) O O (A8.ne gf.x.c.ok Z) Bk (D_ Av jJ _ _ 1 Z jY O)) O (vE (v:=(pP b3 2)) O (AA O underlying87 O sizeOf28 O) O (vE O (AH (i:=2) (v:=(qz gf.x.c.p gf.x.ss.length gf.x.c.c)) O O C5.a O) O (vM O O O (vE (v:=(pP (pB gf.x.c.p) (pO gf.x.c.p+j*3))) O (AO (j:=j) O O gf.x.c.ok underlying28 sizeOf71 O Z) O (vE (v:=(pP (pB gf.x.c.p) (pO gf.x.c.p+(j*3+2)))) O (AB (j:=2) O O underlying71 sizeOf3 O jY (Nat.add_assoc _ _ _)) O (vE O (BA (v:=(vN ((gf.x.ss.getD j jJ).2.2))) (i:=5) O O (A8.ne gf.x.c.ok Z) Bk (D_ Av jJ _ _ 2 Z jY O)) O ?_)))))))))))
   refine vE (v:=(aG ([(vN ((gf.x.ss.getD j jJ).1)),(vN ((gf.x.ss.getD j jJ).2.1)),(vN ((gf.x.ss.getD j jJ).2.2))]))) O (AQ (zs:=Af jJ) (vs:=[(vN ((gf.x.ss.getD j jJ).1)),(vN ((gf.x.ss.getD j jJ).2.1)),(vN ((gf.x.ss.getD j jJ).2.2))]) (pv:=[(0,(vN ((gf.x.ss.getD j jJ).1))),(1,(vN ((gf.x.ss.getD j jJ).2.1))),(2,(vN ((gf.x.ss.getD j jJ).2.2)))]) (places:=[(0,1),(1,1),(2,1)]) zeroValue80 underlying80 (λw=>by simp [sizeOf3]) O O) O (zu O (ze (V:=λb5=>(qz (jk b5) 1 1)) (T:=80) (cs:=Af ((gf.x.ss.getD j jJ).1,(gf.x.ss.getD j jJ).2.1,(gf.x.ss.getD j jJ).2.2)) (AI O) (Ax (z:=.agg (Af jJ).toArray) (cs:=Af ((gf.x.ss.getD j jJ).1,(gf.x.ss.getD j jJ).2.1,(gf.x.ss.getD j jJ).2.2)) (pv:=[(0,(aG ([(vN ((gf.x.ss.getD j jJ).1)),(vN ((gf.x.ss.getD j jJ).2.1)),(vN ((gf.x.ss.getD j jJ).2.2))])))]) underlying29 sizeOf80 zeroValue80 jY jY O (Lz ((gf.x.ss.getD j jJ).1,(gf.x.ss.getD j jJ).2.1,(gf.x.ss.getD j jJ).2.2))) O (A_ O) λb5=>zp (sl (sl sr)) (zu O (AR.append1 (j:=0) (cs2:=rowsL Af (ss++[((gf.x.ss.getD j jJ).1,(gf.x.ss.getD j jJ).2.1,(gf.x.ss.getD j jJ).2.2)])) bA O h2 (AZ Av _) O O O O jY (Ma Z) Z (by rw [Bb];rfl) O λp_2 c_2 ho_2 hne_2=>zp (sl (sl sr)) (vE (v:=(pP b4 2)) O (AA O underlying34 O sizeOf29 O) O (yL O (Fj 3 (off:=2) (vs:=[(qz p_2 (ss.length+1) c_2)]) (cs':=[(qz p1 ps.length c1),(qz gf.x.b.p gf.x.ts.length gf.x.b.c),(qz p_2 (ss.length+1) c_2)]) (AI O) O sizeOf29 O (zD (sl (sl (sk (sl sr)))) (zQ ?_)))))))))
   refine zB (sL [2,3,4,8] O) (zF (zA (zH (AL O (AD (AS (c:=((j+1:Nat):Int)) O O (AV (a:=j) (b:=1) Z)) O (asg' O (oNl' (zB (sL [2,3,4,8] O) ?_))))))))
   rw [show ss.length+1=(ss++[((gf.x.ss.getD j jJ).1,(gf.x.ss.getD j jJ).2.1,(gf.x.ss.getD j jJ).2.2)]).length by simp]
   exact z8 (j+1) p_2 c_2 (ss++[((gf.x.ss.getD j jJ).1,(gf.x.ss.getD j jJ).2.1,(gf.x.ss.getD j jJ).2.2)]) (⟨Z,(by simpa using ho_2),by simp [hsl],by rw [hsd];exact (NL Z).symm⟩) Z (sF O) (sl sr)
  ·replace hc1:=xS hc1
   exact zU (zO (yC (zP (q2 (Ak 2 BY O (Fj 8 (off:=0) (vs:=[(qz p1 ps.length c1),(qz gf.x.b.p gf.x.ts.length gf.x.b.c),(qz p2 ss.length c2)]) (cs':=[(qz p1 ps.length c1),(qz gf.x.b.p gf.x.ts.length gf.x.b.c),(qz p2 ss.length c2)]) (AI O) O sizeOf34 O (oNl' (zB (sL [2,3,4,8] O) (zA (zG (ret_one O (An (i:=8) (cs:=[(qz p1 ps.length c1),(qz gf.x.b.p gf.x.ts.length gf.x.b.c),(qz p2 ss.length c2)]) O O isAgg34 sizeOf34 O) (λw hw=>(aY hw ⟨⟨MG.mk ps gf.x.ts ss (X_ gf.x hfin) (by have h9:=gf.x.sl;omega) ⟨m,by rw [hps9,hsd,show j=gf.x.ss.length by omega,List.take_length];exact gf.x.sd⟩ ⟨p1,c1,h1.row⟩ gf.x.b ⟨p2,c2,h2.row⟩,YS gf.x hfin⟩,gf.ob,hw.asunder (i:=1) (j:=5) O O jY O,hw.asunder (i:=0) (j:=5) O O jY O⟩ (GO (S:=λ_=>False) hw 1 O h1 (AZ Ap _)) (eG (CL hw 4 O (At.wm lgf))) (GO (S:=λ_=>False) hw 0 O h2 (AZ Av _)) (ZA hw 7 O (At.wmf lgf)) O)))))))))))))
theorem Ss (m:MQ) (w:World) {S:Nat->Prop} (hm:Ro S w m):Calls prog 8 #[(aG (E2 m))] w (BP (MF m) S w):=(St m w hm).mono λe w1 h=>h.ofMGF
theorem Ve (m:MQ) (w:World) {S:Nat->Prop} (hm:Ro S w m):Calls prog 8 #[(aG (E2 m))] w (BP MG S w):=(Ss m w hm).mono λe w1 h=>h.ofMF
end
end Go.Proofs.YtbfdamnfcmefmaaGreatDoor
