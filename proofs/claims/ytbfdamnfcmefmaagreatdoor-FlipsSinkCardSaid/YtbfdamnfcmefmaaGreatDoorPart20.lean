import Derived.Test.YtbfdamnfcmefmaaGreatDoorPart19
namespace Go.Proofs.YtbfdamnfcmefmaaGreatDoor
open Go Go.RowKit Go.Proofs.Tryz
open Go.Value renaming slice→qz,bool→qa
set_option linter.unusedVariables false
set_option linter.unusedSimpArgs false
theorem HY (a b:Rat):a<b\/b<=a:=by grind
def KS (A B:P2) (x y:Rat):Rat:=((B.1:Rat)-(A.1:Rat))*(y-(A.2:Rat))-((B.2:Rat)-(A.2:Rat))*(x-(A.1:Rat))
def W_ (t:P2×P2×P2) (x y:Rat):Prop:=0<KS t.2.1 t.2.2 x y/\0<KS t.2.2 t.1 x y/\0<KS t.1 t.2.1 x y
def inC (t:P2×P2×P2) (x y:Rat):Prop:=0<=KS t.2.1 t.2.2 x y/\0<=KS t.2.2 t.1 x y/\0<=KS t.1 t.2.1 x y
def dG (s t:P2×P2×P2):Prop:=∀x y,(W_ s x y->¬inC t x y)/\(W_ t x y->¬inC s x y)
theorem Gq (u:Nat):((2*u:Nat):Rat)=2*(u:Rat):=by rw [Rat.natCast_mul];rfl
theorem KC (u:Nat):((2*u+2:Nat):Rat)=2*(u:Rat)+2:=by rw [Rat.natCast_add,Gq];rfl
theorem RI (u:Nat):((2*u+1:Nat):Rat)=2*(u:Rat)+1:=by rw [Rat.natCast_add,Gq];rfl
theorem Rh {t:P2×P2×P2} {nx way i u v:Nat} (hu:u=i%nx) (hv:v=i/nx) (ht:t∈Cu nx way i) (x y:Rat) :
    (W_ t x y->(2*(u:Rat)<x/\x<2*(u:Rat)+2)/\2*(v:Rat)<y/\y<2*(v:Rat)+2)/\(inC t x y->(2*(u:Rat)<=x/\x<=2*(u:Rat)+2)/\2*(v:Rat)<=y/\y<=2*(v:Rat)+2):=by
  have key:t∈[((2*u,2*v),(2*u+2,2*v),(2*u+2,2*v+2)),((2*u,2*v),(2*u+2,2*v+2),(2*u,2*v+2)),((2*u,2*v),(2*u+2,2*v),(2*u,2*v+2)),((2*u+2,2*v),(2*u+2,2*v+2),(2*u,2*v+2)),
      ((2*u,2*v),(2*u+2,2*v),(2*u+1,2*v+1)),((2*u+2,2*v),(2*u+2,2*v+2),(2*u+1,2*v+1)),((2*u+2,2*v+2),(2*u,2*v+2),(2*u+1,2*v+1)),((2*u,2*v+2),(2*u,2*v),(2*u+1,2*v+1))]:=by
    subst hu;subst hv
    unfold Cu at ht
    simp only at ht
    split at ht
    · simp only [xO,List.not_mem_nil,or_false] at ht ⊢;rcases ht with h|h<;>simp [h]
    · split at ht
      · simp only [xO,List.not_mem_nil,or_false] at ht ⊢;rcases ht with h|h<;>simp [h]
      · split at ht
        · simp only [xO,List.not_mem_nil,or_false] at ht ⊢;rcases ht with h|h|h|h<;>simp [h]
        · cases ht
  clear hu hv ht
  simp only [xO,List.not_mem_nil,or_false] at key
  rcases key with rfl|rfl|rfl|rfl|rfl|rfl|rfl|rfl<;>(simp only [W_,inC,KS,Gq,KC,RI];generalize (u:Rat)=U;generalize (v:Rat)=V;refine ⟨λh=>?_,λh=>?_⟩<;>obtain ⟨h1,h2,h3⟩:=h<;>refine ⟨⟨?_,?_⟩,?_,?_⟩<;>grind)
theorem TG {s t:P2×P2×P2} {nx way way' i j:Nat} (hij:i≠j) (hs:s∈Cu nx way i) (ht:t∈Cu nx way' j):dG s t:=λx y=>by
  have a:=Rh rfl rfl hs x y
  have b:=Rh rfl rfl ht x y
  have hne:i%nx≠j%nx\/i/nx≠j/nx:=by
    rcases Decidable.em (i%nx=j%nx) with e|e
    · rcases Decidable.em (i/nx=j/nx) with e2|e2
      · exact absurd (by rw [<-Nat.div_add_mod i nx,<-Nat.div_add_mod j nx,e,e2]) hij
      · exact .inr e2
    · exact .inl e
  have lt:∀{p q:Nat},p<q->(p:Rat)+1<=(q:Rat):=λ{p q} h=>by
    have h1:((p+1:Nat):Rat)<=(q:Rat):=by exact_mod_cast h
    rw [Rat.natCast_add] at h1
    exact h1
  have four:(i%nx:Nat)+1<=j%nx\/(j%nx:Nat)+1<=i%nx\/(i/nx:Nat)+1<=j/nx\/(j/nx:Nat)+1<=i/nx:=by omega
  revert a b
  rcases four with h|h|h|h<;>have h:=lt h<;>generalize ((i%nx:Nat):Rat)=A at*<;> generalize ((j%nx:Nat):Rat)=B at*<;> generalize ((i/nx:Nat):Rat)=C at*<;> generalize ((j/nx:Nat):Rat)=D at*<;> intro a b<;>refine ⟨λh1 h2=>?_,λh1 h2=>?_⟩ <;>
    first
      | (have a1:=a.1 h1;have b1:=b.2 h2;obtain ⟨⟨_,_⟩,_,_⟩:=a1;obtain ⟨⟨_,_⟩,_,_⟩:=b1;grind)
      | (have a1:=a.2 h2;have b1:=b.1 h1;obtain ⟨⟨_,_⟩,_,_⟩:=a1;obtain ⟨⟨_,_⟩,_,_⟩:=b1;grind)
theorem WP (nx way i:Nat):(Cu nx way i).Pairwise dG:=by
  unfold Cu
  simp only
  generalize i%nx=u
  generalize i/nx=v
  split
  · refine List.pairwise_pair.2 λx y=>?_
    simp only [W_,inC,KS,Gq,KC];generalize (u:Rat)=U;generalize (v:Rat)=V
    refine ⟨λh k=>?_,λh k=>?_⟩<;>obtain ⟨h1,h2,h3⟩:=h<;>obtain ⟨k1,k2,k3⟩:=k<;>grind
  · split
    · refine List.pairwise_pair.2 λx y=>?_
      simp only [W_,inC,KS,Gq,KC];generalize (u:Rat)=U;generalize (v:Rat)=V
      refine ⟨λh k=>?_,λh k=>?_⟩<;>obtain ⟨h1,h2,h3⟩:=h<;>obtain ⟨k1,k2,k3⟩:=k<;>grind
    · split
      · simp only [List.pairwise_cons,xO,List.not_mem_nil,or_false,forall_eq_or_imp,forall_eq,List.Pairwise.nil,and_true,false_implies,implies_true]
        refine ⟨⟨?_,?_,?_⟩,⟨?_,?_⟩,?_⟩<;>intro x y<;>simp only [W_,inC,KS,Gq,KC,RI]<;>generalize (u:Rat)=U<;>generalize (v:Rat)=V<;>refine ⟨λh k=>?_,λh k=>?_⟩<;>obtain ⟨h1,h2,h3⟩:=h<;>obtain ⟨k1,k2,k3⟩:=k<;>grind
      · exact List.Pairwise.nil
theorem EP (m:MQ):∀i t,t∈EI m i->∃j,j<i/\t∈Cu (GD m) (Gm m j) j
  | 0,t,h=>by cases h
  | i+1,t,h=>by
    rcases List.mem_append.1 h with h|h
    · obtain ⟨j,hj,h⟩:=EP m i t h;exact ⟨j,Z,h⟩
    · exact ⟨i,Z,h⟩
theorem Kr (m:MQ):∀i,(EI m i).Pairwise dG
  | 0=>List.Pairwise.nil
  | i+1=>List.pairwise_append.2 ⟨Kr m i,WP _ _ _,λs hs t ht=>by
      obtain ⟨j,hj,h⟩:=EP m i s hs
      exact TG Z h ht⟩
theorem Mq (m:MQ) {i j:Nat} (hi:i<(A6 m).length) (hj:j<(A6 m).length) (hne:i≠j) (d:P2×P2×P2):∀x y,W_ ((A6 m).getD i d) x y->¬inC ((A6 m).getD j d) x y:=λx y h=>by
  have hp:=List.pairwise_iff_getElem.1 (Kr m (GD m*S6 m))
  rw [List.getD,xQ hi] at h
  rw [List.getD,xQ hj]
  rcases Nat.lt_or_gt_of_ne hne with hlt|hgt
  · exact (hp i j hi hj hlt x y).1 h
  · exact (hp j i hj hi hgt x y).2 h
theorem lattice {k:DG} (h:k.Ok) (den:Nat) (q:Pt):∃x y c:Rat,0<c/\∀A B:P2,AF (CR (Gk k den A)) (CR (Gk k den B)) q=c*KS A B x y:=by
  have hD:0<(((max den 1:Nat):Int):Rat):=by exact_mod_cast (show (0:Int)<((max den 1:Nat):Int) by omega)
  have hd:(0:Rat)<(k.det:Rat):=by exact_mod_cast h.pos
  have ed:(k.det:Rat)=(k.a:Rat)*(k.d:Rat)-(k.b:Rat)*(k.c:Rat):=by simp only [DG.det,Rat.intCast_sub,Rat.intCast_mul]
  have hi:=Rat.inv_pos.2 hD
  have he:((((max den 1:Nat):Int):Rat)⁻¹)*(((max den 1:Nat):Int):Rat)=1:=Rat.inv_mul_cancel _ (by grind)
  have hdi:((k.det:Rat)⁻¹)*(k.det:Rat)=1:=Rat.inv_mul_cancel _ (by grind)
  obtain ⟨qx,qy⟩:=q
  refine ⟨((k.d:Rat)*qx-(k.b:Rat)*qy)*(((max den 1:Nat):Int):Rat)*(k.det:Rat)⁻¹,((k.a:Rat)*qy-(k.c:Rat)*qx)*(((max den 1:Nat):Int):Rat)*(k.det:Rat)⁻¹,(k.det:Rat)*((((max den 1:Nat):Int):Rat)⁻¹*(((max den 1:Nat):Int):Rat)⁻¹),Rat.mul_pos hd (Rat.mul_pos hi hi),λA B=>?_⟩
  simp only [BO,CR,Gk,Of,DG.at_,KS,Rat.div_def,Rat.intCast_add,Rat.intCast_mul]
  rw [ed] at hdi ⊢
  clear hD hd hi ed
  generalize (((max den 1:Nat):Int):Rat)⁻¹=e at *
  generalize (((max den 1:Nat):Int):Rat)=D at *
  simp only [Rat.intCast_natCast]
  generalize ((k.a:Rat)*(k.d:Rat)-(k.b:Rat)*(k.c:Rat))⁻¹=f at *
  generalize (k.a:Rat)=a at *
  generalize (k.b:Rat)=b at *
  generalize (k.c:Rat)=c at *
  generalize (k.d:Rat)=d at *
  generalize (A.1:Rat)=A1
  generalize (A.2:Rat)=A2
  generalize (B.1:Rat)=B1
  generalize (B.2:Rat)=B2
  clear h
  have hx:qx=(a*((d*qx-b*qy)*D*f)+b*((a*qy-c*qx)*D*f))*e:=by grind
  have hy:qy=(c*((d*qx-b*qy)*D*f)+d*((a*qy-c*qx)*D*f))*e:=by grind
  generalize (d*qx-b*qy)*D*f=X at *
  generalize (a*qy-c*qx)*D*f=Y at *
  subst hx
  subst hy
  grind
theorem Cz {α:Type} {enc:α->List Value} {z:Nat} (h:∀x,(enc x).length=z) (d:α) (xs:List α) (j r:Nat) (hj:j<xs.length) (hr:r<z) {v:Value} (hv:(enc (xs.getD j d))[r]?=some v):(rowsL enc xs)[j*z+r]?=some v:=by
  have h1:=Ae h d xs j hj
  rw [<-h1,List.getElem?_take_of_lt hr,List.getElem?_drop] at hv
  exact hv
theorem Aq (p:Pt):(AZ p).length=10:=rfl
structure bQ (ps:List Pt) (t:Tq3):Prop where
  a:t.1<ps.length
  b:t.2.1<ps.length
  c:t.2.2<ps.length
  ab:t.1≠t.2.1
  bc:t.2.1≠t.2.2
  ca:t.2.2≠t.1
  pos:0<AF (ps.getD t.1 ⟨0,0⟩) (ps.getD t.2.1 ⟨0,0⟩) (ps.getD t.2.2 ⟨0,0⟩)
def dH (ps:List Pt) (t:Tq3) (q:Pt):Prop:=0<AF q (ps.getD t.2.1 ⟨0,0⟩) (ps.getD t.2.2 ⟨0,0⟩)/\0<AF (ps.getD t.1 ⟨0,0⟩) q (ps.getD t.2.2 ⟨0,0⟩)/\0<AF (ps.getD t.1 ⟨0,0⟩) (ps.getD t.2.1 ⟨0,0⟩) q
def Kl (ps:List Pt) (t:Tq3) (q:Pt):Prop:=0<=AF q (ps.getD t.2.1 ⟨0,0⟩) (ps.getD t.2.2 ⟨0,0⟩)/\0<=AF (ps.getD t.1 ⟨0,0⟩) q (ps.getD t.2.2 ⟨0,0⟩)/\0<=AF (ps.getD t.1 ⟨0,0⟩) (ps.getD t.2.1 ⟨0,0⟩) q
def B5 (m:MQ):Nat:=1+m.den%6
def Th (m:MQ) (z:Int×Int):PD:=⟨⟨z.1,B5 m⟩,⟨z.2,B5 m⟩⟩
def S8 (m:MQ) (zs:List (Int×Int)) (i:Nat):List Pt:=(zs.take i).map λz=>CR (Th m z)
theorem Ka {m:MQ} {zs:List (Int×Int)} {i:Nat} (h:i<=zs.length):(S8 m zs i).length=i:=by simp [S8];omega
theorem V_ {m:MQ} {zs:List (Int×Int)} {i:Nat} (h:i<zs.length):S8 m zs (i+1)=S8 m zs i++[CR (Th m (zs.getD i (0,0)))]:=by
  unfold S8
  rw [List.take_add_one,xQ h,List.map_append,List.getD,xQ h]
  rfl
theorem Ry {m:MQ} {zs:List (Int×Int)} {i:Nat} (h:i<zs.length):(S8 m zs zs.length).getD i ⟨0,0⟩=CR (Th m (zs.getD i (0,0))):=by
  unfold S8
  rw [List.take_length,List.getD,List.getElem?_map,xQ h,List.getD,xQ h]
  rfl
def Fq (m:MQ) (pl:List P2):List (Int×Int):=pl.map λp=>(mapM m).at_ p
structure FV (ps:List Pt) (ts:List (Tq3)):Prop where
  ne:ts≠[]
  tl:ts.length<=36
  pl:ps.length<=108
  sz:∀i,Bn (ps.getD i ⟨0,0⟩)<=4
  tri:∀j,j<ts.length->bQ ps (ts.getD j (0,0,0))
  apart:∀i j,i<ts.length->j<ts.length->i≠j->∀q,dH ps (ts.getD i (0,0,0)) q->¬Kl ps (ts.getD j (0,0,0)) q
  lat:∃(m:MQ) (pl:List P2),NW m (A6 m).length pl ts/\XK pl/\ps=S8 m (Fq m pl) pl.length
structure MG where
  ps:List Pt
  ts:List (Tq3)
  ss:List (Tq3)
  good:FV ps ts
  sl:ss.length<=108*108
  sd:∃m:MQ,ss=FN m ts ps.length ps.length
  a:RX (rowsL AZ ps) ps.length
  b:RX (rowsL Ad ts) ts.length
  c:RX (rowsL Ad ss) ss.length
def cw (x:MG):List Value:=[x.a.val,x.b.val,x.c.val]
theorem ZK {x:MG} {y:As} (hy:y∈[x.a.row,x.b.row,x.c.row]):y.ro=true:=by
  simp only [xO,List.not_mem_nil,or_false] at hy
  rcases hy with rfl|rfl|rfl<;>rfl
instance:C6 MG:=⟨λx=>aG (cw x),λx=>[x.a.row,x.b.row,x.c.row],λx y hy=>ZK hy⟩
theorem dy {S:Nat->Prop} {W w:World} {L:List As} {m:MQ} {x:WM m} (h:Ro (SL ⟨W,none⟩ S L) w x):Holds w x.b.row/\∀b,x.b.row.foot=some b->W.heap.size<=b\/S b:=by
  have h1:=h x.b.row (List.mem_cons_of_mem _ List.mem_cons_self)
  exact ⟨h1.1,λb e=>(h1.2 b e).2⟩
theorem Kg {m:MQ} {pl:List P2} {i:Nat} (h:i<pl.length):(Fq m pl).getD i (0,0)=(mapM m).at_ (pl.getD i (0,0)):=by
  simp [Fq,List.getD,h]
theorem ZS {m:MQ} {pl:List P2} (hs:∀p∈pl,p.1<=6/\p.2<=6) {i:Nat} (h:i<pl.length):(Th m ((Fq m pl).getD i (0,0))).ok:=by
  rw [Kg h]
  have hp:=hs (pl.getD i (0,0)) (by rw [List.getD,xQ h];exact List.getElem_mem h)
  obtain ⟨⟨h1,h2⟩,h3,h4⟩:=UM (Fc m.a m.b m.c m.d) hp
  have hd:B5 m<4294967296:=by unfold B5;omega
  have e:mapM m=Gj m.a m.b m.c m.d:=rfl
  rw [<-e] at h1 h2 h3 h4
  exact ⟨⟨by show -9223372036854775808<=((mapM m).at_ _).1;omega,by show ((mapM m).at_ _).1<_;omega,hd⟩,⟨by show -9223372036854775808<=((mapM m).at_ _).2;omega,by show ((mapM m).at_ _).2<_;omega,hd⟩⟩
theorem E7 (a b c:P2):Bs b c a=Bs a b c:=by unfold Bs;grind
theorem DY (a b:P2):Bs a a b=0/\Bs a b b=0/\Bs b a b=0:=by unfold Bs;exact ⟨by grind,by grind,by grind⟩
theorem SV {m:MQ} {t:Nat} (h:t<(A6 m).length):0<Bs (Al m t 0) (Al m t 1) (Al m t 2):=by
  have h1:=HK m ((A6 m).getD t ((0,0),(0,0),(0,0))) (by rw [List.getD,xQ h];exact List.getElem_mem h)
  unfold Al JR
  generalize (A6 m).getD t ((0,0),(0,0),(0,0))=c at *
  generalize t*(m.fst/3)=q at *
  have h0:=h1.1
  have e:(m.fst+q)%3=0\/(m.fst+q)%3=1\/(m.fst+q)%3=2:=by omega
  rcases e with e|e|e
  · rw [show (0+m.fst+q)%3=0 by omega,show (1+m.fst+q)%3=1 by omega,show (2+m.fst+q)%3=2 by omega]
    exact h0
  · rw [show (0+m.fst+q)%3=1 by omega,show (1+m.fst+q)%3=2 by omega,show (2+m.fst+q)%3=0 by omega]
    show 0<Bs c.2.1 c.2.2 c.1
    rw [E7];exact h0
  · rw [show (0+m.fst+q)%3=2 by omega,show (1+m.fst+q)%3=0 by omega,show (2+m.fst+q)%3=1 by omega]
    show 0<Bs c.2.2 c.1 c.2.1
    rw [E7 c.2.1,E7];exact h0
theorem Nf (m:MQ) (t:Nat) (x y:Rat):(0<KS (Al m t 1) (Al m t 2) x y->0<KS (Al m t 2) (Al m t 0) x y->0<KS (Al m t 0) (Al m t 1) x y->W_ ((A6 m).getD t ((0,0),(0,0),(0,0))) x y) /\
    (0<=KS (Al m t 1) (Al m t 2) x y->0<=KS (Al m t 2) (Al m t 0) x y->0<=KS (Al m t 0) (Al m t 1) x y->inC ((A6 m).getD t ((0,0),(0,0),(0,0))) x y):=by
  unfold Al JR
  generalize (A6 m).getD t ((0,0),(0,0),(0,0))=c at *
  generalize t*(m.fst/3)=q at *
  have e:(m.fst+q)%3=0\/(m.fst+q)%3=1\/(m.fst+q)%3=2:=by omega
  rcases e with e|e|e
  · rw [show (0+m.fst+q)%3=0 by omega,show (1+m.fst+q)%3=1 by omega,show (2+m.fst+q)%3=2 by omega]
    exact ⟨λa b c=>⟨a,b,c⟩,λa b c=>⟨a,b,c⟩⟩
  · rw [show (0+m.fst+q)%3=1 by omega,show (1+m.fst+q)%3=2 by omega,show (2+m.fst+q)%3=0 by omega]
    exact ⟨λa b c=>⟨c,a,b⟩,λa b c=>⟨c,a,b⟩⟩
  · rw [show (0+m.fst+q)%3=2 by omega,show (1+m.fst+q)%3=0 by omega,show (2+m.fst+q)%3=1 by omega]
    exact ⟨λa b c=>⟨b,c,a⟩,λa b c=>⟨b,c,a⟩⟩
theorem Qk {c z:Rat} (hc:0<c) (h:0<c*z):0<z:=by
  rcases HY 0 z with h1|h1
  · exact h1
  · have:=Rat.mul_nonneg (show 0<=c by grind) (show 0 <= -z by grind)
    grind
theorem Hq {c z:Rat} (hc:0<c) (h:0<=c*z):0<=z:=by
  rcases HY z 0 with h1|h1
  · have:=Rat.mul_pos hc (show 0 < -z by grind)
    grind
  · exact h1
theorem Xy {m:MQ} (x:WM m) {ps:List Pt} (h:ps=S8 m (Fq m x.pl) x.pl.length):FV ps x.ts:=by
  have hz:(Fq m x.pl).length=x.pl.length:=by simp [Fq]
  rw [<-hz] at h
  have hl:ps.length=x.pl.length:=by rw [h,Ka (Nat.le_refl _),hz]
  have hg:∀i,i<x.pl.length->ps.getD i ⟨0,0⟩=CR (Gk (mapM m) (B5 m) (x.pl.getD i (0,0))):=λi hi=>by
    rw [h,Ry (by rw [hz];exact hi),Kg hi];rfl
  have hi:=x.inv
  have hcl:=Hx m
  refine ⟨λe=>SR m (List.eq_nil_of_length_eq_zero (by rw [<-hi.tl,e];rfl)),by rw [hi.tl];exact hcl,by rw [hl];have:=hi.pll;omega,λi=>?_,λj hj=>?_,λi j hi1 hj1 hne q ho hcl2=>?_,⟨m,x.pl,x.inv,x.dst,by rw [h,hz]⟩⟩
  · rcases Nat.lt_or_ge i x.pl.length with h1|h1
    · have hok:=ZS (m:=m) hi.small h1
      rw [hg i h1]
      have:=UC hok
      rw [Kg h1] at this
      exact this
    · rw [List.getD,List.getElem?_eq_none (by rw [hl];exact h1)];decide +kernel
  · rw [hi.tl] at hj
    have ht:=hi.at_ j hj
    have hc:=SV hj
    have hp:=Y5 (Fc m.a m.b m.c m.d) (B5 m) hc
    obtain ⟨⟨a1,a2⟩,⟨b1,b2⟩,⟨c1,c2⟩⟩:=ht
    refine ⟨by rw [hl];exact a1,by rw [hl];exact b1,by rw [hl];exact c1,λe=>?_,λe=>?_,λe=>?_,?_⟩
    · rw [e,b2] at a2;rw [<-a2,(DY _ _).1] at hc;omega
    · rw [e,c2] at b2;rw [<-b2,(DY _ _).2.1] at hc;omega
    · rw [e,a2] at c2;rw [<-c2,(DY _ _).2.2] at hc;omega
    · rw [hg _ a1,hg _ b1,hg _ c1,a2,b2,c2];exact hp
  · rw [hi.tl] at hi1 hj1
    obtain ⟨x',y',c,hc,key⟩:=lattice (Fc m.a m.b m.c m.d) (B5 m) q
    obtain ⟨⟨a1,a2⟩,⟨b1,b2⟩,⟨c1,c2⟩⟩:=hi.at_ i hi1
    obtain ⟨⟨d1,d2⟩,⟨e1,e2⟩,⟨f1,f2⟩⟩:=hi.at_ j hj1
    obtain ⟨o1,o2,o3⟩:=ho
    obtain ⟨k1,k2,k3⟩:=hcl2
    rw [hg _ b1,hg _ c1,b2,c2,<-Bq,show mapM m=Gj m.a m.b m.c m.d from rfl,key] at o1
    rw [hg _ a1,hg _ c1,a2,c2,Bq,show mapM m=Gj m.a m.b m.c m.d from rfl,key] at o2
    rw [hg _ a1,hg _ b1,a2,b2,show mapM m=Gj m.a m.b m.c m.d from rfl,key] at o3
    rw [hg _ e1,hg _ f1,e2,f2,<-Bq,show mapM m=Gj m.a m.b m.c m.d from rfl,key] at k1
    rw [hg _ d1,hg _ f1,d2,f2,Bq,show mapM m=Gj m.a m.b m.c m.d from rfl,key] at k2
    rw [hg _ d1,hg _ e1,d2,e2,show mapM m=Gj m.a m.b m.c m.d from rfl,key] at k3
    exact Mq m hi1 hj1 hne _ x' y' ((Nf m i x' y').1 (Qk hc o1) (Qk hc o2) (Qk hc o3)) ((Nf m j x' y').2 (Hq hc k1) (Hq hc k2) (Hq hc k3))
def bN (m:MQ) (ps:List Pt) (ts:List (Tq3)):Prop:=∃pl:List P2,NW m (A6 m).length pl ts/\XK pl/\ps=S8 m (Fq m pl) pl.length
theorem YG {m:MQ} (x:WM m) {ps:List Pt} (h:ps=S8 m (Fq m x.pl) x.pl.length):bN m ps x.ts:=⟨x.pl,x.inv,x.dst,h⟩
structure MF (m:MQ) where
  g:MG
  lat:bN m g.ps g.ts
instance {m:MQ}:C6 (MF m):=⟨λx=>aG (cw x.g),λx=>[x.g.a.row,x.g.b.row,x.g.c.row],λx y hy=>ZK hy⟩
theorem BS.ofMF {m:MQ} {S:Nat->Prop} {W w:World} {e:Ending} (h:BS (MF m) S W e w):BS MG S W e w:=by
  obtain ⟨a,h1,h2,h3⟩:=h
  exact ⟨a.g,h1,h2,h3⟩
structure a_ (m:MQ) where
  f:MF m
  ob:OwnOk f.g.b.p f.g.ts.length f.g.b.c
  da:∀x,f.g.b.p.map (·.block)=some x->f.g.a.p.map (·.block)≠some x
  dc:∀x,f.g.b.p.map (·.block)=some x->f.g.c.p.map (·.block)≠some x
def Vf {m:MQ} (y:a_ m):As:=JS y.f.g.b.p 71 3 y.f.g.ts.length y.f.g.b.c (rowsL Ad y.f.g.ts)
instance {m:MQ}:C6 (a_ m):=⟨λy=>aG (cw y.f.g),λy=>[y.f.g.a.row,y.f.g.b.row,y.f.g.c.row,Vf y],λx y hy=>by
  simp only [xO,List.not_mem_nil,or_false] at hy
  rcases hy with rfl|rfl|rfl|rfl<;>rfl⟩
theorem aL {m:MQ} {W w:World} {L:List As} (hw:BI ⟨W,none⟩ w L) (x:a_ m) (h1:Holds w x.f.g.a.row/\∀b,x.f.g.a.row.foot=some b->W.heap.size<=b\/False) (h2:Holds w x.f.g.b.row/\∀b,x.f.g.b.row.foot=some b->W.heap.size<=b\/False) (h3:Holds w x.f.g.c.row/\∀b,x.f.g.c.row.foot=some b->W.heap.size<=b\/False) (h4:Holds w (Vf x)/\∀b,(Vf x).foot=some b->W.heap.size<=b\/False) {v:Value} (hv:v=aG (cw x.f.g)):BS (a_ m) (λ_=>False) W (.returned v) w:=by
  refine ⟨x,by rw [hv];rfl,hw.out,λy hy=>?_⟩
  have hy:y∈[x.f.g.a.row,x.f.g.b.row,x.f.g.c.row,Vf x]:=hy
  simp only [xO,List.not_mem_nil,or_false] at hy
  rcases hy with rfl|rfl|rfl|rfl
  · exact h1
  · exact h2
  · exact h3
  · exact h4
theorem BS.ofMGF {m:MQ} {S:Nat->Prop} {W w:World} {e:Ending} (h:BS (a_ m) (λ_=>False) W e w):BS (MF m) S W e w:=by
  obtain ⟨a,h1,h2,h3⟩:=h
  refine ⟨a.f,h1,h2,λy hy=>?_⟩
  have h4:=h3 y (by
    have hy:y∈[a.f.g.a.row,a.f.g.b.row,a.f.g.c.row]:=hy
    show y∈[a.f.g.a.row,a.f.g.b.row,a.f.g.c.row,Vf a]
    simp only [xO,List.not_mem_nil,or_false] at hy ⊢
    rcases hy with rfl|rfl|rfl<;>simp)
  exact ⟨h4.1,λb e=>(h4.2 b e).imp id λk=>k.elim⟩
section
set_option maxRecDepth 100000
theorem T8 (q:QD) (h:q.ok) (w:World)  :Calls prog 83 #[(aG (aK q))] w (Ag w (aG (AG (Of q)))):=by
 obtain ⟨h1,h2,h3⟩:=h
 refine AW (args:=[(aG (aK q))]) func83 O O (BE O) (zM (sL [0] O) (q4 (BZ (cs:=aK q) O λb1=>al DV O λb2=>q3 (sL [1,2] O) (AC (v:=(pP b1 0)) (AA O underlying92 O sizeOf2 O) O (BA 1 (vI q.n) OS O (AC (v:=(pP b1 1)) (AA O underlying92 O sizeOf89 O) O (BA 1 (vK .u32 q.d) eE O (AC (GL (c:=((max q.d 1:Nat):Int)) O O (by split<;>omega)) O (AC (Ar (c:=((max q.d 1:Nat):Int)) O underlying89 underlying2 (CC Z)) O ?_)))))))))
 refine ck' call61 (QH (q.n:Int) ((max q.d 1:Nat):Int) Z Z Z Z Z) O (AM O (AC (AJ (v:=(aG (AG (((q.n:Int):Rat)/(((max q.d 1:Nat):Int):Rat))))) O O) O (AC (AJ (v:=(vI 0)) O O) O (al DV O λb3=>Ah O sizeOf68 O (asg' O (q3 (sL [2,3] O) (Ai 0 Bf O (CS O sizeOf68 O (oNl' (zB (sL [2,3] O) ?_))))))))))
 exact zA (zH (ret_one O (Ap (i:=1) (cs:=AG (((q.n:Int):Rat)/(((max q.d 1:Nat):Int):Rat))) O O isAgg68 sizeOf68 O) (λw hw=>⟨rfl,hw.out⟩)))
theorem Eu (x0:Rat) (x1:Rat):Instr.fill ([(0,5),(5,5)].toArray[·]?) (AZ (⟨0,0⟩:Pt)).toArray [(0,.agg (AG x0).toArray),(1,.agg (AG x1).toArray)]=some (AG x0++AG x1).toArray:=by kernel_rfl
theorem Zc (p:PD) (h:p.ok) (w:World)  :Calls prog 30 #[(aG (cx p))] w (Ag w (aG (AZ (CR p)))):=by
 have h1:=h.1
 have h2:=h.2
 refine AW (args:=[(aG (cx p))]) func30 O O (BE O) (zM (sL [0] O) (q4 (BZ (cs:=cx p) O λb1=>al Ep O λb2=>q6 (sL [1,2] O) (C_ [(0,true),(1,true),(3,true),(4,true),(2,false),(5,false),(6,true),(7,false)] (sl sr) (Aj (v:=(pP b1 0)) O (AA O underlying94 O sizeOf92 O) (IS 0 (aK p.x) cO O (Aj (v:=(pP b1 2)) O (AA O underlying94 O sizeOf92 O) (IS 0 (aK p.y) cO O (zN O ?_)))))))))
 refine ck' call83 (T8 p.x (by assumption)) O (zG (sl sr) (zN O (ck' call83 (T8 p.y (by assumption)) O (zG (sl sr) (Aj (v:=(aG (AG (Of p.x)++AG (Of p.y)))) O (AT (zs:=AZ (⟨0,0⟩:Pt)) (vs:=AG (Of p.x)++AG (Of p.y)) (pv:=[(0,(aG (AG (Of p.x)))),(1,(aG (AG (Of p.y))))]) (places:=[(0,5),(5,5)]) zeroValue78 underlying78 (λw=>by simp [sizeOf68]) O (Eu (Of p.x) (Of p.y))) (zN O (Ah O sizeOf78 O (zG (sl sr) (zQ (zB (sL [2] O) (zA ?_)))))))))))
 exact zH (ret_one O (Ap (i:=0) (cs:=AG (Of p.x)++AG (Of p.y)) O O isAgg78 sizeOf78 O) (λw hw=>⟨rfl,hw.out⟩))
end
section
set_option maxRecDepth 100000
theorem an:ElemT prog 29 80 3 24:=⟨underlying29,FC jV⟩
theorem cQ:ElemT prog 32 78 10 112:=⟨underlying32,FC jV⟩
theorem L3 (x0:Pt):Instr.fill (λi=>some (i*10,10)) ((Array.range (1*10)).map ((Value.agg (AZ (⟨0,0⟩:Pt)).toArray).cells[·%(Value.agg (AZ (⟨0,0⟩:Pt)).toArray).cells.size]!)) [(0,.agg (AZ x0).toArray)]=some (AZ x0).toArray:=by kernel_rfl
theorem L4 (x0:Tq3):Instr.fill (λi=>some (i*3,3)) ((Array.range (1*3)).map ((Value.agg (Ad jJ).toArray).cells[·%(Value.agg (Ad jJ).toArray).cells.size]!)) [(0,.agg (Ad x0).toArray)]=some (Ad x0).toArray:=by kernel_rfl
set_option maxHeartbeats 2000000 in
theorem Su (m:MQ) (w:World) {S:Nat->Prop} (hm:Ro S w m):Calls prog 8 #[(aG (Ef m))] w (BS (a_ m) (λ_=>False) w):=by
 have hd:=m.hden
 have hdm:B5 m<256:=by unfold B5;omega
 have lm:=Db (W:=w) hm
 refine Ak (args:=[(aG (Ef m))]) (L:=[AP m.p (Ct m.cs)]) func8 O O (BE O) (De hm A_) (zM (sL [0] O) (q4 (BZ (cs:=Ef m) O λb1=>al G_ O λb2=>q3 (sL [1,2] O) (Ai 1 OR O (yD (S:=λ_=>False) (α:=Zh m) (args:=[(aG (Ef m))]) call29 (λw hw=>(Qc m w (Cd hw 2 O lm)).mono λe w1 h=>h.weak λb k=>k.elim) O O O λgf lgf=>al aq O λb3=>Ah O sizeOf87 O (q3 (sL [1,2,3] O) (al G_ O λb4=>?_)))))))
 refine zy 78 10 (zy 80 3 (oNl' (q2 (AC (v:=(pP b1 7)) (AA O underlying26 O sizeOf5 O) O (BA 9 (vK .u8 m.den) Wl O (AC (B7 (c:=((m.den%6:Nat):Int)) O O Z (IE (a:=m.den) (b:=6))) O (AC (AR (c:=((B5 m:Nat):Int)) O O (XT (a:=1) (b:=m.den%6) Z)) O (AC (Ar (c:=((B5 m:Nat):Int)) O underlying5 underlying89 (Cg Z)) O (asg' O (q6 (sL [1,2,3,4,5] O) (q4 ?_)))))))))))
 refine asg' O (oNl' (zA (zI ?_)))
 refine yR (tg λ(i:Nat) (p1:Option Addr) (c1:Nat) (ps:List Pt)=>i<=gf.x.pl.length/\OwnOk p1 ps.length c1/\ps=S8 m (Fq m gf.x.pl) i) (tg λ(i:Nat) (p1:Option Addr) (c1:Nat) (ps:List Pt)=>[(2,(pP b2 0)),(3,(pP b3 0)),(4,(pP b4 0)),(5,(vK .u32 (B5 m))),(6,(vN i))]) (tg λ(i:Nat) (p1:Option Addr) (c1:Nat) (ps:List Pt)=>[rowW none 80 3 0 0 (rowsL Ad ([])),rowW p1 78 10 ps.length c1 (rowsL AZ ps),AX b4 34 ([(qz p1 ps.length c1),jj,jj]),AX b3 87 ([(qz gf.x.a.p gf.x.pl.length gf.x.a.c),(qz gf.x.b.p gf.x.ts.length gf.x.b.c),(qz gf.x.c.p gf.x.ss.length gf.x.c.c)]),AP gf.x.a.p (rowsL CZ (Fq m gf.x.pl)),AP gf.x.b.p (rowsL Ad gf.x.ts),AP gf.x.c.p (rowsL Ad gf.x.ss),OZ gf,AX b2 34 ([jj,jj,jj]),AX b1 26 (Ef m),AP m.p (Ct m.cs)]) (tg λ(i:Nat) (p1:Option Addr) (c1:Nat) (ps:List Pt)=>gf.x.pl.length-i) 0 none 0 ([]:List Pt) (⟨xK _,OwnOk.none,rfl⟩) (sF O) sr (λi p1 c1 ps hJ=>?_)
 obtain ⟨hi,h1,hps⟩:=hJ
 have hzl:(Fq m gf.x.pl).length=gf.x.pl.length:=by simp [Fq]
 have hll:=gf.x.inv.pll
 have hcl:=Hx m
 have hpl:ps.length<=108:=by rw [hps,Ka (by rw [hzl];omega)];omega
 refine zY (q4 (AM O (AC (v:=(pP b3 0)) (AA O underlying87 O sizeOf85 O) O (BA 3 (qz gf.x.a.p gf.x.pl.length gf.x.a.c) TT O (AC (v:=(vN gf.x.pl.length)) (AE O underlying85) O (AC (Aa (c:=(decide (i<gf.x.pl.length))) O O (DF (a:=i) (b:=gf.x.pl.length))) O (oNl' (zB (sL [2,3,4,5,6,20] O) (zA ?_)))))))))
 refine zL O (λhc0=>?_) (λhc0=>?_)
 ·replace hc0:=xU hc0
  refine zC (q1 (zI (zY (C_ (Ek 17++[(17,false),(18,false)]) sr (Aj (v:=(pP b3 0)) O (AA O underlying87 O sizeOf85 O) (BK 3 (qz gf.x.a.p gf.x.pl.length gf.x.a.c) TT O (Bx O (Aj (v:=(pP (pB gf.x.a.p) (pO gf.x.a.p+i*2))) O (AO (j:=i) O O gf.x.a.ok underlying85 sizeOf90 O Z) (Aj (v:=(pP (pB gf.x.a.p) (pO gf.x.a.p+(i*2+0)))) O (AB (j:=0) O O underlying90 sizeOf2 O jY (Nat.add_assoc _ _ _)) (Aj O (Au (v:=(vI (((Fq m gf.x.pl).getD i ((0,0):Int×Int)).1))) (i:=4) O O (Aw.ne gf.x.a.ok Z) OS (Cz F5 ((0,0):Int×Int) _ _ 0 Z jY O)) (Bx O ?_)))))))))))
  refine Aj (v:=(aG ([(vI (((Fq m gf.x.pl).getD i ((0,0):Int×Int)).1)),(vK .u32 (B5 m))]))) O (AT (zs:=[(vI 0),(Value.int .u32 (0:Int))]) (vs:=[(vI (((Fq m gf.x.pl).getD i ((0,0):Int×Int)).1)),(vK .u32 (B5 m))]) (pv:=[(0,(vI (((Fq m gf.x.pl).getD i ((0,0):Int×Int)).1))),(1,(vK .u32 (B5 m)))]) (places:=[(0,1),(1,1)]) zeroValue92 underlying92 (λw=>by simp [sizeOf2,sizeOf89]) O O) (Aj (v:=(pP b3 0)) O (AA O underlying87 O sizeOf85 O) (BK 3 (qz gf.x.a.p gf.x.pl.length gf.x.a.c) TT O (Bx O (Aj (v:=(pP (pB gf.x.a.p) (pO gf.x.a.p+i*2))) O (AO (j:=i) O O gf.x.a.ok underlying85 sizeOf90 O Z) (Aj (v:=(pP (pB gf.x.a.p) (pO gf.x.a.p+(i*2+1)))) O (AB (j:=1) O O underlying90 sizeOf2 O jY (Nat.add_assoc _ _ _)) (Aj O (Au (v:=(vI (((Fq m gf.x.pl).getD i ((0,0):Int×Int)).2))) (i:=4) O O (Aw.ne gf.x.a.ok Z) OS (Cz F5 ((0,0):Int×Int) _ _ 1 Z jY O)) (Bx O (Aj (v:=(aG ([(vI (((Fq m gf.x.pl).getD i ((0,0):Int×Int)).2)),(vK .u32 (B5 m))]))) O (AT (zs:=[(vI 0),(Value.int .u32 (0:Int))]) (vs:=[(vI (((Fq m gf.x.pl).getD i ((0,0):Int×Int)).2)),(vK .u32 (B5 m))]) (pv:=[(0,(vI (((Fq m gf.x.pl).getD i ((0,0):Int×Int)).2))),(1,(vK .u32 (B5 m)))]) (places:=[(0,1),(1,1)]) zeroValue92 underlying92 (λw=>by simp [sizeOf2,sizeOf89]) O O) (Aj (v:=(aG ([(vI (((Fq m gf.x.pl).getD i ((0,0):Int×Int)).1)),(vK .u32 (B5 m)),(vI (((Fq m gf.x.pl).getD i ((0,0):Int×Int)).2)),(vK .u32 (B5 m))]))) O (AT (zs:=[(vI 0),(Value.int .u32 (0:Int)),(vI 0),(Value.int .u32 (0:Int))]) (vs:=[(vI (((Fq m gf.x.pl).getD i ((0,0):Int×Int)).1)),(vK .u32 (B5 m)),(vI (((Fq m gf.x.pl).getD i ((0,0):Int×Int)).2)),(vK .u32 (B5 m))]) (pv:=[(0,(aG ([(vI (((Fq m gf.x.pl).getD i ((0,0):Int×Int)).1)),(vK .u32 (B5 m))]))),(1,(aG ([(vI (((Fq m gf.x.pl).getD i ((0,0):Int×Int)).2)),(vK .u32 (B5 m))])))]) (places:=[(0,2),(2,2)]) zeroValue94 underlying94 (λw=>by simp [sizeOf92]) O O) (zN O (al eH O λb5=>?_)))))))))))
  refine zG (sl sr) (zN O (Ah O sizeOf94 O (zG (sl sr) (zQ (zB (sL [2,3,4,5,6,7] O) (zA (rC [(0,true),(1,true),(2,true),(3,false),(4,false),(5,false),(6,true)] 7 [] (sk (sk (sl sr))) (sk (sk (sl sr))) jV (λ_ _ d _ _ h=>by cases d<;>exact h) (vE (v:=(pP b4 0)) O (AA O underlying34 O sizeOf32 O) O (vE O (AD (i:=2) (v:=(qz p1 ps.length c1)) O O DC.a O) O (vE (v:=(aG ([(vI (((Fq m gf.x.pl).getD i ((0,0):Int×Int)).1)),(vK .u32 (B5 m)),(vI (((Fq m gf.x.pl).getD i ((0,0):Int×Int)).2)),(vK .u32 (B5 m))]))) O (Ab (i:=0) (vs:=[(vI (((Fq m gf.x.pl).getD i ((0,0):Int×Int)).1)),(vK .u32 (B5 m)),(vI (((Fq m gf.x.pl).getD i ((0,0):Int×Int)).2)),(vK .u32 (B5 m))]) O O cP.a cP.s O O) O (zr O ?_)))))))))))
  refine ck' call30 (Zc (Th m ((Fq m gf.x.pl).getD i (0,0))) (ZS gf.x.inv.small Z)) O (zp (sk (sk (sl sr))) (zr O (ze (V:=λb6=>(qz (jk b6) 1 1)) (T:=78) (cs:=AZ (CR (Th m ((Fq m gf.x.pl).getD i (0,0))))) (AK O) (A7 (z:=.agg (AZ (⟨0,0⟩:Pt)).toArray) (cs:=AZ (CR (Th m ((Fq m gf.x.pl).getD i (0,0))))) (pv:=[(0,(aG (AZ (CR (Th m ((Fq m gf.x.pl).getD i (0,0)))))))]) underlying32 sizeOf78 zeroValue78 jY jY O (L3 (CR (Th m ((Fq m gf.x.pl).getD i (0,0)))))) O (BE O) λb6=>zp (sl (sk (sk (sl sr)))) (zr O (zu 3 (j:=0) (cs2:=rowsL AZ (ps++[CR (Th m ((Fq m gf.x.pl).getD i (0,0)))])) cQ O h1 (Ac Aq _) O O O O O jY (Mb Z) Z (by rw [Ba];rfl) O λp_1 c_1 ho_1 hne_1=>zp (sl (sk (sk (sl sr)))) (vE (v:=(pP b4 0)) O (AA O underlying34 O sizeOf32 O) O (yJ O (Fm 4 (off:=0) (vs:=[(qz p_1 (ps.length+1) c_1)]) (cs':=[(qz p_1 (ps.length+1) c_1),jj,jj]) (AK O) O sizeOf32 O (zG (sl (sk (sk (sl (sl sr))))) ?_)))))))))
  refine zQ (zB (sL [2,3,4,5,6,7] O) (zF (zA (zD (AM O (AC (AR (c:=((i+1:Nat):Int)) O O (AS (a:=i) (b:=1) Z)) O (asg' O (oNl' (zB (sL [2,3,4,5,6,7] O) ?_)))))))))
  rw [show ps.length+1=(ps++[CR (Th m ((Fq m gf.x.pl).getD i (0,0)))]).length by simp]
  exact z7 (i+1) p_1 c_1 (ps++[CR (Th m ((Fq m gf.x.pl).getD i (0,0)))]) (⟨Z,(by simpa using ho_1),by rw [hps,V_ (by rw [hzl];omega)]⟩) Z (sF O) (sl (sl sr))
 ·replace hc0:=xT hc0
  have hps9:ps.length=gf.x.pl.length:=by rw [hps,show i=gf.x.pl.length by omega,Ka (by rw [hzl];omega)]
  have hfin:ps=S8 m (Fq m gf.x.pl) gf.x.pl.length:=by rw [hps,show i=gf.x.pl.length by omega]
  refine zU (zO (yB (zR (q2 (AC (v:=(pP b3 1)) (AA O underlying87 O sizeOf28 O) O (BA 3 (qz gf.x.b.p gf.x.ts.length gf.x.b.c) CM O (AC (v:=(pP b4 1)) (AA O underlying34 O sizeOf28 O) O (Fm 2 (off:=1) (vs:=[(qz gf.x.b.p gf.x.ts.length gf.x.b.c)]) (cs':=[(qz p1 ps.length c1),(qz gf.x.b.p gf.x.ts.length gf.x.b.c),jj]) (AK O) O sizeOf28 O (q6 (sL [2,3,4,5,6] O) (q4 (asg' O ?_)))))))))))
  refine oNl' (zA (zI ?_))
  refine yR (tg λ(j:Nat) (p2:Option Addr) (c2:Nat) (ss:List (Tq3))=>j<=gf.x.ss.length/\OwnOk p2 ss.length c2/\ss.length=j/\ss=gf.x.ss.take j) (tg λ(j:Nat) (p2:Option Addr) (c2:Nat) (ss:List (Tq3))=>[(2,(pP b2 0)),(3,(pP b3 0)),(4,(pP b4 0)),(8,(vN j))]) (tg λ(j:Nat) (p2:Option Addr) (c2:Nat) (ss:List (Tq3))=>[rowW p2 80 3 ss.length c2 (rowsL Ad ss),rowW p1 78 10 ps.length c1 (rowsL AZ ps),AX b4 34 ([(qz p1 ps.length c1),(qz gf.x.b.p gf.x.ts.length gf.x.b.c),(qz p2 ss.length c2)]),AX b3 87 ([(qz gf.x.a.p gf.x.pl.length gf.x.a.c),(qz gf.x.b.p gf.x.ts.length gf.x.b.c),(qz gf.x.c.p gf.x.ss.length gf.x.c.c)]),AP gf.x.a.p (rowsL CZ (Fq m gf.x.pl)),AP gf.x.b.p (rowsL Ad gf.x.ts),AP gf.x.c.p (rowsL Ad gf.x.ss),OZ gf,AX b2 34 ([jj,jj,jj]),AX b1 26 (Ef m),AP m.p (Ct m.cs)]) (tg λ(j:Nat) (p2:Option Addr) (c2:Nat) (ss:List (Tq3))=>gf.x.ss.length-j) 0 none 0 ([]:List (Tq3)) (⟨xK _,OwnOk.none,rfl,rfl⟩) (sF O) sr (λj p2 c2 ss hJ=>?_)
  obtain ⟨hj,h2,hsl,hsd⟩:=hJ
  have hgs:=gf.x.sl
  refine zY (q4 (AM O (AC (v:=(pP b3 2)) (AA O underlying87 O sizeOf28 O) O (BA 3 (qz gf.x.c.p gf.x.ss.length gf.x.c.c) CM O (AC (v:=(vN gf.x.ss.length)) (AE O underlying28) O (AC (Aa (c:=(decide (j<gf.x.ss.length))) O O (DF (a:=j) (b:=gf.x.ss.length))) O (oNl' (zB (sL [2,3,4,8,54] O) (zA ?_)))))))))
  refine zL O (λhc1=>?_) (λhc1=>?_)
  ·replace hc1:=xU hc1
   refine zC (q1 (zI (rC [(0,true),(1,true),(2,true),(3,true),(4,true),(5,true),(6,true),(7,true),(8,true),(9,true),(10,true),(11,true),(12,true),(13,true),(14,true),(15,true),(16,true),(17,true),(18,true),(19,true),(20,true),(21,false),(22,false),(23,true)] 24 [] (sl sr) (sk (sl sr)) jV (λ_ _ d _ _ h=>by cases d<;>exact h) (vE (v:=(pP b4 2)) O (AA O underlying34 O sizeOf29 O) O (vE O (AD (i:=1) (v:=(qz p2 ss.length c2)) O O Qx.a O) O (vE (v:=(pP b3 2)) O (AA O underlying87 O sizeOf28 O) O (vE O (AD (i:=2) (v:=(qz gf.x.c.p gf.x.ss.length gf.x.c.c)) O O CM.a O) O (vM O O O (vE (v:=(pP (pB gf.x.c.p) (pO gf.x.c.p+j*3))) O (AO (j:=j) O O gf.x.c.ok underlying28 sizeOf71 O Z) O (vE (v:=(pP (pB gf.x.c.p) (pO gf.x.c.p+(j*3+0)))) O (AB (j:=0) O O underlying71 sizeOf3 O jY (Nat.add_assoc _ _ _)) O (vE O (Au (v:=(vN ((gf.x.ss.getD j jJ).1))) (i:=5) O O (Aw.ne gf.x.c.ok Z) BP (Cz An jJ _ _ 0 Z jY O)) O ?_)))))))))))
   refine vE (v:=(pP b3 2)) O (AA O underlying87 O sizeOf28 O) O (vE O (AD (i:=2) (v:=(qz gf.x.c.p gf.x.ss.length gf.x.c.c)) O O CM.a O) O (vM O O O (vE (v:=(pP (pB gf.x.c.p) (pO gf.x.c.p+j*3))) O (AO (j:=j) O O gf.x.c.ok underlying28 sizeOf71 O Z) O (vE (v:=(pP (pB gf.x.c.p) (pO gf.x.c.p+(j*3+1)))) O (AB (j:=1) O O underlying71 sizeOf3 O jY (Nat.add_assoc _ _ _)) O (vE O (Au (v:=(vN ((gf.x.ss.getD j jJ).2.1))) (i:=5) O O (Aw.ne gf.x.c.ok Z) BP (Cz An jJ _ _ 1 Z jY O)) O (vE (v:=(pP b3 2)) O (AA O underlying87 O sizeOf28 O) O (vE O (AD (i:=2) (v:=(qz gf.x.c.p gf.x.ss.length gf.x.c.c)) O O CM.a O) O (vM O O O (vE (v:=(pP (pB gf.x.c.p) (pO gf.x.c.p+j*3))) O (AO (j:=j) O O gf.x.c.ok underlying28 sizeOf71 O Z) O (vE (v:=(pP (pB gf.x.c.p) (pO gf.x.c.p+(j*3+2)))) O (AB (j:=2) O O underlying71 sizeOf3 O jY (Nat.add_assoc _ _ _)) O (vE O (Au (v:=(vN ((gf.x.ss.getD j jJ).2.2))) (i:=5) O O (Aw.ne gf.x.c.ok Z) BP (Cz An jJ _ _ 2 Z jY O)) O ?_)))))))))))
   refine vE (v:=(aG ([(vN ((gf.x.ss.getD j jJ).1)),(vN ((gf.x.ss.getD j jJ).2.1)),(vN ((gf.x.ss.getD j jJ).2.2))]))) O (AT (zs:=Ad jJ) (vs:=[(vN ((gf.x.ss.getD j jJ).1)),(vN ((gf.x.ss.getD j jJ).2.1)),(vN ((gf.x.ss.getD j jJ).2.2))]) (pv:=[(0,(vN ((gf.x.ss.getD j jJ).1))),(1,(vN ((gf.x.ss.getD j jJ).2.1))),(2,(vN ((gf.x.ss.getD j jJ).2.2)))]) (places:=[(0,1),(1,1),(2,1)]) zeroValue80 underlying80 (λw=>by simp [sizeOf3]) O O) O (zr O (ze (V:=λb5=>(qz (jk b5) 1 1)) (T:=80) (cs:=Ad ((gf.x.ss.getD j jJ).1,(gf.x.ss.getD j jJ).2.1,(gf.x.ss.getD j jJ).2.2)) (AK O) (A7 (z:=.agg (Ad jJ).toArray) (cs:=Ad ((gf.x.ss.getD j jJ).1,(gf.x.ss.getD j jJ).2.1,(gf.x.ss.getD j jJ).2.2)) (pv:=[(0,(aG ([(vN ((gf.x.ss.getD j jJ).1)),(vN ((gf.x.ss.getD j jJ).2.1)),(vN ((gf.x.ss.getD j jJ).2.2))])))]) underlying29 sizeOf80 zeroValue80 jY jY O (L4 ((gf.x.ss.getD j jJ).1,(gf.x.ss.getD j jJ).2.1,(gf.x.ss.getD j jJ).2.2))) O (BE O) λb5=>zp (sl (sl sr)) (zr O (AU.append1 (j:=0) (cs2:=rowsL Ad (ss++[((gf.x.ss.getD j jJ).1,(gf.x.ss.getD j jJ).2.1,(gf.x.ss.getD j jJ).2.2)])) an O h2 (Ac An _) O O O O jY (Mb Z) Z (by rw [Ba];rfl) O λp_2 c_2 ho_2 hne_2=>zp (sl (sl sr)) (vE (v:=(pP b4 2)) O (AA O underlying34 O sizeOf29 O) O (yJ O (Fm 3 (off:=2) (vs:=[(qz p_2 (ss.length+1) c_2)]) (cs':=[(qz p1 ps.length c1),(qz gf.x.b.p gf.x.ts.length gf.x.b.c),(qz p_2 (ss.length+1) c_2)]) (AK O) O sizeOf29 O (zG (sl (sl (sk (sl sr)))) (zQ ?_)))))))))
   refine zB (sL [2,3,4,8] O) (zF (zA (zD (AM O (AC (AR (c:=((j+1:Nat):Int)) O O (AS (a:=j) (b:=1) Z)) O (asg' O (oNl' (zB (sL [2,3,4,8] O) ?_))))))))
   rw [show ss.length+1=(ss++[((gf.x.ss.getD j jJ).1,(gf.x.ss.getD j jJ).2.1,(gf.x.ss.getD j jJ).2.2)]).length by simp]
   exact z7 (j+1) p_2 c_2 (ss++[((gf.x.ss.getD j jJ).1,(gf.x.ss.getD j jJ).2.1,(gf.x.ss.getD j jJ).2.2)]) (⟨Z,(by simpa using ho_2),by simp [hsl],by rw [hsd];exact (NO Z).symm⟩) Z (sF O) (sl sr)
  ·replace hc1:=xT hc1
   exact zU (zO (yB (zR (q2 (Ai 2 Bg O (Fm 8 (off:=0) (vs:=[(qz p1 ps.length c1),(qz gf.x.b.p gf.x.ts.length gf.x.b.c),(qz p2 ss.length c2)]) (cs':=[(qz p1 ps.length c1),(qz gf.x.b.p gf.x.ts.length gf.x.b.c),(qz p2 ss.length c2)]) (AK O) O sizeOf34 O (oNl' (zB (sL [2,3,4,8] O) (zA (zH (ret_one O (Ap (i:=8) (cs:=[(qz p1 ps.length c1),(qz gf.x.b.p gf.x.ts.length gf.x.b.c),(qz p2 ss.length c2)]) O O isAgg34 sizeOf34 O) (λw hw=>(aL hw ⟨⟨MG.mk ps gf.x.ts ss (Xy gf.x hfin) (by have h9:=gf.x.sl;omega) ⟨m,by rw [hps9,hsd,show j=gf.x.ss.length by omega,List.take_length];exact gf.x.sd⟩ ⟨p1,c1,h1.row⟩ gf.x.b ⟨p2,c2,h2.row⟩,YG gf.x hfin⟩,gf.ob,hw.asunder (i:=1) (j:=5) O O jY O,hw.asunder (i:=0) (j:=5) O O jY O⟩ (GS (S:=λ_=>False) hw 1 O h1 (Ac Aq _)) (dy (Cd hw 4 O (At.wm lgf))) (GS (S:=λ_=>False) hw 0 O h2 (Ac An _)) (Y3 hw 7 O (At.wmf lgf)) O)))))))))))))
theorem St (m:MQ) (w:World) {S:Nat->Prop} (hm:Ro S w m):Calls prog 8 #[(aG (Ef m))] w (BS (MF m) S w):=(Su m w hm).mono λe w1 h=>h.ofMGF
theorem Vb (m:MQ) (w:World) {S:Nat->Prop} (hm:Ro S w m):Calls prog 8 #[(aG (Ef m))] w (BS MG S w):=(St m w hm).mono λe w1 h=>h.ofMF
end
end Go.Proofs.YtbfdamnfcmefmaaGreatDoor
