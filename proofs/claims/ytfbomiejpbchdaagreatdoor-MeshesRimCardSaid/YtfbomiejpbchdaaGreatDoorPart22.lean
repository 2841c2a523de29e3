import Derived.Lib.SliceRun
import Derived.Test.YtfbomiejpbchdaaGreatDoorPart07
import Derived.Test.YtfbomiejpbchdaaGreatDoorPart20
import Derived.Test.YtfbomiejpbchdaaGreatDoorPart21
namespace Go.Proofs.YtfbomiejpbchdaaGreatDoor
open Go Go.RowKit Go.Proofs.Tryz
set_option linter.unusedVariables false
set_option linter.unusedSimpArgs false
theorem Ju (a b:Rat):a<b\/b<=a:=by grind
def K2 (A B:P2) (x y:Rat):Rat:=((B.1:Rat)-(A.1:Rat))*(y-(A.2:Rat))-((B.2:Rat)-(A.2:Rat))*(x-(A.1:Rat))
def R5 (t:P2×P2×P2) (x y:Rat):Prop:=0<K2 t.2.1 t.2.2 x y/\0<K2 t.2.2 t.1 x y/\0<K2 t.1 t.2.1 x y
def Sq (t:P2×P2×P2) (x y:Rat):Prop:=0<=K2 t.2.1 t.2.2 x y/\0<=K2 t.2.2 t.1 x y/\0<=K2 t.1 t.2.1 x y
def V7 (s t:P2×P2×P2):Prop:=∀x y,(R5 s x y->¬Sq t x y)/\(R5 t x y->¬Sq s x y)
theorem HO (u:Nat):((2*u:Nat):Rat)=2*(u:Rat):=by rw [Rat.natCast_mul];rfl
theorem IJ (u:Nat):((2*u+2:Nat):Rat)=2*(u:Rat)+2:=by rw [Rat.natCast_add,HO];rfl
theorem Nq (u:Nat):((2*u+1:Nat):Rat)=2*(u:Rat)+1:=by rw [Rat.natCast_add,HO];rfl
theorem OB {t:P2×P2×P2} {nx way i u v:Nat} (hu:u=i%nx) (hv:v=i/nx) (ht:t∈CX nx way i) (x y:Rat) :
    (R5 t x y->(2*(u:Rat)<x/\x<2*(u:Rat)+2)/\2*(v:Rat)<y/\y<2*(v:Rat)+2)/\(Sq t x y->(2*(u:Rat)<=x/\x<=2*(u:Rat)+2)/\2*(v:Rat)<=y/\y<=2*(v:Rat)+2):=by
  have key:t∈[((2*u,2*v),(2*u+2,2*v),(2*u+2,2*v+2)),((2*u,2*v),(2*u+2,2*v+2),(2*u,2*v+2)),((2*u,2*v),(2*u+2,2*v),(2*u,2*v+2)),((2*u+2,2*v),(2*u+2,2*v+2),(2*u,2*v+2)),
      ((2*u,2*v),(2*u+2,2*v),(2*u+1,2*v+1)),((2*u+2,2*v),(2*u+2,2*v+2),(2*u+1,2*v+1)),((2*u+2,2*v+2),(2*u,2*v+2),(2*u+1,2*v+1)),((2*u,2*v+2),(2*u,2*v),(2*u+1,2*v+1))]:=by
    subst hu;subst hv
    unfold CX at ht
    simp only at ht
    split at ht
    · simp only [List.mem_cons,List.not_mem_nil,or_false] at ht ⊢;rcases ht with h|h<;>simp [h]
    · split at ht
      · simp only [List.mem_cons,List.not_mem_nil,or_false] at ht ⊢;rcases ht with h|h<;>simp [h]
      · split at ht
        · simp only [List.mem_cons,List.not_mem_nil,or_false] at ht ⊢;rcases ht with h|h|h|h<;>simp [h]
        · cases ht
  clear hu hv ht
  simp only [List.mem_cons,List.not_mem_nil,or_false] at key
  rcases key with rfl|rfl|rfl|rfl|rfl|rfl|rfl|rfl<;>(simp only [R5,Sq,K2,HO,IJ,Nq];generalize (u:Rat)=U;generalize (v:Rat)=V;refine ⟨λh=>?_,λh=>?_⟩<;>obtain ⟨h1,h2,h3⟩:=h<;>refine ⟨⟨?_,?_⟩,?_,?_⟩<;>grind)
theorem ON {s t:P2×P2×P2} {nx way way' i j:Nat} (hij:i≠j) (hs:s∈CX nx way i) (ht:t∈CX nx way' j):V7 s t:=λx y=>by
  have a:=OB rfl rfl hs x y
  have b:=OB rfl rfl ht x y
  have hne:i%nx≠j%nx\/i/nx≠j/nx:=by
    rcases Decidable.em (i%nx=j%nx) with e|e
    · rcases Decidable.em (i/nx=j/nx) with e2|e2
      · exact absurd (by rw [<-Nat.div_add_mod i nx,<-Nat.div_add_mod j nx,e,e2]) hij
      · exact .inr e2
    · exact .inl e
  have lt:∀{p q:Nat},p<q->(p:Rat)+1<=(q:Rat):=λ{p q} h=>by
    have h1:((p+1:Nat):Rat)<=(q:Rat):=by exact_mod_cast h
    rw [Rat.natCast_add] at h1
    exact h1
  have four:(i%nx:Nat)+1<=j%nx\/(j%nx:Nat)+1<=i%nx\/(i/nx:Nat)+1<=j/nx\/(j/nx:Nat)+1<=i/nx:=by omega
  revert a b
  rcases four with h|h|h|h<;>have h:=lt h<;>generalize ((i%nx:Nat):Rat)=A at*<;> generalize ((j%nx:Nat):Rat)=B at*<;> generalize ((i/nx:Nat):Rat)=C at*<;> generalize ((j/nx:Nat):Rat)=D at*<;> intro a b<;>refine ⟨λh1 h2=>?_,λh1 h2=>?_⟩ <;>
    first
      | (have a1:=a.1 h1;have b1:=b.2 h2;obtain ⟨⟨_,_⟩,_,_⟩:=a1;obtain ⟨⟨_,_⟩,_,_⟩:=b1;grind)
      | (have a1:=a.2 h2;have b1:=b.1 h1;obtain ⟨⟨_,_⟩,_,_⟩:=a1;obtain ⟨⟨_,_⟩,_,_⟩:=b1;grind)
theorem Qq (nx way i:Nat):(CX nx way i).Pairwise V7:=by
  unfold CX
  simp only
  generalize i%nx=u
  generalize i/nx=v
  split
  · refine List.pairwise_pair.2 λx y=>?_
    simp only [R5,Sq,K2,HO,IJ];generalize (u:Rat)=U;generalize (v:Rat)=V
    refine ⟨λh k=>?_,λh k=>?_⟩<;>obtain ⟨h1,h2,h3⟩:=h<;>obtain ⟨k1,k2,k3⟩:=k<;>grind
  · split
    · refine List.pairwise_pair.2 λx y=>?_
      simp only [R5,Sq,K2,HO,IJ];generalize (u:Rat)=U;generalize (v:Rat)=V
      refine ⟨λh k=>?_,λh k=>?_⟩<;>obtain ⟨h1,h2,h3⟩:=h<;>obtain ⟨k1,k2,k3⟩:=k<;>grind
    · split
      · simp only [List.pairwise_cons,List.mem_cons,List.not_mem_nil,or_false,forall_eq_or_imp,forall_eq,List.Pairwise.nil,and_true,false_implies,implies_true]
        refine ⟨⟨?_,?_,?_⟩,⟨?_,?_⟩,?_⟩<;>intro x y<;>simp only [R5,Sq,K2,HO,IJ,Nq]<;>generalize (u:Rat)=U<;>generalize (v:Rat)=V<;>refine ⟨λh k=>?_,λh k=>?_⟩<;>obtain ⟨h1,h2,h3⟩:=h<;>obtain ⟨k1,k2,k3⟩:=k<;>grind
      · exact List.Pairwise.nil
theorem FF (m:MQ):∀i t,t∈Dj m i->∃j,j<i/\t∈CX (Gw m) (F8 m j) j
  | 0,t,h=>by cases h
  | i+1,t,h=>by
    rcases List.mem_append.1 h with h|h
    · obtain ⟨j,hj,h⟩:=FF m i t h;exact ⟨j,Z,h⟩
    · exact ⟨i,Z,h⟩
theorem Ie (m:MQ):∀i,(Dj m i).Pairwise V7
  | 0=>List.Pairwise.nil
  | i+1=>List.pairwise_append.2 ⟨Ie m i,Qq _ _ _,λs hs t ht=>by
      obtain ⟨j,hj,h⟩:=FF m i s hs
      exact ON Z h ht⟩
theorem Jx (m:MQ) {i j:Nat} (hi:i<(BF m).length) (hj:j<(BF m).length) (hne:i≠j) (d:P2×P2×P2):∀x y,R5 ((BF m).getD i d) x y->¬Sq ((BF m).getD j d) x y:=λx y h=>by
  have hp:=List.pairwise_iff_getElem.1 (Ie m (Gw m*RD m))
  rw [List.getD,List.getElem?_eq_getElem hi] at h
  rw [List.getD,List.getElem?_eq_getElem hj]
  rcases Nat.lt_or_gt_of_ne hne with hlt|hgt
  · exact (hp i j hi hj hlt x y).1 h
  · exact (hp j i hj hi hgt x y).2 h
theorem Sk {k:DR} (h:k.Ok) (den:Nat) (q:Pt):∃x y c:Rat,0<c/\∀A B:P2,Ag (D5 (PZ k den A)) (D5 (PZ k den B)) q=c*K2 A B x y:=by
  have hD:0<(((max den 1:Nat):Int):Rat):=by exact_mod_cast (show (0:Int)<((max den 1:Nat):Int) by omega)
  have hd:(0:Rat)<(k.det:Rat):=by exact_mod_cast h.pos
  have ed:(k.det:Rat)=(k.a:Rat)*(k.d:Rat)-(k.b:Rat)*(k.c:Rat):=by simp only [DR.det,Rat.intCast_sub,Rat.intCast_mul]
  have hi:=Rat.inv_pos.2 hD
  have he:((((max den 1:Nat):Int):Rat)⁻¹)*(((max den 1:Nat):Int):Rat)=1:=Rat.inv_mul_cancel _ (by grind)
  have hdi:((k.det:Rat)⁻¹)*(k.det:Rat)=1:=Rat.inv_mul_cancel _ (by grind)
  obtain ⟨qx,qy⟩:=q
  refine ⟨((k.d:Rat)*qx-(k.b:Rat)*qy)*(((max den 1:Nat):Int):Rat)*(k.det:Rat)⁻¹,((k.a:Rat)*qy-(k.c:Rat)*qx)*(((max den 1:Nat):Int):Rat)*(k.det:Rat)⁻¹,(k.det:Rat)*((((max den 1:Nat):Int):Rat)⁻¹*(((max den 1:Nat):Int):Rat)⁻¹),Rat.mul_pos hd (Rat.mul_pos hi hi),λA B=>?_⟩
  simp only [G3,D5,PZ,Lj,DR.at_,K2,Rat.div_def,Rat.intCast_add,Rat.intCast_mul]
  rw [ed] at hdi ⊢
  clear hD hd hi ed
  generalize (((max den 1:Nat):Int):Rat)⁻¹=e at *
  generalize (((max den 1:Nat):Int):Rat)=D at *
  simp only [Rat.intCast_natCast]
  generalize ((k.a:Rat)*(k.d:Rat)-(k.b:Rat)*(k.c:Rat))⁻¹=f at *
  generalize (k.a:Rat)=a at *
  generalize (k.b:Rat)=b at *
  generalize (k.c:Rat)=c at *
  generalize (k.d:Rat)=d at *
  generalize (A.1:Rat)=A1
  generalize (A.2:Rat)=A2
  generalize (B.1:Rat)=B1
  generalize (B.2:Rat)=B2
  clear h
  have hx:qx=(a*((d*qx-b*qy)*D*f)+b*((a*qy-c*qx)*D*f))*e:=by grind
  have hy:qy=(c*((d*qx-b*qy)*D*f)+d*((a*qy-c*qx)*D*f))*e:=by grind
  generalize (d*qx-b*qy)*D*f=X at *
  generalize (a*qy-c*qx)*D*f=Y at *
  subst hx
  subst hy
  grind
theorem BP {α:Type} {enc:α->List Value} {z:Nat} (h:∀x,(enc x).length=z) (d:α) (xs:List α) (j r:Nat) (hj:j<xs.length) (hr:r<z) {v:Value} (hv:(enc (xs.getD j d))[r]?=some v):(rowsL enc xs)[j*z+r]?=some v:=by
  have h1:=Ar h d xs j hj
  rw [<-h1,List.getElem?_take_of_lt hr,List.getElem?_drop] at hv
  exact hv
theorem BE (p:Pt):(Aj p).length=10:=rfl
structure VY (ps:List Pt) (t:Nat×Nat×Nat):Prop where
  a:t.1<ps.length
  b:t.2.1<ps.length
  c:t.2.2<ps.length
  ab:t.1≠t.2.1
  bc:t.2.1≠t.2.2
  ca:t.2.2≠t.1
  pos:0<Ag (ps.getD t.1 ⟨0,0⟩) (ps.getD t.2.1 ⟨0,0⟩) (ps.getD t.2.2 ⟨0,0⟩)
def WL (ps:List Pt) (t:Nat×Nat×Nat) (q:Pt):Prop:=0<Ag q (ps.getD t.2.1 ⟨0,0⟩) (ps.getD t.2.2 ⟨0,0⟩)/\0<Ag (ps.getD t.1 ⟨0,0⟩) q (ps.getD t.2.2 ⟨0,0⟩)/\0<Ag (ps.getD t.1 ⟨0,0⟩) (ps.getD t.2.1 ⟨0,0⟩) q
def V3 (ps:List Pt) (t:Nat×Nat×Nat) (q:Pt):Prop:=0<=Ag q (ps.getD t.2.1 ⟨0,0⟩) (ps.getD t.2.2 ⟨0,0⟩)/\0<=Ag (ps.getD t.1 ⟨0,0⟩) q (ps.getD t.2.2 ⟨0,0⟩)/\0<=Ag (ps.getD t.1 ⟨0,0⟩) (ps.getD t.2.1 ⟨0,0⟩) q
def DK (m:MQ):Nat:=1+m.den%6
def PX (m:MQ) (z:Int×Int):PD:=⟨⟨z.1,DK m⟩,⟨z.2,DK m⟩⟩
def PJ (m:MQ) (zs:List (Int×Int)) (i:Nat):List Pt:=(zs.take i).map λz=>D5 (PX m z)
theorem Ko {m:MQ} {zs:List (Int×Int)} {i:Nat} (h:i<=zs.length):(PJ m zs i).length=i:=by simp [PJ];omega
theorem Pn {m:MQ} {zs:List (Int×Int)} {i:Nat} (h:i<zs.length):PJ m zs (i+1)=PJ m zs i++[D5 (PX m (zs.getD i (0,0)))]:=by
  unfold PJ
  rw [List.take_add_one,List.getElem?_eq_getElem h,List.map_append,List.getD,List.getElem?_eq_getElem h]
  rfl
theorem SO {m:MQ} {zs:List (Int×Int)} {i:Nat} (h:i<zs.length):(PJ m zs zs.length).getD i ⟨0,0⟩=D5 (PX m (zs.getD i (0,0))):=by
  unfold PJ
  rw [List.take_length,List.getD,List.getElem?_map,List.getElem?_eq_getElem h,List.getD,List.getElem?_eq_getElem h]
  rfl
def Ek (m:MQ) (pl:List P2):List (Int×Int):=pl.map λp=>(mapM m).at_ p
structure Fp (ps:List Pt) (ts:List (Nat×Nat×Nat)):Prop where
  ne:ts≠[]
  tl:ts.length<=36
  pl:ps.length<=108
  sz:∀i,B8 (ps.getD i ⟨0,0⟩)<=4
  tri:∀j,j<ts.length->VY ps (ts.getD j (0,0,0))
  apart:∀i j,i<ts.length->j<ts.length->i≠j->∀q,WL ps (ts.getD i (0,0,0)) q->¬V3 ps (ts.getD j (0,0,0)) q
  lat:∃(m:MQ) (pl:List P2),Kw m (BF m).length pl ts/\To pl/\ps=PJ m (Ek m pl) pl.length
structure MG where
  ps:List Pt
  ts:List (Nat×Nat×Nat)
  ss:List (Nat×Nat×Nat)
  good:Fp ps ts
  sl:ss.length<=108*108
  sd:∃m:MQ,ss=EQ m ts ps.length ps.length
  a:RX (rowsL Aj ps) ps.length
  b:RX (rowsL Av ts) ts.length
  c:RX (rowsL Av ss) ss.length
def Vh (x:MG):List Value:=[x.a.val,x.b.val,x.c.val]
theorem Tn {x:MG} {y:As} (hy:y∈[x.a.row,x.b.row,x.c.row]):y.ro=true:=by
  simp only [List.mem_cons,List.not_mem_nil,or_false] at hy
  rcases hy with rfl|rfl|rfl<;>rfl
instance:Dy MG:=⟨λx=>aG (Vh x),λx=>[x.a.row,x.b.row,x.c.row],λx y hy=>Tn hy⟩
theorem Vx {S:Nat->Prop} {W w:World} {L:List As} {m:MQ} {x:WM m} (h:Ro (SL ⟨W,none⟩ S L) w x):Cw w x.b.row/\∀b,x.b.row.foot=some b->W.heap.size<=b\/S b:=by
  have h1:=h x.b.row (List.mem_cons_of_mem _ List.mem_cons_self)
  exact ⟨h1.1,λb e=>(h1.2 b e).2⟩
theorem Kt {m:MQ} {pl:List P2} {i:Nat} (h:i<pl.length):(Ek m pl).getD i (0,0)=(mapM m).at_ (pl.getD i (0,0)):=by
  simp [Ek,List.getD,h]
theorem Tj {m:MQ} {pl:List P2} (hs:∀p∈pl,p.1<=6/\p.2<=6) {i:Nat} (h:i<pl.length):(PX m ((Ek m pl).getD i (0,0))).ok:=by
  rw [Kt h]
  have hp:=hs (pl.getD i (0,0)) (by rw [List.getD,List.getElem?_eq_getElem h];exact List.getElem_mem h)
  obtain ⟨⟨h1,h2⟩,h3,h4⟩:=P9 (G_ m.a m.b m.c m.d) hp
  have hd:DK m<4294967296:=by unfold DK;omega
  have e:mapM m=F9 m.a m.b m.c m.d:=rfl
  rw [<-e] at h1 h2 h3 h4
  exact ⟨⟨by show -9223372036854775808<=((mapM m).at_ _).1;omega,by show ((mapM m).at_ _).1<_;omega,hd⟩,⟨by show -9223372036854775808<=((mapM m).at_ _).2;omega,by show ((mapM m).at_ _).2<_;omega,hd⟩⟩
theorem HY (a b c:P2):C8 b c a=C8 a b c:=by unfold C8;grind
theorem Ga (a b:P2):C8 a a b=0/\C8 a b b=0/\C8 b a b=0:=by unfold C8;exact ⟨by grind,by grind,by grind⟩
theorem OY {m:MQ} {t:Nat} (h:t<(BF m).length):0<C8 (Ao m t 0) (Ao m t 1) (Ao m t 2):=by
  have h1:=HN m ((BF m).getD t ((0,0),(0,0),(0,0))) (by rw [List.getD,List.getElem?_eq_getElem h];exact List.getElem_mem h)
  unfold Ao Jk
  generalize (BF m).getD t ((0,0),(0,0),(0,0))=c at *
  generalize t*(m.fst/3)=q at *
  have h0:=h1.1
  have e:(m.fst+q)%3=0\/(m.fst+q)%3=1\/(m.fst+q)%3=2:=by omega
  rcases e with e|e|e
  · rw [show (0+m.fst+q)%3=0 by omega,show (1+m.fst+q)%3=1 by omega,show (2+m.fst+q)%3=2 by omega]
    exact h0
  · rw [show (0+m.fst+q)%3=1 by omega,show (1+m.fst+q)%3=2 by omega,show (2+m.fst+q)%3=0 by omega]
    show 0<C8 c.2.1 c.2.2 c.1
    rw [HY];exact h0
  · rw [show (0+m.fst+q)%3=2 by omega,show (1+m.fst+q)%3=0 by omega,show (2+m.fst+q)%3=1 by omega]
    show 0<C8 c.2.2 c.1 c.2.1
    rw [HY c.2.1,HY];exact h0
theorem Ni (m:MQ) (t:Nat) (x y:Rat):(0<K2 (Ao m t 1) (Ao m t 2) x y->0<K2 (Ao m t 2) (Ao m t 0) x y->0<K2 (Ao m t 0) (Ao m t 1) x y->R5 ((BF m).getD t ((0,0),(0,0),(0,0))) x y) /\
    (0<=K2 (Ao m t 1) (Ao m t 2) x y->0<=K2 (Ao m t 2) (Ao m t 0) x y->0<=K2 (Ao m t 0) (Ao m t 1) x y->Sq ((BF m).getD t ((0,0),(0,0),(0,0))) x y):=by
  unfold Ao Jk
  generalize (BF m).getD t ((0,0),(0,0),(0,0))=c at *
  generalize t*(m.fst/3)=q at *
  have e:(m.fst+q)%3=0\/(m.fst+q)%3=1\/(m.fst+q)%3=2:=by omega
  rcases e with e|e|e
  · rw [show (0+m.fst+q)%3=0 by omega,show (1+m.fst+q)%3=1 by omega,show (2+m.fst+q)%3=2 by omega]
    exact ⟨λa b c=>⟨a,b,c⟩,λa b c=>⟨a,b,c⟩⟩
  · rw [show (0+m.fst+q)%3=1 by omega,show (1+m.fst+q)%3=2 by omega,show (2+m.fst+q)%3=0 by omega]
    exact ⟨λa b c=>⟨c,a,b⟩,λa b c=>⟨c,a,b⟩⟩
  · rw [show (0+m.fst+q)%3=2 by omega,show (1+m.fst+q)%3=0 by omega,show (2+m.fst+q)%3=1 by omega]
    exact ⟨λa b c=>⟨b,c,a⟩,λa b c=>⟨b,c,a⟩⟩
theorem NF {c z:Rat} (hc:0<c) (h:0<c*z):0<z:=by
  rcases Ju 0 z with h1|h1
  · exact h1
  · have:=Rat.mul_nonneg (show 0<=c by grind) (show 0 <= -z by grind)
    grind
theorem P7 {c z:Rat} (hc:0<c) (h:0<=c*z):0<=z:=by
  rcases Ju z 0 with h1|h1
  · have:=Rat.mul_pos hc (show 0 < -z by grind)
    grind
  · exact h1
theorem TK {m:MQ} (x:WM m) {ps:List Pt} (h:ps=PJ m (Ek m x.pl) x.pl.length):Fp ps x.ts:=by
  have hz:(Ek m x.pl).length=x.pl.length:=by simp [Ek]
  rw [<-hz] at h
  have hl:ps.length=x.pl.length:=by rw [h,Ko (Nat.le_refl _),hz]
  have hg:∀i,i<x.pl.length->ps.getD i ⟨0,0⟩=D5 (PZ (mapM m) (DK m) (x.pl.getD i (0,0))):=λi hi=>by
    rw [h,SO (by rw [hz];exact hi),Kt hi];rfl
  have hi:=x.inv
  have hcl:=GR m
  refine ⟨λe=>O1 m (List.eq_nil_of_length_eq_zero (by rw [<-hi.tl,e];rfl)),by rw [hi.tl];exact hcl,by rw [hl];have:=hi.pll;omega,λi=>?_,λj hj=>?_,λi j hi1 hj1 hne q ho hcl2=>?_,⟨m,x.pl,x.inv,x.dst,by rw [h,hz]⟩⟩
  · rcases Nat.lt_or_ge i x.pl.length with h1|h1
    · have hok:=Tj (m:=m) hi.small h1
      rw [hg i h1]
      have:=Q5 hok
      rw [Kt h1] at this
      exact this
    · rw [List.getD,List.getElem?_eq_none (by rw [hl];exact h1)];decide +kernel
  · rw [hi.tl] at hj
    have ht:=hi.at_ j hj
    have hc:=OY hj
    have hp:=Sr (G_ m.a m.b m.c m.d) (DK m) hc
    obtain ⟨⟨a1,a2⟩,⟨b1,b2⟩,⟨c1,c2⟩⟩:=ht
    refine ⟨by rw [hl];exact a1,by rw [hl];exact b1,by rw [hl];exact c1,λe=>?_,λe=>?_,λe=>?_,?_⟩
    · rw [e,b2] at a2;rw [<-a2,(Ga _ _).1] at hc;omega
    · rw [e,c2] at b2;rw [<-b2,(Ga _ _).2.1] at hc;omega
    · rw [e,a2] at c2;rw [<-c2,(Ga _ _).2.2] at hc;omega
    · rw [hg _ a1,hg _ b1,hg _ c1,a2,b2,c2];exact hp
  · rw [hi.tl] at hi1 hj1
    obtain ⟨x',y',c,hc,key⟩:=Sk (G_ m.a m.b m.c m.d) (DK m) q
    obtain ⟨⟨a1,a2⟩,⟨b1,b2⟩,⟨c1,c2⟩⟩:=hi.at_ i hi1
    obtain ⟨⟨d1,d2⟩,⟨e1,e2⟩,⟨f1,f2⟩⟩:=hi.at_ j hj1
    obtain ⟨o1,o2,o3⟩:=ho
    obtain ⟨k1,k2,k3⟩:=hcl2
    rw [hg _ b1,hg _ c1,b2,c2,<-Gl,show mapM m=F9 m.a m.b m.c m.d from rfl,key] at o1
    rw [hg _ a1,hg _ c1,a2,c2,Gl,show mapM m=F9 m.a m.b m.c m.d from rfl,key] at o2
    rw [hg _ a1,hg _ b1,a2,b2,show mapM m=F9 m.a m.b m.c m.d from rfl,key] at o3
    rw [hg _ e1,hg _ f1,e2,f2,<-Gl,show mapM m=F9 m.a m.b m.c m.d from rfl,key] at k1
    rw [hg _ d1,hg _ f1,d2,f2,Gl,show mapM m=F9 m.a m.b m.c m.d from rfl,key] at k2
    rw [hg _ d1,hg _ e1,d2,e2,show mapM m=F9 m.a m.b m.c m.d from rfl,key] at k3
    exact Jx m hi1 hj1 hne _ x' y' ((Ni m i x' y').1 (NF hc o1) (NF hc o2) (NF hc o3)) ((Ni m j x' y').2 (P7 hc k1) (P7 hc k2) (P7 hc k3))
def U9 (m:MQ) (ps:List Pt) (ts:List (Nat×Nat×Nat)):Prop:=∃pl:List P2,Kw m (BF m).length pl ts/\To pl/\ps=PJ m (Ek m pl) pl.length
theorem S8 {m:MQ} (x:WM m) {ps:List Pt} (h:ps=PJ m (Ek m x.pl) x.pl.length):U9 m ps x.ts:=⟨x.pl,x.inv,x.dst,h⟩
structure MF (m:MQ) where
  g:MG
  lat:U9 m g.ps g.ts
instance {m:MQ}:Dy (MF m):=⟨λx=>aG (Vh x.g),λx=>[x.g.a.row,x.g.b.row,x.g.c.row],λx y hy=>Tn hy⟩
theorem B_.ofMF {m:MQ} {S:Nat->Prop} {W w:World} {e:Ending} (h:B_ (MF m) S W e w):B_ MG S W e w:=by
  obtain ⟨a,h1,h2,h3⟩:=h
  exact ⟨a.g,h1,h2,h3⟩
structure Ut (m:MQ) where
  f:MF m
  ob:OwnOk f.g.b.p f.g.ts.length f.g.b.c
  da:∀x,f.g.b.p.map (·.block)=some x->f.g.a.p.map (·.block)≠some x
  dc:∀x,f.g.b.p.map (·.block)=some x->f.g.c.p.map (·.block)≠some x
def P6 {m:MQ} (y:Ut m):As:=VP y.f.g.b.p 79 3 y.f.g.ts.length y.f.g.b.c (rowsL Av y.f.g.ts)
instance {m:MQ}:Dy (Ut m):=⟨λy=>aG (Vh y.f.g),λy=>[y.f.g.a.row,y.f.g.b.row,y.f.g.c.row,P6 y],λx y hy=>by
  simp only [List.mem_cons,List.not_mem_nil,or_false] at hy
  rcases hy with rfl|rfl|rfl|rfl<;>rfl⟩
theorem UL {m:MQ} {W w:World} {L:List As} (hw:BN ⟨W,none⟩ w L) (x:Ut m) (h1:Cw w x.f.g.a.row/\∀b,x.f.g.a.row.foot=some b->W.heap.size<=b\/False) (h2:Cw w x.f.g.b.row/\∀b,x.f.g.b.row.foot=some b->W.heap.size<=b\/False) (h3:Cw w x.f.g.c.row/\∀b,x.f.g.c.row.foot=some b->W.heap.size<=b\/False) (h4:Cw w (P6 x)/\∀b,(P6 x).foot=some b->W.heap.size<=b\/False) {v:Value} (hv:v=aG (Vh x.f.g)):B_ (Ut m) (λ_=>False) W (.returned v) w:=by
  refine ⟨x,by rw [hv];rfl,hw.out,λy hy=>?_⟩
  have hy:y∈[x.f.g.a.row,x.f.g.b.row,x.f.g.c.row,P6 x]:=hy
  simp only [List.mem_cons,List.not_mem_nil,or_false] at hy
  rcases hy with rfl|rfl|rfl|rfl
  · exact h1
  · exact h2
  · exact h3
  · exact h4
theorem B_.ofMGF {m:MQ} {S:Nat->Prop} {W w:World} {e:Ending} (h:B_ (Ut m) (λ_=>False) W e w):B_ (MF m) S W e w:=by
  obtain ⟨a,h1,h2,h3⟩:=h
  refine ⟨a.f,h1,h2,λy hy=>?_⟩
  have h4:=h3 y (by
    have hy:y∈[a.f.g.a.row,a.f.g.b.row,a.f.g.c.row]:=hy
    show y∈[a.f.g.a.row,a.f.g.b.row,a.f.g.c.row,P6 a]
    simp only [List.mem_cons,List.not_mem_nil,or_false] at hy ⊢
    rcases hy with rfl|rfl|rfl<;>simp)
  exact ⟨h4.1,λb e=>(h4.2 b e).imp id λk=>k.elim⟩
section
structure MX (ps:List Pt) (ts ss:List (Nat×Nat×Nat)) where
  a:RX (rowsL Aj ps) ps.length
  b:RX (rowsL Av ts) ts.length
  c:RX (rowsL Av ss) ss.length
def C5 {ps:List Pt} {ts ss:List (Nat×Nat×Nat)} (x:MX ps ts ss):List Value:=[x.a.val,x.b.val,x.c.val]
theorem U6 {ps:List Pt} {ts ss:List (Nat×Nat×Nat)} {x:MX ps ts ss} {y:As} (hy:y∈[x.a.row,x.b.row,x.c.row]):y.ro=true:=by
  simp only [List.mem_cons,List.not_mem_nil,or_false] at hy
  rcases hy with rfl|rfl|rfl<;>rfl
instance {ps:List Pt} {ts ss:List (Nat×Nat×Nat)}:Dy (MX ps ts ss):=⟨λx=>aG (C5 x),λx=>[x.a.row,x.b.row,x.c.row],λx y hy=>U6 hy⟩
def MG.mx (g:MG):MX g.ps g.ts g.ss:=⟨g.a,g.b,g.c⟩
structure BX (cs:List Value) where
  b:Nat
instance {cs:List Value}:Dy (BX cs):=⟨λx=>pP x.b 0,λx=>[Ai (some ⟨x.b,0,none⟩) cs],λx y hy=>by rcases List.mem_singleton.1 hy with rfl;rfl⟩
theorem Em {b:Nat} {T:TypeId} {cs:List Value} {o:Obj} (h:(Ae b T cs).P o):(Ai (some ⟨b,0,none⟩) cs).P o:=⟨cs.toArray,T,(0,0),h,by show (cs.toArray.toList.drop 0).take cs.length=cs;simp⟩
section
variable {S:Nat->Prop} {w W:World} {w0:BL} {L:List As} {ps:List Pt} {ts ss:List (Nat×Nat×Nat)} {cs:List Value}
theorem V2 {x:MX ps ts ss} (h:Ro S w x):Ro S w x.a:=λy hy=>by rcases List.mem_singleton.1 hy with rfl;exact h _ List.mem_cons_self
theorem SM {x:MX ps ts ss} (h:Ro S w x):Ro S w x.b:=λy hy=>by rcases List.mem_singleton.1 hy with rfl;exact h _ (List.mem_cons_of_mem _ List.mem_cons_self)
theorem R1 (hw:BN w0 w L) (i:Nat) {x:BX cs} (hi:L[i]?=some (Ai (some ⟨x.b,0,none⟩) cs)) (hb:w0.w.heap.size<=x.b):Ro (SL w0 S L) w x:=λy hy=>by
  rcases List.mem_singleton.1 hy with rfl
  exact ⟨hw.holds hi,λc e=>⟨⟨_,List.mem_of_getElem? hi,rfl,e⟩,.inl (by injection e with e;rw [<-e];exact hb)⟩⟩
end
section
variable {P:Program} {ops:Array Oper} {rest:List Oper} {Q:Exit->Act->World->Prop} {n d:Nat} {F:List (Nat×Value)} {w0:BL} {S:Nat->Prop} {L:List As} {t:TypeId} {p:String} {af:Array Edge} {y:Operand} {f:FuncId} {xs:List Operand} {args:List Value} {ts:Array TypeId}
theorem AE.frzX (i:Nat) {b:Nat} {T:TypeId} {cs:List Value} (hi:L[i]?=some (Ae b T cs)) (hex:w0.ex=none) (next:w0.w.heap.size<=b->AE P ops rest Q n F w0 (L.set i (Ai (some ⟨b,0,none⟩) cs))):AE P ops rest Q n F w0 L:=λa w ha hw=>by
  refine next ?_ a w ha (hw.freeze hi O (λo hp=>Em hp) (λe=>by cases e))
  rcases (hw.2.1 _ (List.mem_of_getElem? hi) b rfl).1 with h1|h1|h1
  · cases h1
  · exact h1
  · rw [hex] at h1;cases h1
end
def L9 (n:Nat) (t:Nat×Nat×Nat):Bool:=decide (t.1<n)&&decide (t.2.1<n)&&decide (t.2.2<n)&&!decide (t.1=t.2.1)&&!decide (t.2.1=t.2.2)&&!decide (t.2.2=t.1)
def By (n:Nat) (ts:List (Nat×Nat×Nat)):Bool:=ts.all (L9 n)
theorem OM {ps:List Pt} {ts:List (Nat×Nat×Nat)} (h:Fp ps ts):By ps.length ts=true:=List.all_eq_true.2 λt ht=>by
  obtain ⟨j,hj,rfl⟩:=List.getElem_of_mem ht
  have k:=h.tri j hj
  rw [show ts.getD j (0,0,0)=ts[j] by rw [List.getD,List.getElem?_eq_getElem hj];rfl] at k
  simp [L9,k.a,k.b,k.c,k.ab,k.bc,k.ca]
theorem Cb {n:Nat} {ts:List (Nat×Nat×Nat)} (h:By n ts=true) {j:Nat} (hj:j<ts.length):L9 n (ts.getD j (0,0,0))=true:=by
  rw [List.getD,List.getElem?_eq_getElem hj]
  exact List.all_eq_true.1 h _ (List.getElem_mem hj)
theorem DW {n:Nat} {t:Nat×Nat×Nat} (h:L9 n t=true):t.1<n/\t.2.1<n/\t.2.2<n:=by
  simp [L9] at h;omega
def idxB (n:Nat):List (Nat×Nat×Nat)->Nat->Int
  | [],_ => -1
  | t::r,i=>if L9 n t=true then idxB n r (i+1) else (i:Int)
theorem Ny {α:Type} {ts:List α} {d:α} {j:Nat} (hj:j<ts.length):ts.drop j=ts.getD j d::ts.drop (j+1):=by
  rw [List.drop_eq_getElem_cons hj,List.getD,List.getElem?_eq_getElem hj];rfl
theorem PK {n:Nat} {ts:List (Nat×Nat×Nat)} {j:Nat} (hj:j<ts.length) (h:L9 n (ts.getD j (0,0,0))=true):idxB n (ts.drop j) j=idxB n (ts.drop (j+1)) (j+1):=by
  rw [Ny (d:=(0,0,0)) hj];exact if_pos h
theorem RJ {n:Nat} {ts:List (Nat×Nat×Nat)} {j:Nat} (hj:j<ts.length) (h:L9 n (ts.getD j (0,0,0))=false):idxB n (ts.drop j) j=(j:Int):=by
  rw [Ny (d:=(0,0,0)) hj];exact if_neg (by rw [h];exact Bool.false_ne_true)
theorem QU {n:Nat} {ts:List (Nat×Nat×Nat)} {j:Nat} (hj:¬j<ts.length):idxB n (ts.drop j) j = -1:=by
  rw [List.drop_of_length_le Z];rfl
theorem KE (n:Nat):∀(ts:List (Nat×Nat×Nat)) (i:Nat),decide (0<=idxB n ts i)=!By n ts
  | [],i=>rfl
  | t::r,i=>by
    unfold idxB By
    rw [List.all_cons]
    cases h:L9 n t with
    | true=>rw [if_pos rfl,Bool.true_and];exact KE n r (i+1)
    | false=>rw [if_neg Bool.false_ne_true,Bool.false_and];simp
def CG (ps:List Pt) (k:Nat):Pt:=ps.getD k ⟨0,0⟩
def M_ (a b c p:Pt):Nat:=if Ag a b c=0 then 0 else Hf (Ag p b c/Ag a b c) (Ag a p c/Ag a b c) (Ag a b p/Ag a b c)
def NO (ps:List Pt) (q:Pt) (t:Nat×Nat×Nat):Nat:=M_ (CG ps t.1) (CG ps t.2.1) (CG ps t.2.2) q
end
def Wc (l:List Nat):List Value:=l.map λ(d:Nat)=>vN d
section
def Uq (S:Nat->Prop) (W w:World) (G:List As):Prop :=
  (∀x∈G,∀b,x.foot=some b->(W.heap.size<=b\/(x.ro=true/\S b))/\∃o,w.heap[b]?=some o/\x.P o)/\G.Pairwise λx y=>(x.ro=true/\y.ro=true)\/∀b,x.foot=some b->y.foot≠some b
def LQ {α:Type} (V:α->Value) (LW:α->List As) (S:Nat->Prop) (W:World) (e:Ending) (w:World):Prop:=∃a:α,e=.returned (V a)/\EU W.heap.size W w/\Uq S W w (LW a)
def Kn (w0:BL) (S:Nat->Prop) (G:List As):Prop:=∀y∈G,y.ro=true->∀b,y.foot=some b->Nw w0 S b
theorem Kn.mem {w0:BL} {S:Nat->Prop} {G:List As} (h:Kn w0 S G) {α:Type} [Dy α] {a:α} (hs:∀y∈Dy.rows a,y∈G):At w0 S a:=λy hy b e=>h y (hs y hy) (Dy.ro a y hy) b e
section
variable {w0:BL} {S:Nat->Prop} {w w' W:World} {L G:List As}
theorem BN.give (h:BN w0 w L) (hb:EU w.heap.size w w') (hg:Uq (SL w0 S L) w w' G):BN w0 w' (G++L):=by
  have h1:=h.below hb
  refine ⟨h1.1,λy hy b e=>?_,List.pairwise_append.2 ⟨hg.2,h1.2.2,λx hx y hy=>?_⟩⟩
  · rcases List.mem_append.1 hy with hy|hy
    · obtain ⟨h2,h3⟩:=hg.1 y hy b e
      refine ⟨?_,h3⟩
      rcases h2 with h2|⟨h2,_⟩
      · exact .inr (.inl (Nat.le_trans h.size h2))
      · exact .inl h2
    · exact h1.2.1 y hy b e
  · by_cases hr:x.ro=true/\y.ro=true
    · exact .inl hr
    · refine .inr λb e e2=>?_
      rcases (hg.1 x hx b e).1 with h2|⟨h2,⟨z,hz,hzr,hzf⟩,_⟩
      · exact absurd (h.lt hy e2) Z
      · have hyr:¬y.ro=true:=λk=>hr ⟨h2,k⟩
        obtain ⟨i,hi,rfl⟩:=List.getElem_of_mem hz
        obtain ⟨j,hj,rfl⟩:=List.getElem_of_mem hy
        have hp:=List.pairwise_iff_getElem.1 h.2.2
        rcases Nat.lt_trichotomy i j with hij|hij|hij
        · exact (hp i j hi hj hij).elim (λk=>hyr k.2) (λk=>k b hzf e2)
        · subst hij;exact hyr hzr
        · exact (hp j i hj hi hij).elim (λk=>hyr k.1) (λk=>k b e2 hzf)
theorem BN.gives (h:BN ⟨W,none⟩ w L) (hs:G.Sublist L) (hS:Kn ⟨W,none⟩ S G):Uq S W w G:=by
  refine ⟨λx hx b e=>?_,h.2.2.sublist hs⟩
  obtain ⟨h1,h2⟩:=h.2.1 x (hs.subset hx) b e
  refine ⟨?_,h2⟩
  by_cases hr:x.ro=true
  · rcases hS x hx hr b e with h3|h3
    · exact .inl h3
    · exact .inr ⟨hr,h3⟩
  · rcases h1 with h1|h1|h1
    · exact absurd h1 hr
    · exact .inl h1
    · cases h1
theorem Tt {α:Type} {V:α->Value} {LW:α->List As} (hw:BN ⟨W,none⟩ w L) (a:α) (hs:(LW a).Sublist L) (hS:Kn ⟨W,none⟩ S (LW a)) {v:Value} (hv:v=V a):LQ V LW S W (.returned v) w:=⟨a,by rw [hv],hw.out,hw.gives hs hS⟩
theorem Kn.nil:Kn w0 S []:=λy hy=>by cases hy
theorem Kn.own {x:As} (hx:x.ro=false) (h:Kn w0 S G):Kn w0 S (x::G):=λy hy hr b e=>by
  rcases List.mem_cons.1 hy with rfl|hy
  · rw [hx] at hr;cases hr
  · exact h y hy hr b e
theorem Kn.row {α:Type} [Dy α] {a:α} {x:As} (ha:At w0 S a) (hx:Dy.rows a=[x]) (h:Kn w0 S G):Kn w0 S (x::G):=λy hy hr b e=>by
  rcases List.mem_cons.1 hy with rfl|hy
  · exact ha y (by rw [hx];exact List.mem_cons_self) b e
  · exact h y hy hr b e
end
section
variable {P:Program} {ops:Array Oper} {rest:List Oper} {Q:Exit->Act->World->Prop} {n d:Nat} {F:List (Nat×Value)} {w0:BL} {S:Nat->Prop} {L:List As} {t:TypeId} {p:String} {af:Array Edge} {y:Operand} {f:FuncId} {xs:List Operand} {args:List Value} {ts:Array TypeId} {α:Type} {V:α->Value} {LW:α->List As}
theorem AE.callL (hc:∀args w,(callFunc f args).run P w=.ok (.enter f args) w) (h:∀w,BN w0 w L->Calls P f args.toArray w (LQ V LW (SL w0 S L) w))
    (h2:(evF F y,xs.map (evF F),Nat.ble (d+1) n)=(some (.func (.func f) #[] #[]),args.map some,true)) (next:∀a:α,Kn w0 S (LW a)->AE P ops rest Q n ((d,V a)::F) w0 (LW a++L)) :
    AE P ops (⟨some d,.call { callee:=.value y,args:=xs.toArray,argTypes:=ts },t,p,af,none⟩::rest) Q n F w0 L:=λa w ha hW=>by
  unfold wpList
  rw [if_pos (AQ rfl a ha)]
  left
  unfold Oper.wp
  rw [Aw (Cn h2) (Cn (Bd h2)) hc a w ha hW,Oper.upon_enter]
  refine (h w hW).mono ?_
  rintro e w' ⟨x,rfl,hb,hg⟩
  refine next x (λz hz hr b e=>?_) _ _ (ha.put (B3 (Bd (Bd h2)))) (hW.give hb hg)
  rcases (hg.1 z hz b e).1 with h3|⟨_,h3⟩
  · exact .inl (Nat.le_trans hW.size h3)
  · exact h3.2
end
structure OX (T z:Nat) (cs:List Value) (n:Nat) where
  p:Option Addr
  c:Nat
  ok:OwnOk p n c
@[reducible] def WX {T z:Nat} {cs:List Value} {n:Nat} (a:OX T z cs n):Value:=.slice a.p n a.c
@[reducible] def Va {T z:Nat} {cs:List Value} {n:Nat} (a:OX T z cs n):List As:=[rowW a.p T z n a.c cs]
@[reducible] def WQ {T z:Nat} {cs:List Value} {n:Nat} (a:OX T z cs n):Value:=.slice a.p n n
theorem OwnOk.clip {p:Option Addr} {n c:Nat} (h:OwnOk p n c):BB p n n:=⟨λe=>⟨(h.nil e).1,(h.nil e).1⟩,λa e=>by rw [h.at0 a e],Nat.le_refl _⟩
theorem S9 (p:Pt):((Aj p).all λu=>u.oneCell')=true:=rfl
theorem J1 {α:Type} {enc:α->List Value} (h:∀x,((enc x).all λu=>u.oneCell')=true):∀xs:List α,((rowsL enc xs).all λu=>u.oneCell')=true
  | []=>rfl
  | x::r=>by
    have e:rowsL enc (x::r)=enc x++rowsL enc r:=rfl
    rw [e,List.all_append,h x,J1 h r];rfl
section
variable {P:Program} {ops:Array Oper} {rest:List Oper} {Q:Exit->Act->World->Prop} {n d:Nat} {F:List (Nat×Value)} {w0:BL} {S:Nat->Prop} {L L':List As} {t ty T:TypeId} {p:String} {af:Array Edge} {x y:Operand} {dd:Option Tmp} {g:Option (Nat×Bool)} {q:Option Addr} {z m c:Nat} {cs vs:List Value} {v:Value}
theorem Mb {tx ye e:TypeId} (hx:evF F x=some (.slice q m c)) (hy:evF F y=some (.slice none 0 0)) (hu:P.underlying tx=some (.slice e)):Ex P n F w0 L ⟨dd,.binOp .eql tx x y ye,t,p,af,g⟩ (.bool q.isNone):=λA w ha _=>by
  have h1:(eqGuard .eql tx x y (.slice q m c) (.slice none 0 0)).run P w=.ok () w:=rfl
  simp only [execOp,ha.ev hx,ha.ev hy,Sem.run_bind,h1,Result.andThen_ok,Lib.run_eql_slice_nil w tx e q m c 0 0 hu,Sem.run_pure]
theorem AE.appendE0 {s:Operand} {bytes c2:Nat} {q2:Option Addr} {news:List Value} (ht:ElemT P t T z bytes) (hs:evF F s=some (.slice q 0 c)) (ho:OwnOk q 0 c)
    (hx:evF F x=some (.slice q2 m c2)) (hsrc:Vj w0 (rowW q T z 0 c []::L) q2 m news) (hnl:news.length=m*z) (h1:(news.all λu=>u.oneCell')=true) (h63:m<=maxLen) (hbytes:m*bytes<=140737488355328) (hd:Nat.ble (d+1) n=true)
    (next:∀p' c',OwnOk p' m c'->AE P ops rest Q n ((d,.slice p' m c')::F) w0 (rowW p' T z m c' news::L)) :
    AE P ops (⟨some d,.call { callee:=.builtin .append,args:=#[s,x],argTypes:=#[t,t] },ty,p,af,none⟩::rest) Q n F w0 (rowW q T z 0 c []::L):=by
  refine AE.appendS0 (cs2:=news) ht hs ho (by simp) hx hsrc hnl h1 (by rw [Nat.zero_add];exact h63) (by rw [Nat.zero_add];exact hbytes) O hd λp' c' h=>?_
  rw [Nat.zero_add] at h ⊢
  exact next p' c' h
theorem AE.frzRow (i:Nat) (hi:L[i]?=some (rowW q T z m c cs)) (ho:OwnOk q m c) (hl:cs.length=m*z) (hex:w0.ex=none) (hs:NM L i (Ai q cs)=some L') (next:(∀b,q.map (·.block)=some b->w0.w.heap.size<=b)->AE P ops rest Q n F w0 L'):AE P ops rest Q n F w0 L:=λa w ha hw=>by
  refine next (λb e=>?_) a w ha (Gu hs▸hw.freeze hi O (λo hp=>C2 ho hl hp) (λe=>by cases e))
  rcases (hw.2.1 _ (List.mem_of_getElem? hi) b e).1 with h1|h1|h1
  · cases h1
  · exact h1
  · rw [hex] at h1;cases h1
theorem At.new {n:Nat} {cs:List Value} {a:RX cs n} (h:∀b,a.p.map (·.block)=some b->w0.w.heap.size<=b):At w0 S a:=λy hy b e=>by
  rcases List.mem_singleton.1 hy with rfl
  exact .inl (h b e)
end
theorem WH {S:Nat->Prop} {w:World} {ps:List Pt} {ts ss:List (Nat×Nat×Nat)} {x:MX ps ts ss} (h:Ro S w x):Ro S w x.c:=λy hy=>by rcases List.mem_singleton.1 hy with rfl;exact h _ (List.mem_cons_of_mem _ (List.mem_cons_of_mem _ List.mem_cons_self))
structure Wl (ps:List Pt) (ts ss:List (Nat×Nat×Nat)) where
  a:OX 63 10 (rowsL Aj ps) ps.length
  b:OX 79 3 (rowsL Av ts) ts.length
  c:OX 43 3 (rowsL Av ss) ss.length
@[reducible] def Wn {ps:List Pt} {ts ss:List (Nat×Nat×Nat)} (x:Wl ps ts ss):List As:=[rowW x.c.p 43 3 ss.length x.c.c (rowsL Av ss),rowW x.b.p 79 3 ts.length x.b.c (rowsL Av ts),rowW x.a.p 63 10 ps.length x.a.c (rowsL Aj ps)]
structure Vt (ps:List Pt) (ts ss:List (Nat×Nat×Nat)) (l:List Nat) (e:Nat) where
  m:MX ps ts ss
  q:RX (Wc l) l.length
theorem Uz {ps:List Pt} {ts ss:List (Nat×Nat×Nat)} {l:List Nat} {e:Nat} {x:Vt ps ts ss l e} {y:As} (hy:y∈[x.m.a.row,x.m.b.row,x.m.c.row,x.q.row]):y.ro=true:=by
  simp only [List.mem_cons,List.not_mem_nil,or_false] at hy
  rcases hy with rfl|rfl|rfl|rfl<;>rfl
instance {ps:List Pt} {ts ss:List (Nat×Nat×Nat)} {l:List Nat} {e:Nat}:Dy (Vt ps ts ss l e):=⟨λx=>.tuple #[aG (C5 x.m),x.q.val,vN e],λx=>[x.m.a.row,x.m.b.row,x.m.c.row,x.q.row],λx y hy=>Uz hy⟩
section
variable {P:Program} {ops:Array Oper} {rest:List Oper} {Q:Exit->Act->World->Prop} {n d:Nat} {F:List (Nat×Value)} {w0:BL} {S:Nat->Prop} {L:List As} {t:TypeId} {p:String} {af:Array Edge} {y:Operand} {f:FuncId} {xs:List Operand} {args:List Value} {tys:Array TypeId} {ps:List Pt} {ts ss:List (Nat×Nat×Nat)} {l:List Nat} {e:Nat}
end
end
end Go.Proofs.YtfbomiejpbchdaaGreatDoor
