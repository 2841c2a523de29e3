import Derived.Test.YtfbomiejpbchdaaGreatPart06
import Derived.Test.YtfbomiejpbchdaaGreatPart14
import Derived.Test.YtfbomiejpbchdaaGreatPart19
import Derived.Test.YtfbomiejpbchdaaGreatPart20
import Derived.Test.YtfbomiejpbchdaaGreatPart22
import Derived.Test.YtfbomiejpbchdaaGreatPart23
namespace Go.Proofs.YtfbomiejpbchdaaGreat
open Go Go.RowKit Go.Proofs.Tryz
set_option linter.unusedVariables false
set_option linter.unusedSimpArgs false
theorem HH (a b:Rat):a<b\/b<=a:=by grind
def Jt (A B:P2) (x y:Rat):Rat:=((B.1:Rat)-(A.1:Rat))*(y-(A.2:Rat))-((B.2:Rat)-(A.2:Rat))*(x-(A.1:Rat))
def VR (t:P2×P2×P2) (x y:Rat):Prop:=0<Jt t.2.1 t.2.2 x y/\0<Jt t.2.2 t.1 x y/\0<Jt t.1 t.2.1 x y
def inC (t:P2×P2×P2) (x y:Rat):Prop:=0<=Jt t.2.1 t.2.2 x y/\0<=Jt t.2.2 t.1 x y/\0<=Jt t.1 t.2.1 x y
def Z5 (s t:P2×P2×P2):Prop:=∀x y,(VR s x y->¬inC t x y)/\(VR t x y->¬inC s x y)
theorem G4 (u:Nat):((2*u:Nat):Rat)=2*(u:Rat):=by rw [Rat.natCast_mul];rfl
theorem Jn (u:Nat):((2*u+2:Nat):Rat)=2*(u:Rat)+2:=by rw [Rat.natCast_add,G4];rfl
theorem Qy (u:Nat):((2*u+1:Nat):Rat)=2*(u:Rat)+1:=by rw [Rat.natCast_add,G4];rfl
theorem Qj {t:P2×P2×P2} {nx way i u v:Nat} (hu:u=i%nx) (hv:v=i/nx) (ht:t∈Cp nx way i) (x y:Rat) :
    (VR t x y->(2*(u:Rat)<x/\x<2*(u:Rat)+2)/\2*(v:Rat)<y/\y<2*(v:Rat)+2)/\(inC t x y->(2*(u:Rat)<=x/\x<=2*(u:Rat)+2)/\2*(v:Rat)<=y/\y<=2*(v:Rat)+2):=by
  have key:t∈[((2*u,2*v),(2*u+2,2*v),(2*u+2,2*v+2)),((2*u,2*v),(2*u+2,2*v+2),(2*u,2*v+2)),((2*u,2*v),(2*u+2,2*v),(2*u,2*v+2)),((2*u+2,2*v),(2*u+2,2*v+2),(2*u,2*v+2)),
      ((2*u,2*v),(2*u+2,2*v),(2*u+1,2*v+1)),((2*u+2,2*v),(2*u+2,2*v+2),(2*u+1,2*v+1)),((2*u+2,2*v+2),(2*u,2*v+2),(2*u+1,2*v+1)),((2*u,2*v+2),(2*u,2*v),(2*u+1,2*v+1))]:=by
    subst hu;subst hv
    unfold Cp at ht
    simp only at ht
    split at ht
    · simp only [List.mem_cons,List.not_mem_nil,or_false] at ht ⊢;rcases ht with h|h<;>simp [h]
    · split at ht
      · simp only [List.mem_cons,List.not_mem_nil,or_false] at ht ⊢;rcases ht with h|h<;>simp [h]
      · split at ht
        · simp only [List.mem_cons,List.not_mem_nil,or_false] at ht ⊢;rcases ht with h|h|h|h<;>simp [h]
        · cases ht
  clear hu hv ht
  simp only [List.mem_cons,List.not_mem_nil,or_false] at key
  rcases key with rfl|rfl|rfl|rfl|rfl|rfl|rfl|rfl<;>(simp only [VR,inC,Jt,G4,Jn,Qy];generalize (u:Rat)=U;generalize (v:Rat)=V;refine ⟨λh=>?_,λh=>?_⟩<;>obtain ⟨h1,h2,h3⟩:=h<;>refine ⟨⟨?_,?_⟩,?_,?_⟩<;>grind)
theorem Rb {s t:P2×P2×P2} {nx way way' i j:Nat} (hij:i≠j) (hs:s∈Cp nx way i) (ht:t∈Cp nx way' j):Z5 s t:=λx y=>by
  have a:=Qj rfl rfl hs x y
  have b:=Qj rfl rfl ht x y
  have hne:i%nx≠j%nx\/i/nx≠j/nx:=by
    rcases Decidable.em (i%nx=j%nx) with e|e
    · rcases Decidable.em (i/nx=j/nx) with e2|e2
      · exact absurd (by rw [<-Nat.div_add_mod i nx,<-Nat.div_add_mod j nx,e,e2]) hij
      · exact .inr e2
    · exact .inl e
  have lt:∀{p q:Nat},p<q->(p:Rat)+1<=(q:Rat):=λ{p q} h=>by
    have h1:((p+1:Nat):Rat)<=(q:Rat):=by exact_mod_cast h
    rw [Rat.natCast_add] at h1
    exact h1
  have four:(i%nx:Nat)+1<=j%nx\/(j%nx:Nat)+1<=i%nx\/(i/nx:Nat)+1<=j/nx\/(j/nx:Nat)+1<=i/nx:=by omega
  revert a b
  rcases four with h|h|h|h<;>have h:=lt h<;>generalize ((i%nx:Nat):Rat)=A at*<;> generalize ((j%nx:Nat):Rat)=B at*<;> generalize ((i/nx:Nat):Rat)=C at*<;> generalize ((j/nx:Nat):Rat)=D at*<;> intro a b<;>refine ⟨λh1 h2=>?_,λh1 h2=>?_⟩ <;>
    first
      | (have a1:=a.1 h1;have b1:=b.2 h2;obtain ⟨⟨_,_⟩,_,_⟩:=a1;obtain ⟨⟨_,_⟩,_,_⟩:=b1;grind)
      | (have a1:=a.2 h2;have b1:=b.1 h1;obtain ⟨⟨_,_⟩,_,_⟩:=a1;obtain ⟨⟨_,_⟩,_,_⟩:=b1;grind)
theorem Uz (nx way i:Nat):(Cp nx way i).Pairwise Z5:=by
  unfold Cp
  simp only
  generalize i%nx=u
  generalize i/nx=v
  split
  · refine List.pairwise_pair.2 λx y=>?_
    simp only [VR,inC,Jt,G4,Jn];generalize (u:Rat)=U;generalize (v:Rat)=V
    refine ⟨λh k=>?_,λh k=>?_⟩<;>obtain ⟨h1,h2,h3⟩:=h<;>obtain ⟨k1,k2,k3⟩:=k<;>grind
  · split
    · refine List.pairwise_pair.2 λx y=>?_
      simp only [VR,inC,Jt,G4,Jn];generalize (u:Rat)=U;generalize (v:Rat)=V
      refine ⟨λh k=>?_,λh k=>?_⟩<;>obtain ⟨h1,h2,h3⟩:=h<;>obtain ⟨k1,k2,k3⟩:=k<;>grind
    · split
      · simp only [List.pairwise_cons,List.mem_cons,List.not_mem_nil,or_false,forall_eq_or_imp,forall_eq,List.Pairwise.nil,and_true,false_implies,implies_true]
        refine ⟨⟨?_,?_,?_⟩,⟨?_,?_⟩,?_⟩<;>intro x y<;>simp only [VR,inC,Jt,G4,Jn,Qy]<;>generalize (u:Rat)=U<;>generalize (v:Rat)=V<;>refine ⟨λh k=>?_,λh k=>?_⟩<;>obtain ⟨h1,h2,h3⟩:=h<;>obtain ⟨k1,k2,k3⟩:=k<;>grind
      · exact List.Pairwise.nil
theorem EM (m:MQ):∀i t,t∈EN m i->∃j,j<i/\t∈Cp (GD m) (Gh m j) j
  | 0,t,h=>by cases h
  | i+1,t,h=>by
    rcases List.mem_append.1 h with h|h
    · obtain ⟨j,hj,h⟩:=EM m i t h;exact ⟨j,Z,h⟩
    · exact ⟨i,Z,h⟩
theorem K_ (m:MQ):∀i,(EN m i).Pairwise Z5
  | 0=>List.Pairwise.nil
  | i+1=>List.pairwise_append.2 ⟨K_ m i,Uz _ _ _,λs hs t ht=>by
      obtain ⟨j,hj,h⟩:=EM m i s hs
      exact Rb Z h ht⟩
theorem Mc (m:MQ) {i j:Nat} (hi:i<(BD m).length) (hj:j<(BD m).length) (hne:i≠j) (d:P2×P2×P2):∀x y,VR ((BD m).getD i d) x y->¬inC ((BD m).getD j d) x y:=λx y h=>by
  have hp:=List.pairwise_iff_getElem.1 (K_ m (GD m*Rm m))
  rw [List.getD,List.getElem?_eq_getElem hi] at h
  rw [List.getD,List.getElem?_eq_getElem hj]
  rcases Nat.lt_or_gt_of_ne hne with hlt|hgt
  · exact (hp i j hi hj hlt x y).1 h
  · exact (hp j i hj hi hgt x y).2 h
theorem lattice {k:DG} (h:k.Ok) (den:Nat) (q:Pt):∃x y c:Rat,0<c/\∀A B:P2,AJ (CT (Gg k den A)) (CT (Gg k den B)) q=c*Jt A B x y:=by
  have hD:0<(((max den 1:Nat):Int):Rat):=by exact_mod_cast (show (0:Int)<((max den 1:Nat):Int) by omega)
  have hd:(0:Rat)<(k.det:Rat):=by exact_mod_cast h.pos
  have ed:(k.det:Rat)=(k.a:Rat)*(k.d:Rat)-(k.b:Rat)*(k.c:Rat):=by simp only [DG.det,Rat.intCast_sub,Rat.intCast_mul]
  have hi:=Rat.inv_pos.2 hD
  have he:((((max den 1:Nat):Int):Rat)⁻¹)*(((max den 1:Nat):Int):Rat)=1:=Rat.inv_mul_cancel _ (by grind)
  have hdi:((k.det:Rat)⁻¹)*(k.det:Rat)=1:=Rat.inv_mul_cancel _ (by grind)
  obtain ⟨qx,qy⟩:=q
  refine ⟨((k.d:Rat)*qx-(k.b:Rat)*qy)*(((max den 1:Nat):Int):Rat)*(k.det:Rat)⁻¹,((k.a:Rat)*qy-(k.c:Rat)*qx)*(((max den 1:Nat):Int):Rat)*(k.det:Rat)⁻¹,(k.det:Rat)*((((max den 1:Nat):Int):Rat)⁻¹*(((max den 1:Nat):Int):Rat)⁻¹),Rat.mul_pos hd (Rat.mul_pos hi hi),λA B=>?_⟩
  simp only [Ci,CT,Gg,Nx,DG.at_,Jt,Rat.div_def,Rat.intCast_add,Rat.intCast_mul]
  rw [ed] at hdi ⊢
  clear hD hd hi ed
  generalize (((max den 1:Nat):Int):Rat)⁻¹=e at *
  generalize (((max den 1:Nat):Int):Rat)=D at *
  simp only [Rat.intCast_natCast]
  generalize ((k.a:Rat)*(k.d:Rat)-(k.b:Rat)*(k.c:Rat))⁻¹=f at *
  generalize (k.a:Rat)=a at *
  generalize (k.b:Rat)=b at *
  generalize (k.c:Rat)=c at *
  generalize (k.d:Rat)=d at *
  generalize (A.1:Rat)=A1
  generalize (A.2:Rat)=A2
  generalize (B.1:Rat)=B1
  generalize (B.2:Rat)=B2
  clear h
  have hx:qx=(a*((d*qx-b*qy)*D*f)+b*((a*qy-c*qx)*D*f))*e:=by grind
  have hy:qy=(c*((d*qx-b*qy)*D*f)+d*((a*qy-c*qx)*D*f))*e:=by grind
  generalize (d*qx-b*qy)*D*f=X at *
  generalize (a*qy-c*qx)*D*f=Y at *
  subst hx
  subst hy
  grind
theorem D5 {α:Type} {enc:α->List Value} {z:Nat} (h:∀x,(enc x).length=z) (d:α) (xs:List α) (j r:Nat) (hj:j<xs.length) (hr:r<z) {v:Value} (hv:(enc (xs.getD j d))[r]?=some v):(rowsL enc xs)[j*z+r]?=some v:=by
  have h1:=Aw h d xs j hj
  rw [<-h1,List.getElem?_take_of_lt hr,List.getElem?_drop] at hv
  exact hv
theorem BT (p:Pt):(Aj p).length=10:=rfl
structure Y0 (ps:List Pt) (t:Nat×Nat×Nat):Prop where
  a:t.1<ps.length
  b:t.2.1<ps.length
  c:t.2.2<ps.length
  ab:t.1≠t.2.1
  bc:t.2.1≠t.2.2
  ca:t.2.2≠t.1
  pos:0<AJ (ps.getD t.1 ⟨0,0⟩) (ps.getD t.2.1 ⟨0,0⟩) (ps.getD t.2.2 ⟨0,0⟩)
def Z1 (ps:List Pt) (t:Nat×Nat×Nat) (q:Pt):Prop:=0<AJ q (ps.getD t.2.1 ⟨0,0⟩) (ps.getD t.2.2 ⟨0,0⟩)/\0<AJ (ps.getD t.1 ⟨0,0⟩) q (ps.getD t.2.2 ⟨0,0⟩)/\0<AJ (ps.getD t.1 ⟨0,0⟩) (ps.getD t.2.1 ⟨0,0⟩) q
def Lb (ps:List Pt) (t:Nat×Nat×Nat) (q:Pt):Prop:=0<=AJ q (ps.getD t.2.1 ⟨0,0⟩) (ps.getD t.2.2 ⟨0,0⟩)/\0<=AJ (ps.getD t.1 ⟨0,0⟩) q (ps.getD t.2.2 ⟨0,0⟩)/\0<=AJ (ps.getD t.1 ⟨0,0⟩) (ps.getD t.2.1 ⟨0,0⟩) q
def B_ (m:MQ):Nat:=1+m.den%6
def SW (m:MQ) (z:Int×Int):PD:=⟨⟨z.1,B_ m⟩,⟨z.2,B_ m⟩⟩
def SF (m:MQ) (zs:List (Int×Int)) (i:Nat):List Pt:=(zs.take i).map λz=>CT (SW m z)
theorem Jx {m:MQ} {zs:List (Int×Int)} {i:Nat} (h:i<=zs.length):(SF m zs i).length=i:=by simp [SF];omega
theorem Sc {m:MQ} {zs:List (Int×Int)} {i:Nat} (h:i<zs.length):SF m zs (i+1)=SF m zs i++[CT (SW m (zs.getD i (0,0)))]:=by
  unfold SF
  rw [List.take_add_one,List.getElem?_eq_getElem h,List.map_append,List.getD,List.getElem?_eq_getElem h]
  rfl
theorem Qp {m:MQ} {zs:List (Int×Int)} {i:Nat} (h:i<zs.length):(SF m zs zs.length).getD i ⟨0,0⟩=CT (SW m (zs.getD i (0,0))):=by
  unfold SF
  rw [List.take_length,List.getD,List.getElem?_map,List.getElem?_eq_getElem h,List.getD,List.getElem?_eq_getElem h]
  rfl
def Fq (m:MQ) (pl:List P2):List (Int×Int):=pl.map λp=>(mapM m).at_ p
structure F0 (ps:List Pt) (ts:List (Nat×Nat×Nat)):Prop where
  ne:ts≠[]
  tl:ts.length<=36
  pl:ps.length<=108
  sz:∀i,B5 (ps.getD i ⟨0,0⟩)<=4
  tri:∀j,j<ts.length->Y0 ps (ts.getD j (0,0,0))
  apart:∀i j,i<ts.length->j<ts.length->i≠j->∀q,Z1 ps (ts.getD i (0,0,0)) q->¬Lb ps (ts.getD j (0,0,0)) q
  lat:∃(m:MQ) (pl:List P2),NH m (BD m).length pl ts/\XR pl/\ps=SF m (Fq m pl) pl.length
structure MG where
  ps:List Pt
  ts:List (Nat×Nat×Nat)
  ss:List (Nat×Nat×Nat)
  good:F0 ps ts
  sl:ss.length<=108*108
  sd:∃m:MQ,ss=Fs m ts ps.length ps.length
  a:RX (rowsL Aj ps) ps.length
  b:RX (rowsL An ts) ts.length
  c:RX (rowsL An ss) ss.length
def Zs (x:MG):List Value:=[x.a.val,x.b.val,x.c.val]
theorem XW {x:MG} {y:As} (hy:y∈[x.a.row,x.b.row,x.c.row]):y.ro=true:=by
  simp only [List.mem_cons,List.not_mem_nil,or_false] at hy
  rcases hy with rfl|rfl|rfl<;>rfl
instance:EQ MG:=⟨λx=>aG (Zs x),λx=>[x.a.row,x.b.row,x.c.row],λx y hy=>XW hy⟩
theorem aI {S:Nat->Prop} {W w:World} {L:List As} {m:MQ} {x:WM m} (h:Ro (SL ⟨W,none⟩ S L) w x):Holds w x.b.row/\∀b,x.b.row.foot=some b->W.heap.size<=b\/S b:=by
  have h1:=h x.b.row (List.mem_cons_of_mem _ List.mem_cons_self)
  exact ⟨h1.1,λb e=>(h1.2 b e).2⟩
theorem Jo {m:MQ} {pl:List P2} {i:Nat} (h:i<pl.length):(Fq m pl).getD i (0,0)=(mapM m).at_ (pl.getD i (0,0)):=by
  simp [Fq,List.getD,h]
theorem XS {m:MQ} {pl:List P2} (hs:∀p∈pl,p.1<=6/\p.2<=6) {i:Nat} (h:i<pl.length):(SW m ((Fq m pl).getD i (0,0))).ok:=by
  rw [Jo h]
  have hp:=hs (pl.getD i (0,0)) (by rw [List.getD,List.getElem?_eq_getElem h];exact List.getElem_mem h)
  obtain ⟨⟨h1,h2⟩,h3,h4⟩:=Tr (Fm m.a m.b m.c m.d) hp
  have hd:B_ m<4294967296:=by unfold B_;omega
  have e:mapM m=Gi m.a m.b m.c m.d:=rfl
  rw [<-e] at h1 h2 h3 h4
  exact ⟨⟨by show -9223372036854775808<=((mapM m).at_ _).1;omega,by show ((mapM m).at_ _).1<_;omega,hd⟩,⟨by show -9223372036854775808<=((mapM m).at_ _).2;omega,by show ((mapM m).at_ _).2<_;omega,hd⟩⟩
theorem FC (a b c:P2):B3 b c a=B3 a b c:=by unfold B3;grind
theorem DI (a b:P2):B3 a a b=0/\B3 a b b=0/\B3 b a b=0:=by unfold B3;exact ⟨by grind,by grind,by grind⟩
theorem R7 {m:MQ} {t:Nat} (h:t<(BD m).length):0<B3 (Ay m t 0) (Ay m t 1) (Ay m t 2):=by
  have h1:=HO m ((BD m).getD t ((0,0),(0,0),(0,0))) (by rw [List.getD,List.getElem?_eq_getElem h];exact List.getElem_mem h)
  unfold Ay I3
  generalize (BD m).getD t ((0,0),(0,0),(0,0))=c at *
  generalize t*(m.fst/3)=q at *
  have h0:=h1.1
  have e:(m.fst+q)%3=0\/(m.fst+q)%3=1\/(m.fst+q)%3=2:=by omega
  rcases e with e|e|e
  · rw [show (0+m.fst+q)%3=0 by omega,show (1+m.fst+q)%3=1 by omega,show (2+m.fst+q)%3=2 by omega]
    exact h0
  · rw [show (0+m.fst+q)%3=1 by omega,show (1+m.fst+q)%3=2 by omega,show (2+m.fst+q)%3=0 by omega]
    show 0<B3 c.2.1 c.2.2 c.1
    rw [FC];exact h0
  · rw [show (0+m.fst+q)%3=2 by omega,show (1+m.fst+q)%3=0 by omega,show (2+m.fst+q)%3=1 by omega]
    show 0<B3 c.2.2 c.1 c.2.1
    rw [FC c.2.1,FC];exact h0
theorem Nk (m:MQ) (t:Nat) (x y:Rat):(0<Jt (Ay m t 1) (Ay m t 2) x y->0<Jt (Ay m t 2) (Ay m t 0) x y->0<Jt (Ay m t 0) (Ay m t 1) x y->VR ((BD m).getD t ((0,0),(0,0),(0,0))) x y) /\
    (0<=Jt (Ay m t 1) (Ay m t 2) x y->0<=Jt (Ay m t 2) (Ay m t 0) x y->0<=Jt (Ay m t 0) (Ay m t 1) x y->inC ((BD m).getD t ((0,0),(0,0),(0,0))) x y):=by
  unfold Ay I3
  generalize (BD m).getD t ((0,0),(0,0),(0,0))=c at *
  generalize t*(m.fst/3)=q at *
  have e:(m.fst+q)%3=0\/(m.fst+q)%3=1\/(m.fst+q)%3=2:=by omega
  rcases e with e|e|e
  · rw [show (0+m.fst+q)%3=0 by omega,show (1+m.fst+q)%3=1 by omega,show (2+m.fst+q)%3=2 by omega]
    exact ⟨λa b c=>⟨a,b,c⟩,λa b c=>⟨a,b,c⟩⟩
  · rw [show (0+m.fst+q)%3=1 by omega,show (1+m.fst+q)%3=2 by omega,show (2+m.fst+q)%3=0 by omega]
    exact ⟨λa b c=>⟨c,a,b⟩,λa b c=>⟨c,a,b⟩⟩
  · rw [show (0+m.fst+q)%3=2 by omega,show (1+m.fst+q)%3=0 by omega,show (2+m.fst+q)%3=1 by omega]
    exact ⟨λa b c=>⟨b,c,a⟩,λa b c=>⟨b,c,a⟩⟩
theorem Pj {c z:Rat} (hc:0<c) (h:0<c*z):0<z:=by
  rcases HH 0 z with h1|h1
  · exact h1
  · have:=Rat.mul_nonneg (show 0<=c by grind) (show 0 <= -z by grind)
    grind
theorem Hb {c z:Rat} (hc:0<c) (h:0<=c*z):0<=z:=by
  rcases HH z 0 with h1|h1
  · have:=Rat.mul_pos hc (show 0 < -z by grind)
    grind
  · exact h1
theorem Wy {m:MQ} (x:WM m) {ps:List Pt} (h:ps=SF m (Fq m x.pl) x.pl.length):F0 ps x.ts:=by
  have hz:(Fq m x.pl).length=x.pl.length:=by simp [Fq]
  rw [<-hz] at h
  have hl:ps.length=x.pl.length:=by rw [h,Jx (Nat.le_refl _),hz]
  have hg:∀i,i<x.pl.length->ps.getD i ⟨0,0⟩=CT (Gg (mapM m) (B_ m) (x.pl.getD i (0,0))):=λi hi=>by
    rw [h,Qp (by rw [hz];exact hi),Jo hi];rfl
  have hi:=x.inv
  have hcl:=Hl m
  refine ⟨λe=>RV m (List.eq_nil_of_length_eq_zero (by rw [<-hi.tl,e];rfl)),by rw [hi.tl];exact hcl,by rw [hl];have:=hi.pll;omega,λi=>?_,λj hj=>?_,λi j hi1 hj1 hne q ho hcl2=>?_,⟨m,x.pl,x.inv,x.dst,by rw [h,hz]⟩⟩
  · rcases Nat.lt_or_ge i x.pl.length with h1|h1
    · have hok:=XS (m:=m) hi.small h1
      rw [hg i h1]
      have:=VQ hok
      rw [Jo h1] at this
      exact this
    · rw [List.getD,List.getElem?_eq_none (by rw [hl];exact h1)];decide +kernel
  · rw [hi.tl] at hj
    have ht:=hi.at_ j hj
    have hc:=R7 hj
    have hp:=Va (Fm m.a m.b m.c m.d) (B_ m) hc
    obtain ⟨⟨a1,a2⟩,⟨b1,b2⟩,⟨c1,c2⟩⟩:=ht
    refine ⟨by rw [hl];exact a1,by rw [hl];exact b1,by rw [hl];exact c1,λe=>?_,λe=>?_,λe=>?_,?_⟩
    · rw [e,b2] at a2;rw [<-a2,(DI _ _).1] at hc;omega
    · rw [e,c2] at b2;rw [<-b2,(DI _ _).2.1] at hc;omega
    · rw [e,a2] at c2;rw [<-c2,(DI _ _).2.2] at hc;omega
    · rw [hg _ a1,hg _ b1,hg _ c1,a2,b2,c2];exact hp
  · rw [hi.tl] at hi1 hj1
    obtain ⟨x',y',c,hc,key⟩:=lattice (Fm m.a m.b m.c m.d) (B_ m) q
    obtain ⟨⟨a1,a2⟩,⟨b1,b2⟩,⟨c1,c2⟩⟩:=hi.at_ i hi1
    obtain ⟨⟨d1,d2⟩,⟨e1,e2⟩,⟨f1,f2⟩⟩:=hi.at_ j hj1
    obtain ⟨o1,o2,o3⟩:=ho
    obtain ⟨k1,k2,k3⟩:=hcl2
    rw [hg _ b1,hg _ c1,b2,c2,<-F6,show mapM m=Gi m.a m.b m.c m.d from rfl,key] at o1
    rw [hg _ a1,hg _ c1,a2,c2,F6,show mapM m=Gi m.a m.b m.c m.d from rfl,key] at o2
    rw [hg _ a1,hg _ b1,a2,b2,show mapM m=Gi m.a m.b m.c m.d from rfl,key] at o3
    rw [hg _ e1,hg _ f1,e2,f2,<-F6,show mapM m=Gi m.a m.b m.c m.d from rfl,key] at k1
    rw [hg _ d1,hg _ f1,d2,f2,F6,show mapM m=Gi m.a m.b m.c m.d from rfl,key] at k2
    rw [hg _ d1,hg _ e1,d2,e2,show mapM m=Gi m.a m.b m.c m.d from rfl,key] at k3
    exact Mc m hi1 hj1 hne _ x' y' ((Nk m i x' y').1 (Pj hc o1) (Pj hc o2) (Pj hc o3)) ((Nk m j x' y').2 (Hb hc k1) (Hb hc k2) (Hb hc k3))
def ZQ (m:MQ) (ps:List Pt) (ts:List (Nat×Nat×Nat)):Prop:=∃pl:List P2,NH m (BD m).length pl ts/\XR pl/\ps=SF m (Fq m pl) pl.length
theorem V6 {m:MQ} (x:WM m) {ps:List Pt} (h:ps=SF m (Fq m x.pl) x.pl.length):ZQ m ps x.ts:=⟨x.pl,x.inv,x.dst,h⟩
structure MF (m:MQ) where
  g:MG
  lat:ZQ m g.ps g.ts
instance {m:MQ}:EQ (MF m):=⟨λx=>aG (Zs x.g),λx=>[x.g.a.row,x.g.b.row,x.g.c.row],λx y hy=>XW hy⟩
theorem Bb.ofMF {m:MQ} {S:Nat->Prop} {W w:World} {e:Ending} (h:Bb (MF m) S W e w):Bb MG S W e w:=by
  obtain ⟨a,h1,h2,h3⟩:=h
  exact ⟨a.g,h1,h2,h3⟩
structure Yu (m:MQ) where
  f:MF m
  ob:OwnOk f.g.b.p f.g.ts.length f.g.b.c
  da:∀x,f.g.b.p.map (·.block)=some x->f.g.a.p.map (·.block)≠some x
  dc:∀x,f.g.b.p.map (·.block)=some x->f.g.c.p.map (·.block)≠some x
def Te {m:MQ} (y:Yu m):As:=ZP y.f.g.b.p 76 3 y.f.g.ts.length y.f.g.b.c (rowsL An y.f.g.ts)
instance {m:MQ}:EQ (Yu m):=⟨λy=>aG (Zs y.f.g),λy=>[y.f.g.a.row,y.f.g.b.row,y.f.g.c.row,Te y],λx y hy=>by
  simp only [List.mem_cons,List.not_mem_nil,or_false] at hy
  rcases hy with rfl|rfl|rfl|rfl<;>rfl⟩
theorem YC {m:MQ} {W w:World} {L:List As} (hw:Own ⟨W,none⟩ w L) (x:Yu m) (h1:Holds w x.f.g.a.row/\∀b,x.f.g.a.row.foot=some b->W.heap.size<=b\/False) (h2:Holds w x.f.g.b.row/\∀b,x.f.g.b.row.foot=some b->W.heap.size<=b\/False) (h3:Holds w x.f.g.c.row/\∀b,x.f.g.c.row.foot=some b->W.heap.size<=b\/False) (h4:Holds w (Te x)/\∀b,(Te x).foot=some b->W.heap.size<=b\/False) {v:Value} (hv:v=aG (Zs x.f.g)):Bb (Yu m) (λ_=>False) W (.returned v) w:=by
  refine ⟨x,by rw [hv];rfl,hw.out,λy hy=>?_⟩
  have hy:y∈[x.f.g.a.row,x.f.g.b.row,x.f.g.c.row,Te x]:=hy
  simp only [List.mem_cons,List.not_mem_nil,or_false] at hy
  rcases hy with rfl|rfl|rfl|rfl
  · exact h1
  · exact h2
  · exact h3
  · exact h4
theorem Bb.ofMGF {m:MQ} {S:Nat->Prop} {W w:World} {e:Ending} (h:Bb (Yu m) (λ_=>False) W e w):Bb (MF m) S W e w:=by
  obtain ⟨a,h1,h2,h3⟩:=h
  refine ⟨a.f,h1,h2,λy hy=>?_⟩
  have h4:=h3 y (by
    have hy:y∈[a.f.g.a.row,a.f.g.b.row,a.f.g.c.row]:=hy
    show y∈[a.f.g.a.row,a.f.g.b.row,a.f.g.c.row,Te a]
    simp only [List.mem_cons,List.not_mem_nil,or_false] at hy ⊢
    rcases hy with rfl|rfl|rfl<;>simp)
  exact ⟨h4.1,λb e=>(h4.2 b e).imp id λk=>k.elim⟩
section
set_option maxRecDepth 100000
theorem U7 (q:QD) (h:q.ok) (w:World)  :Calls prog 115 #[(aG (Xn q))] w (Av w (aG (AH (Nx q)))):=by
 obtain ⟨h1,h2,h3⟩:=h
 refine Ag (args:=[(aG (Xn q))]) func115 O O (Ab O) (AF.subF (sL [0] O) (q4 (Bo (cs:=Xn q) O λb1=>al DL O λb2=>q3 (sL [1,2] O) ?_)))
 refine AI (v:=(pP b1 0)) (AA O underlying104 O sizeOf2 O) O (BK 1 (vI q.n) NA O (AI (v:=(pP b1 1)) (AA O underlying104 O sizeOf101 O) O (BK 1 (vK .u32 q.d) ZH O (AI (Fu (c:=((max q.d 1:Nat):Int)) O O (by split<;>omega)) O (AI (A9 (c:=((max q.d 1:Nat):Int)) O underlying101 underlying2 (CW Z)) O ?_)))))
 refine BW call152 (PT (q.n:Int) ((max q.d 1:Nat):Int) Z Z Z Z Z) O (AR O (AI (AU (v:=(aG (AH (((q.n:Int):Rat)/(((max q.d 1:Nat):Int):Rat))))) O O) O (AI (AU (v:=(vI 0)) O O) O (al DL O λb3=>Aq O sizeOf53 O ?_))))
 refine AO O (q3 (sL [2,3] O) (A6 0 BP O (Cq O sizeOf53 O (AE.nil (AC.subF (sL [2,3] O) ?_)))))
 exact AC.then_ (AF.ret (AT O (A7 (i:=1) (cs:=AH (((q.n:Int):Rat)/(((max q.d 1:Nat):Int):Rat))) O O isAgg53 sizeOf53 O) (λw hw=>⟨rfl,hw.out⟩)))
theorem E1 (x0:Rat) (x1:Rat):Instr.fill ([(0,5),(5,5)].toArray[·]?) (Aj (⟨0,0⟩:Pt)).toArray [(0,.agg (AH x0).toArray),(1,.agg (AH x1).toArray)]=some (AH x0++AH x1).toArray:=by kernel_rfl
theorem YK (p:PD) (h:p.ok) (w:World)  :Calls prog 45 #[(aG (Z8 p))] w (Av w (aG (Aj (CT p)))):=by
 have h1:=h.1
 have h2:=h.2
 refine Ag (args:=[(aG (Z8 p))]) func45 O O (Ab O) (AF.subF (sL [0] O) (q4 (Bo (cs:=Z8 p) O λb1=>al Dq O λb2=>q6 (sL [1,2] O) ?_)))
 refine Cu [(0,true),(1,true),(3,true),(4,true),(2,false),(5,false),(6,true),(7,false)] (sl sr) (Ax (v:=(pP b1 0)) O (AA O underlying106 O sizeOf104 O) (HU 0 (Xn p.x) Xb O (Ax (v:=(pP b1 2)) O (AA O underlying106 O sizeOf104 O) (HU 0 (Xn p.y) Xb O (AV.imp O ?_)))))
 refine BW call115 (U7 p.x (by assumption)) O (AV.back (sl sr) (AV.imp O (BW call115 (U7 p.y (by assumption)) O (AV.back (sl sr) (Ax (v:=(aG (AH (Nx p.x)++AH (Nx p.y)))) O (Ad (zs:=Aj (⟨0,0⟩:Pt)) (vs:=AH (Nx p.x)++AH (Nx p.y)) (pv:=[(0,(aG (AH (Nx p.x)))),(1,(aG (AH (Nx p.y))))]) (places:=[(0,5),(5,5)]) zeroValue55 underlying55 (λw=>by simp [sizeOf53]) O (E1 (Nx p.x) (Nx p.y))) ?_)))))
 refine AV.imp O (Aq O sizeOf55 O (AV.back (sl sr) (AV.nil (AC.subF (sL [2] O) (AC.then_ ?_)))))
 exact AF.ret (AT O (A7 (i:=0) (cs:=AH (Nx p.x)++AH (Nx p.y)) O O isAgg55 sizeOf55 O) (λw hw=>⟨rfl,hw.out⟩))
end
section
set_option maxRecDepth 100000
theorem ZL:ElemT prog 29 44 3 24:=⟨underlying29,Eb (by kernel_rfl)⟩
theorem X9:ElemT prog 27 55 10 112:=⟨underlying27,Eb (by kernel_rfl)⟩
theorem Kq (x0:Pt):Instr.fill (λi=>some (i*10,10)) ((Array.range (1*10)).map ((Value.agg (Aj (⟨0,0⟩:Pt)).toArray).cells[·%(Value.agg (Aj (⟨0,0⟩:Pt)).toArray).cells.size]!)) [(0,.agg (Aj x0).toArray)]=some (Aj x0).toArray:=by kernel_rfl
theorem Kw (x0:Nat×Nat×Nat):Instr.fill (λi=>some (i*3,3)) ((Array.range (1*3)).map ((Value.agg (An ((0,0,0):Nat×Nat×Nat)).toArray).cells[·%(Value.agg (An ((0,0,0):Nat×Nat×Nat)).toArray).cells.size]!)) [(0,.agg (An x0).toArray)]=some (An x0).toArray:=by kernel_rfl
set_option maxHeartbeats 2000000 in
theorem SJ (m:MQ) (w:World) {S:Nat->Prop} (hm:Ro S w m):Calls prog 11 #[(aG (Ek m))] w (Bb (Yu m) (λ_=>False) w):=by
 have hd:=m.hden
 have hdm:B_ m<256:=by unfold B_;omega
 have lm:=EA (W:=w) hm
 refine BF (args:=[(aG (Ek m))]) (L:=[AZ m.p (Cc m.cs)]) func11 O O (Ab O) (EB hm BR) (AF.subF (sL [0] O) (q4 (Bo (cs:=Ek m) O λb1=>al Le O λb2=>q3 (sL [1,2] O) ?_)))
 refine A6 1 NY O (AE.callR (S:=λ_=>False) (α:=YE m) (args:=[(aG (Ek m))]) call44 (λw hw=>(PB m w (DB hw 2 O lm)).mono λe w1 h=>h.weak λb k=>k.elim) O O O λgf lgf=>al Xe O λb3=>Aq O sizeOf99 O (q3 (sL [1,2,3] O) (al Le O λb4=>?_)))
 refine AE.nilRow 55 10 (AE.nilRow 44 3 (AE.nil (q2 (AI (v:=(pP b1 7)) (AA O underlying26 O sizeOf5 O) O (BK 9 (vK .u8 m.den) SY O ?_)))))
 refine AI (CC (c:=((m.den%6:Nat):Int)) O O Z (H2 (a:=m.den) (b:=6))) O (AI (AY (c:=((B_ m:Nat):Int)) O O (Ww (a:=1) (b:=m.den%6) Z)) O (AI (A9 (c:=((B_ m:Nat):Int)) O underlying5 underlying101 (Cf Z)) O (AO O (q6 (sL [1,2,3,4,5] O) (q4 ?_)))))
 refine AO O (AE.nil (AC.then_ (AF.block ?_)))
 refine AF.lp4 (tg λ(i:Nat) (p1:Option Addr) (c1:Nat) (ps:List Pt)=>i<=gf.x.pl.length/\OwnOk p1 ps.length c1/\ps=SF m (Fq m gf.x.pl) i) (tg λ(i:Nat) (p1:Option Addr) (c1:Nat) (ps:List Pt)=>[(2,(pP b2 0)),(3,(pP b3 0)),(4,(pP b4 0)),(5,(vK .u32 (B_ m))),(6,(vN i))]) (tg λ(i:Nat) (p1:Option Addr) (c1:Nat) (ps:List Pt)=>[rowW none 44 3 0 0 (rowsL An ([])),rowW p1 55 10 ps.length c1 (rowsL Aj ps),Af b4 31 ([(Value.slice p1 ps.length c1),(Value.slice none 0 0),(Value.slice none 0 0)]),Af b3 99 ([(Value.slice gf.x.a.p gf.x.pl.length gf.x.a.c),(Value.slice gf.x.b.p gf.x.ts.length gf.x.b.c),(Value.slice gf.x.c.p gf.x.ss.length gf.x.c.c)]),AZ gf.x.a.p (rowsL CZ (Fq m gf.x.pl)),AZ gf.x.b.p (rowsL An gf.x.ts),AZ gf.x.c.p (rowsL An gf.x.ss),NJ gf,Af b2 31 ([(Value.slice none 0 0),(Value.slice none 0 0),(Value.slice none 0 0)]),Af b1 26 (Ek m),AZ m.p (Cc m.cs)]) (tg λ(i:Nat) (p1:Option Addr) (c1:Nat) (ps:List Pt)=>gf.x.pl.length-i) 0 none 0 ([]:List Pt) (⟨Nat.zero_le _,OwnOk.none,rfl⟩) (sF O) sr (λi p1 c1 ps hJ=>?_)
 obtain ⟨hi,h1,hps⟩:=hJ
 have hzl:(Fq m gf.x.pl).length=gf.x.pl.length:=by simp [Fq]
 have hll:=gf.x.inv.pll
 have hcl:=Hl m
 have hpl:ps.length<=108:=by rw [hps,Jx (by rw [hzl];omega)];omega
 refine AF.seq (q4 (AR O (AI (v:=(pP b3 0)) (AA O underlying99 O sizeOf97 O) O (BK 3 (Value.slice gf.x.a.p gf.x.pl.length gf.x.a.c) SR O (AI (v:=(vN gf.x.pl.length)) (AG O underlying97) O ?_)))))
 refine AI (Am (c:=(decide (i<gf.x.pl.length))) O O (C6 (a:=i) (b:=gf.x.pl.length))) O (AE.nil (AC.subF (sL [2,3,4,5,6,20] O) (AC.then_ ?_)))
 refine AF.cond O (λhc0=>?_) (λhc0=>?_)
 ·replace hc0:=of_decide_eq_true hc0
  refine AF.skip (q1 (AF.block (AF.seq (Cu [(0,true),(1,true),(2,true),(3,true),(4,true),(5,true),(6,true),(7,true),(8,true),(9,true),(10,true),(11,true),(12,true),(13,true),(14,true),(15,true),(16,true),(17,false),(18,false)] sr (Ax (v:=(pP b3 0)) O (AA O underlying99 O sizeOf97 O) ?_)))))
  refine Bj 3 (Value.slice gf.x.a.p gf.x.pl.length gf.x.a.c) SR O (Bf O (Ax (v:=(pP (pB gf.x.a.p) (pO gf.x.a.p+i*2))) O (AQ (j:=i) O O gf.x.a.ok underlying97 sizeOf102 O Z) (Ax (v:=(pP (pB gf.x.a.p) (pO gf.x.a.p+(i*2+0)))) O (AD (j:=0) O O underlying102 sizeOf2 O (by decide) (Nat.add_assoc _ _ _)) (Ax O (Ai (v:=(vI (((Fq m gf.x.pl).getD i ((0,0):Int×Int)).1))) (i:=4) O O (BQ.ne gf.x.a.ok Z) NA (D5 F_ ((0,0):Int×Int) _ _ 0 Z (by decide) O)) (Bf O ?_)))))
  refine Ax (v:=(aG ([(vI (((Fq m gf.x.pl).getD i ((0,0):Int×Int)).1)),(vK .u32 (B_ m))]))) O (Ad (zs:=[(vI 0),(Value.int .u32 (0:Int))]) (vs:=[(vI (((Fq m gf.x.pl).getD i ((0,0):Int×Int)).1)),(vK .u32 (B_ m))]) (pv:=[(0,(vI (((Fq m gf.x.pl).getD i ((0,0):Int×Int)).1))),(1,(vK .u32 (B_ m)))]) (places:=[(0,1),(1,1)]) zeroValue104 underlying104 (λw=>by simp [sizeOf2,sizeOf101]) O O) (Ax (v:=(pP b3 0)) O (AA O underlying99 O sizeOf97 O) (Bj 3 (Value.slice gf.x.a.p gf.x.pl.length gf.x.a.c) SR O (Bf O (Ax (v:=(pP (pB gf.x.a.p) (pO gf.x.a.p+i*2))) O (AQ (j:=i) O O gf.x.a.ok underlying97 sizeOf102 O Z) (Ax (v:=(pP (pB gf.x.a.p) (pO gf.x.a.p+(i*2+1)))) O (AD (j:=1) O O underlying102 sizeOf2 O (by decide) (Nat.add_assoc _ _ _)) ?_)))))
  refine Ax O (Ai (v:=(vI (((Fq m gf.x.pl).getD i ((0,0):Int×Int)).2))) (i:=4) O O (BQ.ne gf.x.a.ok Z) NA (D5 F_ ((0,0):Int×Int) _ _ 1 Z (by decide) O)) (Bf O (Ax (v:=(aG ([(vI (((Fq m gf.x.pl).getD i ((0,0):Int×Int)).2)),(vK .u32 (B_ m))]))) O (Ad (zs:=[(vI 0),(Value.int .u32 (0:Int))]) (vs:=[(vI (((Fq m gf.x.pl).getD i ((0,0):Int×Int)).2)),(vK .u32 (B_ m))]) (pv:=[(0,(vI (((Fq m gf.x.pl).getD i ((0,0):Int×Int)).2))),(1,(vK .u32 (B_ m)))]) (places:=[(0,1),(1,1)]) zeroValue104 underlying104 (λw=>by simp [sizeOf2,sizeOf101]) O O) (Ax (v:=(aG ([(vI (((Fq m gf.x.pl).getD i ((0,0):Int×Int)).1)),(vK .u32 (B_ m)),(vI (((Fq m gf.x.pl).getD i ((0,0):Int×Int)).2)),(vK .u32 (B_ m))]))) O (Ad (zs:=[(vI 0),(Value.int .u32 (0:Int)),(vI 0),(Value.int .u32 (0:Int))]) (vs:=[(vI (((Fq m gf.x.pl).getD i ((0,0):Int×Int)).1)),(vK .u32 (B_ m)),(vI (((Fq m gf.x.pl).getD i ((0,0):Int×Int)).2)),(vK .u32 (B_ m))]) (pv:=[(0,(aG ([(vI (((Fq m gf.x.pl).getD i ((0,0):Int×Int)).1)),(vK .u32 (B_ m))]))),(1,(aG ([(vI (((Fq m gf.x.pl).getD i ((0,0):Int×Int)).2)),(vK .u32 (B_ m))])))]) (places:=[(0,2),(2,2)]) zeroValue106 underlying106 (λw=>by simp [sizeOf104]) O O) (AV.imp O (al Zf O λb5=>?_)))))
  refine AV.back (sl sr) (AV.imp O (Aq O sizeOf106 O (AV.back (sl sr) (AV.nil (AC.subF (sL [2,3,4,5,6,7] O) ?_)))))
  refine AC.then_ (rC [(0,true),(1,true),(2,true),(3,false),(4,false),(5,false),(6,true)] 7 [] (sk (sk (sl sr))) (sk (sk (sl sr))) (by kernel_rfl) (λ_ _ d _ _ h=>by cases d<;>exact h) (vE (v:=(pP b4 0)) O (AA O underlying31 O sizeOf27 O) O (vE O (AK (i:=2) (v:=(Value.slice p1 ps.length c1)) O O Du.a O) O (vE (v:=(aG ([(vI (((Fq m gf.x.pl).getD i ((0,0):Int×Int)).1)),(vK .u32 (B_ m)),(vI (((Fq m gf.x.pl).getD i ((0,0):Int×Int)).2)),(vK .u32 (B_ m))]))) O (Ac (i:=0) (vs:=[(vI (((Fq m gf.x.pl).getD i ((0,0):Int×Int)).1)),(vK .u32 (B_ m)),(vI (((Fq m gf.x.pl).getD i ((0,0):Int×Int)).2)),(vK .u32 (B_ m))]) O O XP.a XP.s O O) O (Bu.imp O ?_)))))
  refine BW call45 (YK (SW m ((Fq m gf.x.pl).getD i (0,0))) (XS gf.x.inv.small Z)) O (Bu.back (sk (sk (sl sr))) (Bu.imp O (AE.openV (V:=λb6=>(Value.slice (some ⟨b6,0,none⟩) 1 1)) (T:=55) (cs:=Aj (CT (SW m ((Fq m gf.x.pl).getD i (0,0))))) (AM O) (Ap (z:=.agg (Aj (⟨0,0⟩:Pt)).toArray) (cs:=Aj (CT (SW m ((Fq m gf.x.pl).getD i (0,0))))) (pv:=[(0,(aG (Aj (CT (SW m ((Fq m gf.x.pl).getD i (0,0)))))))]) underlying27 sizeOf55 zeroValue55 (by decide) (by decide) O (Kq (CT (SW m ((Fq m gf.x.pl).getD i (0,0)))))) O (Ab O) λb6=>Bu.back (sl (sk (sk (sl sr)))) (Bu.imp O ?_))))
  refine AE.appendAt 3 (j:=0) (cs2:=rowsL Aj (ps++[CT (SW m ((Fq m gf.x.pl).getD i (0,0)))])) X9 O h1 (Al BT _) O O O O O (by decide) (Gt Z) Z (by rw [BN];rfl) O λp_1 c_1 ho_1 hne_1=>Bu.back (sl (sk (sk (sl sr)))) (vE (v:=(pP b4 0)) O (AA O underlying31 O sizeOf27 O) O (Bu.cut O (Eu 4 (off:=0) (vs:=[(Value.slice p_1 (ps.length+1) c_1)]) (cs':=[(Value.slice p_1 (ps.length+1) c_1),(Value.slice none 0 0),(Value.slice none 0 0)]) (AM O) O sizeOf27 O (AV.back (sl (sk (sk (sl (sl sr))))) ?_))))
  refine AV.nil (AC.subF (sL [2,3,4,5,6,7] O) (AC.in_normal (AC.then_ (AF.region (AR O ?_)))))
  refine AI (AY (c:=((i+1:Nat):Int)) O O (AX (a:=i) (b:=1) Z)) O (AO O (AE.nil (AC.subF (sL [2,3,4,5,6,7] O) ?_)))
  rw [show ps.length+1=(ps++[CT (SW m ((Fq m gf.x.pl).getD i (0,0)))]).length by simp]
  exact AC.round4 (i+1) p_1 c_1 (ps++[CT (SW m ((Fq m gf.x.pl).getD i (0,0)))]) (⟨Z,(by simpa using ho_1),by rw [hps,Sc (by rw [hzl];omega)]⟩) Z (sF O) (sl (sl sr))
 ·replace hc0:=of_decide_eq_false hc0
  have hps9:ps.length=gf.x.pl.length:=by rw [hps,show i=gf.x.pl.length by omega,Jx (by rw [hzl];omega)]
  have hfin:ps=SF m (Fq m gf.x.pl) gf.x.pl.length:=by rw [hps,show i=gf.x.pl.length by omega]
  refine AF.exit (AC.then_exit (AC.round4_exit (AC.in_exit (q2 (AI (v:=(pP b3 1)) (AA O underlying99 O sizeOf28 O) O ?_)))))
  refine BK 3 (Value.slice gf.x.b.p gf.x.ts.length gf.x.b.c) CR O (AI (v:=(pP b4 1)) (AA O underlying31 O sizeOf28 O) O (Eu 2 (off:=1) (vs:=[(Value.slice gf.x.b.p gf.x.ts.length gf.x.b.c)]) (cs':=[(Value.slice p1 ps.length c1),(Value.slice gf.x.b.p gf.x.ts.length gf.x.b.c),(Value.slice none 0 0)]) (AM O) O sizeOf28 O (q6 (sL [2,3,4,5,6] O) (q4 (AO O ?_)))))
  refine AE.nil (AC.then_ (AF.block ?_))
  refine AF.lp4 (tg λ(j:Nat) (p2:Option Addr) (c2:Nat) (ss:List (Nat×Nat×Nat))=>j<=gf.x.ss.length/\OwnOk p2 ss.length c2/\ss.length=j/\ss=gf.x.ss.take j) (tg λ(j:Nat) (p2:Option Addr) (c2:Nat) (ss:List (Nat×Nat×Nat))=>[(2,(pP b2 0)),(3,(pP b3 0)),(4,(pP b4 0)),(8,(vN j))]) (tg λ(j:Nat) (p2:Option Addr) (c2:Nat) (ss:List (Nat×Nat×Nat))=>[rowW p2 44 3 ss.length c2 (rowsL An ss),rowW p1 55 10 ps.length c1 (rowsL Aj ps),Af b4 31 ([(Value.slice p1 ps.length c1),(Value.slice gf.x.b.p gf.x.ts.length gf.x.b.c),(Value.slice p2 ss.length c2)]),Af b3 99 ([(Value.slice gf.x.a.p gf.x.pl.length gf.x.a.c),(Value.slice gf.x.b.p gf.x.ts.length gf.x.b.c),(Value.slice gf.x.c.p gf.x.ss.length gf.x.c.c)]),AZ gf.x.a.p (rowsL CZ (Fq m gf.x.pl)),AZ gf.x.b.p (rowsL An gf.x.ts),AZ gf.x.c.p (rowsL An gf.x.ss),NJ gf,Af b2 31 ([(Value.slice none 0 0),(Value.slice none 0 0),(Value.slice none 0 0)]),Af b1 26 (Ek m),AZ m.p (Cc m.cs)]) (tg λ(j:Nat) (p2:Option Addr) (c2:Nat) (ss:List (Nat×Nat×Nat))=>gf.x.ss.length-j) 0 none 0 ([]:List (Nat×Nat×Nat)) (⟨Nat.zero_le _,OwnOk.none,rfl,rfl⟩) (sF O) sr (λj p2 c2 ss hJ=>?_)
  obtain ⟨hj,h2,hsl,hsd⟩:=hJ
  have hgs:=gf.x.sl
  refine AF.seq (q4 (AR O (AI (v:=(pP b3 2)) (AA O underlying99 O sizeOf28 O) O (BK 3 (Value.slice gf.x.c.p gf.x.ss.length gf.x.c.c) CR O (AI (v:=(vN gf.x.ss.length)) (AG O underlying28) O ?_)))))
  refine AI (Am (c:=(decide (j<gf.x.ss.length))) O O (C6 (a:=j) (b:=gf.x.ss.length))) O (AE.nil (AC.subF (sL [2,3,4,8,54] O) (AC.then_ ?_)))
  refine AF.cond O (λhc1=>?_) (λhc1=>?_)
  ·replace hc1:=of_decide_eq_true hc1
   refine AF.skip (q1 (AF.block (rC [(0,true),(1,true),(2,true),(3,true),(4,true),(5,true),(6,true),(7,true),(8,true),(9,true),(10,true),(11,true),(12,true),(13,true),(14,true),(15,true),(16,true),(17,true),(18,true),(19,true),(20,true),(21,false),(22,false),(23,true)] 24 [] (sl sr) (sk (sl sr)) (by kernel_rfl) (λ_ _ d _ _ h=>by cases d<;>exact h) (vE (v:=(pP b4 2)) O (AA O underlying31 O sizeOf29 O) O (vE O (AK (i:=1) (v:=(Value.slice p2 ss.length c2)) O O OA.a O) O ?_)))))
   refine vE (v:=(pP b3 2)) O (AA O underlying99 O sizeOf28 O) O (vE O (AK (i:=2) (v:=(Value.slice gf.x.c.p gf.x.ss.length gf.x.c.c)) O O CR.a O) O (vM O O O (vE (v:=(pP (pB gf.x.c.p) (pO gf.x.c.p+j*3))) O (AQ (j:=j) O O gf.x.c.ok underlying28 sizeOf76 O Z) O (vE (v:=(pP (pB gf.x.c.p) (pO gf.x.c.p+(j*3+0)))) O (AD (j:=0) O O underlying76 sizeOf3 O (by decide) (Nat.add_assoc _ _ _)) O (vE O (Ai (v:=(vN ((gf.x.ss.getD j ((0,0,0):Nat×Nat×Nat)).1))) (i:=5) O O (BQ.ne gf.x.c.ok Z) Bm (D5 Ar ((0,0,0):Nat×Nat×Nat) _ _ 0 Z (by decide) O)) O ?_)))))
   refine vE (v:=(pP b3 2)) O (AA O underlying99 O sizeOf28 O) O (vE O (AK (i:=2) (v:=(Value.slice gf.x.c.p gf.x.ss.length gf.x.c.c)) O O CR.a O) O (vM O O O (vE (v:=(pP (pB gf.x.c.p) (pO gf.x.c.p+j*3))) O (AQ (j:=j) O O gf.x.c.ok underlying28 sizeOf76 O Z) O (vE (v:=(pP (pB gf.x.c.p) (pO gf.x.c.p+(j*3+1)))) O (AD (j:=1) O O underlying76 sizeOf3 O (by decide) (Nat.add_assoc _ _ _)) O (vE O (Ai (v:=(vN ((gf.x.ss.getD j ((0,0,0):Nat×Nat×Nat)).2.1))) (i:=5) O O (BQ.ne gf.x.c.ok Z) Bm (D5 Ar ((0,0,0):Nat×Nat×Nat) _ _ 1 Z (by decide) O)) O ?_)))))
   refine vE (v:=(pP b3 2)) O (AA O underlying99 O sizeOf28 O) O (vE O (AK (i:=2) (v:=(Value.slice gf.x.c.p gf.x.ss.length gf.x.c.c)) O O CR.a O) O (vM O O O (vE (v:=(pP (pB gf.x.c.p) (pO gf.x.c.p+j*3))) O (AQ (j:=j) O O gf.x.c.ok underlying28 sizeOf76 O Z) O (vE (v:=(pP (pB gf.x.c.p) (pO gf.x.c.p+(j*3+2)))) O (AD (j:=2) O O underlying76 sizeOf3 O (by decide) (Nat.add_assoc _ _ _)) O (vE O (Ai (v:=(vN ((gf.x.ss.getD j ((0,0,0):Nat×Nat×Nat)).2.2))) (i:=5) O O (BQ.ne gf.x.c.ok Z) Bm (D5 Ar ((0,0,0):Nat×Nat×Nat) _ _ 2 Z (by decide) O)) O ?_)))))
   refine vE (v:=(aG ([(vN ((gf.x.ss.getD j ((0,0,0):Nat×Nat×Nat)).1)),(vN ((gf.x.ss.getD j ((0,0,0):Nat×Nat×Nat)).2.1)),(vN ((gf.x.ss.getD j ((0,0,0):Nat×Nat×Nat)).2.2))]))) O (Ad (zs:=An ((0,0,0):Nat×Nat×Nat)) (vs:=[(vN ((gf.x.ss.getD j ((0,0,0):Nat×Nat×Nat)).1)),(vN ((gf.x.ss.getD j ((0,0,0):Nat×Nat×Nat)).2.1)),(vN ((gf.x.ss.getD j ((0,0,0):Nat×Nat×Nat)).2.2))]) (pv:=[(0,(vN ((gf.x.ss.getD j ((0,0,0):Nat×Nat×Nat)).1))),(1,(vN ((gf.x.ss.getD j ((0,0,0):Nat×Nat×Nat)).2.1))),(2,(vN ((gf.x.ss.getD j ((0,0,0):Nat×Nat×Nat)).2.2)))]) (places:=[(0,1),(1,1),(2,1)]) zeroValue44 underlying44 (λw=>by simp [sizeOf3]) O O) O (Bu.imp O (AE.openV (V:=λb5=>(Value.slice (some ⟨b5,0,none⟩) 1 1)) (T:=44) (cs:=An ((gf.x.ss.getD j ((0,0,0):Nat×Nat×Nat)).1,(gf.x.ss.getD j ((0,0,0):Nat×Nat×Nat)).2.1,(gf.x.ss.getD j ((0,0,0):Nat×Nat×Nat)).2.2)) (AM O) (Ap (z:=.agg (An ((0,0,0):Nat×Nat×Nat)).toArray) (cs:=An ((gf.x.ss.getD j ((0,0,0):Nat×Nat×Nat)).1,(gf.x.ss.getD j ((0,0,0):Nat×Nat×Nat)).2.1,(gf.x.ss.getD j ((0,0,0):Nat×Nat×Nat)).2.2)) (pv:=[(0,(aG ([(vN ((gf.x.ss.getD j ((0,0,0):Nat×Nat×Nat)).1)),(vN ((gf.x.ss.getD j ((0,0,0):Nat×Nat×Nat)).2.1)),(vN ((gf.x.ss.getD j ((0,0,0):Nat×Nat×Nat)).2.2))])))]) underlying29 sizeOf44 zeroValue44 (by decide) (by decide) O (Kw ((gf.x.ss.getD j ((0,0,0):Nat×Nat×Nat)).1,(gf.x.ss.getD j ((0,0,0):Nat×Nat×Nat)).2.1,(gf.x.ss.getD j ((0,0,0):Nat×Nat×Nat)).2.2))) O (Ab O) λb5=>Bu.back (sl (sl sr)) (Bu.imp O (AE.append1 (j:=0) (cs2:=rowsL An (ss++[((gf.x.ss.getD j ((0,0,0):Nat×Nat×Nat)).1,(gf.x.ss.getD j ((0,0,0):Nat×Nat×Nat)).2.1,(gf.x.ss.getD j ((0,0,0):Nat×Nat×Nat)).2.2)])) ZL O h2 (Al Ar _) O O O O (by decide) (Gt Z) Z (by rw [BN];rfl) O λp_2 c_2 ho_2 hne_2=>?_))))
   refine Bu.back (sl (sl sr)) (vE (v:=(pP b4 2)) O (AA O underlying31 O sizeOf29 O) O (Bu.cut O (Eu 3 (off:=2) (vs:=[(Value.slice p_2 (ss.length+1) c_2)]) (cs':=[(Value.slice p1 ps.length c1),(Value.slice gf.x.b.p gf.x.ts.length gf.x.b.c),(Value.slice p_2 (ss.length+1) c_2)]) (AM O) O sizeOf29 O (AV.back (sl (sl (sk (sl sr)))) (AV.nil ?_)))))
   refine AC.subF (sL [2,3,4,8] O) (AC.in_normal (AC.then_ (AF.region (AR O (AI (AY (c:=((j+1:Nat):Int)) O O (AX (a:=j) (b:=1) Z)) O ?_)))))
   refine AO O (AE.nil (AC.subF (sL [2,3,4,8] O) ?_))
   rw [show ss.length+1=(ss++[((gf.x.ss.getD j ((0,0,0):Nat×Nat×Nat)).1,(gf.x.ss.getD j ((0,0,0):Nat×Nat×Nat)).2.1,(gf.x.ss.getD j ((0,0,0):Nat×Nat×Nat)).2.2)]).length by simp]
   exact AC.round4 (j+1) p_2 c_2 (ss++[((gf.x.ss.getD j ((0,0,0):Nat×Nat×Nat)).1,(gf.x.ss.getD j ((0,0,0):Nat×Nat×Nat)).2.1,(gf.x.ss.getD j ((0,0,0):Nat×Nat×Nat)).2.2)]) (⟨Z,(by simpa using ho_2),by simp [hsl],by rw [hsd];exact (Mn Z).symm⟩) Z (sF O) (sl sr)
  ·replace hc1:=of_decide_eq_false hc1
   refine AF.exit (AC.then_exit (AC.round4_exit (AC.in_exit (q2 (A6 2 C9 O ?_)))))
   exact Eu 8 (off:=0) (vs:=[(Value.slice p1 ps.length c1),(Value.slice gf.x.b.p gf.x.ts.length gf.x.b.c),(Value.slice p2 ss.length c2)]) (cs':=[(Value.slice p1 ps.length c1),(Value.slice gf.x.b.p gf.x.ts.length gf.x.b.c),(Value.slice p2 ss.length c2)]) (AM O) O sizeOf31 O (AE.nil (AC.subF (sL [2,3,4,8] O) (AC.then_ (AF.ret (AT O (A7 (i:=8) (cs:=[(Value.slice p1 ps.length c1),(Value.slice gf.x.b.p gf.x.ts.length gf.x.b.c),(Value.slice p2 ss.length c2)]) O O isAgg31 sizeOf31 O) (λw hw=>(YC hw ⟨⟨MG.mk ps gf.x.ts ss (Wy gf.x hfin) (by have h9:=gf.x.sl;omega) ⟨m,by rw [hps9,hsd,show j=gf.x.ss.length by omega,List.take_length];exact gf.x.sd⟩ ⟨p1,c1,h1.row⟩ gf.x.b ⟨p2,c2,h2.row⟩,V6 gf.x hfin⟩,gf.ob,hw.asunder (i:=1) (j:=5) O O (by decide) O,hw.asunder (i:=0) (j:=5) O O (by decide) O⟩ (Fh (S:=λ_=>False) hw 1 O h1 (Al BT _)) (aI (DB hw 4 O (At.wm lgf))) (Fh (S:=λ_=>False) hw 0 O h2 (Al Ar _)) (Vq hw 7 O (At.wmf lgf)) O)))))))
theorem SQ (m:MQ) (w:World) {S:Nat->Prop} (hm:Ro S w m):Calls prog 11 #[(aG (Ek m))] w (Bb (MF m) S w):=(SJ m w hm).mono λe w1 h=>h.ofMGF
theorem Tc (m:MQ) (w:World) {S:Nat->Prop} (hm:Ro S w m):Calls prog 11 #[(aG (Ek m))] w (Bb MG S w):=(SQ m w hm).mono λe w1 h=>h.ofMF
end
end Go.Proofs.YtfbomiejpbchdaaGreat
