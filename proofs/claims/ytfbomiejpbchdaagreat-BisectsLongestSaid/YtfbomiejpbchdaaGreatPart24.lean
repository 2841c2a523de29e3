import Derived.Test.YtfbomiejpbchdaaGreatPart06
import Derived.Test.YtfbomiejpbchdaaGreatPart14
import Derived.Test.YtfbomiejpbchdaaGreatPart19
import Derived.Test.YtfbomiejpbchdaaGreatPart20
import Derived.Test.YtfbomiejpbchdaaGreatPart22
import Derived.Test.YtfbomiejpbchdaaGreatPart23
namespace Go.Proofs.YtfbomiejpbchdaaGreat
open Go Go.RowKit Go.Proofs.Tryz
set_option linter.unusedVariables false
set_option linter.unusedSimpArgs false
theorem G_ (a b:Rat):a<b\/b<=a:=by grind
def Jb (A B:P2) (x y:Rat):Rat:=((B.1:Rat)-(A.1:Rat))*(y-(A.2:Rat))-((B.2:Rat)-(A.2:Rat))*(x-(A.1:Rat))
def VG (t:P2×P2×P2) (x y:Rat):Prop:=0<Jb t.2.1 t.2.2 x y/\0<Jb t.2.2 t.1 x y/\0<Jb t.1 t.2.1 x y
def inC (t:P2×P2×P2) (x y:Rat):Prop:=0<=Jb t.2.1 t.2.2 x y/\0<=Jb t.2.2 t.1 x y/\0<=Jb t.1 t.2.1 x y
def Zn (s t:P2×P2×P2):Prop:=∀x y,(VG s x y->¬inC t x y)/\(VG t x y->¬inC s x y)
theorem GS (u:Nat):((2*u:Nat):Rat)=2*(u:Rat):=by rw [Rat.natCast_mul];rfl
theorem JZ (u:Nat):((2*u+2:Nat):Rat)=2*(u:Rat)+2:=by rw [Rat.natCast_add,GS];rfl
theorem QH (u:Nat):((2*u+1:Nat):Rat)=2*(u:Rat)+1:=by rw [Rat.natCast_add,GS];rfl
theorem Qj {t:P2×P2×P2} {nx way i u v:Nat} (hu:u=i%nx) (hv:v=i/nx) (ht:t∈Cn nx way i) (x y:Rat) :
    (VG t x y->(2*(u:Rat)<x/\x<2*(u:Rat)+2)/\2*(v:Rat)<y/\y<2*(v:Rat)+2)/\(inC t x y->(2*(u:Rat)<=x/\x<=2*(u:Rat)+2)/\2*(v:Rat)<=y/\y<=2*(v:Rat)+2):=by
  have key:t∈[((2*u,2*v),(2*u+2,2*v),(2*u+2,2*v+2)),((2*u,2*v),(2*u+2,2*v+2),(2*u,2*v+2)),((2*u,2*v),(2*u+2,2*v),(2*u,2*v+2)),((2*u+2,2*v),(2*u+2,2*v+2),(2*u,2*v+2)),
      ((2*u,2*v),(2*u+2,2*v),(2*u+1,2*v+1)),((2*u+2,2*v),(2*u+2,2*v+2),(2*u+1,2*v+1)),((2*u+2,2*v+2),(2*u,2*v+2),(2*u+1,2*v+1)),((2*u,2*v+2),(2*u,2*v),(2*u+1,2*v+1))]:=by
    subst hu;subst hv
    unfold Cn at ht
    simp only at ht
    split at ht
    · simp only [List.mem_cons,List.not_mem_nil,or_false] at ht ⊢;rcases ht with h|h<;>simp [h]
    · split at ht
      · simp only [List.mem_cons,List.not_mem_nil,or_false] at ht ⊢;rcases ht with h|h<;>simp [h]
      · split at ht
        · simp only [List.mem_cons,List.not_mem_nil,or_false] at ht ⊢;rcases ht with h|h|h|h<;>simp [h]
        · cases ht
  clear hu hv ht
  simp only [List.mem_cons,List.not_mem_nil,or_false] at key
  rcases key with rfl|rfl|rfl|rfl|rfl|rfl|rfl|rfl<;>(simp only [VG,inC,Jb,GS,JZ,QH];generalize (u:Rat)=U;generalize (v:Rat)=V;refine ⟨λh=>?_,λh=>?_⟩<;>obtain ⟨h1,h2,h3⟩:=h<;>refine ⟨⟨?_,?_⟩,?_,?_⟩<;>grind)
theorem Rn {s t:P2×P2×P2} {nx way way' i j:Nat} (hij:i≠j) (hs:s∈Cn nx way i) (ht:t∈Cn nx way' j):Zn s t:=λx y=>by
  have a:=Qj rfl rfl hs x y
  have b:=Qj rfl rfl ht x y
  have hne:i%nx≠j%nx\/i/nx≠j/nx:=by
    rcases Decidable.em (i%nx=j%nx) with e|e
    · rcases Decidable.em (i/nx=j/nx) with e2|e2
      · exact absurd (by rw [<-Nat.div_add_mod i nx,<-Nat.div_add_mod j nx,e,e2]) hij
      · exact .inr e2
    · exact .inl e
  have lt:∀{p q:Nat},p<q->(p:Rat)+1<=(q:Rat):=λ{p q} h=>by
    have h1:((p+1:Nat):Rat)<=(q:Rat):=by exact_mod_cast h
    rw [Rat.natCast_add] at h1
    exact h1
  have four:(i%nx:Nat)+1<=j%nx\/(j%nx:Nat)+1<=i%nx\/(i/nx:Nat)+1<=j/nx\/(j/nx:Nat)+1<=i/nx:=by omega
  revert a b
  rcases four with h|h|h|h<;>have h:=lt h<;>generalize ((i%nx:Nat):Rat)=A at*<;> generalize ((j%nx:Nat):Rat)=B at*<;> generalize ((i/nx:Nat):Rat)=C at*<;> generalize ((j/nx:Nat):Rat)=D at*<;> intro a b<;>refine ⟨λh1 h2=>?_,λh1 h2=>?_⟩ <;>
    first
      | (have a1:=a.1 h1;have b1:=b.2 h2;obtain ⟨⟨_,_⟩,_,_⟩:=a1;obtain ⟨⟨_,_⟩,_,_⟩:=b1;grind)
      | (have a1:=a.2 h2;have b1:=b.1 h1;obtain ⟨⟨_,_⟩,_,_⟩:=a1;obtain ⟨⟨_,_⟩,_,_⟩:=b1;grind)
theorem Ux (nx way i:Nat):(Cn nx way i).Pairwise Zn:=by
  unfold Cn
  simp only
  generalize i%nx=u
  generalize i/nx=v
  split
  · refine List.pairwise_pair.2 λx y=>?_
    simp only [VG,inC,Jb,GS,JZ];generalize (u:Rat)=U;generalize (v:Rat)=V
    refine ⟨λh k=>?_,λh k=>?_⟩<;>obtain ⟨h1,h2,h3⟩:=h<;>obtain ⟨k1,k2,k3⟩:=k<;>grind
  · split
    · refine List.pairwise_pair.2 λx y=>?_
      simp only [VG,inC,Jb,GS,JZ];generalize (u:Rat)=U;generalize (v:Rat)=V
      refine ⟨λh k=>?_,λh k=>?_⟩<;>obtain ⟨h1,h2,h3⟩:=h<;>obtain ⟨k1,k2,k3⟩:=k<;>grind
    · split
      · simp only [List.pairwise_cons,List.mem_cons,List.not_mem_nil,or_false,forall_eq_or_imp,forall_eq,List.Pairwise.nil,and_true,false_implies,implies_true]
        refine ⟨⟨?_,?_,?_⟩,⟨?_,?_⟩,?_⟩<;>intro x y<;>simp only [VG,inC,Jb,GS,JZ,QH]<;>generalize (u:Rat)=U<;>generalize (v:Rat)=V<;>refine ⟨λh k=>?_,λh k=>?_⟩<;>obtain ⟨h1,h2,h3⟩:=h<;>obtain ⟨k1,k2,k3⟩:=k<;>grind
      · exact List.Pairwise.nil
theorem EH (m:MQ):∀i t,t∈EC m i->∃j,j<i/\t∈Cn (Fq m) (GK m j) j
  | 0,t,h=>by cases h
  | i+1,t,h=>by
    rcases List.mem_append.1 h with h|h
    · obtain ⟨j,hj,h⟩:=EH m i t h;exact ⟨j,Z,h⟩
    · exact ⟨i,Z,h⟩
theorem Jx (m:MQ):∀i,(EC m i).Pairwise Zn
  | 0=>List.Pairwise.nil
  | i+1=>List.pairwise_append.2 ⟨Jx m i,Ux _ _ _,λs hs t ht=>by
      obtain ⟨j,hj,h⟩:=EH m i s hs
      exact Rn Z h ht⟩
theorem ML (m:MQ) {i j:Nat} (hi:i<(BD m).length) (hj:j<(BD m).length) (hne:i≠j) (d:P2×P2×P2):∀x y,VG ((BD m).getD i d) x y->¬inC ((BD m).getD j d) x y:=λx y h=>by
  have hp:=List.pairwise_iff_getElem.1 (Jx m (Fq m*R_ m))
  rw [List.getD,List.getElem?_eq_getElem hi] at h
  rw [List.getD,List.getElem?_eq_getElem hj]
  rcases Nat.lt_or_gt_of_ne hne with hlt|hgt
  · exact (hp i j hi hj hlt x y).1 h
  · exact (hp j i hj hi hgt x y).2 h
theorem lattice {k:DB} (h:k.Ok) (den:Nat) (q:Pt):∃x y c:Rat,0<c/\∀A B:P2,AU (CP (GM k den A)) (CP (GM k den B)) q=c*Jb A B x y:=by
  have hD:0<(((max den 1:Nat):Int):Rat):=by exact_mod_cast (show (0:Int)<((max den 1:Nat):Int) by omega)
  have hd:(0:Rat)<(k.det:Rat):=by exact_mod_cast h.pos
  have ed:(k.det:Rat)=(k.a:Rat)*(k.d:Rat)-(k.b:Rat)*(k.c:Rat):=by simp only [DB.det,Rat.intCast_sub,Rat.intCast_mul]
  have hi:=Rat.inv_pos.2 hD
  have he:((((max den 1:Nat):Int):Rat)⁻¹)*(((max den 1:Nat):Int):Rat)=1:=Rat.inv_mul_cancel _ (by grind)
  have hdi:((k.det:Rat)⁻¹)*(k.det:Rat)=1:=Rat.inv_mul_cancel _ (by grind)
  obtain ⟨qx,qy⟩:=q
  refine ⟨((k.d:Rat)*qx-(k.b:Rat)*qy)*(((max den 1:Nat):Int):Rat)*(k.det:Rat)⁻¹,((k.a:Rat)*qy-(k.c:Rat)*qx)*(((max den 1:Nat):Int):Rat)*(k.det:Rat)⁻¹,(k.det:Rat)*((((max den 1:Nat):Int):Rat)⁻¹*(((max den 1:Nat):Int):Rat)⁻¹),Rat.mul_pos hd (Rat.mul_pos hi hi),λA B=>?_⟩
  simp only [Ch,CP,GM,NY,DB.at_,Jb,Rat.div_def,Rat.intCast_add,Rat.intCast_mul]
  rw [ed] at hdi ⊢
  clear hD hd hi ed
  generalize (((max den 1:Nat):Int):Rat)⁻¹=e at *
  generalize (((max den 1:Nat):Int):Rat)=D at *
  simp only [Rat.intCast_natCast]
  generalize ((k.a:Rat)*(k.d:Rat)-(k.b:Rat)*(k.c:Rat))⁻¹=f at *
  generalize (k.a:Rat)=a at *
  generalize (k.b:Rat)=b at *
  generalize (k.c:Rat)=c at *
  generalize (k.d:Rat)=d at *
  generalize (A.1:Rat)=A1
  generalize (A.2:Rat)=A2
  generalize (B.1:Rat)=B1
  generalize (B.2:Rat)=B2
  clear h
  have hx:qx=(a*((d*qx-b*qy)*D*f)+b*((a*qy-c*qx)*D*f))*e:=by grind
  have hy:qy=(c*((d*qx-b*qy)*D*f)+d*((a*qy-c*qx)*D*f))*e:=by grind
  generalize (d*qx-b*qy)*D*f=X at *
  generalize (a*qy-c*qx)*D*f=Y at *
  subst hx
  subst hy
  grind
theorem Dx {α:Type} {enc:α->List Value} {z:Nat} (h:∀x,(enc x).length=z) (d:α) (xs:List α) (j r:Nat) (hj:j<xs.length) (hr:r<z) {v:Value} (hv:(enc (xs.getD j d))[r]?=some v):(rowsL enc xs)[j*z+r]?=some v:=by
  have h1:=An h d xs j hj
  rw [<-h1,List.getElem?_take_of_lt hr,List.getElem?_drop] at hv
  exact hv
theorem BG (p:Pt):(Am p).length=10:=rfl
structure ZY (ps:List Pt) (t:Nat×Nat×Nat):Prop where
  a:t.1<ps.length
  b:t.2.1<ps.length
  c:t.2.2<ps.length
  ab:t.1≠t.2.1
  bc:t.2.1≠t.2.2
  ca:t.2.2≠t.1
  pos:0<AU (ps.getD t.1 ⟨0,0⟩) (ps.getD t.2.1 ⟨0,0⟩) (ps.getD t.2.2 ⟨0,0⟩)
def Z6 (ps:List Pt) (t:Nat×Nat×Nat) (q:Pt):Prop:=0<AU q (ps.getD t.2.1 ⟨0,0⟩) (ps.getD t.2.2 ⟨0,0⟩)/\0<AU (ps.getD t.1 ⟨0,0⟩) q (ps.getD t.2.2 ⟨0,0⟩)/\0<AU (ps.getD t.1 ⟨0,0⟩) (ps.getD t.2.1 ⟨0,0⟩) q
def KU (ps:List Pt) (t:Nat×Nat×Nat) (q:Pt):Prop:=0<=AU q (ps.getD t.2.1 ⟨0,0⟩) (ps.getD t.2.2 ⟨0,0⟩)/\0<=AU (ps.getD t.1 ⟨0,0⟩) q (ps.getD t.2.2 ⟨0,0⟩)/\0<=AU (ps.getD t.1 ⟨0,0⟩) (ps.getD t.2.1 ⟨0,0⟩) q
def B9 (m:MQ):Nat:=1+m.den%6
def SA (m:MQ) (z:Int×Int):PD:=⟨⟨z.1,B9 m⟩,⟨z.2,B9 m⟩⟩
def Rk (m:MQ) (zs:List (Int×Int)) (i:Nat):List Pt:=(zs.take i).map λz=>CP (SA m z)
theorem Jd {m:MQ} {zs:List (Int×Int)} {i:Nat} (h:i<=zs.length):(Rk m zs i).length=i:=by simp [Rk];omega
theorem Ua {m:MQ} {zs:List (Int×Int)} {i:Nat} (h:i<zs.length):Rk m zs (i+1)=Rk m zs i++[CP (SA m (zs.getD i (0,0)))]:=by
  unfold Rk
  rw [List.take_add_one,List.getElem?_eq_getElem h,List.map_append,List.getD,List.getElem?_eq_getElem h]
  rfl
theorem P9 {m:MQ} {zs:List (Int×Int)} {i:Nat} (h:i<zs.length):(Rk m zs zs.length).getD i ⟨0,0⟩=CP (SA m (zs.getD i (0,0))):=by
  unfold Rk
  rw [List.take_length,List.getD,List.getElem?_map,List.getElem?_eq_getElem h,List.getD,List.getElem?_eq_getElem h]
  rfl
def Fa (m:MQ) (pl:List P2):List (Int×Int):=pl.map λp=>(mapM m).at_ p
structure FQ (ps:List Pt) (ts:List (Nat×Nat×Nat)):Prop where
  ne:ts≠[]
  tl:ts.length<=36
  pl:ps.length<=108
  sz:∀i,B5 (ps.getD i ⟨0,0⟩)<=4
  tri:∀j,j<ts.length->ZY ps (ts.getD j (0,0,0))
  apart:∀i j,i<ts.length->j<ts.length->i≠j->∀q,Z6 ps (ts.getD i (0,0,0)) q->¬KU ps (ts.getD j (0,0,0)) q
  lat:∃(m:MQ) (pl:List P2),Mj m (BD m).length pl ts/\XN pl/\ps=Rk m (Fa m pl) pl.length
structure MG where
  ps:List Pt
  ts:List (Nat×Nat×Nat)
  ss:List (Nat×Nat×Nat)
  good:FQ ps ts
  sl:ss.length<=108*108
  sd:∃m:MQ,ss=FC m ts ps.length ps.length
  a:RX (rowsL Am ps) ps.length
  b:RX (rowsL Af ts) ts.length
  c:RX (rowsL Af ss) ss.length
def Zc (x:MG):List Value:=[x.a.val,x.b.val,x.c.val]
theorem XL {x:MG} {y:As} (hy:y∈[x.a.row,x.b.row,x.c.row]):y.ro=true:=by
  simp only [List.mem_cons,List.not_mem_nil,or_false] at hy
  rcases hy with rfl|rfl|rfl<;>rfl
instance:EI MG:=⟨λx=>aG (Zc x),λx=>[x.a.row,x.b.row,x.c.row],λx y hy=>XL hy⟩
theorem Zq {S:Nat->Prop} {W w:World} {L:List As} {m:MQ} {x:WM m} (h:Ro (SL ⟨W,none⟩ S L) w x):Holds w x.b.row/\∀b,x.b.row.foot=some b->W.heap.size<=b\/S b:=by
  have h1:=h x.b.row (List.mem_cons_of_mem _ List.mem_cons_self)
  exact ⟨h1.1,λb e=>(h1.2 b e).2⟩
theorem Ji {m:MQ} {pl:List P2} {i:Nat} (h:i<pl.length):(Fa m pl).getD i (0,0)=(mapM m).at_ (pl.getD i (0,0)):=by
  simp [Fa,List.getD,h]
theorem XE {m:MQ} {pl:List P2} (hs:∀p∈pl,p.1<=6/\p.2<=6) {i:Nat} (h:i<pl.length):(SA m ((Fa m pl).getD i (0,0))).ok:=by
  rw [Ji h]
  have hp:=hs (pl.getD i (0,0)) (by rw [List.getD,List.getElem?_eq_getElem h];exact List.getElem_mem h)
  obtain ⟨⟨h1,h2⟩,h3,h4⟩:=T7 (FK m.a m.b m.c m.d) hp
  have hd:B9 m<4294967296:=by unfold B9;omega
  have e:mapM m=GP m.a m.b m.c m.d:=rfl
  rw [<-e] at h1 h2 h3 h4
  exact ⟨⟨by show -9223372036854775808<=((mapM m).at_ _).1;omega,by show ((mapM m).at_ _).1<_;omega,hd⟩,⟨by show -9223372036854775808<=((mapM m).at_ _).2;omega,by show ((mapM m).at_ _).2<_;omega,hd⟩⟩
theorem Ev (a b c:P2):Bv b c a=Bv a b c:=by unfold Bv;grind
theorem DI (a b:P2):Bv a a b=0/\Bv a b b=0/\Bv b a b=0:=by unfold Bv;exact ⟨by grind,by grind,by grind⟩
theorem Rx {m:MQ} {t:Nat} (h:t<(BD m).length):0<Bv (Ax m t 0) (Ax m t 1) (Ax m t 2):=by
  have h1:=G6 m ((BD m).getD t ((0,0),(0,0),(0,0))) (by rw [List.getD,List.getElem?_eq_getElem h];exact List.getElem_mem h)
  unfold Ax Ij
  generalize (BD m).getD t ((0,0),(0,0),(0,0))=c at *
  generalize t*(m.fst/3)=q at *
  have h0:=h1.1
  have e:(m.fst+q)%3=0\/(m.fst+q)%3=1\/(m.fst+q)%3=2:=by omega
  rcases e with e|e|e
  · rw [show (0+m.fst+q)%3=0 by omega,show (1+m.fst+q)%3=1 by omega,show (2+m.fst+q)%3=2 by omega]
    exact h0
  · rw [show (0+m.fst+q)%3=1 by omega,show (1+m.fst+q)%3=2 by omega,show (2+m.fst+q)%3=0 by omega]
    show 0<Bv c.2.1 c.2.2 c.1
    rw [Ev];exact h0
  · rw [show (0+m.fst+q)%3=2 by omega,show (1+m.fst+q)%3=0 by omega,show (2+m.fst+q)%3=1 by omega]
    show 0<Bv c.2.2 c.1 c.2.1
    rw [Ev c.2.1,Ev];exact h0
theorem MV (m:MQ) (t:Nat) (x y:Rat):(0<Jb (Ax m t 1) (Ax m t 2) x y->0<Jb (Ax m t 2) (Ax m t 0) x y->0<Jb (Ax m t 0) (Ax m t 1) x y->VG ((BD m).getD t ((0,0),(0,0),(0,0))) x y) /\
    (0<=Jb (Ax m t 1) (Ax m t 2) x y->0<=Jb (Ax m t 2) (Ax m t 0) x y->0<=Jb (Ax m t 0) (Ax m t 1) x y->inC ((BD m).getD t ((0,0),(0,0),(0,0))) x y):=by
  unfold Ax Ij
  generalize (BD m).getD t ((0,0),(0,0),(0,0))=c at *
  generalize t*(m.fst/3)=q at *
  have e:(m.fst+q)%3=0\/(m.fst+q)%3=1\/(m.fst+q)%3=2:=by omega
  rcases e with e|e|e
  · rw [show (0+m.fst+q)%3=0 by omega,show (1+m.fst+q)%3=1 by omega,show (2+m.fst+q)%3=2 by omega]
    exact ⟨λa b c=>⟨a,b,c⟩,λa b c=>⟨a,b,c⟩⟩
  · rw [show (0+m.fst+q)%3=1 by omega,show (1+m.fst+q)%3=2 by omega,show (2+m.fst+q)%3=0 by omega]
    exact ⟨λa b c=>⟨c,a,b⟩,λa b c=>⟨c,a,b⟩⟩
  · rw [show (0+m.fst+q)%3=2 by omega,show (1+m.fst+q)%3=0 by omega,show (2+m.fst+q)%3=1 by omega]
    exact ⟨λa b c=>⟨b,c,a⟩,λa b c=>⟨b,c,a⟩⟩
theorem Oj {c z:Rat} (hc:0<c) (h:0<c*z):0<z:=by
  rcases G_ 0 z with h1|h1
  · exact h1
  · have:=Rat.mul_nonneg (show 0<=c by grind) (show 0 <= -z by grind)
    grind
theorem HN {c z:Rat} (hc:0<c) (h:0<=c*z):0<=z:=by
  rcases G_ z 0 with h1|h1
  · have:=Rat.mul_pos hc (show 0 < -z by grind)
    grind
  · exact h1
theorem Vy {m:MQ} (x:WM m) {ps:List Pt} (h:ps=Rk m (Fa m x.pl) x.pl.length):FQ ps x.ts:=by
  have hz:(Fa m x.pl).length=x.pl.length:=by simp [Fa]
  rw [<-hz] at h
  have hl:ps.length=x.pl.length:=by rw [h,Jd (Nat.le_refl _),hz]
  have hg:∀i,i<x.pl.length->ps.getD i ⟨0,0⟩=CP (GM (mapM m) (B9 m) (x.pl.getD i (0,0))):=λi hi=>by
    rw [h,P9 (by rw [hz];exact hi),Ji hi];rfl
  have hi:=x.inv
  have hcl:=Hp m
  refine ⟨λe=>RE m (List.eq_nil_of_length_eq_zero (by rw [<-hi.tl,e];rfl)),by rw [hi.tl];exact hcl,by rw [hl];have:=hi.pll;omega,λi=>?_,λj hj=>?_,λi j hi1 hj1 hne q ho hcl2=>?_,⟨m,x.pl,x.inv,x.dst,by rw [h,hz]⟩⟩
  · rcases Nat.lt_or_ge i x.pl.length with h1|h1
    · have hok:=XE (m:=m) hi.small h1
      rw [hg i h1]
      have:=Sv hok
      rw [Ji h1] at this
      exact this
    · rw [List.getD,List.getElem?_eq_none (by rw [hl];exact h1)];decide +kernel
  · rw [hi.tl] at hj
    have ht:=hi.at_ j hj
    have hc:=Rx hj
    have hp:=Wg (FK m.a m.b m.c m.d) (B9 m) hc
    obtain ⟨⟨a1,a2⟩,⟨b1,b2⟩,⟨c1,c2⟩⟩:=ht
    refine ⟨by rw [hl];exact a1,by rw [hl];exact b1,by rw [hl];exact c1,λe=>?_,λe=>?_,λe=>?_,?_⟩
    · rw [e,b2] at a2;rw [<-a2,(DI _ _).1] at hc;omega
    · rw [e,c2] at b2;rw [<-b2,(DI _ _).2.1] at hc;omega
    · rw [e,a2] at c2;rw [<-c2,(DI _ _).2.2] at hc;omega
    · rw [hg _ a1,hg _ b1,hg _ c1,a2,b2,c2];exact hp
  · rw [hi.tl] at hi1 hj1
    obtain ⟨x',y',c,hc,key⟩:=lattice (FK m.a m.b m.c m.d) (B9 m) q
    obtain ⟨⟨a1,a2⟩,⟨b1,b2⟩,⟨c1,c2⟩⟩:=hi.at_ i hi1
    obtain ⟨⟨d1,d2⟩,⟨e1,e2⟩,⟨f1,f2⟩⟩:=hi.at_ j hj1
    obtain ⟨o1,o2,o3⟩:=ho
    obtain ⟨k1,k2,k3⟩:=hcl2
    rw [hg _ b1,hg _ c1,b2,c2,<-Fg,show mapM m=GP m.a m.b m.c m.d from rfl,key] at o1
    rw [hg _ a1,hg _ c1,a2,c2,Fg,show mapM m=GP m.a m.b m.c m.d from rfl,key] at o2
    rw [hg _ a1,hg _ b1,a2,b2,show mapM m=GP m.a m.b m.c m.d from rfl,key] at o3
    rw [hg _ e1,hg _ f1,e2,f2,<-Fg,show mapM m=GP m.a m.b m.c m.d from rfl,key] at k1
    rw [hg _ d1,hg _ f1,d2,f2,Fg,show mapM m=GP m.a m.b m.c m.d from rfl,key] at k2
    rw [hg _ d1,hg _ e1,d2,e2,show mapM m=GP m.a m.b m.c m.d from rfl,key] at k3
    exact ML m hi1 hj1 hne _ x' y' ((MV m i x' y').1 (Oj hc o1) (Oj hc o2) (Oj hc o3)) ((MV m j x' y').2 (HN hc k1) (HN hc k2) (HN hc k3))
def Yu (m:MQ) (ps:List Pt) (ts:List (Nat×Nat×Nat)):Prop:=∃pl:List P2,Mj m (BD m).length pl ts/\XN pl/\ps=Rk m (Fa m pl) pl.length
theorem Wu {m:MQ} (x:WM m) {ps:List Pt} (h:ps=Rk m (Fa m x.pl) x.pl.length):Yu m ps x.ts:=⟨x.pl,x.inv,x.dst,h⟩
structure MF (m:MQ) where
  g:MG
  lat:Yu m g.ps g.ts
instance {m:MQ}:EI (MF m):=⟨λx=>aG (Zc x.g),λx=>[x.g.a.row,x.g.b.row,x.g.c.row],λx y hy=>XL hy⟩
theorem BV.ofMF {m:MQ} {S:Nat->Prop} {W w:World} {e:Ending} (h:BV (MF m) S W e w):BV MG S W e w:=by
  obtain ⟨a,h1,h2,h3⟩:=h
  exact ⟨a.g,h1,h2,h3⟩
structure Yg (m:MQ) where
  f:MF m
  ob:OwnOk f.g.b.p f.g.ts.length f.g.b.c
  da:∀x,f.g.b.p.map (·.block)=some x->f.g.a.p.map (·.block)≠some x
  dc:∀x,f.g.b.p.map (·.block)=some x->f.g.c.p.map (·.block)≠some x
def UT {m:MQ} (y:Yg m):As:=Yw y.f.g.b.p 76 3 y.f.g.ts.length y.f.g.b.c (rowsL Af y.f.g.ts)
instance {m:MQ}:EI (Yg m):=⟨λy=>aG (Zc y.f.g),λy=>[y.f.g.a.row,y.f.g.b.row,y.f.g.c.row,UT y],λx y hy=>by
  simp only [List.mem_cons,List.not_mem_nil,or_false] at hy
  rcases hy with rfl|rfl|rfl|rfl<;>rfl⟩
theorem YE {m:MQ} {W w:World} {L:List As} (hw:Own ⟨W,none⟩ w L) (x:Yg m) (h1:Holds w x.f.g.a.row/\∀b,x.f.g.a.row.foot=some b->W.heap.size<=b\/False) (h2:Holds w x.f.g.b.row/\∀b,x.f.g.b.row.foot=some b->W.heap.size<=b\/False) (h3:Holds w x.f.g.c.row/\∀b,x.f.g.c.row.foot=some b->W.heap.size<=b\/False) (h4:Holds w (UT x)/\∀b,(UT x).foot=some b->W.heap.size<=b\/False) {v:Value} (hv:v=aG (Zc x.f.g)):BV (Yg m) (λ_=>False) W (.returned v) w:=by
  refine ⟨x,by rw [hv];rfl,hw.out,λy hy=>?_⟩
  have hy:y∈[x.f.g.a.row,x.f.g.b.row,x.f.g.c.row,UT x]:=hy
  simp only [List.mem_cons,List.not_mem_nil,or_false] at hy
  rcases hy with rfl|rfl|rfl|rfl
  · exact h1
  · exact h2
  · exact h3
  · exact h4
theorem BV.ofMGF {m:MQ} {S:Nat->Prop} {W w:World} {e:Ending} (h:BV (Yg m) (λ_=>False) W e w):BV (MF m) S W e w:=by
  obtain ⟨a,h1,h2,h3⟩:=h
  refine ⟨a.f,h1,h2,λy hy=>?_⟩
  have h4:=h3 y (by
    have hy:y∈[a.f.g.a.row,a.f.g.b.row,a.f.g.c.row]:=hy
    show y∈[a.f.g.a.row,a.f.g.b.row,a.f.g.c.row,UT a]
    simp only [List.mem_cons,List.not_mem_nil,or_false] at hy ⊢
    rcases hy with rfl|rfl|rfl<;>simp)
  exact ⟨h4.1,λb e=>(h4.2 b e).imp id λk=>k.elim⟩
section
set_option maxRecDepth 100000
theorem UN (q:QD) (h:q.ok) (w:World)  :Calls prog 115 #[(aG (YA q))] w (Aq w (aG (AJ (NY q)))):=by
 obtain ⟨h1,h2,h3⟩:=h
 refine Ae (args:=[(aG (YA q))]) func115 O O (Ac O) (AF.subF (sL [0] O) (q4 (Bg (cs:=YA q) O λb1=>al D4 O λb2=>q3 (sL [1,2] O) ?_)))
 refine AH (v:=(pP b1 0)) (AA O underlying104 O sizeOf2 O) O (BJ 1 (vI q.n) M9 O (AH (v:=(pP b1 1)) (AA O underlying104 O sizeOf101 O) O (BJ 1 (vK .u32 q.d) ZT O (AH (FT (c:=((max q.d 1:Nat):Int)) O O (by split<;>omega)) O (AH (A8 (c:=((max q.d 1:Nat):Int)) O underlying101 underlying2 (CZ Z)) O ?_)))))
 refine BR call152 (SO (q.n:Int) ((max q.d 1:Nat):Int) Z Z Z Z Z) O (AS O (AH (AZ (v:=(aG (AJ (((q.n:Int):Rat)/(((max q.d 1:Nat):Int):Rat))))) O O) O (AH (AZ (v:=(vI 0)) O O) O (al D4 O λb3=>Aw O sizeOf53 O ?_))))
 refine AL O (q3 (sL [2,3] O) (BA 0 Bm O (DP O sizeOf53 O (AE.nil (AD.subF (sL [2,3] O) ?_)))))
 exact AD.then_ (AF.ret (AR O (Az (i:=1) (cs:=AJ (((q.n:Int):Rat)/(((max q.d 1:Nat):Int):Rat))) O O isAgg53 sizeOf53 O) (λw hw=>⟨rfl,hw.out⟩)))
theorem El (x0:Rat) (x1:Rat):Instr.fill ([(0,5),(5,5)].toArray[·]?) (Am (⟨0,0⟩:Pt)).toArray [(0,.agg (AJ x0).toArray),(1,.agg (AJ x1).toArray)]=some (AJ x0++AJ x1).toArray:=by kernel_rfl
theorem X8 (p:PD) (h:p.ok) (w:World)  :Calls prog 45 #[(aG (Z4 p))] w (Aq w (aG (Am (CP p)))):=by
 have h1:=h.1
 have h2:=h.2
 refine Ae (args:=[(aG (Z4 p))]) func45 O O (Ac O) (AF.subF (sL [0] O) (q4 (Bg (cs:=Z4 p) O λb1=>al E3 O λb2=>q6 (sL [1,2] O) ?_)))
 refine Cm [(0,true),(1,true),(3,true),(4,true),(2,false),(5,false),(6,true),(7,false)] (sl sr) (Au (v:=(pP b1 0)) O (AA O underlying106 O sizeOf104 O) (GL 0 (YA p.x) XD O (Au (v:=(pP b1 2)) O (AA O underlying106 O sizeOf104 O) (GL 0 (YA p.y) XD O (AT.imp O ?_)))))
 refine BR call115 (UN p.x (by assumption)) O (AT.back (sl sr) (AT.imp O (BR call115 (UN p.y (by assumption)) O (AT.back (sl sr) (Au (v:=(aG (AJ (NY p.x)++AJ (NY p.y)))) O (Ad (zs:=Am (⟨0,0⟩:Pt)) (vs:=AJ (NY p.x)++AJ (NY p.y)) (pv:=[(0,(aG (AJ (NY p.x)))),(1,(aG (AJ (NY p.y))))]) (places:=[(0,5),(5,5)]) zeroValue55 underlying55 (λw=>by simp [sizeOf53]) O (El (NY p.x) (NY p.y))) ?_)))))
 refine AT.imp O (Aw O sizeOf55 O (AT.back (sl sr) (AT.nil (AD.subF (sL [2] O) (AD.then_ ?_)))))
 exact AF.ret (AR O (Az (i:=0) (cs:=AJ (NY p.x)++AJ (NY p.y)) O O isAgg55 sizeOf55 O) (λw hw=>⟨rfl,hw.out⟩))
end
section
set_option maxRecDepth 100000
theorem YD:ElemT prog 29 44 3 24:=⟨underlying29,EU (by kernel_rfl)⟩
theorem YO:ElemT prog 27 55 10 112:=⟨underlying27,EU (by kernel_rfl)⟩
theorem Kc (x0:Pt):Instr.fill (λi=>some (i*10,10)) ((Array.range (1*10)).map ((Value.agg (Am (⟨0,0⟩:Pt)).toArray).cells[·%(Value.agg (Am (⟨0,0⟩:Pt)).toArray).cells.size]!)) [(0,.agg (Am x0).toArray)]=some (Am x0).toArray:=by kernel_rfl
theorem Kv (x0:Nat×Nat×Nat):Instr.fill (λi=>some (i*3,3)) ((Array.range (1*3)).map ((Value.agg (Af ((0,0,0):Nat×Nat×Nat)).toArray).cells[·%(Value.agg (Af ((0,0,0):Nat×Nat×Nat)).toArray).cells.size]!)) [(0,.agg (Af x0).toArray)]=some (Af x0).toArray:=by kernel_rfl
set_option maxHeartbeats 2000000 in
theorem Rm (m:MQ) (w:World) {S:Nat->Prop} (hm:Ro S w m):Calls prog 11 #[(aG (Er m))] w (BV (Yg m) (λ_=>False) w):=by
 have hd:=m.hden
 have hdm:B9 m<256:=by unfold B9;omega
 have lm:=DU (W:=w) hm
 refine A6 (args:=[(aG (Er m))]) (L:=[AY m.p (DA m.cs)]) func11 O O (Ac O) (DV hm BN) (AF.subF (sL [0] O) (q4 (Bg (cs:=Er m) O λb1=>al JP O λb2=>q3 (sL [1,2] O) ?_)))
 refine BA 1 NQ O (AE.callR (S:=λ_=>False) (α:=YF m) (args:=[(aG (Er m))]) call44 (λw hw=>(O7 m w (Cq hw 2 O lm)).mono λe w1 h=>h.weak λb k=>k.elim) O O O λgf lgf=>al YJ O λb3=>Aw O sizeOf99 O (q3 (sL [1,2,3] O) (al JP O λb4=>?_)))
 refine AE.nilRow 55 10 (AE.nilRow 44 3 (AE.nil (q2 (AH (v:=(pP b1 7)) (AA O underlying26 O sizeOf5 O) O (BJ 9 (vK .u8 m.den) Sy O ?_)))))
 refine AH (By (c:=((m.den%6:Nat):Int)) O O Z (Gd (a:=m.den) (b:=6))) O (AH (AW (c:=((B9 m:Nat):Int)) O O (Ws (a:=1) (b:=m.den%6) Z)) O (AH (A8 (c:=((B9 m:Nat):Int)) O underlying5 underlying101 (Ca Z)) O (AL O (q6 (sL [1,2,3,4,5] O) (q4 ?_)))))
 refine AL O (AE.nil (AD.then_ (AF.block ?_)))
 refine AF.lp4 (tg λ(i:Nat) (p1:Option Addr) (c1:Nat) (ps:List Pt)=>i<=gf.x.pl.length/\OwnOk p1 ps.length c1/\ps=Rk m (Fa m gf.x.pl) i) (tg λ(i:Nat) (p1:Option Addr) (c1:Nat) (ps:List Pt)=>[(2,(pP b2 0)),(3,(pP b3 0)),(4,(pP b4 0)),(5,(vK .u32 (B9 m))),(6,(vN i))]) (tg λ(i:Nat) (p1:Option Addr) (c1:Nat) (ps:List Pt)=>[rowW none 44 3 0 0 (rowsL Af ([])),rowW p1 55 10 ps.length c1 (rowsL Am ps),Ag b4 31 ([(Value.slice p1 ps.length c1),(Value.slice none 0 0),(Value.slice none 0 0)]),Ag b3 99 ([(Value.slice gf.x.a.p gf.x.pl.length gf.x.a.c),(Value.slice gf.x.b.p gf.x.ts.length gf.x.b.c),(Value.slice gf.x.c.p gf.x.ss.length gf.x.c.c)]),AY gf.x.a.p (rowsL CU (Fa m gf.x.pl)),AY gf.x.b.p (rowsL Af gf.x.ts),AY gf.x.c.p (rowsL Af gf.x.ss),NI gf,Ag b2 31 ([(Value.slice none 0 0),(Value.slice none 0 0),(Value.slice none 0 0)]),Ag b1 26 (Er m),AY m.p (DA m.cs)]) (tg λ(i:Nat) (p1:Option Addr) (c1:Nat) (ps:List Pt)=>gf.x.pl.length-i) 0 none 0 ([]:List Pt) (⟨Nat.zero_le _,OwnOk.none,rfl⟩) (sF O) sr (λi p1 c1 ps hJ=>?_)
 obtain ⟨hi,h1,hps⟩:=hJ
 have hzl:(Fa m gf.x.pl).length=gf.x.pl.length:=by simp [Fa]
 have hll:=gf.x.inv.pll
 have hcl:=Hp m
 have hpl:ps.length<=108:=by rw [hps,Jd (by rw [hzl];omega)];omega
 refine AF.seq (q4 (AS O (AH (v:=(pP b3 0)) (AA O underlying99 O sizeOf97 O) O (BJ 3 (Value.slice gf.x.a.p gf.x.pl.length gf.x.a.c) RB O (AH (v:=(vN gf.x.pl.length)) (AG O underlying97) O ?_)))))
 refine AH (Ak (c:=(decide (i<gf.x.pl.length))) O O (C1 (a:=i) (b:=gf.x.pl.length))) O (AE.nil (AD.subF (sL [2,3,4,5,6,20] O) (AD.then_ ?_)))
 refine AF.cond O (λhc0=>?_) (λhc0=>?_)
 ·replace hc0:=of_decide_eq_true hc0
  refine AF.skip (q1 (AF.block (AF.seq (Cm [(0,true),(1,true),(2,true),(3,true),(4,true),(5,true),(6,true),(7,true),(8,true),(9,true),(10,true),(11,true),(12,true),(13,true),(14,true),(15,true),(16,true),(17,false),(18,false)] sr (Au (v:=(pP b3 0)) O (AA O underlying99 O sizeOf97 O) ?_)))))
  refine Be 3 (Value.slice gf.x.a.p gf.x.pl.length gf.x.a.c) RB O (Bc O (Au (v:=(pP (pB gf.x.a.p) (pO gf.x.a.p+i*2))) O (AQ (j:=i) O O gf.x.a.ok underlying97 sizeOf102 O Z) (Au (v:=(pP (pB gf.x.a.p) (pO gf.x.a.p+(i*2+0)))) O (AC (j:=0) O O underlying102 sizeOf2 O (by decide) (Nat.add_assoc _ _ _)) (Au O (Ap (v:=(vI (((Fa m gf.x.pl).getD i ((0,0):Int×Int)).1))) (i:=4) O O (BI.ne gf.x.a.ok Z) M9 (Dx Fo ((0,0):Int×Int) _ _ 0 Z (by decide) O)) (Bc O ?_)))))
  refine Au (v:=(aG ([(vI (((Fa m gf.x.pl).getD i ((0,0):Int×Int)).1)),(vK .u32 (B9 m))]))) O (Ad (zs:=[(vI 0),(Value.int .u32 (0:Int))]) (vs:=[(vI (((Fa m gf.x.pl).getD i ((0,0):Int×Int)).1)),(vK .u32 (B9 m))]) (pv:=[(0,(vI (((Fa m gf.x.pl).getD i ((0,0):Int×Int)).1))),(1,(vK .u32 (B9 m)))]) (places:=[(0,1),(1,1)]) zeroValue104 underlying104 (λw=>by simp [sizeOf2,sizeOf101]) O O) (Au (v:=(pP b3 0)) O (AA O underlying99 O sizeOf97 O) (Be 3 (Value.slice gf.x.a.p gf.x.pl.length gf.x.a.c) RB O (Bc O (Au (v:=(pP (pB gf.x.a.p) (pO gf.x.a.p+i*2))) O (AQ (j:=i) O O gf.x.a.ok underlying97 sizeOf102 O Z) (Au (v:=(pP (pB gf.x.a.p) (pO gf.x.a.p+(i*2+1)))) O (AC (j:=1) O O underlying102 sizeOf2 O (by decide) (Nat.add_assoc _ _ _)) ?_)))))
  refine Au O (Ap (v:=(vI (((Fa m gf.x.pl).getD i ((0,0):Int×Int)).2))) (i:=4) O O (BI.ne gf.x.a.ok Z) M9 (Dx Fo ((0,0):Int×Int) _ _ 1 Z (by decide) O)) (Bc O (Au (v:=(aG ([(vI (((Fa m gf.x.pl).getD i ((0,0):Int×Int)).2)),(vK .u32 (B9 m))]))) O (Ad (zs:=[(vI 0),(Value.int .u32 (0:Int))]) (vs:=[(vI (((Fa m gf.x.pl).getD i ((0,0):Int×Int)).2)),(vK .u32 (B9 m))]) (pv:=[(0,(vI (((Fa m gf.x.pl).getD i ((0,0):Int×Int)).2))),(1,(vK .u32 (B9 m)))]) (places:=[(0,1),(1,1)]) zeroValue104 underlying104 (λw=>by simp [sizeOf2,sizeOf101]) O O) (Au (v:=(aG ([(vI (((Fa m gf.x.pl).getD i ((0,0):Int×Int)).1)),(vK .u32 (B9 m)),(vI (((Fa m gf.x.pl).getD i ((0,0):Int×Int)).2)),(vK .u32 (B9 m))]))) O (Ad (zs:=[(vI 0),(Value.int .u32 (0:Int)),(vI 0),(Value.int .u32 (0:Int))]) (vs:=[(vI (((Fa m gf.x.pl).getD i ((0,0):Int×Int)).1)),(vK .u32 (B9 m)),(vI (((Fa m gf.x.pl).getD i ((0,0):Int×Int)).2)),(vK .u32 (B9 m))]) (pv:=[(0,(aG ([(vI (((Fa m gf.x.pl).getD i ((0,0):Int×Int)).1)),(vK .u32 (B9 m))]))),(1,(aG ([(vI (((Fa m gf.x.pl).getD i ((0,0):Int×Int)).2)),(vK .u32 (B9 m))])))]) (places:=[(0,2),(2,2)]) zeroValue106 underlying106 (λw=>by simp [sizeOf104]) O O) (AT.imp O (al Y5 O λb5=>?_)))))
  refine AT.back (sl sr) (AT.imp O (Aw O sizeOf106 O (AT.back (sl sr) (AT.nil (AD.subF (sL [2,3,4,5,6,7] O) ?_)))))
  refine AD.then_ (rC [(0,true),(1,true),(2,true),(3,false),(4,false),(5,false),(6,true)] 7 [] (sk (sk (sl sr))) (sk (sk (sl sr))) (by kernel_rfl) (λ_ _ d _ _ h=>by cases d<;>exact h) (vE (v:=(pP b4 0)) O (AA O underlying31 O sizeOf27 O) O (vE O (AI (i:=2) (v:=(Value.slice p1 ps.length c1)) O O DG.a O) O (vE (v:=(aG ([(vI (((Fa m gf.x.pl).getD i ((0,0):Int×Int)).1)),(vK .u32 (B9 m)),(vI (((Fa m gf.x.pl).getD i ((0,0):Int×Int)).2)),(vK .u32 (B9 m))]))) O (A7 (i:=0) (vs:=[(vI (((Fa m gf.x.pl).getD i ((0,0):Int×Int)).1)),(vK .u32 (B9 m)),(vI (((Fa m gf.x.pl).getD i ((0,0):Int×Int)).2)),(vK .u32 (B9 m))]) O O XM.a XM.s O O) O (Bu.imp O ?_)))))
  refine BR call45 (X8 (SA m ((Fa m gf.x.pl).getD i (0,0))) (XE gf.x.inv.small Z)) O (Bu.back (sk (sk (sl sr))) (Bu.imp O (AE.openV (V:=λb6=>(Value.slice (some ⟨b6,0,none⟩) 1 1)) (T:=55) (cs:=Am (CP (SA m ((Fa m gf.x.pl).getD i (0,0))))) (AK O) (Ar (z:=.agg (Am (⟨0,0⟩:Pt)).toArray) (cs:=Am (CP (SA m ((Fa m gf.x.pl).getD i (0,0))))) (pv:=[(0,(aG (Am (CP (SA m ((Fa m gf.x.pl).getD i (0,0)))))))]) underlying27 sizeOf55 zeroValue55 (by decide) (by decide) O (Kc (CP (SA m ((Fa m gf.x.pl).getD i (0,0)))))) O (Ac O) λb6=>Bu.back (sl (sk (sk (sl sr)))) (Bu.imp O ?_))))
  refine AE.appendAt 3 (j:=0) (cs2:=rowsL Am (ps++[CP (SA m ((Fa m gf.x.pl).getD i (0,0)))])) YO O h1 (Aa BG _) O O O O O (by decide) (Ga Z) Z (by rw [BO];rfl) O λp_1 c_1 ho_1 hne_1=>Bu.back (sl (sk (sk (sl sr)))) (vE (v:=(pP b4 0)) O (AA O underlying31 O sizeOf27 O) O (Bu.cut O (EW 4 (off:=0) (vs:=[(Value.slice p_1 (ps.length+1) c_1)]) (cs':=[(Value.slice p_1 (ps.length+1) c_1),(Value.slice none 0 0),(Value.slice none 0 0)]) (AK O) O sizeOf27 O (AT.back (sl (sk (sk (sl (sl sr))))) ?_))))
  refine AT.nil (AD.subF (sL [2,3,4,5,6,7] O) (AD.in_normal (AD.then_ (AF.region (AS O ?_)))))
  refine AH (AW (c:=((i+1:Nat):Int)) O O (AX (a:=i) (b:=1) Z)) O (AL O (AE.nil (AD.subF (sL [2,3,4,5,6,7] O) ?_)))
  rw [show ps.length+1=(ps++[CP (SA m ((Fa m gf.x.pl).getD i (0,0)))]).length by simp]
  exact AD.round4 (i+1) p_1 c_1 (ps++[CP (SA m ((Fa m gf.x.pl).getD i (0,0)))]) (⟨Z,(by simpa using ho_1),by rw [hps,Ua (by rw [hzl];omega)]⟩) Z (sF O) (sl (sl sr))
 ·replace hc0:=of_decide_eq_false hc0
  have hps9:ps.length=gf.x.pl.length:=by rw [hps,show i=gf.x.pl.length by omega,Jd (by rw [hzl];omega)]
  have hfin:ps=Rk m (Fa m gf.x.pl) gf.x.pl.length:=by rw [hps,show i=gf.x.pl.length by omega]
  refine AF.exit (AD.then_exit (AD.round4_exit (AD.in_exit (q2 (AH (v:=(pP b3 1)) (AA O underlying99 O sizeOf28 O) O ?_)))))
  refine BJ 3 (Value.slice gf.x.b.p gf.x.ts.length gf.x.b.c) B4 O (AH (v:=(pP b4 1)) (AA O underlying31 O sizeOf28 O) O (EW 2 (off:=1) (vs:=[(Value.slice gf.x.b.p gf.x.ts.length gf.x.b.c)]) (cs':=[(Value.slice p1 ps.length c1),(Value.slice gf.x.b.p gf.x.ts.length gf.x.b.c),(Value.slice none 0 0)]) (AK O) O sizeOf28 O (q6 (sL [2,3,4,5,6] O) (q4 (AL O ?_)))))
  refine AE.nil (AD.then_ (AF.block ?_))
  refine AF.lp4 (tg λ(j:Nat) (p2:Option Addr) (c2:Nat) (ss:List (Nat×Nat×Nat))=>j<=gf.x.ss.length/\OwnOk p2 ss.length c2/\ss.length=j/\ss=gf.x.ss.take j) (tg λ(j:Nat) (p2:Option Addr) (c2:Nat) (ss:List (Nat×Nat×Nat))=>[(2,(pP b2 0)),(3,(pP b3 0)),(4,(pP b4 0)),(8,(vN j))]) (tg λ(j:Nat) (p2:Option Addr) (c2:Nat) (ss:List (Nat×Nat×Nat))=>[rowW p2 44 3 ss.length c2 (rowsL Af ss),rowW p1 55 10 ps.length c1 (rowsL Am ps),Ag b4 31 ([(Value.slice p1 ps.length c1),(Value.slice gf.x.b.p gf.x.ts.length gf.x.b.c),(Value.slice p2 ss.length c2)]),Ag b3 99 ([(Value.slice gf.x.a.p gf.x.pl.length gf.x.a.c),(Value.slice gf.x.b.p gf.x.ts.length gf.x.b.c),(Value.slice gf.x.c.p gf.x.ss.length gf.x.c.c)]),AY gf.x.a.p (rowsL CU (Fa m gf.x.pl)),AY gf.x.b.p (rowsL Af gf.x.ts),AY gf.x.c.p (rowsL Af gf.x.ss),NI gf,Ag b2 31 ([(Value.slice none 0 0),(Value.slice none 0 0),(Value.slice none 0 0)]),Ag b1 26 (Er m),AY m.p (DA m.cs)]) (tg λ(j:Nat) (p2:Option Addr) (c2:Nat) (ss:List (Nat×Nat×Nat))=>gf.x.ss.length-j) 0 none 0 ([]:List (Nat×Nat×Nat)) (⟨Nat.zero_le _,OwnOk.none,rfl,rfl⟩) (sF O) sr (λj p2 c2 ss hJ=>?_)
  obtain ⟨hj,h2,hsl,hsd⟩:=hJ
  have hgs:=gf.x.sl
  refine AF.seq (q4 (AS O (AH (v:=(pP b3 2)) (AA O underlying99 O sizeOf28 O) O (BJ 3 (Value.slice gf.x.c.p gf.x.ss.length gf.x.c.c) B4 O (AH (v:=(vN gf.x.ss.length)) (AG O underlying28) O ?_)))))
  refine AH (Ak (c:=(decide (j<gf.x.ss.length))) O O (C1 (a:=j) (b:=gf.x.ss.length))) O (AE.nil (AD.subF (sL [2,3,4,8,54] O) (AD.then_ ?_)))
  refine AF.cond O (λhc1=>?_) (λhc1=>?_)
  ·replace hc1:=of_decide_eq_true hc1
   refine AF.skip (q1 (AF.block (rC [(0,true),(1,true),(2,true),(3,true),(4,true),(5,true),(6,true),(7,true),(8,true),(9,true),(10,true),(11,true),(12,true),(13,true),(14,true),(15,true),(16,true),(17,true),(18,true),(19,true),(20,true),(21,false),(22,false),(23,true)] 24 [] (sl sr) (sk (sl sr)) (by kernel_rfl) (λ_ _ d _ _ h=>by cases d<;>exact h) (vE (v:=(pP b4 2)) O (AA O underlying31 O sizeOf29 O) O (vE O (AI (i:=1) (v:=(Value.slice p2 ss.length c2)) O O KN.a O) O ?_)))))
   refine vE (v:=(pP b3 2)) O (AA O underlying99 O sizeOf28 O) O (vE O (AI (i:=2) (v:=(Value.slice gf.x.c.p gf.x.ss.length gf.x.c.c)) O O B4.a O) O (vM O O O (vE (v:=(pP (pB gf.x.c.p) (pO gf.x.c.p+j*3))) O (AQ (j:=j) O O gf.x.c.ok underlying28 sizeOf76 O Z) O (vE (v:=(pP (pB gf.x.c.p) (pO gf.x.c.p+(j*3+0)))) O (AC (j:=0) O O underlying76 sizeOf3 O (by decide) (Nat.add_assoc _ _ _)) O (vE O (Ap (v:=(vN ((gf.x.ss.getD j ((0,0,0):Nat×Nat×Nat)).1))) (i:=5) O O (BI.ne gf.x.c.ok Z) Bn (Dx Ah ((0,0,0):Nat×Nat×Nat) _ _ 0 Z (by decide) O)) O ?_)))))
   refine vE (v:=(pP b3 2)) O (AA O underlying99 O sizeOf28 O) O (vE O (AI (i:=2) (v:=(Value.slice gf.x.c.p gf.x.ss.length gf.x.c.c)) O O B4.a O) O (vM O O O (vE (v:=(pP (pB gf.x.c.p) (pO gf.x.c.p+j*3))) O (AQ (j:=j) O O gf.x.c.ok underlying28 sizeOf76 O Z) O (vE (v:=(pP (pB gf.x.c.p) (pO gf.x.c.p+(j*3+1)))) O (AC (j:=1) O O underlying76 sizeOf3 O (by decide) (Nat.add_assoc _ _ _)) O (vE O (Ap (v:=(vN ((gf.x.ss.getD j ((0,0,0):Nat×Nat×Nat)).2.1))) (i:=5) O O (BI.ne gf.x.c.ok Z) Bn (Dx Ah ((0,0,0):Nat×Nat×Nat) _ _ 1 Z (by decide) O)) O ?_)))))
   refine vE (v:=(pP b3 2)) O (AA O underlying99 O sizeOf28 O) O (vE O (AI (i:=2) (v:=(Value.slice gf.x.c.p gf.x.ss.length gf.x.c.c)) O O B4.a O) O (vM O O O (vE (v:=(pP (pB gf.x.c.p) (pO gf.x.c.p+j*3))) O (AQ (j:=j) O O gf.x.c.ok underlying28 sizeOf76 O Z) O (vE (v:=(pP (pB gf.x.c.p) (pO gf.x.c.p+(j*3+2)))) O (AC (j:=2) O O underlying76 sizeOf3 O (by decide) (Nat.add_assoc _ _ _)) O (vE O (Ap (v:=(vN ((gf.x.ss.getD j ((0,0,0):Nat×Nat×Nat)).2.2))) (i:=5) O O (BI.ne gf.x.c.ok Z) Bn (Dx Ah ((0,0,0):Nat×Nat×Nat) _ _ 2 Z (by decide) O)) O ?_)))))
   refine vE (v:=(aG ([(vN ((gf.x.ss.getD j ((0,0,0):Nat×Nat×Nat)).1)),(vN ((gf.x.ss.getD j ((0,0,0):Nat×Nat×Nat)).2.1)),(vN ((gf.x.ss.getD j ((0,0,0):Nat×Nat×Nat)).2.2))]))) O (Ad (zs:=Af ((0,0,0):Nat×Nat×Nat)) (vs:=[(vN ((gf.x.ss.getD j ((0,0,0):Nat×Nat×Nat)).1)),(vN ((gf.x.ss.getD j ((0,0,0):Nat×Nat×Nat)).2.1)),(vN ((gf.x.ss.getD j ((0,0,0):Nat×Nat×Nat)).2.2))]) (pv:=[(0,(vN ((gf.x.ss.getD j ((0,0,0):Nat×Nat×Nat)).1))),(1,(vN ((gf.x.ss.getD j ((0,0,0):Nat×Nat×Nat)).2.1))),(2,(vN ((gf.x.ss.getD j ((0,0,0):Nat×Nat×Nat)).2.2)))]) (places:=[(0,1),(1,1),(2,1)]) zeroValue44 underlying44 (λw=>by simp [sizeOf3]) O O) O (Bu.imp O (AE.openV (V:=λb5=>(Value.slice (some ⟨b5,0,none⟩) 1 1)) (T:=44) (cs:=Af ((gf.x.ss.getD j ((0,0,0):Nat×Nat×Nat)).1,(gf.x.ss.getD j ((0,0,0):Nat×Nat×Nat)).2.1,(gf.x.ss.getD j ((0,0,0):Nat×Nat×Nat)).2.2)) (AK O) (Ar (z:=.agg (Af ((0,0,0):Nat×Nat×Nat)).toArray) (cs:=Af ((gf.x.ss.getD j ((0,0,0):Nat×Nat×Nat)).1,(gf.x.ss.getD j ((0,0,0):Nat×Nat×Nat)).2.1,(gf.x.ss.getD j ((0,0,0):Nat×Nat×Nat)).2.2)) (pv:=[(0,(aG ([(vN ((gf.x.ss.getD j ((0,0,0):Nat×Nat×Nat)).1)),(vN ((gf.x.ss.getD j ((0,0,0):Nat×Nat×Nat)).2.1)),(vN ((gf.x.ss.getD j ((0,0,0):Nat×Nat×Nat)).2.2))])))]) underlying29 sizeOf44 zeroValue44 (by decide) (by decide) O (Kv ((gf.x.ss.getD j ((0,0,0):Nat×Nat×Nat)).1,(gf.x.ss.getD j ((0,0,0):Nat×Nat×Nat)).2.1,(gf.x.ss.getD j ((0,0,0):Nat×Nat×Nat)).2.2))) O (Ac O) λb5=>Bu.back (sl (sl sr)) (Bu.imp O (AE.append1 (j:=0) (cs2:=rowsL Af (ss++[((gf.x.ss.getD j ((0,0,0):Nat×Nat×Nat)).1,(gf.x.ss.getD j ((0,0,0):Nat×Nat×Nat)).2.1,(gf.x.ss.getD j ((0,0,0):Nat×Nat×Nat)).2.2)])) YD O h2 (Aa Ah _) O O O O (by decide) (Ga Z) Z (by rw [BO];rfl) O λp_2 c_2 ho_2 hne_2=>?_))))
   refine Bu.back (sl (sl sr)) (vE (v:=(pP b4 2)) O (AA O underlying31 O sizeOf29 O) O (Bu.cut O (EW 3 (off:=2) (vs:=[(Value.slice p_2 (ss.length+1) c_2)]) (cs':=[(Value.slice p1 ps.length c1),(Value.slice gf.x.b.p gf.x.ts.length gf.x.b.c),(Value.slice p_2 (ss.length+1) c_2)]) (AK O) O sizeOf29 O (AT.back (sl (sl (sk (sl sr)))) (AT.nil ?_)))))
   refine AD.subF (sL [2,3,4,8] O) (AD.in_normal (AD.then_ (AF.region (AS O (AH (AW (c:=((j+1:Nat):Int)) O O (AX (a:=j) (b:=1) Z)) O ?_)))))
   refine AL O (AE.nil (AD.subF (sL [2,3,4,8] O) ?_))
   rw [show ss.length+1=(ss++[((gf.x.ss.getD j ((0,0,0):Nat×Nat×Nat)).1,(gf.x.ss.getD j ((0,0,0):Nat×Nat×Nat)).2.1,(gf.x.ss.getD j ((0,0,0):Nat×Nat×Nat)).2.2)]).length by simp]
   exact AD.round4 (j+1) p_2 c_2 (ss++[((gf.x.ss.getD j ((0,0,0):Nat×Nat×Nat)).1,(gf.x.ss.getD j ((0,0,0):Nat×Nat×Nat)).2.1,(gf.x.ss.getD j ((0,0,0):Nat×Nat×Nat)).2.2)]) (⟨Z,(by simpa using ho_2),by simp [hsl],by rw [hsd];exact (Ls Z).symm⟩) Z (sF O) (sl sr)
  ·replace hc1:=of_decide_eq_false hc1
   refine AF.exit (AD.then_exit (AD.round4_exit (AD.in_exit (q2 (BA 2 C_ O ?_)))))
   exact EW 8 (off:=0) (vs:=[(Value.slice p1 ps.length c1),(Value.slice gf.x.b.p gf.x.ts.length gf.x.b.c),(Value.slice p2 ss.length c2)]) (cs':=[(Value.slice p1 ps.length c1),(Value.slice gf.x.b.p gf.x.ts.length gf.x.b.c),(Value.slice p2 ss.length c2)]) (AK O) O sizeOf31 O (AE.nil (AD.subF (sL [2,3,4,8] O) (AD.then_ (AF.ret (AR O (Az (i:=8) (cs:=[(Value.slice p1 ps.length c1),(Value.slice gf.x.b.p gf.x.ts.length gf.x.b.c),(Value.slice p2 ss.length c2)]) O O isAgg31 sizeOf31 O) (λw hw=>(YE hw ⟨⟨MG.mk ps gf.x.ts ss (Vy gf.x hfin) (by have h9:=gf.x.sl;omega) ⟨m,by rw [hps9,hsd,show j=gf.x.ss.length by omega,List.take_length];exact gf.x.sd⟩ ⟨p1,c1,h1.row⟩ gf.x.b ⟨p2,c2,h2.row⟩,Wu gf.x hfin⟩,gf.ob,hw.asunder (i:=1) (j:=5) O O (by decide) O,hw.asunder (i:=0) (j:=5) O O (by decide) O⟩ (Ef (S:=λ_=>False) hw 1 O h1 (Aa BG _)) (Zq (Cq hw 4 O (At.wm lgf))) (Ef (S:=λ_=>False) hw 0 O h2 (Aa Ah _)) (Vg hw 7 O (At.wmf lgf)) O)))))))
theorem Qy (m:MQ) (w:World) {S:Nat->Prop} (hm:Ro S w m):Calls prog 11 #[(aG (Er m))] w (BV (MF m) S w):=(Rm m w hm).mono λe w1 h=>h.ofMGF
theorem UV (m:MQ) (w:World) {S:Nat->Prop} (hm:Ro S w m):Calls prog 11 #[(aG (Er m))] w (BV MG S w):=(Qy m w hm).mono λe w1 h=>h.ofMF
end
end Go.Proofs.YtfbomiejpbchdaaGreat
