import Derived.Test.YtfbomiejpbchdaaGreatPart06
import Derived.Test.YtfbomiejpbchdaaGreatPart19
import Derived.Test.YtfbomiejpbchdaaGreatPart22
import Derived.Test.YtfbomiejpbchdaaGreatPart24
namespace Go.Proofs.YtfbomiejpbchdaaGreat
open Go Go.RowKit
set_option linter.unusedVariables false
set_option linter.unusedSimpArgs false
theorem G8 (a b:Rat):a<b\/b<=a:=by grind
def Jq (A B:P2) (x y:Rat):Rat:=((B.1:Rat)-(A.1:Rat))*(y-(A.2:Rat))-((B.2:Rat)-(A.2:Rat))*(x-(A.1:Rat))
def VF (t:P2×P2×P2) (x y:Rat):Prop:=0<Jq t.2.1 t.2.2 x y/\0<Jq t.2.2 t.1 x y/\0<Jq t.1 t.2.1 x y
def inC (t:P2×P2×P2) (x y:Rat):Prop:=0<=Jq t.2.1 t.2.2 x y/\0<=Jq t.2.2 t.1 x y/\0<=Jq t.1 t.2.1 x y
def Zn (s t:P2×P2×P2):Prop:=∀x y,(VF s x y->¬inC t x y)/\(VF t x y->¬inC s x y)
theorem Gh (u:Nat):((2*u:Nat):Rat)=2*(u:Rat):=by rw [Rat.natCast_mul];rfl
theorem Jl (u:Nat):((2*u+2:Nat):Rat)=2*(u:Rat)+2:=by rw [Rat.natCast_add,Gh];rfl
theorem Qh (u:Nat):((2*u+1:Nat):Rat)=2*(u:Rat)+1:=by rw [Rat.natCast_add,Gh];rfl
theorem Qn {t:P2×P2×P2} {nx way i u v:Nat} (hu:u=i%nx) (hv:v=i/nx) (ht:t∈Co nx way i) (x y:Rat) :
    (VF t x y->(2*(u:Rat)<x/\x<2*(u:Rat)+2)/\2*(v:Rat)<y/\y<2*(v:Rat)+2)/\(inC t x y->(2*(u:Rat)<=x/\x<=2*(u:Rat)+2)/\2*(v:Rat)<=y/\y<=2*(v:Rat)+2):=by
  have key:t∈[((2*u,2*v),(2*u+2,2*v),(2*u+2,2*v+2)),((2*u,2*v),(2*u+2,2*v+2),(2*u,2*v+2)),((2*u,2*v),(2*u+2,2*v),(2*u,2*v+2)),((2*u+2,2*v),(2*u+2,2*v+2),(2*u,2*v+2)),
      ((2*u,2*v),(2*u+2,2*v),(2*u+1,2*v+1)),((2*u+2,2*v),(2*u+2,2*v+2),(2*u+1,2*v+1)),((2*u+2,2*v+2),(2*u,2*v+2),(2*u+1,2*v+1)),((2*u,2*v+2),(2*u,2*v),(2*u+1,2*v+1))]:=by
    subst hu;subst hv
    unfold Co at ht
    simp only at ht
    split at ht
    · simp only [List.mem_cons,List.not_mem_nil,or_false] at ht ⊢;rcases ht with h|h<;>simp [h]
    · split at ht
      · simp only [List.mem_cons,List.not_mem_nil,or_false] at ht ⊢;rcases ht with h|h<;>simp [h]
      · split at ht
        · simp only [List.mem_cons,List.not_mem_nil,or_false] at ht ⊢;rcases ht with h|h|h|h<;>simp [h]
        · cases ht
  clear hu hv ht
  simp only [List.mem_cons,List.not_mem_nil,or_false] at key
  rcases key with rfl|rfl|rfl|rfl|rfl|rfl|rfl|rfl<;>(simp only [VF,inC,Jq,Gh,Jl,Qh];generalize (u:Rat)=U;generalize (v:Rat)=V;refine ⟨λh=>?_,λh=>?_⟩<;>obtain ⟨h1,h2,h3⟩:=h<;>refine ⟨⟨?_,?_⟩,?_,?_⟩<;>grind)
theorem SB {s t:P2×P2×P2} {nx way way' i j:Nat} (hij:i≠j) (hs:s∈Co nx way i) (ht:t∈Co nx way' j):Zn s t:=λx y=>by
  have a:=Qn rfl rfl hs x y
  have b:=Qn rfl rfl ht x y
  have hne:i%nx≠j%nx\/i/nx≠j/nx:=by
    rcases Decidable.em (i%nx=j%nx) with e|e
    · rcases Decidable.em (i/nx=j/nx) with e2|e2
      · exact absurd (by rw [<-Nat.div_add_mod i nx,<-Nat.div_add_mod j nx,e,e2]) hij
      · exact .inr e2
    · exact .inl e
  have lt:∀{p q:Nat},p<q->(p:Rat)+1<=(q:Rat):=λ{p q} h=>by
    have h1:((p+1:Nat):Rat)<=(q:Rat):=by exact_mod_cast h
    rw [Rat.natCast_add] at h1
    exact h1
  have four:(i%nx:Nat)+1<=j%nx\/(j%nx:Nat)+1<=i%nx\/(i/nx:Nat)+1<=j/nx\/(j/nx:Nat)+1<=i/nx:=by omega
  revert a b
  rcases four with h|h|h|h<;>have h:=lt h<;>generalize ((i%nx:Nat):Rat)=A at*<;> generalize ((j%nx:Nat):Rat)=B at*<;> generalize ((i/nx:Nat):Rat)=C at*<;> generalize ((j/nx:Nat):Rat)=D at*<;> intro a b<;>refine ⟨λh1 h2=>?_,λh1 h2=>?_⟩ <;>
    first
      | (have a1:=a.1 h1;have b1:=b.2 h2;obtain ⟨⟨_,_⟩,_,_⟩:=a1;obtain ⟨⟨_,_⟩,_,_⟩:=b1;grind)
      | (have a1:=a.2 h2;have b1:=b.1 h1;obtain ⟨⟨_,_⟩,_,_⟩:=a1;obtain ⟨⟨_,_⟩,_,_⟩:=b1;grind)
theorem SU (nx way i:Nat):(Co nx way i).Pairwise Zn:=by
  unfold Co
  simp only
  generalize i%nx=u
  generalize i/nx=v
  split
  · refine List.pairwise_pair.2 λx y=>?_
    simp only [VF,inC,Jq,Gh,Jl];generalize (u:Rat)=U;generalize (v:Rat)=V
    refine ⟨λh k=>?_,λh k=>?_⟩<;>obtain ⟨h1,h2,h3⟩:=h<;>obtain ⟨k1,k2,k3⟩:=k<;>grind
  · split
    · refine List.pairwise_pair.2 λx y=>?_
      simp only [VF,inC,Jq,Gh,Jl];generalize (u:Rat)=U;generalize (v:Rat)=V
      refine ⟨λh k=>?_,λh k=>?_⟩<;>obtain ⟨h1,h2,h3⟩:=h<;>obtain ⟨k1,k2,k3⟩:=k<;>grind
    · split
      · simp only [List.pairwise_cons,List.mem_cons,List.not_mem_nil,or_false,forall_eq_or_imp,forall_eq,List.Pairwise.nil,and_true,false_implies,implies_true]
        refine ⟨⟨?_,?_,?_⟩,⟨?_,?_⟩,?_⟩<;>intro x y<;>simp only [VF,inC,Jq,Gh,Jl,Qh]<;>generalize (u:Rat)=U<;>generalize (v:Rat)=V<;>refine ⟨λh k=>?_,λh k=>?_⟩<;>obtain ⟨h1,h2,h3⟩:=h<;>obtain ⟨k1,k2,k3⟩:=k<;>grind
      · exact List.Pairwise.nil
theorem ED (m:MQ):∀i t,t∈EE m i->∃j,j<i/\t∈Co (Fy m) (GY m j) j
  | 0,t,h=>by cases h
  | i+1,t,h=>by
    rcases List.mem_append.1 h with h|h
    · obtain ⟨j,hj,h⟩:=ED m i t h;exact ⟨j,by omega,h⟩
    · exact ⟨i,by omega,h⟩
theorem Kf (m:MQ):∀i,(EE m i).Pairwise Zn
  | 0=>List.Pairwise.nil
  | i+1=>List.pairwise_append.2 ⟨Kf m i,SU _ _ _,λs hs t ht=>by
      obtain ⟨j,hj,h⟩:=ED m i s hs
      exact SB (by omega) h ht⟩
theorem Lj (m:MQ) {i j:Nat} (hi:i<(BD m).length) (hj:j<(BD m).length) (hne:i≠j) (d:P2×P2×P2):∀x y,VF ((BD m).getD i d) x y->¬inC ((BD m).getD j d) x y:=λx y h=>by
  have hp:=List.pairwise_iff_getElem.1 (Kf m (Fy m*Rk m))
  rw [List.getD,List.getElem?_eq_getElem hi] at h
  rw [List.getD,List.getElem?_eq_getElem hj]
  rcases Nat.lt_or_gt_of_ne hne with hlt|hgt
  · exact (hp i j hi hj hlt x y).1 h
  · exact (hp j i hj hi hgt x y).2 h
theorem lattice {k:DA} (h:k.Ok) (den:Nat) (q:Pt):∃x y c:Rat,0<c/\∀A B:P2,AQ (CJ (GZ k den A)) (CJ (GZ k den B)) q=c*Jq A B x y:=by
  have hD:0<(((max den 1:Nat):Int):Rat):=by exact_mod_cast (show (0:Int)<((max den 1:Nat):Int) by omega)
  have hd:(0:Rat)<(k.det:Rat):=by exact_mod_cast h.pos
  have ed:(k.det:Rat)=(k.a:Rat)*(k.d:Rat)-(k.b:Rat)*(k.c:Rat):=by simp only [DA.det,Rat.intCast_sub,Rat.intCast_mul]
  have hi:=Rat.inv_pos.2 hD
  have he:((((max den 1:Nat):Int):Rat)⁻¹)*(((max den 1:Nat):Int):Rat)=1:=Rat.inv_mul_cancel _ (by grind)
  have hdi:((k.det:Rat)⁻¹)*(k.det:Rat)=1:=Rat.inv_mul_cancel _ (by grind)
  obtain ⟨qx,qy⟩:=q
  refine ⟨((k.d:Rat)*qx-(k.b:Rat)*qy)*(((max den 1:Nat):Int):Rat)*(k.det:Rat)⁻¹,((k.a:Rat)*qy-(k.c:Rat)*qx)*(((max den 1:Nat):Int):Rat)*(k.det:Rat)⁻¹,(k.det:Rat)*((((max den 1:Nat):Int):Rat)⁻¹*(((max den 1:Nat):Int):Rat)⁻¹),Rat.mul_pos hd (Rat.mul_pos hi hi),λA B=>?_⟩
  simp only [Cb,CJ,GZ,Ng,DA.at_,Jq,Rat.div_def,Rat.intCast_add,Rat.intCast_mul]
  rw [ed] at hdi ⊢
  clear hD hd hi ed
  generalize (((max den 1:Nat):Int):Rat)⁻¹=e at *
  generalize (((max den 1:Nat):Int):Rat)=D at *
  simp only [Rat.intCast_natCast]
  generalize ((k.a:Rat)*(k.d:Rat)-(k.b:Rat)*(k.c:Rat))⁻¹=f at *
  generalize (k.a:Rat)=a at *
  generalize (k.b:Rat)=b at *
  generalize (k.c:Rat)=c at *
  generalize (k.d:Rat)=d at *
  generalize (A.1:Rat)=A1
  generalize (A.2:Rat)=A2
  generalize (B.1:Rat)=B1
  generalize (B.2:Rat)=B2
  clear h
  have hx:qx=(a*((d*qx-b*qy)*D*f)+b*((a*qy-c*qx)*D*f))*e:=by grind
  have hy:qy=(c*((d*qx-b*qy)*D*f)+d*((a*qy-c*qx)*D*f))*e:=by grind
  generalize (d*qx-b*qy)*D*f=X at *
  generalize (a*qy-c*qx)*D*f=Y at *
  subst hx
  subst hy
  grind
theorem ER {α:Type} {enc:α->List Value} {z:Nat} (h:∀x,(enc x).length=z) (d:α) (xs:List α) (j r:Nat) (hj:j<xs.length) (hr:r<z) {v:Value} (hv:(enc (xs.getD j d))[r]?=some v):(rowsL enc xs)[j*z+r]?=some v:=by
  have h1:=Au h d xs j hj
  rw [<-h1,List.getElem?_take_of_lt hr,List.getElem?_drop] at hv
  exact hv
theorem BI (p:Pt):(Ae p).length=10:=rfl
structure YZ (ps:List Pt) (t:Nat×Nat×Nat):Prop where
  a:t.1<ps.length
  b:t.2.1<ps.length
  c:t.2.2<ps.length
  ab:t.1≠t.2.1
  bc:t.2.1≠t.2.2
  ca:t.2.2≠t.1
  pos:0<AQ (ps.getD t.1 ⟨0,0⟩) (ps.getD t.2.1 ⟨0,0⟩) (ps.getD t.2.2 ⟨0,0⟩)
def Zo (ps:List Pt) (t:Nat×Nat×Nat) (q:Pt):Prop:=0<AQ q (ps.getD t.2.1 ⟨0,0⟩) (ps.getD t.2.2 ⟨0,0⟩)/\0<AQ (ps.getD t.1 ⟨0,0⟩) q (ps.getD t.2.2 ⟨0,0⟩)/\0<AQ (ps.getD t.1 ⟨0,0⟩) (ps.getD t.2.1 ⟨0,0⟩) q
def KS (ps:List Pt) (t:Nat×Nat×Nat) (q:Pt):Prop:=0<=AQ q (ps.getD t.2.1 ⟨0,0⟩) (ps.getD t.2.2 ⟨0,0⟩)/\0<=AQ (ps.getD t.1 ⟨0,0⟩) q (ps.getD t.2.2 ⟨0,0⟩)/\0<=AQ (ps.getD t.1 ⟨0,0⟩) (ps.getD t.2.1 ⟨0,0⟩) q
def B3 (m:MQ):Nat:=1+m.den%6
def SH (m:MQ) (z:Int×Int):PD:=⟨⟨z.1,B3 m⟩,⟨z.2,B3 m⟩⟩
def RL (m:MQ) (zs:List (Int×Int)) (i:Nat):List Pt:=(zs.take i).map λz=>CJ (SH m z)
theorem Ja {m:MQ} {zs:List (Int×Int)} {i:Nat} (h:i<=zs.length):(RL m zs i).length=i:=by simp [RL];omega
theorem T0 {m:MQ} {zs:List (Int×Int)} {i:Nat} (h:i<zs.length):RL m zs (i+1)=RL m zs i++[CJ (SH m (zs.getD i (0,0)))]:=by
  unfold RL
  rw [List.take_add_one,List.getElem?_eq_getElem h,List.map_append,List.getD,List.getElem?_eq_getElem h]
  rfl
theorem QK {m:MQ} {zs:List (Int×Int)} {i:Nat} (h:i<zs.length):(RL m zs zs.length).getD i ⟨0,0⟩=CJ (SH m (zs.getD i (0,0))):=by
  unfold RL
  rw [List.take_length,List.getD,List.getElem?_map,List.getElem?_eq_getElem h,List.getD,List.getElem?_eq_getElem h]
  rfl
def Fe (m:MQ) (pl:List P2):List (Int×Int):=pl.map λp=>(mapM m).at_ p
structure ET (ps:List Pt) (ts:List (Nat×Nat×Nat)):Prop where
  ne:ts≠[]
  tl:ts.length<=36
  pl:ps.length<=108
  sz:∀i,Bo (ps.getD i ⟨0,0⟩)<=4
  tri:∀j,j<ts.length->YZ ps (ts.getD j (0,0,0))
  apart:∀i j,i<ts.length->j<ts.length->i≠j->∀q,Zo ps (ts.getD i (0,0,0)) q->¬KS ps (ts.getD j (0,0,0)) q
  lat:∃(m:MQ) (pl:List P2),M0 m (BD m).length pl ts/\XI pl/\ps=RL m (Fe m pl) pl.length
structure MG where
  ps:List Pt
  ts:List (Nat×Nat×Nat)
  ss:List (Nat×Nat×Nat)
  good:ET ps ts
  sl:ss.length<=108*108
  sd:∃m:MQ,ss=Du m ts ps.length ps.length
  a:RX (rowsL Ae ps) ps.length
  b:RX (rowsL Al ts) ts.length
  c:RX (rowsL Al ss) ss.length
def ZM (x:MG):List Value:=[x.a.val,x.b.val,x.c.val]
theorem XO {x:MG} {y:As} (hy:y∈[x.a.row,x.b.row,x.c.row]):y.ro=true:=by
  simp only [List.mem_cons,List.not_mem_nil,or_false] at hy
  rcases hy with rfl|rfl|rfl<;>rfl
instance:D9 MG:=⟨λx=>aG (ZM x),λx=>[x.a.row,x.b.row,x.c.row],λx y hy=>XO hy⟩
theorem Zb {S:Nat->Prop} {W w:World} {L:List As} {m:MQ} {x:WM m} (h:Ro (SL ⟨W,none⟩ S L) w x):Holds w x.b.row/\∀b,x.b.row.foot=some b->W.heap.size<=b\/S b:=by
  have h1:=h x.b.row (List.mem_cons_of_mem _ List.mem_cons_self)
  exact ⟨h1.1,λb e=>(h1.2 b e).2⟩
theorem Jp {m:MQ} {pl:List P2} {i:Nat} (h:i<pl.length):(Fe m pl).getD i (0,0)=(mapM m).at_ (pl.getD i (0,0)):=by
  simp [Fe,List.getD,h]
theorem XH {m:MQ} {pl:List P2} (hs:∀p∈pl,p.1<=6/\p.2<=6) {i:Nat} (h:i<pl.length):(SH m ((Fe m pl).getD i (0,0))).ok:=by
  rw [Jp h]
  have hp:=hs (pl.getD i (0,0)) (by rw [List.getD,List.getElem?_eq_getElem h];exact List.getElem_mem h)
  obtain ⟨⟨h1,h2⟩,h3,h4⟩:=Um (Fb m.a m.b m.c m.d) hp
  have hd:B3 m<4294967296:=by unfold B3;omega
  have e:mapM m=GX m.a m.b m.c m.d:=rfl
  rw [<-e] at h1 h2 h3 h4
  exact ⟨⟨by show -9223372036854775808<=((mapM m).at_ _).1;omega,by show ((mapM m).at_ _).1<_;omega,hd⟩,⟨by show -9223372036854775808<=((mapM m).at_ _).2;omega,by show ((mapM m).at_ _).2<_;omega,hd⟩⟩
theorem E5 (a b c:P2):Bu b c a=Bu a b c:=by unfold Bu;grind
theorem DB (a b:P2):Bu a a b=0/\Bu a b b=0/\Bu b a b=0:=by unfold Bu;exact ⟨by grind,by grind,by grind⟩
theorem RM {m:MQ} {t:Nat} (h:t<(BD m).length):0<Bu (Ax m t 0) (Ax m t 1) (Ax m t 2):=by
  have h1:=G5 m ((BD m).getD t ((0,0),(0,0),(0,0))) (by rw [List.getD,List.getElem?_eq_getElem h];exact List.getElem_mem h)
  unfold Ax Iq
  generalize (BD m).getD t ((0,0),(0,0),(0,0))=c at *
  generalize t*(m.fst/3)=q at *
  have h0:=h1.1
  have e:(m.fst+q)%3=0\/(m.fst+q)%3=1\/(m.fst+q)%3=2:=by omega
  rcases e with e|e|e
  · rw [show (0+m.fst+q)%3=0 by omega,show (1+m.fst+q)%3=1 by omega,show (2+m.fst+q)%3=2 by omega]
    exact h0
  · rw [show (0+m.fst+q)%3=1 by omega,show (1+m.fst+q)%3=2 by omega,show (2+m.fst+q)%3=0 by omega]
    show 0<Bu c.2.1 c.2.2 c.1
    rw [E5];exact h0
  · rw [show (0+m.fst+q)%3=2 by omega,show (1+m.fst+q)%3=0 by omega,show (2+m.fst+q)%3=1 by omega]
    show 0<Bu c.2.2 c.1 c.2.1
    rw [E5 c.2.1,E5];exact h0
theorem Mw (m:MQ) (t:Nat) (x y:Rat):(0<Jq (Ax m t 1) (Ax m t 2) x y->0<Jq (Ax m t 2) (Ax m t 0) x y->0<Jq (Ax m t 0) (Ax m t 1) x y->VF ((BD m).getD t ((0,0),(0,0),(0,0))) x y) /\
    (0<=Jq (Ax m t 1) (Ax m t 2) x y->0<=Jq (Ax m t 2) (Ax m t 0) x y->0<=Jq (Ax m t 0) (Ax m t 1) x y->inC ((BD m).getD t ((0,0),(0,0),(0,0))) x y):=by
  unfold Ax Iq
  generalize (BD m).getD t ((0,0),(0,0),(0,0))=c at *
  generalize t*(m.fst/3)=q at *
  have e:(m.fst+q)%3=0\/(m.fst+q)%3=1\/(m.fst+q)%3=2:=by omega
  rcases e with e|e|e
  · rw [show (0+m.fst+q)%3=0 by omega,show (1+m.fst+q)%3=1 by omega,show (2+m.fst+q)%3=2 by omega]
    exact ⟨λa b c=>⟨a,b,c⟩,λa b c=>⟨a,b,c⟩⟩
  · rw [show (0+m.fst+q)%3=1 by omega,show (1+m.fst+q)%3=2 by omega,show (2+m.fst+q)%3=0 by omega]
    exact ⟨λa b c=>⟨c,a,b⟩,λa b c=>⟨c,a,b⟩⟩
  · rw [show (0+m.fst+q)%3=2 by omega,show (1+m.fst+q)%3=0 by omega,show (2+m.fst+q)%3=1 by omega]
    exact ⟨λa b c=>⟨b,c,a⟩,λa b c=>⟨b,c,a⟩⟩
theorem Oz {c z:Rat} (hc:0<c) (h:0<c*z):0<z:=by
  rcases G8 0 z with h1|h1
  · exact h1
  · have:=Rat.mul_nonneg (show 0<=c by grind) (show 0 <= -z by grind)
    grind
theorem HR {c z:Rat} (hc:0<c) (h:0<=c*z):0<=z:=by
  rcases G8 z 0 with h1|h1
  · have:=Rat.mul_pos hc (show 0 < -z by grind)
    grind
  · exact h1
theorem Wj {m:MQ} (x:WM m) {ps:List Pt} (h:ps=RL m (Fe m x.pl) x.pl.length):ET ps x.ts:=by
  have hz:(Fe m x.pl).length=x.pl.length:=by simp [Fe]
  rw [<-hz] at h
  have hl:ps.length=x.pl.length:=by rw [h,Ja (Nat.le_refl _),hz]
  have hg:∀i,i<x.pl.length->ps.getD i ⟨0,0⟩=CJ (GZ (mapM m) (B3 m) (x.pl.getD i (0,0))):=λi hi=>by
    rw [h,QK (by rw [hz];exact hi),Jp hi];rfl
  have hi:=x.inv
  have hcl:=Hj m
  refine ⟨λe=>RR m (List.eq_nil_of_length_eq_zero (by rw [<-hi.tl,e];rfl)),by rw [hi.tl];exact hcl,by rw [hl];have:=hi.pll;omega,λi=>?_,λj hj=>?_,λi j hi1 hj1 hne q ho hcl2=>?_,⟨m,x.pl,x.inv,x.dst,by rw [h,hz]⟩⟩
  · rcases Nat.lt_or_ge i x.pl.length with h1|h1
    · have hok:=XH (m:=m) hi.small h1
      rw [hg i h1]
      have:=SN hok
      rw [Jp h1] at this
      exact this
    · rw [List.getD,List.getElem?_eq_none (by rw [hl];exact h1)];decide +kernel
  · rw [hi.tl] at hj
    have ht:=hi.at_ j hj
    have hc:=RM hj
    have hp:=Wu (Fb m.a m.b m.c m.d) (B3 m) hc
    obtain ⟨⟨a1,a2⟩,⟨b1,b2⟩,⟨c1,c2⟩⟩:=ht
    refine ⟨by rw [hl];exact a1,by rw [hl];exact b1,by rw [hl];exact c1,λe=>?_,λe=>?_,λe=>?_,?_⟩
    · rw [e,b2] at a2;rw [<-a2,(DB _ _).1] at hc;omega
    · rw [e,c2] at b2;rw [<-b2,(DB _ _).2.1] at hc;omega
    · rw [e,a2] at c2;rw [<-c2,(DB _ _).2.2] at hc;omega
    · rw [hg _ a1,hg _ b1,hg _ c1,a2,b2,c2];exact hp
  · rw [hi.tl] at hi1 hj1
    obtain ⟨x',y',c,hc,key⟩:=lattice (Fb m.a m.b m.c m.d) (B3 m) q
    obtain ⟨⟨a1,a2⟩,⟨b1,b2⟩,⟨c1,c2⟩⟩:=hi.at_ i hi1
    obtain ⟨⟨d1,d2⟩,⟨e1,e2⟩,⟨f1,f2⟩⟩:=hi.at_ j hj1
    obtain ⟨o1,o2,o3⟩:=ho
    obtain ⟨k1,k2,k3⟩:=hcl2
    rw [hg _ b1,hg _ c1,b2,c2,<-D4,show mapM m=GX m.a m.b m.c m.d from rfl,key] at o1
    rw [hg _ a1,hg _ c1,a2,c2,D4,show mapM m=GX m.a m.b m.c m.d from rfl,key] at o2
    rw [hg _ a1,hg _ b1,a2,b2,show mapM m=GX m.a m.b m.c m.d from rfl,key] at o3
    rw [hg _ e1,hg _ f1,e2,f2,<-D4,show mapM m=GX m.a m.b m.c m.d from rfl,key] at k1
    rw [hg _ d1,hg _ f1,d2,f2,D4,show mapM m=GX m.a m.b m.c m.d from rfl,key] at k2
    rw [hg _ d1,hg _ e1,d2,e2,show mapM m=GX m.a m.b m.c m.d from rfl,key] at k3
    exact Lj m hi1 hj1 hne _ x' y' ((Mw m i x' y').1 (Oz hc o1) (Oz hc o2) (Oz hc o3)) ((Mw m j x' y').2 (HR hc k1) (HR hc k2) (HR hc k3))
def ZK (m:MQ) (ps:List Pt) (ts:List (Nat×Nat×Nat)):Prop:=∃pl:List P2,M0 m (BD m).length pl ts/\XI pl/\ps=RL m (Fe m pl) pl.length
theorem Vh {m:MQ} (x:WM m) {ps:List Pt} (h:ps=RL m (Fe m x.pl) x.pl.length):ZK m ps x.ts:=⟨x.pl,x.inv,x.dst,h⟩
structure MF (m:MQ) where
  g:MG
  lat:ZK m g.ps g.ts
instance {m:MQ}:D9 (MF m):=⟨λx=>aG (ZM x.g),λx=>[x.g.a.row,x.g.b.row,x.g.c.row],λx y hy=>XO hy⟩
theorem Bp.ofMF {m:MQ} {S:Nat->Prop} {W w:World} {e:Ending} (h:Bp (MF m) S W e w):Bp MG S W e w:=by
  obtain ⟨a,h1,h2,h3⟩:=h
  exact ⟨a.g,h1,h2,h3⟩
structure YQ (m:MQ) where
  f:MF m
  ob:OwnOk f.g.b.p f.g.ts.length f.g.b.c
  da:∀x,f.g.b.p.map (·.block)=some x->f.g.a.p.map (·.block)≠some x
  dc:∀x,f.g.b.p.map (·.block)=some x->f.g.c.p.map (·.block)≠some x
def UQ {m:MQ} (y:YQ m):As:=Y6 y.f.g.b.p 76 3 y.f.g.ts.length y.f.g.b.c (rowsL Al y.f.g.ts)
instance {m:MQ}:D9 (YQ m):=⟨λy=>aG (ZM y.f.g),λy=>[y.f.g.a.row,y.f.g.b.row,y.f.g.c.row,UQ y],λx y hy=>by
  simp only [List.mem_cons,List.not_mem_nil,or_false] at hy
  rcases hy with rfl|rfl|rfl|rfl<;>rfl⟩
theorem XX {m:MQ} {W w:World} {L:List As} (hw:BR ⟨W,none⟩ w L) (x:YQ m) (h1:Holds w x.f.g.a.row/\∀b,x.f.g.a.row.foot=some b->W.heap.size<=b\/False) (h2:Holds w x.f.g.b.row/\∀b,x.f.g.b.row.foot=some b->W.heap.size<=b\/False) (h3:Holds w x.f.g.c.row/\∀b,x.f.g.c.row.foot=some b->W.heap.size<=b\/False) (h4:Holds w (UQ x)/\∀b,(UQ x).foot=some b->W.heap.size<=b\/False) {v:Value} (hv:v=aG (ZM x.f.g)):Bp (YQ m) (λ_=>False) W (.returned v) w:=by
  refine ⟨x,by rw [hv];rfl,hw.out,λy hy=>?_⟩
  have hy:y∈[x.f.g.a.row,x.f.g.b.row,x.f.g.c.row,UQ x]:=hy
  simp only [List.mem_cons,List.not_mem_nil,or_false] at hy
  rcases hy with rfl|rfl|rfl|rfl
  · exact h1
  · exact h2
  · exact h3
  · exact h4
theorem Bp.ofMGF {m:MQ} {S:Nat->Prop} {W w:World} {e:Ending} (h:Bp (YQ m) (λ_=>False) W e w):Bp (MF m) S W e w:=by
  obtain ⟨a,h1,h2,h3⟩:=h
  refine ⟨a.f,h1,h2,λy hy=>?_⟩
  have h4:=h3 y (by
    have hy:y∈[a.f.g.a.row,a.f.g.b.row,a.f.g.c.row]:=hy
    show y∈[a.f.g.a.row,a.f.g.b.row,a.f.g.c.row,UQ a]
    simp only [List.mem_cons,List.not_mem_nil,or_false] at hy ⊢
    rcases hy with rfl|rfl|rfl<;>simp)
  exact ⟨h4.1,λb e=>(h4.2 b e).imp id λk=>k.elim⟩
section
set_option maxRecDepth 100000
theorem Sj (q:QD) (h:q.ok) (w:World)  :Calls Tryz.prog 115 #[(aG (Xa q))] w (Am w (aG (AD (Ng q)))):=by
 obtain ⟨h1,h2,h3⟩:=h
 refine Ac (args:=[(aG (Xa q))]) Tryz.func115 rfl rfl (Ad rfl) (AG.subF (sL [0] rfl) (q4 (Bl (cs:=Xa q) rfl λb1=>al Dk rfl λb2=>q3 (sL [1,2] rfl) ?_)))
 refine AJ (v:=(pP b1 0)) (AA rfl Tryz.underlying104 rfl Tryz.sizeOf2 rfl) rfl (BL 1 (vI q.n) My rfl (AJ (v:=(pP b1 1)) (AA rfl Tryz.underlying104 rfl Tryz.sizeOf101 rfl) rfl (BL 1 (vK .u32 q.d) Yx rfl (AJ (GO (c:=((max q.d 1:Nat):Int)) rfl rfl (by split<;>omega)) rfl (AJ (Az (c:=((max q.d 1:Nat):Int)) rfl Tryz.underlying101 Tryz.underlying2 (CZ (by omega))) rfl ?_)))))
 refine BU Tryz.call152 (Po (q.n:Int) ((max q.d 1:Nat):Int) (by omega) (by omega) (by omega) (by omega) (by omega)) rfl (AO rfl (AJ (AT (v:=(aG (AD (((q.n:Int):Rat)/(((max q.d 1:Nat):Int):Rat))))) rfl rfl) rfl (AJ (AT (v:=(vI 0)) rfl rfl) rfl (al Dk rfl λb3=>Ap rfl Tryz.sizeOf53 rfl ?_))))
 refine AK rfl (q3 (sL [2,3] rfl) (A7 0 BO rfl (Cr rfl Tryz.sizeOf53 rfl (AF.nil (AC.subF (sL [2,3] rfl) ?_)))))
 exact AC.then_ (AG.ret (AR rfl (Ay (i:=1) (cs:=AD (((q.n:Int):Rat)/(((max q.d 1:Nat):Int):Rat))) rfl rfl Tryz.isAgg53 Tryz.sizeOf53 rfl) (λw hw=>⟨rfl,hw.out⟩)))
theorem Ev (x0:Rat) (x1:Rat):Instr.fill ([(0,5),(5,5)].toArray[·]?) (Ae (⟨0,0⟩:Pt)).toArray [(0,.agg (AD x0).toArray),(1,.agg (AD x1).toArray)]=some (AD x0++AD x1).toArray:=by kernel_rfl
theorem Xu (p:PD) (h:p.ok) (w:World)  :Calls Tryz.prog 45 #[(aG (Zl p))] w (Am w (aG (Ae (CJ p)))):=by
 have h1:=h.1
 have h2:=h.2
 refine Ac (args:=[(aG (Zl p))]) Tryz.func45 rfl rfl (Ad rfl) (AG.subF (sL [0] rfl) (q4 (Bl (cs:=Zl p) rfl λb1=>al EM rfl λb2=>q6 (sL [1,2] rfl) ?_)))
 refine Cq [(0,true),(1,true),(3,true),(4,true),(2,false),(5,false),(6,true),(7,false)] (sl sr) (Av (v:=(pP b1 0)) rfl (AA rfl Tryz.underlying106 rfl Tryz.sizeOf104 rfl) (Fk 0 (Xa p.x) XG rfl (Av (v:=(pP b1 2)) rfl (AA rfl Tryz.underlying106 rfl Tryz.sizeOf104 rfl) (Fk 0 (Xa p.y) XG rfl (AS.imp rfl ?_)))))
 refine BU Tryz.call115 (Sj p.x (by assumption)) rfl (AS.back (sl sr) (AS.imp rfl (BU Tryz.call115 (Sj p.y (by assumption)) rfl (AS.back (sl sr) (Av (v:=(aG (AD (Ng p.x)++AD (Ng p.y)))) rfl (AY (zs:=Ae (⟨0,0⟩:Pt)) (vs:=AD (Ng p.x)++AD (Ng p.y)) (pv:=[(0,(aG (AD (Ng p.x)))),(1,(aG (AD (Ng p.y))))]) (places:=[(0,5),(5,5)]) Tryz.zeroValue55 Tryz.underlying55 (λw=>by simp [Tryz.sizeOf53]) rfl (Ev (Ng p.x) (Ng p.y))) ?_)))))
 refine AS.imp rfl (Ap rfl Tryz.sizeOf55 rfl (AS.back (sl sr) (AS.nil (AC.subF (sL [2] rfl) (AC.then_ ?_)))))
 exact AG.ret (AR rfl (Ay (i:=0) (cs:=AD (Ng p.x)++AD (Ng p.y)) rfl rfl Tryz.isAgg55 Tryz.sizeOf55 rfl) (λw hw=>⟨rfl,hw.out⟩))
end
end Go.Proofs.YtfbomiejpbchdaaGreat
