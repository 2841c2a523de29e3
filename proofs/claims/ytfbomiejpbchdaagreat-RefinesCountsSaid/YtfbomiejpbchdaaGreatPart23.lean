import Derived.Test.YtfbomiejpbchdaaGreatPart06
import Derived.Test.YtfbomiejpbchdaaGreatPart19
import Derived.Test.YtfbomiejpbchdaaGreatPart21
namespace Go.Proofs.YtfbomiejpbchdaaGreat
open Go Go.RowKit
set_option linter.unusedVariables false
set_option linter.unusedSimpArgs false
theorem Lk (a b:Rat):a<b\/b<=a:=by grind
def Jf (A B:P2) (x y:Rat):Rat:=((B.1:Rat)-(A.1:Rat))*(y-(A.2:Rat))-((B.2:Rat)-(A.2:Rat))*(x-(A.1:Rat))
def UF (t:P2×P2×P2) (x y:Rat):Prop:=0<Jf t.2.1 t.2.2 x y/\0<Jf t.2.2 t.1 x y/\0<Jf t.1 t.2.1 x y
def inC (t:P2×P2×P2) (x y:Rat):Prop:=0<=Jf t.2.1 t.2.2 x y/\0<=Jf t.2.2 t.1 x y/\0<=Jf t.1 t.2.1 x y
def X6 (s t:P2×P2×P2):Prop:=∀x y,(UF s x y->¬inC t x y)/\(UF t x y->¬inC s x y)
theorem GR (u:Nat):((2*u:Nat):Rat)=2*(u:Rat):=by rw [Rat.natCast_mul];rfl
theorem I5 (u:Nat):((2*u+2:Nat):Rat)=2*(u:Rat)+2:=by rw [Rat.natCast_add,GR];rfl
theorem PT (u:Nat):((2*u+1:Nat):Rat)=2*(u:Rat)+1:=by rw [Rat.natCast_add,GR];rfl
theorem P1 {t:P2×P2×P2} {nx way i u v:Nat} (hu:u=i%nx) (hv:v=i/nx) (ht:t∈Ce nx way i) (x y:Rat) :
    (UF t x y->(2*(u:Rat)<x/\x<2*(u:Rat)+2)/\2*(v:Rat)<y/\y<2*(v:Rat)+2)/\(inC t x y->(2*(u:Rat)<=x/\x<=2*(u:Rat)+2)/\2*(v:Rat)<=y/\y<=2*(v:Rat)+2):=by
  have key:t∈[((2*u,2*v),(2*u+2,2*v),(2*u+2,2*v+2)),((2*u,2*v),(2*u+2,2*v+2),(2*u,2*v+2)),((2*u,2*v),(2*u+2,2*v),(2*u,2*v+2)),((2*u+2,2*v),(2*u+2,2*v+2),(2*u,2*v+2)),
      ((2*u,2*v),(2*u+2,2*v),(2*u+1,2*v+1)),((2*u+2,2*v),(2*u+2,2*v+2),(2*u+1,2*v+1)),((2*u+2,2*v+2),(2*u,2*v+2),(2*u+1,2*v+1)),((2*u,2*v+2),(2*u,2*v),(2*u+1,2*v+1))]:=by
    subst hu;subst hv
    unfold Ce at ht
    simp only at ht
    split at ht
    · simp only [List.mem_cons,List.not_mem_nil,or_false] at ht ⊢;rcases ht with h|h<;>simp [h]
    · split at ht
      · simp only [List.mem_cons,List.not_mem_nil,or_false] at ht ⊢;rcases ht with h|h<;>simp [h]
      · split at ht
        · simp only [List.mem_cons,List.not_mem_nil,or_false] at ht ⊢;rcases ht with h|h|h|h<;>simp [h]
        · cases ht
  clear hu hv ht
  simp only [List.mem_cons,List.not_mem_nil,or_false] at key
  rcases key with rfl|rfl|rfl|rfl|rfl|rfl|rfl|rfl<;>(simp only [UF,inC,Jf,GR,I5,PT];generalize (u:Rat)=U;generalize (v:Rat)=V;refine ⟨λh=>?_,λh=>?_⟩<;>obtain ⟨h1,h2,h3⟩:=h<;>refine ⟨⟨?_,?_⟩,?_,?_⟩<;>grind)
theorem RJ {s t:P2×P2×P2} {nx way way' i j:Nat} (hij:i≠j) (hs:s∈Ce nx way i) (ht:t∈Ce nx way' j):X6 s t:=λx y=>by
  have a:=P1 rfl rfl hs x y
  have b:=P1 rfl rfl ht x y
  have hne:i%nx≠j%nx\/i/nx≠j/nx:=by
    rcases Decidable.em (i%nx=j%nx) with e|e
    · rcases Decidable.em (i/nx=j/nx) with e2|e2
      · exact absurd (by rw [<-Nat.div_add_mod i nx,<-Nat.div_add_mod j nx,e,e2]) hij
      · exact .inr e2
    · exact .inl e
  have lt:∀{p q:Nat},p<q->(p:Rat)+1<=(q:Rat):=λ{p q} h=>by
    have h1:((p+1:Nat):Rat)<=(q:Rat):=by exact_mod_cast h
    rw [Rat.natCast_add] at h1
    exact h1
  have four:(i%nx:Nat)+1<=j%nx\/(j%nx:Nat)+1<=i%nx\/(i/nx:Nat)+1<=j/nx\/(j/nx:Nat)+1<=i/nx:=by omega
  revert a b
  rcases four with h|h|h|h<;>have h:=lt h<;>generalize ((i%nx:Nat):Rat)=A at*<;> generalize ((j%nx:Nat):Rat)=B at*<;> generalize ((i/nx:Nat):Rat)=C at*<;> generalize ((j/nx:Nat):Rat)=D at*<;> intro a b<;>refine ⟨λh1 h2=>?_,λh1 h2=>?_⟩ <;>
    first
      | (have a1:=a.1 h1;have b1:=b.2 h2;obtain ⟨⟨_,_⟩,_,_⟩:=a1;obtain ⟨⟨_,_⟩,_,_⟩:=b1;grind)
      | (have a1:=a.2 h2;have b1:=b.1 h1;obtain ⟨⟨_,_⟩,_,_⟩:=a1;obtain ⟨⟨_,_⟩,_,_⟩:=b1;grind)
theorem S4 (nx way i:Nat):(Ce nx way i).Pairwise X6:=by
  unfold Ce
  simp only
  generalize i%nx=u
  generalize i/nx=v
  split
  · refine List.pairwise_pair.2 λx y=>?_
    simp only [UF,inC,Jf,GR,I5];generalize (u:Rat)=U;generalize (v:Rat)=V
    refine ⟨λh k=>?_,λh k=>?_⟩<;>obtain ⟨h1,h2,h3⟩:=h<;>obtain ⟨k1,k2,k3⟩:=k<;>grind
  · split
    · refine List.pairwise_pair.2 λx y=>?_
      simp only [UF,inC,Jf,GR,I5];generalize (u:Rat)=U;generalize (v:Rat)=V
      refine ⟨λh k=>?_,λh k=>?_⟩<;>obtain ⟨h1,h2,h3⟩:=h<;>obtain ⟨k1,k2,k3⟩:=k<;>grind
    · split
      · simp only [List.pairwise_cons,List.mem_cons,List.not_mem_nil,or_false,forall_eq_or_imp,forall_eq,List.Pairwise.nil,and_true,false_implies,implies_true]
        refine ⟨⟨?_,?_,?_⟩,⟨?_,?_⟩,?_⟩<;>intro x y<;>simp only [UF,inC,Jf,GR,I5,PT]<;>generalize (u:Rat)=U<;>generalize (v:Rat)=V<;>refine ⟨λh k=>?_,λh k=>?_⟩<;>obtain ⟨h1,h2,h3⟩:=h<;>obtain ⟨k1,k2,k3⟩:=k<;>grind
      · exact List.Pairwise.nil
theorem Do (m:MQ):∀i t,t∈Dm m i->∃j,j<i/\t∈Ce (FV m) (Fz m j) j
  | 0,t,h=>by cases h
  | i+1,t,h=>by
    rcases List.mem_append.1 h with h|h
    · obtain ⟨j,hj,h⟩:=Do m i t h;exact ⟨j,by omega,h⟩
    · exact ⟨i,by omega,h⟩
theorem KT (m:MQ):∀i,(Dm m i).Pairwise X6
  | 0=>List.Pairwise.nil
  | i+1=>List.pairwise_append.2 ⟨KT m i,S4 _ _ _,λs hs t ht=>by
      obtain ⟨j,hj,h⟩:=Do m i s hs
      exact RJ (by omega) h ht⟩
theorem Lc (m:MQ) {i j:Nat} (hi:i<(BA m).length) (hj:j<(BA m).length) (hne:i≠j) (d:P2×P2×P2):∀x y,UF ((BA m).getD i d) x y->¬inC ((BA m).getD j d) x y:=λx y h=>by
  have hp:=List.pairwise_iff_getElem.1 (KT m (FV m*Qu m))
  rw [List.getD,List.getElem?_eq_getElem hi] at h
  rw [List.getD,List.getElem?_eq_getElem hj]
  rcases Nat.lt_or_gt_of_ne hne with hlt|hgt
  · exact (hp i j hi hj hlt x y).1 h
  · exact (hp j i hj hi hgt x y).2 h
theorem lattice {k:Cw} (h:k.Ok) (den:Nat) (q:Pt):∃x y c:Rat,0<c/\∀A B:P2,B9 (DY (M4 k den A)) (DY (M4 k den B)) q=c*Jf A B x y:=by
  have hD:0<(((max den 1:Nat):Int):Rat):=by exact_mod_cast (show (0:Int)<((max den 1:Nat):Int) by omega)
  have hd:(0:Rat)<(k.det:Rat):=by exact_mod_cast h.pos
  have ed:(k.det:Rat)=(k.a:Rat)*(k.d:Rat)-(k.b:Rat)*(k.c:Rat):=by simp only [Cw.det,Rat.intCast_sub,Rat.intCast_mul]
  have hi:=Rat.inv_pos.2 hD
  have he:((((max den 1:Nat):Int):Rat)⁻¹)*(((max den 1:Nat):Int):Rat)=1:=Rat.inv_mul_cancel _ (by grind)
  have hdi:((k.det:Rat)⁻¹)*(k.det:Rat)=1:=Rat.inv_mul_cancel _ (by grind)
  obtain ⟨qx,qy⟩:=q
  refine ⟨((k.d:Rat)*qx-(k.b:Rat)*qy)*(((max den 1:Nat):Int):Rat)*(k.det:Rat)⁻¹,((k.a:Rat)*qy-(k.c:Rat)*qx)*(((max den 1:Nat):Int):Rat)*(k.det:Rat)⁻¹,(k.det:Rat)*((((max den 1:Nat):Int):Rat)⁻¹*(((max den 1:Nat):Int):Rat)⁻¹),Rat.mul_pos hd (Rat.mul_pos hi hi),λA B=>?_⟩
  simp only [CG,DY,M4,M1,Cw.at_,Jf,Rat.div_def,Rat.intCast_add,Rat.intCast_mul]
  rw [ed] at hdi ⊢
  clear hD hd hi ed
  generalize (((max den 1:Nat):Int):Rat)⁻¹=e at *
  generalize (((max den 1:Nat):Int):Rat)=D at *
  simp only [Rat.intCast_natCast]
  generalize ((k.a:Rat)*(k.d:Rat)-(k.b:Rat)*(k.c:Rat))⁻¹=f at *
  generalize (k.a:Rat)=a at *
  generalize (k.b:Rat)=b at *
  generalize (k.c:Rat)=c at *
  generalize (k.d:Rat)=d at *
  generalize (A.1:Rat)=A1
  generalize (A.2:Rat)=A2
  generalize (B.1:Rat)=B1
  generalize (B.2:Rat)=B2
  clear h
  have hx:qx=(a*((d*qx-b*qy)*D*f)+b*((a*qy-c*qx)*D*f))*e:=by grind
  have hy:qy=(c*((d*qx-b*qy)*D*f)+d*((a*qy-c*qx)*D*f))*e:=by grind
  generalize (d*qx-b*qy)*D*f=X at *
  generalize (a*qy-c*qx)*D*f=Y at *
  subst hx
  subst hy
  grind
theorem Cx {α:Type} {enc:α->List Value} {z:Nat} (h:∀x,(enc x).length=z) (d:α) (xs:List α) (j r:Nat) (hj:j<xs.length) (hr:r<z) {v:Value} (hv:(enc (xs.getD j d))[r]?=some v):(rowsL enc xs)[j*z+r]?=some v:=by
  have h1:=A7 h d xs j hj
  rw [<-h1,List.getElem?_take_of_lt hr,List.getElem?_drop] at hv
  exact hv
theorem BP (p:Pt):(An p).length=10:=rfl
structure YT (ps:List Pt) (t:Nat×Nat×Nat):Prop where
  a:t.1<ps.length
  b:t.2.1<ps.length
  c:t.2.2<ps.length
  ab:t.1≠t.2.1
  bc:t.2.1≠t.2.2
  ca:t.2.2≠t.1
  pos:0<B9 (ps.getD t.1 ⟨0,0⟩) (ps.getD t.2.1 ⟨0,0⟩) (ps.getD t.2.2 ⟨0,0⟩)
def YI (ps:List Pt) (t:Nat×Nat×Nat) (q:Pt):Prop:=0<B9 q (ps.getD t.2.1 ⟨0,0⟩) (ps.getD t.2.2 ⟨0,0⟩)/\0<B9 (ps.getD t.1 ⟨0,0⟩) q (ps.getD t.2.2 ⟨0,0⟩)/\0<B9 (ps.getD t.1 ⟨0,0⟩) (ps.getD t.2.1 ⟨0,0⟩) q
def P9 (ps:List Pt) (t:Nat×Nat×Nat) (q:Pt):Prop:=0<=B9 q (ps.getD t.2.1 ⟨0,0⟩) (ps.getD t.2.2 ⟨0,0⟩)/\0<=B9 (ps.getD t.1 ⟨0,0⟩) q (ps.getD t.2.2 ⟨0,0⟩)/\0<=B9 (ps.getD t.1 ⟨0,0⟩) (ps.getD t.2.1 ⟨0,0⟩) q
def C9 (m:MQ):Nat:=1+m.den%6
def RY (m:MQ) (z:Int×Int):PD:=⟨⟨z.1,C9 m⟩,⟨z.2,C9 m⟩⟩
def Qe (m:MQ) (zs:List (Int×Int)) (i:Nat):List Pt:=(zs.take i).map λz=>DY (RY m z)
theorem JO {m:MQ} {zs:List (Int×Int)} {i:Nat} (h:i<=zs.length):(Qe m zs i).length=i:=by simp [Qe];omega
theorem Ts {m:MQ} {zs:List (Int×Int)} {i:Nat} (h:i<zs.length):Qe m zs (i+1)=Qe m zs i++[DY (RY m (zs.getD i (0,0)))]:=by
  unfold Qe
  rw [List.take_add_one,List.getElem?_eq_getElem h,List.map_append,List.getD,List.getElem?_eq_getElem h]
  rfl
theorem PI {m:MQ} {zs:List (Int×Int)} {i:Nat} (h:i<zs.length):(Qe m zs zs.length).getD i ⟨0,0⟩=DY (RY m (zs.getD i (0,0))):=by
  unfold Qe
  rw [List.take_length,List.getD,List.getElem?_map,List.getElem?_eq_getElem h,List.getD,List.getElem?_eq_getElem h]
  rfl
def E8 (m:MQ) (pl:List P2):List (Int×Int):=pl.map λp=>(mapM m).at_ p
structure GoodM (ps:List Pt) (ts:List (Nat×Nat×Nat)):Prop where
  ne:ts≠[]
  tl:ts.length<=36
  pl:ps.length<=108
  sz:∀i,DT (ps.getD i ⟨0,0⟩)<=4
  tri:∀j,j<ts.length->YT ps (ts.getD j (0,0,0))
  apart:∀i j,i<ts.length->j<ts.length->i≠j->∀q,YI ps (ts.getD i (0,0,0)) q->¬P9 ps (ts.getD j (0,0,0)) q
  lat:∃(m:MQ) (pl:List P2),Lz m (BA m).length pl ts/\V8 pl/\ps=Qe m (E8 m pl) pl.length
structure MG where
  ps:List Pt
  ts:List (Nat×Nat×Nat)
  ss:List (Nat×Nat×Nat)
  good:GoodM ps ts
  sl:ss.length<=108*108
  sd:∃m:MQ,ss=E9 m ts ps.length ps.length
  a:RX (rowsL An ps) ps.length
  b:RX (rowsL Ai ts) ts.length
  c:RX (rowsL Ai ss) ss.length
def X0 (x:MG):List Value:=[x.a.val,x.b.val,x.c.val]
theorem V_ {x:MG} {y:As} (hy:y∈[x.a.row,x.b.row,x.c.row]):y.ro=true:=by
  simp only [List.mem_cons,List.not_mem_nil,or_false] at hy
  rcases hy with rfl|rfl|rfl<;>rfl
instance:Dx MG:=⟨λx=>aG (X0 x),λx=>[x.a.row,x.b.row,x.c.row],λx y hy=>V_ hy⟩
theorem YK {S:Nat->Prop} {W w:World} {L:List As} {m:MQ} {x:WM m} (h:Ro (SL ⟨W,none⟩ S L) w x):Holds w x.b.row/\∀b,x.b.row.foot=some b->W.heap.size<=b\/S b:=by
  have h1:=h x.b.row (List.mem_cons_of_mem _ List.mem_cons_self)
  exact ⟨h1.1,λb e=>(h1.2 b e).2⟩
theorem I7 {m:MQ} {pl:List P2} {i:Nat} (h:i<pl.length):(E8 m pl).getD i (0,0)=(mapM m).at_ (pl.getD i (0,0)):=by
  simp [E8,List.getD,h]
theorem V4 {m:MQ} {pl:List P2} (hs:∀p∈pl,p.1<=6/\p.2<=6) {i:Nat} (h:i<pl.length):(RY m ((E8 m pl).getD i (0,0))).ok:=by
  rw [I7 h]
  have hp:=hs (pl.getD i (0,0)) (by rw [List.getD,List.getElem?_eq_getElem h];exact List.getElem_mem h)
  obtain ⟨⟨h1,h2⟩,h3,h4⟩:=Rb (Fi m.a m.b m.c m.d) hp
  have hd:C9 m<4294967296:=by unfold C9;omega
  have e:mapM m=F_ m.a m.b m.c m.d:=rfl
  rw [<-e] at h1 h2 h3 h4
  exact ⟨⟨by show -9223372036854775808<=((mapM m).at_ _).1;omega,by show ((mapM m).at_ _).1<_;omega,hd⟩,⟨by show -9223372036854775808<=((mapM m).at_ _).2;omega,by show ((mapM m).at_ _).2<_;omega,hd⟩⟩
theorem ID (a b c:P2):DH b c a=DH a b c:=by unfold DH;grind
theorem HE (a b:P2):DH a a b=0/\DH a b b=0/\DH b a b=0:=by unfold DH;exact ⟨by grind,by grind,by grind⟩
theorem Qn {m:MQ} {t:Nat} (h:t<(BA m).length):0<DH (Ao m t 0) (Ao m t 1) (Ao m t 2):=by
  have h1:=H8 m ((BA m).getD t ((0,0),(0,0),(0,0))) (by rw [List.getD,List.getElem?_eq_getElem h];exact List.getElem_mem h)
  unfold Ao Gs
  generalize (BA m).getD t ((0,0),(0,0),(0,0))=c at *
  generalize t*(m.fst/3)=q at *
  have h0:=h1.1
  have e:(m.fst+q)%3=0\/(m.fst+q)%3=1\/(m.fst+q)%3=2:=by omega
  rcases e with e|e|e
  · rw [show (0+m.fst+q)%3=0 by omega,show (1+m.fst+q)%3=1 by omega,show (2+m.fst+q)%3=2 by omega]
    exact h0
  · rw [show (0+m.fst+q)%3=1 by omega,show (1+m.fst+q)%3=2 by omega,show (2+m.fst+q)%3=0 by omega]
    show 0<DH c.2.1 c.2.2 c.1
    rw [ID];exact h0
  · rw [show (0+m.fst+q)%3=2 by omega,show (1+m.fst+q)%3=0 by omega,show (2+m.fst+q)%3=1 by omega]
    show 0<DH c.2.2 c.1 c.2.1
    rw [ID c.2.1,ID];exact h0
theorem MK (m:MQ) (t:Nat) (x y:Rat):(0<Jf (Ao m t 1) (Ao m t 2) x y->0<Jf (Ao m t 2) (Ao m t 0) x y->0<Jf (Ao m t 0) (Ao m t 1) x y->UF ((BA m).getD t ((0,0),(0,0),(0,0))) x y) /\
    (0<=Jf (Ao m t 1) (Ao m t 2) x y->0<=Jf (Ao m t 2) (Ao m t 0) x y->0<=Jf (Ao m t 0) (Ao m t 1) x y->inC ((BA m).getD t ((0,0),(0,0),(0,0))) x y):=by
  unfold Ao Gs
  generalize (BA m).getD t ((0,0),(0,0),(0,0))=c at *
  generalize t*(m.fst/3)=q at *
  have e:(m.fst+q)%3=0\/(m.fst+q)%3=1\/(m.fst+q)%3=2:=by omega
  rcases e with e|e|e
  · rw [show (0+m.fst+q)%3=0 by omega,show (1+m.fst+q)%3=1 by omega,show (2+m.fst+q)%3=2 by omega]
    exact ⟨λa b c=>⟨a,b,c⟩,λa b c=>⟨a,b,c⟩⟩
  · rw [show (0+m.fst+q)%3=1 by omega,show (1+m.fst+q)%3=2 by omega,show (2+m.fst+q)%3=0 by omega]
    exact ⟨λa b c=>⟨c,a,b⟩,λa b c=>⟨c,a,b⟩⟩
  · rw [show (0+m.fst+q)%3=2 by omega,show (1+m.fst+q)%3=0 by omega,show (2+m.fst+q)%3=1 by omega]
    exact ⟨λa b c=>⟨b,c,a⟩,λa b c=>⟨b,c,a⟩⟩
theorem O2 {c z:Rat} (hc:0<c) (h:0<c*z):0<z:=by
  rcases Lk 0 z with h1|h1
  · exact h1
  · have:=Rat.mul_nonneg (show 0<=c by grind) (show 0 <= -z by grind)
    grind
theorem LY {c z:Rat} (hc:0<c) (h:0<=c*z):0<=z:=by
  rcases Lk z 0 with h1|h1
  · have:=Rat.mul_pos hc (show 0 < -z by grind)
    grind
  · exact h1
theorem Vm {m:MQ} (x:WM m) {ps:List Pt} (h:ps=Qe m (E8 m x.pl) x.pl.length):GoodM ps x.ts:=by
  have hz:(E8 m x.pl).length=x.pl.length:=by simp [E8]
  rw [<-hz] at h
  have hl:ps.length=x.pl.length:=by rw [h,JO (Nat.le_refl _),hz]
  have hg:∀i,i<x.pl.length->ps.getD i ⟨0,0⟩=DY (M4 (mapM m) (C9 m) (x.pl.getD i (0,0))):=λi hi=>by
    rw [h,PI (by rw [hz];exact hi),I7 hi];rfl
  have hi:=x.inv
  have hcl:=Gz m
  refine ⟨λe=>RM m (List.eq_nil_of_length_eq_zero (by rw [<-hi.tl,e];rfl)),by rw [hi.tl];exact hcl,by rw [hl];have:=hi.pll;omega,λi=>?_,λj hj=>?_,λi j hi1 hj1 hne q ho hcl2=>?_,⟨m,x.pl,x.inv,x.dst,by rw [h,hz]⟩⟩
  · rcases Nat.lt_or_ge i x.pl.length with h1|h1
    · have hok:=V4 (m:=m) hi.small h1
      rw [hg i h1]
      have:=Se hok
      rw [I7 h1] at this
      exact this
    · rw [List.getD,List.getElem?_eq_none (by rw [hl];exact h1)];decide +kernel
  · rw [hi.tl] at hj
    have ht:=hi.at_ j hj
    have hc:=Qn hj
    have hp:=UM (Fi m.a m.b m.c m.d) (C9 m) hc
    obtain ⟨⟨a1,a2⟩,⟨b1,b2⟩,⟨c1,c2⟩⟩:=ht
    refine ⟨by rw [hl];exact a1,by rw [hl];exact b1,by rw [hl];exact c1,λe=>?_,λe=>?_,λe=>?_,?_⟩
    · rw [e,b2] at a2;rw [<-a2,(HE _ _).1] at hc;omega
    · rw [e,c2] at b2;rw [<-b2,(HE _ _).2.1] at hc;omega
    · rw [e,a2] at c2;rw [<-c2,(HE _ _).2.2] at hc;omega
    · rw [hg _ a1,hg _ b1,hg _ c1,a2,b2,c2];exact hp
  · rw [hi.tl] at hi1 hj1
    obtain ⟨x',y',c,hc,key⟩:=lattice (Fi m.a m.b m.c m.d) (C9 m) q
    obtain ⟨⟨a1,a2⟩,⟨b1,b2⟩,⟨c1,c2⟩⟩:=hi.at_ i hi1
    obtain ⟨⟨d1,d2⟩,⟨e1,e2⟩,⟨f1,f2⟩⟩:=hi.at_ j hj1
    obtain ⟨o1,o2,o3⟩:=ho
    obtain ⟨k1,k2,k3⟩:=hcl2
    rw [hg _ b1,hg _ c1,b2,c2,<-CE,show mapM m=F_ m.a m.b m.c m.d from rfl,key] at o1
    rw [hg _ a1,hg _ c1,a2,c2,CE,show mapM m=F_ m.a m.b m.c m.d from rfl,key] at o2
    rw [hg _ a1,hg _ b1,a2,b2,show mapM m=F_ m.a m.b m.c m.d from rfl,key] at o3
    rw [hg _ e1,hg _ f1,e2,f2,<-CE,show mapM m=F_ m.a m.b m.c m.d from rfl,key] at k1
    rw [hg _ d1,hg _ f1,d2,f2,CE,show mapM m=F_ m.a m.b m.c m.d from rfl,key] at k2
    rw [hg _ d1,hg _ e1,d2,e2,show mapM m=F_ m.a m.b m.c m.d from rfl,key] at k3
    exact Lc m hi1 hj1 hne _ x' y' ((MK m i x' y').1 (O2 hc o1) (O2 hc o2) (O2 hc o3)) ((MK m j x' y').2 (LY hc k1) (LY hc k2) (LY hc k3))
def Xi (m:MQ) (ps:List Pt) (ts:List (Nat×Nat×Nat)):Prop:=∃pl:List P2,Lz m (BA m).length pl ts/\V8 pl/\ps=Qe m (E8 m pl) pl.length
theorem Ux {m:MQ} (x:WM m) {ps:List Pt} (h:ps=Qe m (E8 m x.pl) x.pl.length):Xi m ps x.ts:=⟨x.pl,x.inv,x.dst,h⟩
structure MF (m:MQ) where
  g:MG
  lat:Xi m g.ps g.ts
instance {m:MQ}:Dx (MF m):=⟨λx=>aG (X0 x.g),λx=>[x.g.a.row,x.g.b.row,x.g.c.row],λx y hy=>V_ hy⟩
theorem Bc.ofMF {m:MQ} {S:Nat->Prop} {W w:World} {e:Ending} (h:Bc (MF m) S W e w):Bc MG S W e w:=by
  obtain ⟨a,h1,h2,h3⟩:=h
  exact ⟨a.g,h1,h2,h3⟩
structure XI (m:MQ) where
  f:MF m
  ob:OwnOk f.g.b.p f.g.ts.length f.g.b.c
  da:∀x,f.g.b.p.map (·.block)=some x->f.g.a.p.map (·.block)≠some x
  dc:∀x,f.g.b.p.map (·.block)=some x->f.g.c.p.map (·.block)≠some x
def Ra {m:MQ} (y:XI m):As:=Xm y.f.g.b.p 76 3 y.f.g.ts.length y.f.g.b.c (rowsL Ai y.f.g.ts)
instance {m:MQ}:Dx (XI m):=⟨λy=>aG (X0 y.f.g),λy=>[y.f.g.a.row,y.f.g.b.row,y.f.g.c.row,Ra y],λx y hy=>by
  simp only [List.mem_cons,List.not_mem_nil,or_false] at hy
  rcases hy with rfl|rfl|rfl|rfl<;>rfl⟩
theorem WB {m:MQ} {W w:World} {L:List As} (hw:BK ⟨W,none⟩ w L) (x:XI m) (h1:Holds w x.f.g.a.row/\∀b,x.f.g.a.row.foot=some b->W.heap.size<=b\/False) (h2:Holds w x.f.g.b.row/\∀b,x.f.g.b.row.foot=some b->W.heap.size<=b\/False) (h3:Holds w x.f.g.c.row/\∀b,x.f.g.c.row.foot=some b->W.heap.size<=b\/False) (h4:Holds w (Ra x)/\∀b,(Ra x).foot=some b->W.heap.size<=b\/False) {v:Value} (hv:v=aG (X0 x.f.g)):Bc (XI m) (λ_=>False) W (.returned v) w:=by
  refine ⟨x,by rw [hv];rfl,hw.out,λy hy=>?_⟩
  have hy:y∈[x.f.g.a.row,x.f.g.b.row,x.f.g.c.row,Ra x]:=hy
  simp only [List.mem_cons,List.not_mem_nil,or_false] at hy
  rcases hy with rfl|rfl|rfl|rfl
  · exact h1
  · exact h2
  · exact h3
  · exact h4
theorem Bc.ofMGF {m:MQ} {S:Nat->Prop} {W w:World} {e:Ending} (h:Bc (XI m) (λ_=>False) W e w):Bc (MF m) S W e w:=by
  obtain ⟨a,h1,h2,h3⟩:=h
  refine ⟨a.f,h1,h2,λy hy=>?_⟩
  have h4:=h3 y (by
    have hy:y∈[a.f.g.a.row,a.f.g.b.row,a.f.g.c.row]:=hy
    show y∈[a.f.g.a.row,a.f.g.b.row,a.f.g.c.row,Ra a]
    simp only [List.mem_cons,List.not_mem_nil,or_false] at hy ⊢
    rcases hy with rfl|rfl|rfl<;>simp)
  exact ⟨h4.1,λb e=>(h4.2 b e).imp id λk=>k.elim⟩
section
set_option maxRecDepth 100000
theorem TE (q:QD) (h:q.ok) (w:World)  :Calls Tryz.prog 115 #[(aG (W7 q))] w (Ax w (aG (AW (M1 q)))):=by
 obtain ⟨h1,h2,h3⟩:=h
 refine Ad (args:=[(aG (W7 q))]) Tryz.func115 rfl rfl (Af rfl) (AE.subF (sL [0] rfl) (q4 (CB (cs:=W7 q) rfl λb1=>al Gr rfl λb2=>q3 (sL [1,2] rfl) ?_)))
 refine AH (v:=(pP b1 0)) (AA rfl Tryz.underlying104 rfl Tryz.sizeOf2 rfl) rfl (BI 1 (vI q.n) Mf rfl (AH (v:=(pP b1 1)) (AA rfl Tryz.underlying104 rfl Tryz.sizeOf101 rfl) rfl (BI 1 (vK .u32 q.d) Xe rfl (AH (Fc (c:=((max q.d 1:Nat):Int)) rfl rfl (by split<;>omega)) rfl (AH (Ar (c:=((max q.d 1:Nat):Int)) rfl Tryz.underlying101 Tryz.underlying2 (CU (by omega))) rfl ?_)))))
 refine BY Tryz.call152 (Rg (q.n:Int) ((max q.d 1:Nat):Int) (by omega) (by omega) (by omega) (by omega) (by omega)) rfl (AO rfl (AH (AY (v:=(aG (AW (((q.n:Int):Rat)/(((max q.d 1:Nat):Int):Rat))))) rfl rfl) rfl (AH (AY (v:=(vI 0)) rfl rfl) rfl (al Gr rfl λb3=>A6 rfl Tryz.sizeOf53 rfl ?_))))
 refine AL rfl (q3 (sL [2,3] rfl) (BF 0 CQ rfl (DU rfl Tryz.sizeOf53 rfl (AD.nil (AC.subF (sL [2,3] rfl) ?_)))))
 exact AC.then_ (AE.ret (AU rfl (Ay (i:=1) (cs:=AW (((q.n:Int):Rat)/(((max q.d 1:Nat):Int):Rat))) rfl rfl Tryz.isAgg53 Tryz.sizeOf53 rfl) (λw hw=>⟨rfl,hw.out⟩)))
theorem ER (x0:Rat) (x1:Rat):Instr.fill ([(0,5),(5,5)].toArray[·]?) (An (⟨0,0⟩:Pt)).toArray [(0,.agg (AW x0).toArray),(1,.agg (AW x1).toArray)]=some (AW x0++AW x1).toArray:=by kernel_rfl
theorem W_ (p:PD) (h:p.ok) (w:World)  :Calls Tryz.prog 45 #[(aG (YG p))] w (Ax w (aG (An (DY p)))):=by
 have h1:=h.1
 have h2:=h.2
 refine Ad (args:=[(aG (YG p))]) Tryz.func45 rfl rfl (Af rfl) (AE.subF (sL [0] rfl) (q4 (CB (cs:=YG p) rfl λb1=>al HK rfl λb2=>q6 (sL [1,2] rfl) ?_)))
 refine C7 [(0,true),(1,true),(3,true),(4,true),(2,false),(5,false),(6,true),(7,false)] (sl sr) (Au (v:=(pP b1 0)) rfl (AA rfl Tryz.underlying106 rfl Tryz.sizeOf104 rfl) (Gt 0 (W7 p.x) V5 rfl (Au (v:=(pP b1 2)) rfl (AA rfl Tryz.underlying106 rfl Tryz.sizeOf104 rfl) (Gt 0 (W7 p.y) V5 rfl (AP.imp rfl ?_)))))
 refine BY Tryz.call115 (TE p.x (by assumption)) rfl (AP.back (sl sr) (AP.imp rfl (BY Tryz.call115 (TE p.y (by assumption)) rfl (AP.back (sl sr) (Au (v:=(aG (AW (M1 p.x)++AW (M1 p.y)))) rfl (AS (zs:=An (⟨0,0⟩:Pt)) (vs:=AW (M1 p.x)++AW (M1 p.y)) (pv:=[(0,(aG (AW (M1 p.x)))),(1,(aG (AW (M1 p.y))))]) (places:=[(0,5),(5,5)]) Tryz.zeroValue55 Tryz.underlying55 (λw=>by simp [Tryz.sizeOf53]) rfl (ER (M1 p.x) (M1 p.y))) ?_)))))
 refine AP.imp rfl (A6 rfl Tryz.sizeOf55 rfl (AP.back (sl sr) (AP.nil (AC.subF (sL [2] rfl) (AC.then_ ?_)))))
 exact AE.ret (AU rfl (Ay (i:=0) (cs:=AW (M1 p.x)++AW (M1 p.y)) rfl rfl Tryz.isAgg55 Tryz.sizeOf55 rfl) (λw hw=>⟨rfl,hw.out⟩))
end
end Go.Proofs.YtfbomiejpbchdaaGreat
