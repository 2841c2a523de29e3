import Derived.Test.YtcpkbjjmcleplaaGreatDoorPart21
namespace Go.Proofs.YtcpkbjjmcleplaaGreatDoor
open Go Go.RowKit Go.Proofs.Tryz
open Go.Value renaming slice→qz,bool→qa
set_option linter.unusedVariables false
set_option linter.unusedSimpArgs false
theorem C5 (a b:Rat):a<b\/b<=a:=by grind
def PM (A B:P2) (x y:Rat):Rat:=((B.1:Rat)-(A.1:Rat))*(y-(A.2:Rat))-((B.2:Rat)-(A.2:Rat))*(x-(A.1:Rat))
def ZZ (t:P2×P2×P2) (x y:Rat):Prop:=0<PM t.2.1 t.2.2 x y/\0<PM t.2.2 t.1 x y/\0<PM t.1 t.2.1 x y
def ZY (t:P2×P2×P2) (x y:Rat):Prop:=0<=PM t.2.1 t.2.2 x y/\0<=PM t.2.2 t.1 x y/\0<=PM t.1 t.2.1 x y
def gO (s t:P2×P2×P2):Prop:=∀x y,(ZZ s x y->¬ZY t x y)/\(ZZ t x y->¬ZY s x y)
theorem Ji (u:Nat):((2*u:Nat):Rat)=2*(u:Rat):=by rw [Rat.natCast_mul];rfl
theorem Kv (u:Nat):((2*u+2:Nat):Rat)=2*(u:Rat)+2:=by rw [Rat.natCast_add,Ji];rfl
theorem Sg (u:Nat):((2*u+1:Nat):Rat)=2*(u:Rat)+1:=by rw [Rat.natCast_add,Ji];rfl
theorem Sx {t:P2×P2×P2} {nx way i u v:Nat} (hu:u=i%nx) (hv:v=i/nx) (ht:t∈Df nx way i) (x y:Rat) :
    (ZZ t x y->(2*(u:Rat)<x/\x<2*(u:Rat)+2)/\2*(v:Rat)<y/\y<2*(v:Rat)+2)/\(ZY t x y->(2*(u:Rat)<=x/\x<=2*(u:Rat)+2)/\2*(v:Rat)<=y/\y<=2*(v:Rat)+2):=by
  have key:t∈[((2*u,2*v),(2*u+2,2*v),(2*u+2,2*v+2)),((2*u,2*v),(2*u+2,2*v+2),(2*u,2*v+2)),((2*u,2*v),(2*u+2,2*v),(2*u,2*v+2)),((2*u+2,2*v),(2*u+2,2*v+2),(2*u,2*v+2)),
      ((2*u,2*v),(2*u+2,2*v),(2*u+1,2*v+1)),((2*u+2,2*v),(2*u+2,2*v+2),(2*u+1,2*v+1)),((2*u+2,2*v+2),(2*u,2*v+2),(2*u+1,2*v+1)),((2*u,2*v+2),(2*u,2*v),(2*u+1,2*v+1))]:=by
    subst hu;subst hv
    unfold Df at ht
    simp only at ht
    split at ht
    · simp only [xL,List.not_mem_nil,or_false] at ht ⊢;rcases ht with h|h<;>simp [h]
    · split at ht
      · simp only [xL,List.not_mem_nil,or_false] at ht ⊢;rcases ht with h|h<;>simp [h]
      · split at ht
        · simp only [xL,List.not_mem_nil,or_false] at ht ⊢;rcases ht with h|h|h|h<;>simp [h]
        · cases ht
  clear hu hv ht
  simp only [xL,List.not_mem_nil,or_false] at key
  rcases key with rfl|rfl|rfl|rfl|rfl|rfl|rfl|rfl<;>(simp only [ZZ,ZY,PM,Ji,Kv,Sg];generalize (u:Rat)=U;generalize (v:Rat)=V;refine ⟨λh=>?_,λh=>?_⟩<;>obtain ⟨h1,h2,h3⟩:=h<;>refine ⟨⟨?_,?_⟩,?_,?_⟩<;>grind)
theorem U5 {s t:P2×P2×P2} {nx way way' i j:Nat} (hij:i≠j) (hs:s∈Df nx way i) (ht:t∈Df nx way' j):gO s t:=λx y=>by
  have a:=Sx rfl rfl hs x y
  have b:=Sx rfl rfl ht x y
  have hne:i%nx≠j%nx\/i/nx≠j/nx:=by
    rcases Decidable.em (i%nx=j%nx) with e|e
    · rcases Decidable.em (i/nx=j/nx) with e2|e2
      · exact absurd (by rw [<-Nat.div_add_mod i nx,<-Nat.div_add_mod j nx,e,e2]) hij
      · exact .inr e2
    · exact .inl e
  have lt:∀{p q:Nat},p<q->(p:Rat)+1<=(q:Rat):=λ{p q} h=>by
    have h1:((p+1:Nat):Rat)<=(q:Rat):=by exact_mod_cast h
    rw [Rat.natCast_add] at h1
    exact h1
  have four:(i%nx:Nat)+1<=j%nx\/(j%nx:Nat)+1<=i%nx\/(i/nx:Nat)+1<=j/nx\/(j/nx:Nat)+1<=i/nx:=by omega
  revert a b
  rcases four with h|h|h|h<;>have h:=lt h<;>generalize ((i%nx:Nat):Rat)=A at*<;> generalize ((j%nx:Nat):Rat)=B at*<;> generalize ((i/nx:Nat):Rat)=C at*<;> generalize ((j/nx:Nat):Rat)=D at*<;> intro a b<;>refine ⟨λh1 h2=>?_,λh1 h2=>?_⟩ <;>
    first
      | (have a1:=a.1 h1;have b1:=b.2 h2;obtain ⟨⟨_,_⟩,_,_⟩:=a1;obtain ⟨⟨_,_⟩,_,_⟩:=b1;grind)
      | (have a1:=a.2 h2;have b1:=b.1 h1;obtain ⟨⟨_,_⟩,_,_⟩:=a1;obtain ⟨⟨_,_⟩,_,_⟩:=b1;grind)
theorem Xh (nx way i:Nat):(Df nx way i).Pairwise gO:=by
  unfold Df
  simp only
  generalize i%nx=u
  generalize i/nx=v
  split
  · refine List.pairwise_pair.2 λx y=>?_
    simp only [ZZ,ZY,PM,Ji,Kv];generalize (u:Rat)=U;generalize (v:Rat)=V
    refine ⟨λh k=>?_,λh k=>?_⟩<;>obtain ⟨h1,h2,h3⟩:=h<;>obtain ⟨k1,k2,k3⟩:=k<;>grind
  · split
    · refine List.pairwise_pair.2 λx y=>?_
      simp only [ZZ,ZY,PM,Ji,Kv];generalize (u:Rat)=U;generalize (v:Rat)=V
      refine ⟨λh k=>?_,λh k=>?_⟩<;>obtain ⟨h1,h2,h3⟩:=h<;>obtain ⟨k1,k2,k3⟩:=k<;>grind
    · split
      · simp only [List.pairwise_cons,xL,List.not_mem_nil,or_false,forall_eq_or_imp,forall_eq,List.Pairwise.nil,and_true,false_implies,implies_true]
        refine ⟨⟨?_,?_,?_⟩,⟨?_,?_⟩,?_⟩<;>intro x y<;>simp only [ZZ,ZY,PM,Ji,Kv,Sg]<;>generalize (u:Rat)=U<;>generalize (v:Rat)=V<;>refine ⟨λh k=>?_,λh k=>?_⟩<;>obtain ⟨h1,h2,h3⟩:=h<;>obtain ⟨k1,k2,k3⟩:=k<;>grind
      · exact List.Pairwise.nil
theorem Lz (m:MQ):∀i t,t∈E9 m i->∃j,j<i/\t∈Df (PO m) (Jd m j) j
  | 0,t,h=>by cases h
  | i+1,t,h=>by
    rcases List.mem_append.1 h with h|h
    · obtain ⟨j,hj,h⟩:=Lz m i t h;exact ⟨j,Z,h⟩
    · exact ⟨i,Z,h⟩
theorem LY (m:MQ):∀i,(E9 m i).Pairwise gO
  | 0=>List.Pairwise.nil
  | i+1=>List.pairwise_append.2 ⟨LY m i,Xh _ _ _,λs hs t ht=>by
      obtain ⟨j,hj,h⟩:=Lz m i s hs
      exact U5 Z h ht⟩
theorem Tt (m:MQ) {i j:Nat} (hi:i<(BT m).length) (hj:j<(BT m).length) (hne:i≠j) (d:P2×P2×P2):∀x y,ZZ ((BT m).getD i d) x y->¬ZY ((BT m).getD j d) x y:=λx y h=>by
  have hp:=List.pairwise_iff_getElem.1 (LY m (PO m*Zz m))
  rw [List.getD,xN hi] at h
  rw [List.getD,xN hj]
  rcases Nat.lt_or_gt_of_ne hne with hlt|hgt
  · exact (hp i j hi hj hlt x y).1 h
  · exact (hp j i hj hi hgt x y).2 h
theorem Ze {k:Ep} (h:k.Ok) (den:Nat) (q:Pt):∃x y c:Rat,0<c/\∀A B:P2,AF (Ew (XI k den A)) (Ew (XI k den B)) q=c*PM A B x y:=by
  have hD:0<(((max den 1:Nat):Int):Rat):=by exact_mod_cast (show (0:Int)<((max den 1:Nat):Int) by omega)
  have hd:(0:Rat)<(k.det:Rat):=by exact_mod_cast h.pos
  have ed:(k.det:Rat)=(k.a:Rat)*(k.d:Rat)-(k.b:Rat)*(k.c:Rat):=by simp only [Ep.det,Rat.intCast_sub,Rat.intCast_mul]
  have hi:=Rat.inv_pos.2 hD
  have he:((((max den 1:Nat):Int):Rat)⁻¹)*(((max den 1:Nat):Int):Rat)=1:=Rat.inv_mul_cancel _ (by grind)
  have hdi:((k.det:Rat)⁻¹)*(k.det:Rat)=1:=Rat.inv_mul_cancel _ (by grind)
  obtain ⟨qx,qy⟩:=q
  refine ⟨((k.d:Rat)*qx-(k.b:Rat)*qy)*(((max den 1:Nat):Int):Rat)*(k.det:Rat)⁻¹,((k.a:Rat)*qy-(k.c:Rat)*qx)*(((max den 1:Nat):Int):Rat)*(k.det:Rat)⁻¹,(k.det:Rat)*((((max den 1:Nat):Int):Rat)⁻¹*(((max den 1:Nat):Int):Rat)⁻¹),Rat.mul_pos hd (Rat.mul_pos hi hi),λA B=>?_⟩
  simp only [B0,Ew,XI,K9,Ep.at_,PM,Rat.div_def,Rat.intCast_add,Rat.intCast_mul]
  rw [ed] at hdi ⊢
  clear hD hd hi ed
  generalize (((max den 1:Nat):Int):Rat)⁻¹=e at *
  generalize (((max den 1:Nat):Int):Rat)=D at *
  simp only [Rat.intCast_natCast]
  generalize ((k.a:Rat)*(k.d:Rat)-(k.b:Rat)*(k.c:Rat))⁻¹=f at *
  generalize (k.a:Rat)=a at *
  generalize (k.b:Rat)=b at *
  generalize (k.c:Rat)=c at *
  generalize (k.d:Rat)=d at *
  generalize (A.1:Rat)=A1
  generalize (A.2:Rat)=A2
  generalize (B.1:Rat)=B1
  generalize (B.2:Rat)=B2
  clear h
  have hx:qx=(a*((d*qx-b*qy)*D*f)+b*((a*qy-c*qx)*D*f))*e:=by grind
  have hy:qy=(c*((d*qx-b*qy)*D*f)+d*((a*qy-c*qx)*D*f))*e:=by grind
  generalize (d*qx-b*qy)*D*f=X at *
  generalize (a*qy-c*qx)*D*f=Y at *
  subst hx
  subst hy
  grind
theorem Cj {α:Type} {enc:α->List Value} {z:Nat} (h:∀x,(enc x).length=z) (d:α) (xs:List α) (j r:Nat) (hj:j<xs.length) (hr:r<z) {v:Value} (hv:(enc (xs.getD j d))[r]?=some v):(rowsL enc xs)[j*z+r]?=some v:=by
  have h1:=BE h d xs j hj
  rw [<-h1,List.getElem?_take_of_lt hr,List.getElem?_drop] at hv
  exact hv
theorem DN (p:Pt):(Ah p).length=10:=rfl
structure d_ (ps:List Pt) (t:Tq3):Prop where
  a:t.1<ps.length
  b:t.2.1<ps.length
  c:t.2.2<ps.length
  ab:t.1≠t.2.1
  bc:t.2.1≠t.2.2
  ca:t.2.2≠t.1
  pos:0<AF (ps.getD t.1 ⟨0,0⟩) (ps.getD t.2.1 ⟨0,0⟩) (ps.getD t.2.2 ⟨0,0⟩)
def bj (ps:List Pt) (t:Tq3) (q:Pt):Prop:=0<AF q (ps.getD t.2.1 ⟨0,0⟩) (ps.getD t.2.2 ⟨0,0⟩)/\0<AF (ps.getD t.1 ⟨0,0⟩) q (ps.getD t.2.2 ⟨0,0⟩)/\0<AF (ps.getD t.1 ⟨0,0⟩) (ps.getD t.2.1 ⟨0,0⟩) q
def d9 (ps:List Pt) (t:Tq3) (q:Pt):Prop:=0<=AF q (ps.getD t.2.1 ⟨0,0⟩) (ps.getD t.2.2 ⟨0,0⟩)/\0<=AF (ps.getD t.1 ⟨0,0⟩) q (ps.getD t.2.2 ⟨0,0⟩)/\0<=AF (ps.getD t.1 ⟨0,0⟩) (ps.getD t.2.1 ⟨0,0⟩) q
def CN (m:MQ):Nat:=1+m.den%6
def Su (m:MQ) (z:Int×Int):PD:=⟨⟨z.1,CN m⟩,⟨z.2,CN m⟩⟩
def Rw (m:MQ) (zs:List (Int×Int)) (i:Nat):List Pt:=(zs.take i).map λz=>Ew (Su m z)
theorem K8 {m:MQ} {zs:List (Int×Int)} {i:Nat} (h:i<=zs.length):(Rw m zs i).length=i:=by simp [Rw];omega
theorem QM {m:MQ} {zs:List (Int×Int)} {i:Nat} (h:i<zs.length):Rw m zs (i+1)=Rw m zs i++[Ew (Su m (zs.getD i (0,0)))]:=by
  unfold Rw
  rw [List.take_add_one,xN h,List.map_append,List.getD,xN h]
  rfl
theorem aC {m:MQ} {zs:List (Int×Int)} {i:Nat} (h:i<zs.length):(Rw m zs zs.length).getD i ⟨0,0⟩=Ew (Su m (zs.getD i (0,0))):=by
  unfold Rw
  rw [List.take_length,List.getD,List.getElem?_map,xN h,List.getD,xN h]
  rfl
def Dr (m:MQ) (pl:List P2):List (Int×Int):=pl.map λp=>(mapM m).at_ p
structure VY (ps:List Pt) (ts:List (Tq3)):Prop where
  ne:ts≠[]
  tl:ts.length<=36
  pl:ps.length<=108
  sz:∀i,BO (ps.getD i ⟨0,0⟩)<=4
  tri:∀j,j<ts.length->d_ ps (ts.getD j (0,0,0))
  apart:∀i j,i<ts.length->j<ts.length->i≠j->∀q,bj ps (ts.getD i (0,0,0)) q->¬d9 ps (ts.getD j (0,0,0)) q
  lat:∃(m:MQ) (pl:List P2),PT m (BT m).length pl ts/\bJ pl/\ps=Rw m (Dr m pl) pl.length
structure MG where
  ps:List Pt
  ts:List (Tq3)
  ss:List (Tq3)
  good:VY ps ts
  sl:ss.length<=108*108
  sd:∃m:MQ,ss=Mb m ts ps.length ps.length
  a:RX (rowsL Ah ps) ps.length
  b:RX (rowsL BC ts) ts.length
  c:RX (rowsL BC ss) ss.length
def f_ (x:MG):List Value:=[x.a.val,x.b.val,x.c.val]
theorem bT {x:MG} {y:As} (hy:y∈[x.a.row,x.b.row,x.c.row]):y.ro=true:=by
  simp only [xL,List.not_mem_nil,or_false] at hy
  rcases hy with rfl|rfl|rfl<;>rfl
instance:Cl MG:=⟨λx=>aG (f_ x),λx=>[x.a.row,x.b.row,x.c.row],λx y hy=>bT hy⟩
theorem gz {S:Nat->Prop} {W w:World} {L:List As} {m:MQ} {x:WM m} (h:Ro (SL ⟨W,none⟩ S L) w x):Holds w x.b.row/\∀b,x.b.row.foot=some b->W.heap.size<=b\/S b:=by
  have h1:=h x.b.row (List.mem_cons_of_mem _ List.mem_cons_self)
  exact ⟨h1.1,λb e=>(h1.2 b e).2⟩
theorem PI {m:MQ} {pl:List P2} {i:Nat} (h:i<pl.length):(Dr m pl).getD i (0,0)=(mapM m).at_ (pl.getD i (0,0)):=by
  simp [Dr,List.getD,h]
theorem YT {m:MQ} {pl:List P2} (hs:∀p∈pl,p.1<=6/\p.2<=6) {i:Nat} (h:i<pl.length):(Su m ((Dr m pl).getD i (0,0))).ok:=by
  rw [PI h]
  have hp:=hs (pl.getD i (0,0)) (by rw [List.getD,xN h];exact List.getElem_mem h)
  obtain ⟨⟨h1,h2⟩,h3,h4⟩:=Vt (JA m.a m.b m.c m.d) hp
  have hd:CN m<4294967296:=by unfold CN;omega
  have e:mapM m=IP m.a m.b m.c m.d:=rfl
  rw [<-e] at h1 h2 h3 h4
  exact ⟨⟨by show -9223372036854775808<=((mapM m).at_ _).1;omega,by show ((mapM m).at_ _).1<_;omega,hd⟩,⟨by show -9223372036854775808<=((mapM m).at_ _).2;omega,by show ((mapM m).at_ _).2<_;omega,hd⟩⟩
theorem J_ (a b c:P2):FY b c a=FY a b c:=by unfold FY;grind
theorem Ip (a b:P2):FY a a b=0/\FY a b b=0/\FY b a b=0:=by unfold FY;exact ⟨by grind,by grind,by grind⟩
theorem Tx {m:MQ} {t:Nat} (h:t<(BT m).length):0<FY (Aq m t 0) (Aq m t 1) (Aq m t 2):=by
  have h1:=NW m ((BT m).getD t ((0,0),(0,0),(0,0))) (by rw [List.getD,xN h];exact List.getElem_mem h)
  unfold Aq Uz
  generalize (BT m).getD t ((0,0),(0,0),(0,0))=c at *
  generalize t*(m.fst/3)=q at *
  have h0:=h1.1
  have e:(m.fst+q)%3=0\/(m.fst+q)%3=1\/(m.fst+q)%3=2:=by omega
  rcases e with e|e|e
  · rw [show (0+m.fst+q)%3=0 by omega,show (1+m.fst+q)%3=1 by omega,show (2+m.fst+q)%3=2 by omega]
    exact h0
  · rw [show (0+m.fst+q)%3=1 by omega,show (1+m.fst+q)%3=2 by omega,show (2+m.fst+q)%3=0 by omega]
    show 0<FY c.2.1 c.2.2 c.1
    rw [J_];exact h0
  · rw [show (0+m.fst+q)%3=2 by omega,show (1+m.fst+q)%3=0 by omega,show (2+m.fst+q)%3=1 by omega]
    show 0<FY c.2.2 c.1 c.2.1
    rw [J_ c.2.1,J_];exact h0
theorem Sh (m:MQ) (t:Nat) (x y:Rat):(0<PM (Aq m t 1) (Aq m t 2) x y->0<PM (Aq m t 2) (Aq m t 0) x y->0<PM (Aq m t 0) (Aq m t 1) x y->ZZ ((BT m).getD t ((0,0),(0,0),(0,0))) x y) /\
    (0<=PM (Aq m t 1) (Aq m t 2) x y->0<=PM (Aq m t 2) (Aq m t 0) x y->0<=PM (Aq m t 0) (Aq m t 1) x y->ZY ((BT m).getD t ((0,0),(0,0),(0,0))) x y):=by
  unfold Aq Uz
  generalize (BT m).getD t ((0,0),(0,0),(0,0))=c at *
  generalize t*(m.fst/3)=q at *
  have e:(m.fst+q)%3=0\/(m.fst+q)%3=1\/(m.fst+q)%3=2:=by omega
  rcases e with e|e|e
  · rw [show (0+m.fst+q)%3=0 by omega,show (1+m.fst+q)%3=1 by omega,show (2+m.fst+q)%3=2 by omega]
    exact ⟨λa b c=>⟨a,b,c⟩,λa b c=>⟨a,b,c⟩⟩
  · rw [show (0+m.fst+q)%3=1 by omega,show (1+m.fst+q)%3=2 by omega,show (2+m.fst+q)%3=0 by omega]
    exact ⟨λa b c=>⟨c,a,b⟩,λa b c=>⟨c,a,b⟩⟩
  · rw [show (0+m.fst+q)%3=2 by omega,show (1+m.fst+q)%3=0 by omega,show (2+m.fst+q)%3=1 by omega]
    exact ⟨λa b c=>⟨b,c,a⟩,λa b c=>⟨b,c,a⟩⟩
theorem MJ {c z:Rat} (hc:0<c) (h:0<c*z):0<z:=by
  rcases C5 0 z with h1|h1
  · exact h1
  · have:=Rat.mul_nonneg (show 0<=c by grind) (show 0 <= -z by grind)
    grind
theorem W5 {c z:Rat} (hc:0<c) (h:0<=c*z):0<=z:=by
  rcases C5 z 0 with h1|h1
  · have:=Rat.mul_pos hc (show 0 < -z by grind)
    grind
  · exact h1
theorem ZP {m:MQ} (x:WM m) {ps:List Pt} (h:ps=Rw m (Dr m x.pl) x.pl.length):VY ps x.ts:=by
  have hz:(Dr m x.pl).length=x.pl.length:=by simp [Dr]
  rw [<-hz] at h
  have hl:ps.length=x.pl.length:=by rw [h,K8 (Nat.le_refl _),hz]
  have hg:∀i,i<x.pl.length->ps.getD i ⟨0,0⟩=Ew (XI (mapM m) (CN m) (x.pl.getD i (0,0))):=λi hi=>by
    rw [h,aC (by rw [hz];exact hi),PI hi];rfl
  have hi:=x.inv
  have hcl:=Gz m
  refine ⟨λe=>Tr m (List.eq_nil_of_length_eq_zero (by rw [<-hi.tl,e];rfl)),by rw [hi.tl];exact hcl,by rw [hl];have:=hi.pll;omega,λi=>?_,λj hj=>?_,λi j hi1 hj1 hne q ho hcl2=>?_,⟨m,x.pl,x.inv,x.dst,by rw [h,hz]⟩⟩
  · rcases Nat.lt_or_ge i x.pl.length with h1|h1
    · have hok:=YT (m:=m) hi.small h1
      rw [hg i h1]
      have:=Iz hok
      rw [PI h1] at this
      exact this
    · rw [List.getD,List.getElem?_eq_none (by rw [hl];exact h1)];decide +kernel
  · rw [hi.tl] at hj
    have ht:=hi.at_ j hj
    have hc:=Tx hj
    have hp:=a9 (JA m.a m.b m.c m.d) (CN m) hc
    obtain ⟨⟨a1,a2⟩,⟨b1,b2⟩,⟨c1,c2⟩⟩:=ht
    refine ⟨by rw [hl];exact a1,by rw [hl];exact b1,by rw [hl];exact c1,λe=>?_,λe=>?_,λe=>?_,?_⟩
    · rw [e,b2] at a2;rw [<-a2,(Ip _ _).1] at hc;omega
    · rw [e,c2] at b2;rw [<-b2,(Ip _ _).2.1] at hc;omega
    · rw [e,a2] at c2;rw [<-c2,(Ip _ _).2.2] at hc;omega
    · rw [hg _ a1,hg _ b1,hg _ c1,a2,b2,c2];exact hp
  · rw [hi.tl] at hi1 hj1
    obtain ⟨x',y',c,hc,key⟩:=Ze (JA m.a m.b m.c m.d) (CN m) q
    obtain ⟨⟨a1,a2⟩,⟨b1,b2⟩,⟨c1,c2⟩⟩:=hi.at_ i hi1
    obtain ⟨⟨d1,d2⟩,⟨e1,e2⟩,⟨f1,f2⟩⟩:=hi.at_ j hj1
    obtain ⟨o1,o2,o3⟩:=ho
    obtain ⟨k1,k2,k3⟩:=hcl2
    rw [hg _ b1,hg _ c1,b2,c2,<-Gl,show mapM m=IP m.a m.b m.c m.d from rfl,key] at o1
    rw [hg _ a1,hg _ c1,a2,c2,Gl,show mapM m=IP m.a m.b m.c m.d from rfl,key] at o2
    rw [hg _ a1,hg _ b1,a2,b2,show mapM m=IP m.a m.b m.c m.d from rfl,key] at o3
    rw [hg _ e1,hg _ f1,e2,f2,<-Gl,show mapM m=IP m.a m.b m.c m.d from rfl,key] at k1
    rw [hg _ d1,hg _ f1,d2,f2,Gl,show mapM m=IP m.a m.b m.c m.d from rfl,key] at k2
    rw [hg _ d1,hg _ e1,d2,e2,show mapM m=IP m.a m.b m.c m.d from rfl,key] at k3
    exact Tt m hi1 hj1 hne _ x' y' ((Sh m i x' y').1 (MJ hc o1) (MJ hc o2) (MJ hc o3)) ((Sh m j x' y').2 (W5 hc k1) (W5 hc k2) (W5 hc k3))
def bg (m:MQ) (ps:List Pt) (ts:List (Tq3)):Prop:=∃pl:List P2,PT m (BT m).length pl ts/\bJ pl/\ps=Rw m (Dr m pl) pl.length
theorem Zd {m:MQ} (x:WM m) {ps:List Pt} (h:ps=Rw m (Dr m x.pl) x.pl.length):bg m ps x.ts:=⟨x.pl,x.inv,x.dst,h⟩
structure MF (m:MQ) where
  g:MG
  lat:bg m g.ps g.ts
instance {m:MQ}:Cl (MF m):=⟨λx=>aG (f_ x.g),λx=>[x.g.a.row,x.g.b.row,x.g.c.row],λx y hy=>bT hy⟩
structure du (m:MQ) where
  f:MF m
  ob:OwnOk f.g.b.p f.g.ts.length f.g.b.c
  da:∀x,f.g.b.p.map (·.block)=some x->f.g.a.p.map (·.block)≠some x
  dc:∀x,f.g.b.p.map (·.block)=some x->f.g.c.p.map (·.block)≠some x
def Wn {m:MQ} (y:du m):As:=fM y.f.g.b.p 64 3 y.f.g.ts.length y.f.g.b.c (rowsL BC y.f.g.ts)
instance {m:MQ}:Cl (du m):=⟨λy=>aG (f_ y.f.g),λy=>[y.f.g.a.row,y.f.g.b.row,y.f.g.c.row,Wn y],λx y hy=>by
  simp only [xL,List.not_mem_nil,or_false] at hy
  rcases hy with rfl|rfl|rfl|rfl<;>rfl⟩
theorem dG {m:MQ} {W w:World} {L:List As} (hw:A_ ⟨W,none⟩ w L) (x:du m) (h1:Holds w x.f.g.a.row/\∀b,x.f.g.a.row.foot=some b->W.heap.size<=b\/False) (h2:Holds w x.f.g.b.row/\∀b,x.f.g.b.row.foot=some b->W.heap.size<=b\/False) (h3:Holds w x.f.g.c.row/\∀b,x.f.g.c.row.foot=some b->W.heap.size<=b\/False) (h4:Holds w (Wn x)/\∀b,(Wn x).foot=some b->W.heap.size<=b\/False) {v:Value} (hv:v=aG (f_ x.f.g)):Aj (du m) (λ_=>False) W (.returned v) w:=by
  refine ⟨x,by rw [hv];rfl,hw.out,λy hy=>?_⟩
  have hy:y∈[x.f.g.a.row,x.f.g.b.row,x.f.g.c.row,Wn x]:=hy
  simp only [xL,List.not_mem_nil,or_false] at hy
  rcases hy with rfl|rfl|rfl|rfl
  · exact h1
  · exact h2
  · exact h3
  · exact h4
theorem Aj.ofMGF {m:MQ} {S:Nat->Prop} {W w:World} {e:Ending} (h:Aj (du m) (λ_=>False) W e w):Aj (MF m) S W e w:=by
  obtain ⟨a,h1,h2,h3⟩:=h
  refine ⟨a.f,h1,h2,λy hy=>?_⟩
  have h4:=h3 y (by
    have hy:y∈[a.f.g.a.row,a.f.g.b.row,a.f.g.c.row]:=hy
    show y∈[a.f.g.a.row,a.f.g.b.row,a.f.g.c.row,Wn a]
    simp only [xL,List.not_mem_nil,or_false] at hy ⊢
    rcases hy with rfl|rfl|rfl<;>simp)
  exact ⟨h4.1,λb e=>(h4.2 b e).imp id λk=>k.elim⟩
section
set_option maxRecDepth 100000
theorem Ve (q:QD) (h:q.ok) (w:World)  :Calls prog 50 #[(aG (Qw q))] w (Ac w (aG (AC (K9 q)))):=by
 obtain ⟨h1,h2,h3⟩:=h
 refine AV (args:=[(aG (Qw q))]) func50 O O (leB O) (zI (sL [0] O) (q4 (BH (cs:=Qw q) O λb1=>al Cq O λb2=>q3 (sL [1,2] O) (st' (v:=(pP b1 0)) (AA O underlying29 O sizeOf2 O) O (BL 1 (vI q.n) M6 O (st' (v:=(pP b1 1)) (AA O underlying29 O sizeOf27 O) O (BL 1 (vK .u32 q.d) ff O (st' (OU (c:=((max q.d 1:Nat):Int)) O O (by split<;>omega)) O (st' (Al (c:=((max q.d 1:Nat):Int)) O underlying27 underlying2 (B6 Z)) O ?_)))))))))
 refine ck' call14 (Jp (q.n:Int) ((max q.d 1:Nat):Int) Z Z Z Z Z) O (AK O (st' (AJ (v:=(aG (AC (((q.n:Int):Rat)/(((max q.d 1:Nat):Int):Rat))))) O O) O (st' (AJ (v:=(vI 0)) O O) O (al Cq O λb3=>An O sizeOf60 O (asg' O (q3 (sL [2,3] O) (Af 0 A9 O (DK O sizeOf60 O (oNl' (zB (sL [2,3] O) ?_))))))))))
 exact zA (zF (ret_one O (Ab (i:=1) (cs:=AC (((q.n:Int):Rat)/(((max q.d 1:Nat):Int):Rat))) O O isAgg60 sizeOf60 O) (λw hw=>⟨rfl,hw.out⟩)))
theorem Fm (x0:Rat) (x1:Rat):Instr.fill ([(0,5),(5,5)].toArray[·]?) (Ah (⟨0,0⟩:Pt)).toArray [(0,.agg (AC x0).toArray),(1,.agg (AC x1).toArray)]=some (AC x0++AC x1).toArray:=by kernel_rfl
theorem LN (p:PD) (h:p.ok) (w:World)  :Calls prog 20 #[(aG (EI p))] w (Ac w (aG (Ah (Ew p)))):=by
 have h1:=h.1
 have h2:=h.2
 refine AV (args:=[(aG (EI p))]) func20 O O (leB O) (zI (sL [0] O) (q4 (BH (cs:=EI p) O λb1=>al Fg O λb2=>q6 (sL [1,2] O) (B9 [(0,true),(1,true),(3,true),(4,true),(2,false),(5,false),(6,true),(7,false)] (sl sr) (Am (v:=(pP b1 0)) O (AA O underlying31 O sizeOf29 O) (Dz 0 (Qw p.x) av O (Am (v:=(pP b1 2)) O (AA O underlying31 O sizeOf29 O) (Dz 0 (Qw p.y) av O (zD O ?_)))))))))
 refine ck' call50 (Ve p.x (by assumption)) O (zC (sl sr) (zD O (ck' call50 (Ve p.y (by assumption)) O (zC (sl sr) (Am (v:=(aG (AC (K9 p.x)++AC (K9 p.y)))) O (AS (zs:=Ah (⟨0,0⟩:Pt)) (vs:=AC (K9 p.x)++AC (K9 p.y)) (pv:=[(0,(aG (AC (K9 p.x)))),(1,(aG (AC (K9 p.y))))]) (places:=[(0,5),(5,5)]) zeroValue62 underlying62 (λw=>by simp [sizeOf60]) O (Fm (K9 p.x) (K9 p.y))) (zD O (An O sizeOf62 O (zC (sl sr) (zP (zB (sL [2] O) (zA ?_)))))))))))
 exact zF (ret_one O (Ab (i:=0) (cs:=AC (K9 p.x)++AC (K9 p.y)) O O isAgg62 sizeOf62 O) (λw hw=>⟨rfl,hw.out⟩))
end
section
set_option maxRecDepth 100000
theorem iG:ElemT prog 24 96 3 24:=⟨underlying24,Cx jV⟩
theorem iH:ElemT prog 35 62 10 112:=⟨underlying35,Cx jV⟩
theorem Mm (x0:Pt):Instr.fill (λi=>some (i*10,10)) ((Array.range (1*10)).map ((Value.agg (Ah (⟨0,0⟩:Pt)).toArray).cells[·%(Value.agg (Ah (⟨0,0⟩:Pt)).toArray).cells.size]!)) [(0,.agg (Ah x0).toArray)]=some (Ah x0).toArray:=by kernel_rfl
theorem Mn (x0:Tq3):Instr.fill (λi=>some (i*3,3)) ((Array.range (1*3)).map ((Value.agg (BC jJ).toArray).cells[·%(Value.agg (BC jJ).toArray).cells.size]!)) [(0,.agg (BC x0).toArray)]=some (BC x0).toArray:=by kernel_rfl
set_option maxHeartbeats 2000000 in
theorem Ua (m:MQ) (w:World) {S:Nat->Prop} (hm:Ro S w m):Calls prog 10 #[(aG (Em m))] w (Aj (du m) (λ_=>False) w):=by
 have hd:=m.hden
 have hdm:CN m<256:=by unfold CN;omega
 have lm:=Bx (W:=w) hm
 refine AZ (args:=[(aG (Em m))]) (L:=[AI m.p (C7 m.cs)]) func10 O O (leB O) (GT hm Ao) (zI (sL [0] O) (q4 (BH (cs:=Em m) O λb1=>al dZ O λb2=>q3 (sL [1,2] O) (Af 1 Mi O (zw (S:=λ_=>False) (α:=bM m) (args:=[(aG (Em m))]) call27 (λw hw=>(L7 m w (inS hw 2 O lm)).mono λe w1 h=>h.weak λb k=>k.elim) O O O λgf lgf=>al TW O λb3=>An O sizeOf100 O (q3 (sL [1,2,3] O) (al dZ O λb4=>?_)))))))
 refine zm 62 10 (zm 96 3 (oNl' (q2 (st' (v:=(pP b1 7)) (AA O underlying49 O sizeOf5 O) O (BL 9 (vK .u8 m.den) VT O (st' (Cz (c:=((m.den%6:Nat):Int)) O O Z (HD (a:=m.den) (b:=6))) O (st' (AX (c:=((CN m:Nat):Int)) O O (Sa (a:=1) (b:=m.den%6) Z)) O (st' (Al (c:=((CN m:Nat):Int)) O underlying5 underlying27 (Co Z)) O (asg' O (q6 (sL [1,2,3,4,5] O) (q4 ?_)))))))))))
 refine asg' O (oNl' (zA (zM ?_)))
 refine yX (tg λ(i:Nat) (p1:Option Addr) (c1:Nat) (ps:List Pt)=>i<=gf.x.pl.length/\OwnOk p1 ps.length c1/\ps=Rw m (Dr m gf.x.pl) i) (tg λ(i:Nat) (p1:Option Addr) (c1:Nat) (ps:List Pt)=>[(2,(pP b2 0)),(3,(pP b3 0)),(4,(pP b4 0)),(5,(vK .u32 (CN m))),(6,(vN i))]) (tg λ(i:Nat) (p1:Option Addr) (c1:Nat) (ps:List Pt)=>[rowW none 96 3 0 0 (rowsL BC ([])),rowW p1 62 10 ps.length c1 (rowsL Ah ps),AO b4 37 ([(qz p1 ps.length c1),jj,jj]),AO b3 100 ([(qz gf.x.a.p gf.x.pl.length gf.x.a.c),(qz gf.x.b.p gf.x.ts.length gf.x.b.c),(qz gf.x.c.p gf.x.ss.length gf.x.c.c)]),AI gf.x.a.p (rowsL CZ (Dr m gf.x.pl)),AI gf.x.b.p (rowsL BC gf.x.ts),AI gf.x.c.p (rowsL BC gf.x.ss),NQ gf,AO b2 37 ([jj,jj,jj]),AO b1 49 (Em m),AI m.p (C7 m.cs)]) (tg λ(i:Nat) (p1:Option Addr) (c1:Nat) (ps:List Pt)=>gf.x.pl.length-i) 0 none 0 ([]:List Pt) (⟨xH _,OwnOk.none,rfl⟩) (sF O) sr (λi p1 c1 ps hJ=>?_)
 obtain ⟨hi,h1,hps⟩:=hJ
 have hzl:(Dr m gf.x.pl).length=gf.x.pl.length:=by simp [Dr]
 have hll:=gf.x.inv.pll
 have hcl:=Gz m
 have hpl:ps.length<=108:=by rw [hps,K8 (by rw [hzl];omega)];omega
 refine zS (q4 (AK O (st' (v:=(pP b3 0)) (AA O underlying100 O sizeOf98 O) O (BL 3 (qz gf.x.a.p gf.x.pl.length gf.x.a.c) O5 O (st' (v:=(vN gf.x.pl.length)) (AD O underlying98) O (st' (Aa (c:=(decide (i<gf.x.pl.length))) O O (DE (a:=i) (b:=gf.x.pl.length))) O (oNl' (zB (sL [2,3,4,5,6,20] O) (zA ?_)))))))))
 refine zK O (λhc0=>?_) (λhc0=>?_)
 ·replace hc0:=xR hc0
  refine zG (q1 (zM (zS (B9 (EV 17++[(17,false),(18,false)]) sr (Am (v:=(pP b3 0)) O (AA O underlying100 O sizeOf98 O) (CL 3 (qz gf.x.a.p gf.x.pl.length gf.x.a.c) O5 O (Bi O (Am (v:=(pP (pB gf.x.a.p) (pO gf.x.a.p+i*2))) O (AQ (j:=i) O O gf.x.a.ok underlying98 sizeOf102 O Z) (Am (v:=(pP (pB gf.x.a.p) (pO gf.x.a.p+(i*2+0)))) O (AB (j:=0) O O underlying102 sizeOf2 O jY (Nat.add_assoc _ _ _)) (Am O (Ad (v:=(vI (((Dr m gf.x.pl).getD i ((0,0):Int×Int)).1))) (i:=4) O O (BG.ne gf.x.a.ok Z) M6 (Cj FU ((0,0):Int×Int) _ _ 0 Z jY O)) (Bi O ?_)))))))))))
  refine Am (v:=(aG ([(vI (((Dr m gf.x.pl).getD i ((0,0):Int×Int)).1)),(vK .u32 (CN m))]))) O (AS (zs:=[(vI 0),(Value.int .u32 (0:Int))]) (vs:=[(vI (((Dr m gf.x.pl).getD i ((0,0):Int×Int)).1)),(vK .u32 (CN m))]) (pv:=[(0,(vI (((Dr m gf.x.pl).getD i ((0,0):Int×Int)).1))),(1,(vK .u32 (CN m)))]) (places:=[(0,1),(1,1)]) zeroValue29 underlying29 (λw=>by simp [sizeOf2,sizeOf27]) O O) (Am (v:=(pP b3 0)) O (AA O underlying100 O sizeOf98 O) (CL 3 (qz gf.x.a.p gf.x.pl.length gf.x.a.c) O5 O (Bi O (Am (v:=(pP (pB gf.x.a.p) (pO gf.x.a.p+i*2))) O (AQ (j:=i) O O gf.x.a.ok underlying98 sizeOf102 O Z) (Am (v:=(pP (pB gf.x.a.p) (pO gf.x.a.p+(i*2+1)))) O (AB (j:=1) O O underlying102 sizeOf2 O jY (Nat.add_assoc _ _ _)) (Am O (Ad (v:=(vI (((Dr m gf.x.pl).getD i ((0,0):Int×Int)).2))) (i:=4) O O (BG.ne gf.x.a.ok Z) M6 (Cj FU ((0,0):Int×Int) _ _ 1 Z jY O)) (Bi O (Am (v:=(aG ([(vI (((Dr m gf.x.pl).getD i ((0,0):Int×Int)).2)),(vK .u32 (CN m))]))) O (AS (zs:=[(vI 0),(Value.int .u32 (0:Int))]) (vs:=[(vI (((Dr m gf.x.pl).getD i ((0,0):Int×Int)).2)),(vK .u32 (CN m))]) (pv:=[(0,(vI (((Dr m gf.x.pl).getD i ((0,0):Int×Int)).2))),(1,(vK .u32 (CN m)))]) (places:=[(0,1),(1,1)]) zeroValue29 underlying29 (λw=>by simp [sizeOf2,sizeOf27]) O O) (Am (v:=(aG ([(vI (((Dr m gf.x.pl).getD i ((0,0):Int×Int)).1)),(vK .u32 (CN m)),(vI (((Dr m gf.x.pl).getD i ((0,0):Int×Int)).2)),(vK .u32 (CN m))]))) O (AS (zs:=[(vI 0),(Value.int .u32 (0:Int)),(vI 0),(Value.int .u32 (0:Int))]) (vs:=[(vI (((Dr m gf.x.pl).getD i ((0,0):Int×Int)).1)),(vK .u32 (CN m)),(vI (((Dr m gf.x.pl).getD i ((0,0):Int×Int)).2)),(vK .u32 (CN m))]) (pv:=[(0,(aG ([(vI (((Dr m gf.x.pl).getD i ((0,0):Int×Int)).1)),(vK .u32 (CN m))]))),(1,(aG ([(vI (((Dr m gf.x.pl).getD i ((0,0):Int×Int)).2)),(vK .u32 (CN m))])))]) (places:=[(0,2),(2,2)]) zeroValue31 underlying31 (λw=>by simp [sizeOf29]) O O) (zD O (al fj O λb5=>?_)))))))))))
  refine zC (sl sr) (zD O (An O sizeOf31 O (zC (sl sr) (zP (zB (sL [2,3,4,5,6,7] O) (zA (rC [(0,true),(1,true),(2,true),(3,false),(4,false),(5,false),(6,true)] 7 [] (sk (sk (sl sr))) (sk (sk (sl sr))) jV (λ_ _ d _ _ h=>by cases d<;>exact h) (vE (v:=(pP b4 0)) O (AA O underlying37 O sizeOf35 O) O (vE O (AR (i:=2) (v:=(qz p1 ps.length c1)) O O Kl.a O) O (vE (v:=(aG ([(vI (((Dr m gf.x.pl).getD i ((0,0):Int×Int)).1)),(vK .u32 (CN m)),(vI (((Dr m gf.x.pl).getD i ((0,0):Int×Int)).2)),(vK .u32 (CN m))]))) O (AY (i:=0) (vs:=[(vI (((Dr m gf.x.pl).getD i ((0,0):Int×Int)).1)),(vK .u32 (CN m)),(vI (((Dr m gf.x.pl).getD i ((0,0):Int×Int)).2)),(vK .u32 (CN m))]) O O Hy.a Hy.s O O) O (yA O ?_)))))))))))
  refine ck' call20 (LN (Su m ((Dr m gf.x.pl).getD i (0,0))) (YT gf.x.inv.small Z)) O (z6 (sk (sk (sl sr))) (yA O (zZ (V:=λb6=>(qz (jk b6) 1 1)) (T:=62) (cs:=Ah (Ew (Su m ((Dr m gf.x.pl).getD i (0,0))))) (AG O) (Ai (z:=.agg (Ah (⟨0,0⟩:Pt)).toArray) (cs:=Ah (Ew (Su m ((Dr m gf.x.pl).getD i (0,0))))) (pv:=[(0,(aG (Ah (Ew (Su m ((Dr m gf.x.pl).getD i (0,0)))))))]) underlying35 sizeOf62 zeroValue62 jY jY O (Mm (Ew (Su m ((Dr m gf.x.pl).getD i (0,0)))))) O (leB O) λb6=>z6 (sl (sk (sk (sl sr)))) (yA O (zj 3 (j:=0) (cs2:=rowsL Ah (ps++[Ew (Su m ((Dr m gf.x.pl).getD i (0,0)))])) iH O h1 (AT DN _) O O O O O jY (GC Z) Z (by rw [Aw];rfl) O λp_1 c_1 ho_1 hne_1=>z6 (sl (sk (sk (sl sr)))) (vE (v:=(pP b4 0)) O (AA O underlying37 O sizeOf35 O) O (yZ O (Dt 4 (off:=0) (vs:=[(qz p_1 (ps.length+1) c_1)]) (cs':=[(qz p_1 (ps.length+1) c_1),jj,jj]) (AG O) O sizeOf35 O (zC (sl (sk (sk (sl (sl sr))))) ?_)))))))))
  refine zP (zB (sL [2,3,4,5,6,7] O) (zJ (zA (zH (AK O (st' (AX (c:=((i+1:Nat):Int)) O O (AU (a:=i) (b:=1) Z)) O (asg' O (oNl' (zB (sL [2,3,4,5,6,7] O) ?_)))))))))
  rw [show ps.length+1=(ps++[Ew (Su m ((Dr m gf.x.pl).getD i (0,0)))]).length by simp]
  exact zr (i+1) p_1 c_1 (ps++[Ew (Su m ((Dr m gf.x.pl).getD i (0,0)))]) (⟨Z,(by simpa using ho_1),by rw [hps,QM (by rw [hzl];omega)]⟩) Z (sF O) (sl (sl sr))
 ·replace hc0:=xQ hc0
  have hps9:ps.length=gf.x.pl.length:=by rw [hps,show i=gf.x.pl.length by omega,K8 (by rw [hzl];omega)]
  have hfin:ps=Rw m (Dr m gf.x.pl) gf.x.pl.length:=by rw [hps,show i=gf.x.pl.length by omega]
  refine zW (zO (z7 (zR (q2 (st' (v:=(pP b3 1)) (AA O underlying100 O sizeOf23 O) O (BL 3 (qz gf.x.b.p gf.x.ts.length gf.x.b.c) Ez O (st' (v:=(pP b4 1)) (AA O underlying37 O sizeOf23 O) O (Dt 2 (off:=1) (vs:=[(qz gf.x.b.p gf.x.ts.length gf.x.b.c)]) (cs':=[(qz p1 ps.length c1),(qz gf.x.b.p gf.x.ts.length gf.x.b.c),jj]) (AG O) O sizeOf23 O (q6 (sL [2,3,4,5,6] O) (q4 (asg' O ?_)))))))))))
  refine oNl' (zA (zM ?_))
  refine yX (tg λ(j:Nat) (p2:Option Addr) (c2:Nat) (ss:List (Tq3))=>j<=gf.x.ss.length/\OwnOk p2 ss.length c2/\ss.length=j/\ss=gf.x.ss.take j) (tg λ(j:Nat) (p2:Option Addr) (c2:Nat) (ss:List (Tq3))=>[(2,(pP b2 0)),(3,(pP b3 0)),(4,(pP b4 0)),(8,(vN j))]) (tg λ(j:Nat) (p2:Option Addr) (c2:Nat) (ss:List (Tq3))=>[rowW p2 96 3 ss.length c2 (rowsL BC ss),rowW p1 62 10 ps.length c1 (rowsL Ah ps),AO b4 37 ([(qz p1 ps.length c1),(qz gf.x.b.p gf.x.ts.length gf.x.b.c),(qz p2 ss.length c2)]),AO b3 100 ([(qz gf.x.a.p gf.x.pl.length gf.x.a.c),(qz gf.x.b.p gf.x.ts.length gf.x.b.c),(qz gf.x.c.p gf.x.ss.length gf.x.c.c)]),AI gf.x.a.p (rowsL CZ (Dr m gf.x.pl)),AI gf.x.b.p (rowsL BC gf.x.ts),AI gf.x.c.p (rowsL BC gf.x.ss),NQ gf,AO b2 37 ([jj,jj,jj]),AO b1 49 (Em m),AI m.p (C7 m.cs)]) (tg λ(j:Nat) (p2:Option Addr) (c2:Nat) (ss:List (Tq3))=>gf.x.ss.length-j) 0 none 0 ([]:List (Tq3)) (⟨xH _,OwnOk.none,rfl,rfl⟩) (sF O) sr (λj p2 c2 ss hJ=>?_)
  obtain ⟨hj,h2,hsl,hsd⟩:=hJ
  have hgs:=gf.x.sl
  refine zS (q4 (AK O (st' (v:=(pP b3 2)) (AA O underlying100 O sizeOf23 O) O (BL 3 (qz gf.x.c.p gf.x.ss.length gf.x.c.c) Ez O (st' (v:=(vN gf.x.ss.length)) (AD O underlying23) O (st' (Aa (c:=(decide (j<gf.x.ss.length))) O O (DE (a:=j) (b:=gf.x.ss.length))) O (oNl' (zB (sL [2,3,4,8,54] O) (zA ?_)))))))))
  refine zK O (λhc1=>?_) (λhc1=>?_)
  ·replace hc1:=xR hc1
   refine zG (q1 (zM (rC [(0,true),(1,true),(2,true),(3,true),(4,true),(5,true),(6,true),(7,true),(8,true),(9,true),(10,true),(11,true),(12,true),(13,true),(14,true),(15,true),(16,true),(17,true),(18,true),(19,true),(20,true),(21,false),(22,false),(23,true)] 24 [] (sl sr) (sk (sl sr)) jV (λ_ _ d _ _ h=>by cases d<;>exact h) (vE (v:=(pP b4 2)) O (AA O underlying37 O sizeOf24 O) O (vE O (AR (i:=1) (v:=(qz p2 ss.length c2)) O O iI.a O) O (vE (v:=(pP b3 2)) O (AA O underlying100 O sizeOf23 O) O (vE O (AR (i:=2) (v:=(qz gf.x.c.p gf.x.ss.length gf.x.c.c)) O O Ez.a O) O (vM O O O (vE (v:=(pP (pB gf.x.c.p) (pO gf.x.c.p+j*3))) O (AQ (j:=j) O O gf.x.c.ok underlying23 sizeOf64 O Z) O (vE (v:=(pP (pB gf.x.c.p) (pO gf.x.c.p+(j*3+0)))) O (AB (j:=0) O O underlying64 sizeOf3 O jY (Nat.add_assoc _ _ _)) O (vE O (Ad (v:=(vN ((gf.x.ss.getD j jJ).1))) (i:=5) O O (BG.ne gf.x.c.ok Z) Dc (Cj Bv jJ _ _ 0 Z jY O)) O ?_)))))))))))
   refine vE (v:=(pP b3 2)) O (AA O underlying100 O sizeOf23 O) O (vE O (AR (i:=2) (v:=(qz gf.x.c.p gf.x.ss.length gf.x.c.c)) O O Ez.a O) O (vM O O O (vE (v:=(pP (pB gf.x.c.p) (pO gf.x.c.p+j*3))) O (AQ (j:=j) O O gf.x.c.ok underlying23 sizeOf64 O Z) O (vE (v:=(pP (pB gf.x.c.p) (pO gf.x.c.p+(j*3+1)))) O (AB (j:=1) O O underlying64 sizeOf3 O jY (Nat.add_assoc _ _ _)) O (vE O (Ad (v:=(vN ((gf.x.ss.getD j jJ).2.1))) (i:=5) O O (BG.ne gf.x.c.ok Z) Dc (Cj Bv jJ _ _ 1 Z jY O)) O (vE (v:=(pP b3 2)) O (AA O underlying100 O sizeOf23 O) O (vE O (AR (i:=2) (v:=(qz gf.x.c.p gf.x.ss.length gf.x.c.c)) O O Ez.a O) O (vM O O O (vE (v:=(pP (pB gf.x.c.p) (pO gf.x.c.p+j*3))) O (AQ (j:=j) O O gf.x.c.ok underlying23 sizeOf64 O Z) O (vE (v:=(pP (pB gf.x.c.p) (pO gf.x.c.p+(j*3+2)))) O (AB (j:=2) O O underlying64 sizeOf3 O jY (Nat.add_assoc _ _ _)) O (vE O (Ad (v:=(vN ((gf.x.ss.getD j jJ).2.2))) (i:=5) O O (BG.ne gf.x.c.ok Z) Dc (Cj Bv jJ _ _ 2 Z jY O)) O ?_)))))))))))
   refine vE (v:=(aG ([(vN ((gf.x.ss.getD j jJ).1)),(vN ((gf.x.ss.getD j jJ).2.1)),(vN ((gf.x.ss.getD j jJ).2.2))]))) O (AS (zs:=BC jJ) (vs:=[(vN ((gf.x.ss.getD j jJ).1)),(vN ((gf.x.ss.getD j jJ).2.1)),(vN ((gf.x.ss.getD j jJ).2.2))]) (pv:=[(0,(vN ((gf.x.ss.getD j jJ).1))),(1,(vN ((gf.x.ss.getD j jJ).2.1))),(2,(vN ((gf.x.ss.getD j jJ).2.2)))]) (places:=[(0,1),(1,1),(2,1)]) zeroValue96 underlying96 (λw=>by simp [sizeOf3]) O O) O (yA O (zZ (V:=λb5=>(qz (jk b5) 1 1)) (T:=96) (cs:=BC ((gf.x.ss.getD j jJ).1,(gf.x.ss.getD j jJ).2.1,(gf.x.ss.getD j jJ).2.2)) (AG O) (Ai (z:=.agg (BC jJ).toArray) (cs:=BC ((gf.x.ss.getD j jJ).1,(gf.x.ss.getD j jJ).2.1,(gf.x.ss.getD j jJ).2.2)) (pv:=[(0,(aG ([(vN ((gf.x.ss.getD j jJ).1)),(vN ((gf.x.ss.getD j jJ).2.1)),(vN ((gf.x.ss.getD j jJ).2.2))])))]) underlying24 sizeOf96 zeroValue96 jY jY O (Mn ((gf.x.ss.getD j jJ).1,(gf.x.ss.getD j jJ).2.1,(gf.x.ss.getD j jJ).2.2))) O (leB O) λb5=>z6 (sl (sl sr)) (yA O (yE (j:=0) (cs2:=rowsL BC (ss++[((gf.x.ss.getD j jJ).1,(gf.x.ss.getD j jJ).2.1,(gf.x.ss.getD j jJ).2.2)])) iG O h2 (AT Bv _) O O O O jY (GC Z) Z (by rw [Aw];rfl) O λp_2 c_2 ho_2 hne_2=>z6 (sl (sl sr)) (vE (v:=(pP b4 2)) O (AA O underlying37 O sizeOf24 O) O (yZ O (Dt 3 (off:=2) (vs:=[(qz p_2 (ss.length+1) c_2)]) (cs':=[(qz p1 ps.length c1),(qz gf.x.b.p gf.x.ts.length gf.x.b.c),(qz p_2 (ss.length+1) c_2)]) (AG O) O sizeOf24 O (zC (sl (sl (sk (sl sr)))) (zP ?_)))))))))
   refine zB (sL [2,3,4,8] O) (zJ (zA (zH (AK O (st' (AX (c:=((j+1:Nat):Int)) O O (AU (a:=j) (b:=1) Z)) O (asg' O (oNl' (zB (sL [2,3,4,8] O) ?_))))))))
   rw [show ss.length+1=(ss++[((gf.x.ss.getD j jJ).1,(gf.x.ss.getD j jJ).2.1,(gf.x.ss.getD j jJ).2.2)]).length by simp]
   exact zr (j+1) p_2 c_2 (ss++[((gf.x.ss.getD j jJ).1,(gf.x.ss.getD j jJ).2.1,(gf.x.ss.getD j jJ).2.2)]) (⟨Z,(by simpa using ho_2),by simp [hsl],by rw [hsd];exact (VF Z).symm⟩) Z (sF O) (sl sr)
  ·replace hc1:=xQ hc1
   exact zW (zO (z7 (zR (q2 (Af 2 GQ O (Dt 8 (off:=0) (vs:=[(qz p1 ps.length c1),(qz gf.x.b.p gf.x.ts.length gf.x.b.c),(qz p2 ss.length c2)]) (cs':=[(qz p1 ps.length c1),(qz gf.x.b.p gf.x.ts.length gf.x.b.c),(qz p2 ss.length c2)]) (AG O) O sizeOf37 O (oNl' (zB (sL [2,3,4,8] O) (zA (zF (ret_one O (Ab (i:=8) (cs:=[(qz p1 ps.length c1),(qz gf.x.b.p gf.x.ts.length gf.x.b.c),(qz p2 ss.length c2)]) O O isAgg37 sizeOf37 O) (λw hw=>(dG hw ⟨⟨MG.mk ps gf.x.ts ss (ZP gf.x hfin) (by have h9:=gf.x.sl;omega) ⟨m,by rw [hps9,hsd,show j=gf.x.ss.length by omega,List.take_length];exact gf.x.sd⟩ ⟨p1,c1,h1.row⟩ gf.x.b ⟨p2,c2,h2.row⟩,Zd gf.x hfin⟩,gf.ob,hw.asunder (i:=1) (j:=5) O O jY O,hw.asunder (i:=0) (j:=5) O O jY O⟩ (Fp (S:=λ_=>False) hw 1 O h1 (AT DN _)) (gz (inS hw 4 O (At.wm lgf))) (Fp (S:=λ_=>False) hw 0 O h2 (AT Bv _)) (az hw 7 O (At.wmf lgf)) O)))))))))))))
theorem UZ (m:MQ) (w:World) {S:Nat->Prop} (hm:Ro S w m):Calls prog 10 #[(aG (Em m))] w (Aj (MF m) S w):=(Ua m w hm).mono λe w1 h=>h.ofMGF
end
section
structure MX (ps:List Pt) (ts ss:List (Tq3)) where
  a:RX (rowsL Ah ps) ps.length
  b:RX (rowsL BC ts) ts.length
  c:RX (rowsL BC ss) ss.length
def DY {ps:List Pt} {ts ss:List (Tq3)} (x:MX ps ts ss):List Value:=[x.a.val,x.b.val,x.c.val]
theorem ej {ps:List Pt} {ts ss:List (Tq3)} {x:MX ps ts ss} {y:As} (hy:y∈[x.a.row,x.b.row,x.c.row]):y.ro=true:=by
  simp only [xL,List.not_mem_nil,or_false] at hy
  rcases hy with rfl|rfl|rfl<;>rfl
instance {ps:List Pt} {ts ss:List (Tq3)}:Cl (MX ps ts ss):=⟨λx=>aG (DY x),λx=>[x.a.row,x.b.row,x.c.row],λx y hy=>ej hy⟩
def MG.mx (g:MG):MX g.ps g.ts g.ss:=⟨g.a,g.b,g.c⟩
structure BX (cs:List Value) where
  b:Nat
instance {cs:List Value}:Cl (BX cs):=⟨λx=>pP x.b 0,λx=>[AI (some ⟨x.b,0,none⟩) cs],λx y hy=>by rcases xM.1 hy with rfl;rfl⟩
theorem UT {b:Nat} {T:TypeId} {cs:List Value} {o:Obj} (h:(AO b T cs).P o):(AI (jk b) cs).P o:=⟨cs.toArray,T,(0,0),h,by show (cs.toArray.toList.drop 0).take cs.length=cs;simp⟩
section
variable {S:Nat->Prop} {w W:World} {w0:Ay} {L:List As} {ps:List Pt} {ts ss:List (Tq3)} {cs:List Value}
theorem f9 (hw:A_ w0 w L) (i:Nat) {x:BX cs} (hi:L[i]?=some (AI (some ⟨x.b,0,none⟩) cs)) (hb:w0.w.heap.size<=x.b):Ro (SL w0 S L) w x:=λy hy=>by
  rcases xM.1 hy with rfl
  exact ⟨hw.holds hi,λc e=>⟨⟨_,List.mem_of_getElem? hi,rfl,e⟩,.inl (by injection e with e;rw [<-e];exact hb)⟩⟩
end
section
variable {P:Program} {ops:Array Oper} {rest:List Oper} {Q:Exit->Act->World->Prop} {n d:Nat} {F:List (Nat×Value)} {w0:Ay} {S:Nat->Prop} {L:List As} {t:TypeId} {p:String} {af:Array Edge} {y:Operand} {f:FuncId} {xs:List Operand} {args:List Value} {ts:Array TypeId}
theorem yj (i:Nat) {b:Nat} {T:TypeId} {cs:List Value} (hi:L[i]?=some (AO b T cs)) (hex:w0.ex=none) (next:w0.w.heap.size<=b->AP P ops rest Q n F w0 (L.set i (AI (jk b) cs))):AP P ops rest Q n F w0 L:=λa w ha hw=>by
  refine next ?_ a w ha (hw.freeze hi O (λo hp=>UT hp) (λe=>by cases e))
  rcases (hw.2.1 _ (List.mem_of_getElem? hi) b rfl).1 with h1|h1|h1
  · cases h1
  · exact h1
  · rw [hex] at h1;cases h1
end
def PP (n:Nat) (t:Tq3):Bool:=decide (t.1<n)&&decide (t.2.1<n)&&decide (t.2.2<n)&&!decide (t.1=t.2.1)&&!decide (t.2.1=t.2.2)&&!decide (t.2.2=t.1)
def Ek (n:Nat) (ts:List (Tq3)):Bool:=ts.all (PP n)
theorem Oj {n:Nat} {ts:List (Tq3)} (h:Ek n ts=true) {j:Nat} (hj:j<ts.length):PP n (ts.getD j (0,0,0))=true:=by
  rw [List.getD,xN hj]
  exact List.all_eq_true.1 h _ (List.getElem_mem hj)
theorem ME {n:Nat} {t:Tq3} (h:PP n t=true):t.1<n/\t.2.1<n/\t.2.2<n:=by
  simp [PP] at h;omega
def idxB (n:Nat):List (Tq3)->Nat->Int
  | [],_ => -1
  | t::r,i=>if PP n t=true then idxB n r (i+1) else (i:Int)
theorem H8 {α:Type} {ts:List α} {d:α} {j:Nat} (hj:j<ts.length):ts.drop j=ts.getD j d::ts.drop (j+1):=by
  rw [List.drop_eq_getElem_cons hj,List.getD,xN hj];rfl
theorem UJ {n:Nat} {ts:List (Tq3)} {j:Nat} (hj:j<ts.length) (h:PP n (ts.getD j (0,0,0))=true):idxB n (ts.drop j) j=idxB n (ts.drop (j+1)) (j+1):=by
  rw [H8 (d:=(0,0,0)) hj];exact if_pos h
theorem WW {n:Nat} {ts:List (Tq3)} {j:Nat} (hj:j<ts.length) (h:PP n (ts.getD j (0,0,0))=false):idxB n (ts.drop j) j=(j:Int):=by
  rw [H8 (d:=(0,0,0)) hj];exact if_neg (by rw [h];exact Bool.false_ne_true)
theorem WV {n:Nat} {ts:List (Tq3)} {j:Nat} (hj:¬j<ts.length):idxB n (ts.drop j) j = -1:=by
  rw [List.drop_of_length_le Z];rfl
theorem Nk (n:Nat):∀(ts:List (Tq3)) (i:Nat),decide (0<=idxB n ts i)=!Ek n ts
  | [],i=>rfl
  | t::r,i=>by
    unfold idxB Ek
    rw [List.all_cons]
    cases h:PP n t with
    | true=>rw [if_pos rfl,Bool.true_and];exact Nk n r (i+1)
    | false=>rw [if_neg Bool.false_ne_true,Bool.false_and];simp
def BU (ps:List Pt) (k:Nat):Pt:=ps.getD k ⟨0,0⟩
def CG (a b c p:Pt):Nat:=if AF a b c=0 then 0 else FH (AF p b c/AF a b c) (AF a p c/AF a b c) (AF a b p/AF a b c)
def BZ (ps:List Pt) (q:Pt) (t:Tq3):Nat:=CG (BU ps t.1) (BU ps t.2.1) (BU ps t.2.2) q
def findAt (ps:List Pt) (q:Pt):List (Tq3)->Nat->Int×Nat
  | [],_=>(-1,0)
  | t::r,i=>if BZ ps q t=0 then findAt ps q r (i+1) else ((i:Int),BZ ps q t)
end
end Go.Proofs.YtcpkbjjmcleplaaGreatDoor
