import Derived.Test.YtpgncndhhhllfaaGreatPart03
import Derived.Test.YtpgncndhhhllfaaGreatPart04
import Derived.Test.YtpgncndhhhllfaaGreatPart06
import Derived.Test.YtpgncndhhhllfaaGreatPart12
import Derived.Test.YtpgncndhhhllfaaGreatPart16
import Derived.Test.YtpgncndhhhllfaaGreatPart18
import Derived.Test.YtpgncndhhhllfaaGreatPart19
namespace Go.Proofs.YtpgncndhhhllfaaGreat
open Go Go.RowKit Go.Proofs.Tryz
set_option linter.unusedVariables false
set_option linter.unusedSimpArgs false
section
def D1 (a b:Nat):Int:=if a<b then -1 else if b<a then 1 else 0
theorem RT {a b:Nat} (h:a<b):D1 a b = -1:=if_pos h
theorem RE {a b:Nat} (h:¬a<b) (h2:b<a):D1 a b=1:=by rw [D1,if_neg h,if_pos h2]
theorem Q9 {a b:Nat} (h:¬a<b) (h2:¬b<a):D1 a b=0:=by rw [D1,if_neg h,if_neg h2]
def WD (a b:Int):Int:=if a≠0 then a else if b≠0 then b else 0
section
variable {P:Program} {n:Nat} {F:List (Nat×Value)} {w0:BL} {L:List As} {d:Option Tmp} {x:Operand} {t:TypeId} {p:String} {af:Array Edge} {g:Option (Nat×Bool)}
theorem DY {tx e:TypeId} {a:Option Addr} {len cap k:Nat} {hi mx:Operand} {ki kj:IntKind} {m:Nat} (hx:evF F x=some (.slice a len cap)) (hh:evF F hi=some (.int ki (m:Nat))) (hj:evF F mx=some (.int kj (m:Nat))) (hu:P.underlying tx=some (.slice e)) (hs:∀w,(sizeOf e).run P w=.ok k w) (hm:m<=cap) :
    Ex P n F w0 L ⟨d,.slice tx x none (some hi) (some mx),t,p,af,g⟩ (.slice a m m):=λA w ha _=>by
  simp only [execOp,ha.ev hx,Instr.sliceAt,run_underlying hu,Instr.slice,Option.map_some,Option.map_none,ha.ev hh,ha.ev hj,Instr.sliceBounds,Instr.sliceBound,asIntOf,Sem.run_bind,Result.andThen_ok,Sem.run_pure]
  have h1:(0:Int)<=(m:Int)/\(m:Int)<=(cap:Int):=⟨Z,Z⟩
  simp [h1.2,hs]
  cases a<;>simp [Addr.add]
end
section
variable {P:Program} {ops:Array Oper} {rest:List Oper} {Q:Exit->Act->World->Prop} {n:Nat} {F:List (Nat×Value)} {w0:BL} {L L':List As}
theorem AC.subL (hs:L'.Sublist L) (h:AC P ops rest Q n F w0 L'):AC P ops rest Q n F w0 L:=λa w ha hw=>h a w ha (hw.weak hs)
end
end
theorem Lx (a b:Rat):a<b\/b<=a:=by grind
def Nf (A B:P2) (x y:Rat):Rat:=((B.1:Rat)-(A.1:Rat))*(y-(A.2:Rat))-((B.2:Rat)-(A.2:Rat))*(x-(A.1:Rat))
def Ws (t:P2×P2×P2) (x y:Rat):Prop:=0<Nf t.2.1 t.2.2 x y/\0<Nf t.2.2 t.1 x y/\0<Nf t.1 t.2.1 x y
def XT (t:P2×P2×P2) (x y:Rat):Prop:=0<=Nf t.2.1 t.2.2 x y/\0<=Nf t.2.2 t.1 x y/\0<=Nf t.1 t.2.1 x y
def dP (s t:P2×P2×P2):Prop:=∀x y,(Ws s x y->¬XT t x y)/\(Ws t x y->¬XT s x y)
theorem Ib (u:Nat):((2*u:Nat):Rat)=2*(u:Rat):=by rw [Rat.natCast_mul];rfl
theorem Jx (u:Nat):((2*u+2:Nat):Rat)=2*(u:Rat)+2:=by rw [Rat.natCast_add,Ib];rfl
theorem Qh (u:Nat):((2*u+1:Nat):Rat)=2*(u:Rat)+1:=by rw [Rat.natCast_add,Ib];rfl
theorem Q3 {t:P2×P2×P2} {nx way i u v:Nat} (hu:u=i%nx) (hv:v=i/nx) (ht:t∈Cl nx way i) (x y:Rat) :
    (Ws t x y->(2*(u:Rat)<x/\x<2*(u:Rat)+2)/\2*(v:Rat)<y/\y<2*(v:Rat)+2)/\(XT t x y->(2*(u:Rat)<=x/\x<=2*(u:Rat)+2)/\2*(v:Rat)<=y/\y<=2*(v:Rat)+2):=by
  have key:t∈[((2*u,2*v),(2*u+2,2*v),(2*u+2,2*v+2)),((2*u,2*v),(2*u+2,2*v+2),(2*u,2*v+2)),((2*u,2*v),(2*u+2,2*v),(2*u,2*v+2)),((2*u+2,2*v),(2*u+2,2*v+2),(2*u,2*v+2)),
      ((2*u,2*v),(2*u+2,2*v),(2*u+1,2*v+1)),((2*u+2,2*v),(2*u+2,2*v+2),(2*u+1,2*v+1)),((2*u+2,2*v+2),(2*u,2*v+2),(2*u+1,2*v+1)),((2*u,2*v+2),(2*u,2*v),(2*u+1,2*v+1))]:=by
    subst hu;subst hv
    unfold Cl at ht
    simp only at ht
    split at ht
    · simp only [List.mem_cons,List.not_mem_nil,or_false] at ht ⊢;rcases ht with h|h<;>simp [h]
    · split at ht
      · simp only [List.mem_cons,List.not_mem_nil,or_false] at ht ⊢;rcases ht with h|h<;>simp [h]
      · split at ht
        · simp only [List.mem_cons,List.not_mem_nil,or_false] at ht ⊢;rcases ht with h|h|h|h<;>simp [h]
        · cases ht
  clear hu hv ht
  simp only [List.mem_cons,List.not_mem_nil,or_false] at key
  rcases key with rfl|rfl|rfl|rfl|rfl|rfl|rfl|rfl<;>(simp only [Ws,XT,Nf,Ib,Jx,Qh];generalize (u:Rat)=U;generalize (v:Rat)=V;refine ⟨λh=>?_,λh=>?_⟩<;>obtain ⟨h1,h2,h3⟩:=h<;>refine ⟨⟨?_,?_⟩,?_,?_⟩<;>grind)
theorem TO {s t:P2×P2×P2} {nx way way' i j:Nat} (hij:i≠j) (hs:s∈Cl nx way i) (ht:t∈Cl nx way' j):dP s t:=λx y=>by
  have a:=Q3 rfl rfl hs x y
  have b:=Q3 rfl rfl ht x y
  have hne:i%nx≠j%nx\/i/nx≠j/nx:=by
    rcases Decidable.em (i%nx=j%nx) with e|e
    · rcases Decidable.em (i/nx=j/nx) with e2|e2
      · exact absurd (by rw [<-Nat.div_add_mod i nx,<-Nat.div_add_mod j nx,e,e2]) hij
      · exact .inr e2
    · exact .inl e
  have lt:∀{p q:Nat},p<q->(p:Rat)+1<=(q:Rat):=λ{p q} h=>by
    have h1:((p+1:Nat):Rat)<=(q:Rat):=by exact_mod_cast h
    rw [Rat.natCast_add] at h1
    exact h1
  have four:(i%nx:Nat)+1<=j%nx\/(j%nx:Nat)+1<=i%nx\/(i/nx:Nat)+1<=j/nx\/(j/nx:Nat)+1<=i/nx:=by omega
  revert a b
  rcases four with h|h|h|h<;>have h:=lt h<;>generalize ((i%nx:Nat):Rat)=A at*<;> generalize ((j%nx:Nat):Rat)=B at*<;> generalize ((i/nx:Nat):Rat)=C at*<;> generalize ((j/nx:Nat):Rat)=D at*<;> intro a b<;>refine ⟨λh1 h2=>?_,λh1 h2=>?_⟩ <;>
    first
      | (have a1:=a.1 h1;have b1:=b.2 h2;obtain ⟨⟨_,_⟩,_,_⟩:=a1;obtain ⟨⟨_,_⟩,_,_⟩:=b1;grind)
      | (have a1:=a.2 h2;have b1:=b.1 h1;obtain ⟨⟨_,_⟩,_,_⟩:=a1;obtain ⟨⟨_,_⟩,_,_⟩:=b1;grind)
theorem Tq (nx way i:Nat):(Cl nx way i).Pairwise dP:=by
  unfold Cl
  simp only
  generalize i%nx=u
  generalize i/nx=v
  split
  · refine List.pairwise_pair.2 λx y=>?_
    simp only [Ws,XT,Nf,Ib,Jx];generalize (u:Rat)=U;generalize (v:Rat)=V
    refine ⟨λh k=>?_,λh k=>?_⟩<;>obtain ⟨h1,h2,h3⟩:=h<;>obtain ⟨k1,k2,k3⟩:=k<;>grind
  · split
    · refine List.pairwise_pair.2 λx y=>?_
      simp only [Ws,XT,Nf,Ib,Jx];generalize (u:Rat)=U;generalize (v:Rat)=V
      refine ⟨λh k=>?_,λh k=>?_⟩<;>obtain ⟨h1,h2,h3⟩:=h<;>obtain ⟨k1,k2,k3⟩:=k<;>grind
    · split
      · simp only [List.pairwise_cons,List.mem_cons,List.not_mem_nil,or_false,forall_eq_or_imp,forall_eq,List.Pairwise.nil,and_true,false_implies,implies_true]
        refine ⟨⟨?_,?_,?_⟩,⟨?_,?_⟩,?_⟩<;>intro x y<;>simp only [Ws,XT,Nf,Ib,Jx,Qh]<;>generalize (u:Rat)=U<;>generalize (v:Rat)=V<;>refine ⟨λh k=>?_,λh k=>?_⟩<;>obtain ⟨h1,h2,h3⟩:=h<;>obtain ⟨k1,k2,k3⟩:=k<;>grind
      · exact List.Pairwise.nil
theorem Fp (m:MQ):∀i t,t∈D9 m i->∃j,j<i/\t∈Cl (Hz m) (G4 m j) j
  | 0,t,h=>by cases h
  | i+1,t,h=>by
    rcases List.mem_append.1 h with h|h
    · obtain ⟨j,hj,h⟩:=Fp m i t h;exact ⟨j,Z,h⟩
    · exact ⟨i,Z,h⟩
theorem K2 (m:MQ):∀i,(D9 m i).Pairwise dP
  | 0=>List.Pairwise.nil
  | i+1=>List.pairwise_append.2 ⟨K2 m i,Tq _ _ _,λs hs t ht=>by
      obtain ⟨j,hj,h⟩:=Fp m i s hs
      exact TO Z h ht⟩
theorem Lm (m:MQ) {i j:Nat} (hi:i<(BK m).length) (hj:j<(BK m).length) (hne:i≠j) (d:P2×P2×P2):∀x y,Ws ((BK m).getD i d) x y->¬XT ((BK m).getD j d) x y:=λx y h=>by
  have hp:=List.pairwise_iff_getElem.1 (K2 m (Hz m*Ub m))
  rw [List.getD,List.getElem?_eq_getElem hi] at h
  rw [List.getD,List.getElem?_eq_getElem hj]
  rcases Nat.lt_or_gt_of_ne hne with hlt|hgt
  · exact (hp i j hi hj hlt x y).1 h
  · exact (hp j i hj hi hgt x y).2 h
theorem X6 {k:Dl} (h:k.Ok) (den:Nat) (q:Pt):∃x y c:Rat,0<c/\∀A B:P2,E2 (EQ (Wb k den A)) (EQ (Wb k den B)) q=c*Nf A B x y:=by
  have hD:0<(((max den 1:Nat):Int):Rat):=by exact_mod_cast (show (0:Int)<((max den 1:Nat):Int) by omega)
  have hd:(0:Rat)<(k.det:Rat):=by exact_mod_cast h.pos
  have ed:(k.det:Rat)=(k.a:Rat)*(k.d:Rat)-(k.b:Rat)*(k.c:Rat):=by simp only [Dl.det,Rat.intCast_sub,Rat.intCast_mul]
  have hi:=Rat.inv_pos.2 hD
  have he:((((max den 1:Nat):Int):Rat)⁻¹)*(((max den 1:Nat):Int):Rat)=1:=Rat.inv_mul_cancel _ (by grind)
  have hdi:((k.det:Rat)⁻¹)*(k.det:Rat)=1:=Rat.inv_mul_cancel _ (by grind)
  obtain ⟨qx,qy⟩:=q
  refine ⟨((k.d:Rat)*qx-(k.b:Rat)*qy)*(((max den 1:Nat):Int):Rat)*(k.det:Rat)⁻¹,((k.a:Rat)*qy-(k.c:Rat)*qx)*(((max den 1:Nat):Int):Rat)*(k.det:Rat)⁻¹,(k.det:Rat)*((((max den 1:Nat):Int):Rat)⁻¹*(((max den 1:Nat):Int):Rat)⁻¹),Rat.mul_pos hd (Rat.mul_pos hi hi),λA B=>?_⟩
  simp only [Hn,EQ,Wb,Jr,Dl.at_,Nf,Rat.div_def,Rat.intCast_add,Rat.intCast_mul]
  rw [ed] at hdi ⊢
  clear hD hd hi ed
  generalize (((max den 1:Nat):Int):Rat)⁻¹=e at *
  generalize (((max den 1:Nat):Int):Rat)=D at *
  simp only [Rat.intCast_natCast]
  generalize ((k.a:Rat)*(k.d:Rat)-(k.b:Rat)*(k.c:Rat))⁻¹=f at *
  generalize (k.a:Rat)=a at *
  generalize (k.b:Rat)=b at *
  generalize (k.c:Rat)=c at *
  generalize (k.d:Rat)=d at *
  generalize (A.1:Rat)=A1
  generalize (A.2:Rat)=A2
  generalize (B.1:Rat)=B1
  generalize (B.2:Rat)=B2
  clear h
  have hx:qx=(a*((d*qx-b*qy)*D*f)+b*((a*qy-c*qx)*D*f))*e:=by grind
  have hy:qy=(c*((d*qx-b*qy)*D*f)+d*((a*qy-c*qx)*D*f))*e:=by grind
  generalize (d*qx-b*qy)*D*f=X at *
  generalize (a*qy-c*qx)*D*f=Y at *
  subst hx
  subst hy
  grind
theorem Az {α:Type} {enc:α->List Value} {z:Nat} (h:∀x,(enc x).length=z) (d:α) (xs:List α) (j r:Nat) (hj:j<xs.length) (hr:r<z) {v:Value} (hv:(enc (xs.getD j d))[r]?=some v):(rowsL enc xs)[j*z+r]?=some v:=by
  have h1:=BD h d xs j hj
  rw [<-h1,List.getElem?_take_of_lt hr,List.getElem?_drop] at hv
  exact hv
theorem Qt (p:Pt):(Bf p).length=10:=rfl
structure dy (ps:List Pt) (t:Tq3):Prop where
  a:t.1<ps.length
  b:t.2.1<ps.length
  c:t.2.2<ps.length
  ab:t.1≠t.2.1
  bc:t.2.1≠t.2.2
  ca:t.2.2≠t.1
  pos:0<E2 (ps.getD t.1 ⟨0,0⟩) (ps.getD t.2.1 ⟨0,0⟩) (ps.getD t.2.2 ⟨0,0⟩)
def dA (ps:List Pt) (t:Tq3) (q:Pt):Prop:=0<E2 q (ps.getD t.2.1 ⟨0,0⟩) (ps.getD t.2.2 ⟨0,0⟩)/\0<E2 (ps.getD t.1 ⟨0,0⟩) q (ps.getD t.2.2 ⟨0,0⟩)/\0<E2 (ps.getD t.1 ⟨0,0⟩) (ps.getD t.2.1 ⟨0,0⟩) q
def cm (ps:List Pt) (t:Tq3) (q:Pt):Prop:=0<=E2 q (ps.getD t.2.1 ⟨0,0⟩) (ps.getD t.2.2 ⟨0,0⟩)/\0<=E2 (ps.getD t.1 ⟨0,0⟩) q (ps.getD t.2.2 ⟨0,0⟩)/\0<=E2 (ps.getD t.1 ⟨0,0⟩) (ps.getD t.2.1 ⟨0,0⟩) q
def B7 (m:MQ):Nat:=1+m.den%6
def RU (m:MQ) (z:Int×Int):PD:=⟨⟨z.1,B7 m⟩,⟨z.2,B7 m⟩⟩
def Pd (m:MQ) (zs:List (Int×Int)) (i:Nat):List Pt:=(zs.take i).map λz=>EQ (RU m z)
theorem Js {m:MQ} {zs:List (Int×Int)} {i:Nat} (h:i<=zs.length):(Pd m zs i).length=i:=by simp [Pd];omega
theorem N7 {m:MQ} {zs:List (Int×Int)} {i:Nat} (h:i<zs.length):Pd m zs (i+1)=Pd m zs i++[EQ (RU m (zs.getD i (0,0)))]:=by
  unfold Pd
  rw [List.take_add_one,List.getElem?_eq_getElem h,List.map_append,List.getD,List.getElem?_eq_getElem h]
  rfl
theorem YA {m:MQ} {zs:List (Int×Int)} {i:Nat} (h:i<zs.length):(Pd m zs zs.length).getD i ⟨0,0⟩=EQ (RU m (zs.getD i (0,0))):=by
  unfold Pd
  rw [List.take_length,List.getD,List.getElem?_map,List.getElem?_eq_getElem h,List.getD,List.getElem?_eq_getElem h]
  rfl
def C5 (m:MQ) (pl:List P2):List (Int×Int):=pl.map λp=>(mapM m).at_ p
structure HF (ps:List Pt) (ts:List (Tq3)):Prop where
  ne:ts≠[]
  tl:ts.length<=36
  pl:ps.length<=108
  sz:∀i,dI (ps.getD i ⟨0,0⟩)<=4
  tri:∀j,j<ts.length->dy ps (ts.getD j (0,0,0))
  apart:∀i j,i<ts.length->j<ts.length->i≠j->∀q,dA ps (ts.getD i (0,0,0)) q->¬cm ps (ts.getD j (0,0,0)) q
  lat:∃(m:MQ) (pl:List P2),O1 m (BK m).length pl ts/\Yz pl/\ps=Pd m (C5 m pl) pl.length
structure MG where
  ps:List Pt
  ts:List (Tq3)
  ss:List (Tq3)
  good:HF ps ts
  sl:ss.length<=108*108
  sd:∃m:MQ,ss=LD m ts ps.length ps.length
  a:RX (rowsL Bf ps) ps.length
  b:RX (rowsL AZ ts) ts.length
  c:RX (rowsL AZ ss) ss.length
def cS (x:MG):List Value:=[x.a.val,x.b.val,x.c.val]
theorem Yx {x:MG} {y:As} (hy:y∈[x.a.row,x.b.row,x.c.row]):y.ro=true:=by
  simp only [List.mem_cons,List.not_mem_nil,or_false] at hy
  rcases hy with rfl|rfl|rfl<;>rfl
instance:Cf MG:=⟨λx=>aG (cS x),λx=>[x.a.row,x.b.row,x.c.row],λx y hy=>Yx hy⟩
theorem dN {S:Nat->Prop} {W w:World} {L:List As} {m:MQ} {x:WM m} (h:Ro (SL ⟨W,none⟩ S L) w x):Holds w x.b.row/\∀b,x.b.row.foot=some b->W.heap.size<=b\/S b:=by
  have h1:=h x.b.row (List.mem_cons_of_mem _ List.mem_cons_self)
  exact ⟨h1.1,λb e=>(h1.2 b e).2⟩
theorem NT {m:MQ} {pl:List P2} {i:Nat} (h:i<pl.length):(C5 m pl).getD i (0,0)=(mapM m).at_ (pl.getD i (0,0)):=by
  simp [C5,List.getD,h]
theorem Wj {m:MQ} {pl:List P2} (hs:∀p∈pl,p.1<=6/\p.2<=6) {i:Nat} (h:i<pl.length):(RU m ((C5 m pl).getD i (0,0))).ok:=by
  rw [NT h]
  have hp:=hs (pl.getD i (0,0)) (by rw [List.getD,List.getElem?_eq_getElem h];exact List.getElem_mem h)
  obtain ⟨⟨h1,h2⟩,h3,h4⟩:=Vt (H1 m.a m.b m.c m.d) hp
  have hd:B7 m<4294967296:=by unfold B7;omega
  have e:mapM m=G5 m.a m.b m.c m.d:=rfl
  rw [<-e] at h1 h2 h3 h4
  exact ⟨⟨by show -9223372036854775808<=((mapM m).at_ _).1;omega,by show ((mapM m).at_ _).1<_;omega,hd⟩,⟨by show -9223372036854775808<=((mapM m).at_ _).2;omega,by show ((mapM m).at_ _).2<_;omega,hd⟩⟩
theorem IR (a b c:P2):DV b c a=DV a b c:=by unfold DV;grind
theorem HR (a b:P2):DV a a b=0/\DV a b b=0/\DV b a b=0:=by unfold DV;exact ⟨by grind,by grind,by grind⟩
theorem S8 {m:MQ} {t:Nat} (h:t<(BK m).length):0<DV (Av m t 0) (Av m t 1) (Av m t 2):=by
  have h1:=Ih m ((BK m).getD t ((0,0),(0,0),(0,0))) (by rw [List.getD,List.getElem?_eq_getElem h];exact List.getElem_mem h)
  unfold Av La
  generalize (BK m).getD t ((0,0),(0,0),(0,0))=c at *
  generalize t*(m.fst/3)=q at *
  have h0:=h1.1
  have e:(m.fst+q)%3=0\/(m.fst+q)%3=1\/(m.fst+q)%3=2:=by omega
  rcases e with e|e|e
  · rw [show (0+m.fst+q)%3=0 by omega,show (1+m.fst+q)%3=1 by omega,show (2+m.fst+q)%3=2 by omega]
    exact h0
  · rw [show (0+m.fst+q)%3=1 by omega,show (1+m.fst+q)%3=2 by omega,show (2+m.fst+q)%3=0 by omega]
    show 0<DV c.2.1 c.2.2 c.1
    rw [IR];exact h0
  · rw [show (0+m.fst+q)%3=2 by omega,show (1+m.fst+q)%3=0 by omega,show (2+m.fst+q)%3=1 by omega]
    show 0<DV c.2.2 c.1 c.2.1
    rw [IR c.2.1,IR];exact h0
theorem R4 (m:MQ) (t:Nat) (x y:Rat):(0<Nf (Av m t 1) (Av m t 2) x y->0<Nf (Av m t 2) (Av m t 0) x y->0<Nf (Av m t 0) (Av m t 1) x y->Ws ((BK m).getD t ((0,0),(0,0),(0,0))) x y) /\
    (0<=Nf (Av m t 1) (Av m t 2) x y->0<=Nf (Av m t 2) (Av m t 0) x y->0<=Nf (Av m t 0) (Av m t 1) x y->XT ((BK m).getD t ((0,0),(0,0),(0,0))) x y):=by
  unfold Av La
  generalize (BK m).getD t ((0,0),(0,0),(0,0))=c at *
  generalize t*(m.fst/3)=q at *
  have e:(m.fst+q)%3=0\/(m.fst+q)%3=1\/(m.fst+q)%3=2:=by omega
  rcases e with e|e|e
  · rw [show (0+m.fst+q)%3=0 by omega,show (1+m.fst+q)%3=1 by omega,show (2+m.fst+q)%3=2 by omega]
    exact ⟨λa b c=>⟨a,b,c⟩,λa b c=>⟨a,b,c⟩⟩
  · rw [show (0+m.fst+q)%3=1 by omega,show (1+m.fst+q)%3=2 by omega,show (2+m.fst+q)%3=0 by omega]
    exact ⟨λa b c=>⟨c,a,b⟩,λa b c=>⟨c,a,b⟩⟩
  · rw [show (0+m.fst+q)%3=2 by omega,show (1+m.fst+q)%3=0 by omega,show (2+m.fst+q)%3=1 by omega]
    exact ⟨λa b c=>⟨b,c,a⟩,λa b c=>⟨b,c,a⟩⟩
theorem QB {c z:Rat} (hc:0<c) (h:0<c*z):0<z:=by
  rcases Lx 0 z with h1|h1
  · exact h1
  · have:=Rat.mul_nonneg (show 0<=c by grind) (show 0 <= -z by grind)
    grind
theorem Uw {c z:Rat} (hc:0<c) (h:0<=c*z):0<=z:=by
  rcases Lx z 0 with h1|h1
  · have:=Rat.mul_pos hc (show 0 < -z by grind)
    grind
  · exact h1
theorem Xb {m:MQ} (x:WM m) {ps:List Pt} (h:ps=Pd m (C5 m x.pl) x.pl.length):HF ps x.ts:=by
  have hz:(C5 m x.pl).length=x.pl.length:=by simp [C5]
  rw [<-hz] at h
  have hl:ps.length=x.pl.length:=by rw [h,Js (Nat.le_refl _),hz]
  have hg:∀i,i<x.pl.length->ps.getD i ⟨0,0⟩=EQ (Wb (mapM m) (B7 m) (x.pl.getD i (0,0))):=λi hi=>by
    rw [h,YA (by rw [hz];exact hi),NT hi];rfl
  have hi:=x.inv
  have hcl:=Fh m
  refine ⟨λe=>TZ m (List.eq_nil_of_length_eq_zero (by rw [<-hi.tl,e];rfl)),by rw [hi.tl];exact hcl,by rw [hl];have:=hi.pll;omega,λi=>?_,λj hj=>?_,λi j hi1 hj1 hne q ho hcl2=>?_,⟨m,x.pl,x.inv,x.dst,by rw [h,hz]⟩⟩
  · rcases Nat.lt_or_ge i x.pl.length with h1|h1
    · have hok:=Wj (m:=m) hi.small h1
      rw [hg i h1]
      have:=T7 hok
      rw [NT h1] at this
      exact this
    · rw [List.getD,List.getElem?_eq_none (by rw [hl];exact h1)];decide +kernel
  · rw [hi.tl] at hj
    have ht:=hi.at_ j hj
    have hc:=S8 hj
    have hp:=XV (H1 m.a m.b m.c m.d) (B7 m) hc
    obtain ⟨⟨a1,a2⟩,⟨b1,b2⟩,⟨c1,c2⟩⟩:=ht
    refine ⟨by rw [hl];exact a1,by rw [hl];exact b1,by rw [hl];exact c1,λe=>?_,λe=>?_,λe=>?_,?_⟩
    · rw [e,b2] at a2;rw [<-a2,(HR _ _).1] at hc;omega
    · rw [e,c2] at b2;rw [<-b2,(HR _ _).2.1] at hc;omega
    · rw [e,a2] at c2;rw [<-c2,(HR _ _).2.2] at hc;omega
    · rw [hg _ a1,hg _ b1,hg _ c1,a2,b2,c2];exact hp
  · rw [hi.tl] at hi1 hj1
    obtain ⟨x',y',c,hc,key⟩:=X6 (H1 m.a m.b m.c m.d) (B7 m) q
    obtain ⟨⟨a1,a2⟩,⟨b1,b2⟩,⟨c1,c2⟩⟩:=hi.at_ i hi1
    obtain ⟨⟨d1,d2⟩,⟨e1,e2⟩,⟨f1,f2⟩⟩:=hi.at_ j hj1
    obtain ⟨o1,o2,o3⟩:=ho
    obtain ⟨k1,k2,k3⟩:=hcl2
    rw [hg _ b1,hg _ c1,b2,c2,<-Hm,show mapM m=G5 m.a m.b m.c m.d from rfl,key] at o1
    rw [hg _ a1,hg _ c1,a2,c2,Hm,show mapM m=G5 m.a m.b m.c m.d from rfl,key] at o2
    rw [hg _ a1,hg _ b1,a2,b2,show mapM m=G5 m.a m.b m.c m.d from rfl,key] at o3
    rw [hg _ e1,hg _ f1,e2,f2,<-Hm,show mapM m=G5 m.a m.b m.c m.d from rfl,key] at k1
    rw [hg _ d1,hg _ f1,d2,f2,Hm,show mapM m=G5 m.a m.b m.c m.d from rfl,key] at k2
    rw [hg _ d1,hg _ e1,d2,e2,show mapM m=G5 m.a m.b m.c m.d from rfl,key] at k3
    exact Lm m hi1 hj1 hne _ x' y' ((R4 m i x' y').1 (QB hc o1) (QB hc o2) (QB hc o3)) ((R4 m j x' y').2 (Uw hc k1) (Uw hc k2) (Uw hc k3))
def ZZ (m:MQ) (ps:List Pt) (ts:List (Tq3)):Prop:=∃pl:List P2,O1 m (BK m).length pl ts/\Yz pl/\ps=Pd m (C5 m pl) pl.length
theorem YS {m:MQ} (x:WM m) {ps:List Pt} (h:ps=Pd m (C5 m x.pl) x.pl.length):ZZ m ps x.ts:=⟨x.pl,x.inv,x.dst,h⟩
structure MF (m:MQ) where
  g:MG
  lat:ZZ m g.ps g.ts
instance {m:MQ}:Cf (MF m):=⟨λx=>aG (cS x.g),λx=>[x.g.a.row,x.g.b.row,x.g.c.row],λx y hy=>Yx hy⟩
structure aj (m:MQ) where
  f:MF m
  ob:OwnOk f.g.b.p f.g.ts.length f.g.b.c
  da:∀x,f.g.b.p.map (·.block)=some x->f.g.a.p.map (·.block)≠some x
  dc:∀x,f.g.b.p.map (·.block)=some x->f.g.c.p.map (·.block)≠some x
def Tz {m:MQ} (y:aj m):As:=bh y.f.g.b.p 68 3 y.f.g.ts.length y.f.g.b.c (rowsL AZ y.f.g.ts)
instance {m:MQ}:Cf (aj m):=⟨λy=>aG (cS y.f.g),λy=>[y.f.g.a.row,y.f.g.b.row,y.f.g.c.row,Tz y],λx y hy=>by
  simp only [List.mem_cons,List.not_mem_nil,or_false] at hy
  rcases hy with rfl|rfl|rfl|rfl<;>rfl⟩
theorem Z0 {m:MQ} {W w:World} {L:List As} (hw:BS ⟨W,none⟩ w L) (x:aj m) (h1:Holds w x.f.g.a.row/\∀b,x.f.g.a.row.foot=some b->W.heap.size<=b\/False) (h2:Holds w x.f.g.b.row/\∀b,x.f.g.b.row.foot=some b->W.heap.size<=b\/False) (h3:Holds w x.f.g.c.row/\∀b,x.f.g.c.row.foot=some b->W.heap.size<=b\/False) (h4:Holds w (Tz x)/\∀b,(Tz x).foot=some b->W.heap.size<=b\/False) {v:Value} (hv:v=aG (cS x.f.g)):Am (aj m) (λ_=>False) W (.returned v) w:=by
  refine ⟨x,by rw [hv];rfl,hw.out,λy hy=>?_⟩
  have hy:y∈[x.f.g.a.row,x.f.g.b.row,x.f.g.c.row,Tz x]:=hy
  simp only [List.mem_cons,List.not_mem_nil,or_false] at hy
  rcases hy with rfl|rfl|rfl|rfl
  · exact h1
  · exact h2
  · exact h3
  · exact h4
theorem Am.ofMGF {m:MQ} {S:Nat->Prop} {W w:World} {e:Ending} (h:Am (aj m) (λ_=>False) W e w):Am (MF m) S W e w:=by
  obtain ⟨a,h1,h2,h3⟩:=h
  refine ⟨a.f,h1,h2,λy hy=>?_⟩
  have h4:=h3 y (by
    have hy:y∈[a.f.g.a.row,a.f.g.b.row,a.f.g.c.row]:=hy
    show y∈[a.f.g.a.row,a.f.g.b.row,a.f.g.c.row,Tz a]
    simp only [List.mem_cons,List.not_mem_nil,or_false] at hy ⊢
    rcases hy with rfl|rfl|rfl<;>simp)
  exact ⟨h4.1,λb e=>(h4.2 b e).imp id λk=>k.elim⟩
section
set_option maxRecDepth 100000
theorem UJ (q:QD) (h:q.ok) (w:World)  :Calls prog 34 #[(aG (Qj q))] w (A9 w (aG (BM (Jr q)))):=by
 obtain ⟨h1,h2,h3⟩:=h
 refine Aq (args:=[(aG (Qj q))]) func34 O O (Ad O) (AE.subF (sL [0] O) (q4 (Ca (cs:=Qj q) O λb1=>al Na O λb2=>q3 (sL [1,2] O) (AJ (v:=(pP b1 0)) (AB O underlying53 O sizeOf2 O) O (BE 1 (vI q.n) LO O (AJ (v:=(pP b1 1)) (AB O underlying53 O sizeOf50 O) O (BE 1 (vK .u32 q.d) a8 O (AJ (FL (c:=((max q.d 1:Nat):Int)) O O (by split<;>omega)) O (AJ (Ax (c:=((max q.d 1:Nat):Int)) O underlying50 underlying2 (CI Z)) O ?_)))))))))
 refine ck' call51 (aU (q.n:Int) ((max q.d 1:Nat):Int) Z Z Z Z Z) O (AM O (AJ (Ab (v:=(aG (BM (((q.n:Int):Rat)/(((max q.d 1:Nat):Int):Rat))))) O O) O (AJ (Ab (v:=(vI 0)) O O) O (al Na O λb3=>BN O sizeOf64 O (AI O (q3 (sL [2,3] O) (BF 0 Kj O (Ed O sizeOf64 O (AC.nil (OkQ.subF (sL [2,3] O) ?_))))))))))
 exact OkQ.then_ (AE.ret (AV O (BP (i:=1) (cs:=BM (((q.n:Int):Rat)/(((max q.d 1:Nat):Int):Rat))) O O isAgg64 sizeOf64 O) (λw hw=>⟨rfl,hw.out⟩)))
theorem Ef (x0:Rat) (x1:Rat):Instr.fill ([(0,5),(5,5)].toArray[·]?) (Bf (⟨0,0⟩:Pt)).toArray [(0,.agg (BM x0).toArray),(1,.agg (BM x1).toArray)]=some (BM x0++BM x1).toArray:=by kernel_rfl
theorem Z8 (p:PD) (h:p.ok) (w:World)  :Calls prog 14 #[(aG (aO p))] w (A9 w (aG (Bf (EQ p)))):=by
 have h1:=h.1
 have h2:=h.2
 refine Aq (args:=[(aG (aO p))]) func14 O O (Ad O) (AE.subF (sL [0] O) (q4 (Ca (cs:=aO p) O λb1=>al bW O λb2=>q6 (sL [1,2] O) (Ck [(0,true),(1,true),(3,true),(4,true),(2,false),(5,false),(6,true),(7,false)] (sl sr) (Ao (v:=(pP b1 0)) O (AB O underlying55 O sizeOf53 O) (Tu 0 (Qj p.x) X8 O (Ao (v:=(pP b1 2)) O (AB O underlying55 O sizeOf53 O) (Tu 0 (Qj p.y) X8 O (OkE.imp O ?_)))))))))
 refine ck' call34 (UJ p.x (by assumption)) O (OkE.back (sl sr) (OkE.imp O (ck' call34 (UJ p.y (by assumption)) O (OkE.back (sl sr) (Ao (v:=(aG (BM (Jr p.x)++BM (Jr p.y)))) O (AY (zs:=Bf (⟨0,0⟩:Pt)) (vs:=BM (Jr p.x)++BM (Jr p.y)) (pv:=[(0,(aG (BM (Jr p.x)))),(1,(aG (BM (Jr p.y))))]) (places:=[(0,5),(5,5)]) zeroValue66 underlying66 (λw=>by simp [sizeOf64]) O (Ef (Jr p.x) (Jr p.y))) (OkE.imp O (BN O sizeOf66 O (OkE.back (sl sr) (OkE.nil (OkQ.subF (sL [2] O) (OkQ.then_ ?_)))))))))))
 exact AE.ret (AV O (BP (i:=0) (cs:=BM (Jr p.x)++BM (Jr p.y)) O O isAgg66 sizeOf66 O) (λw hw=>⟨rfl,hw.out⟩))
end
section
set_option maxRecDepth 100000
theorem ar:ElemT prog 29 70 3 24:=⟨underlying29,CR (by kernel_rfl)⟩
theorem dR:ElemT prog 27 66 10 112:=⟨underlying27,CR (by kernel_rfl)⟩
theorem KU (x0:Pt):Instr.fill (λi=>some (i*10,10)) ((Array.range (1*10)).map ((Value.agg (Bf (⟨0,0⟩:Pt)).toArray).cells[·%(Value.agg (Bf (⟨0,0⟩:Pt)).toArray).cells.size]!)) [(0,.agg (Bf x0).toArray)]=some (Bf x0).toArray:=by kernel_rfl
theorem KJ (x0:Tq3):Instr.fill (λi=>some (i*3,3)) ((Array.range (1*3)).map ((Value.agg (AZ ((0,0,0):Tq3)).toArray).cells[·%(Value.agg (AZ ((0,0,0):Tq3)).toArray).cells.size]!)) [(0,.agg (AZ x0).toArray)]=some (AZ x0).toArray:=by kernel_rfl
set_option maxHeartbeats 2000000 in
theorem SQ (m:MQ) (w:World) {S:Nat->Prop} (hm:Ro S w m):Calls prog 5 #[(aG (Df m))] w (Am (aj m) (λ_=>False) w):=by
 have hd:=m.hden
 have hdm:B7 m<256:=by unfold B7;omega
 have lm:=Dk (W:=w) hm
 refine An (args:=[(aG (Df m))]) (L:=[AK m.p (Cb m.cs)]) func5 O O (Ad O) (E3 hm BA) (AE.subF (sL [0] O) (q4 (Ca (cs:=Df m) O λb1=>al WF O λb2=>q3 (sL [1,2] O) (BF 1 JV O (AC.callR (S:=λ_=>False) (α:=Y2 m) (args:=[(aG (Df m))]) call13 (λw hw=>(KR m w (Br hw 2 O lm)).mono λe w1 h=>h.weak λb k=>k.elim) O O O λgf lgf=>al X1 O λb3=>BN O sizeOf48 O (q3 (sL [1,2,3] O) (al WF O λb4=>?_)))))))
 refine AC.nilRow 66 10 (AC.nilRow 70 3 (AC.nil (q2 (AJ (v:=(pP b1 7)) (AB O underlying26 O sizeOf5 O) O (BE 9 (vK .u8 m.den) Ti O (AJ (Bg (c:=((m.den%6:Nat):Int)) O O Z (F3 (a:=m.den) (b:=6))) O (AJ (AQ (c:=((B7 m:Nat):Int)) O O (R0 (a:=1) (b:=m.den%6) Z)) O (AJ (Ax (c:=((B7 m:Nat):Int)) O underlying5 underlying50 (CQ Z)) O (AI O (q6 (sL [1,2,3,4,5] O) (q4 ?_)))))))))))
 refine AI O (AC.nil (OkQ.then_ (AE.block ?_)))
 refine AE.lp4 (tg λ(i:Nat) (p1:Option Addr) (c1:Nat) (ps:List Pt)=>i<=gf.x.pl.length/\OwnOk p1 ps.length c1/\ps=Pd m (C5 m gf.x.pl) i) (tg λ(i:Nat) (p1:Option Addr) (c1:Nat) (ps:List Pt)=>[(2,(pP b2 0)),(3,(pP b3 0)),(4,(pP b4 0)),(5,(vK .u32 (B7 m))),(6,(vN i))]) (tg λ(i:Nat) (p1:Option Addr) (c1:Nat) (ps:List Pt)=>[rowW none 70 3 0 0 (rowsL AZ ([])),rowW p1 66 10 ps.length c1 (rowsL Bf ps),Af b4 31 ([(Value.slice p1 ps.length c1),(Value.slice none 0 0),(Value.slice none 0 0)]),Af b3 48 ([(Value.slice gf.x.a.p gf.x.pl.length gf.x.a.c),(Value.slice gf.x.b.p gf.x.ts.length gf.x.b.c),(Value.slice gf.x.c.p gf.x.ss.length gf.x.c.c)]),AK gf.x.a.p (rowsL CF (C5 m gf.x.pl)),AK gf.x.b.p (rowsL AZ gf.x.ts),AK gf.x.c.p (rowsL AZ gf.x.ss),LV gf,Af b2 31 ([(Value.slice none 0 0),(Value.slice none 0 0),(Value.slice none 0 0)]),Af b1 26 (Df m),AK m.p (Cb m.cs)]) (tg λ(i:Nat) (p1:Option Addr) (c1:Nat) (ps:List Pt)=>gf.x.pl.length-i) 0 none 0 ([]:List Pt) (⟨Nat.zero_le _,OwnOk.none,rfl⟩) (sF O) sr (λi p1 c1 ps hJ=>?_)
 obtain ⟨hi,h1,hps⟩:=hJ
 have hzl:(C5 m gf.x.pl).length=gf.x.pl.length:=by simp [C5]
 have hll:=gf.x.inv.pll
 have hcl:=Fh m
 have hpl:ps.length<=108:=by rw [hps,Js (by rw [hzl];omega)];omega
 refine AE.seq (q4 (AM O (AJ (v:=(pP b3 0)) (AB O underlying48 O sizeOf46 O) O (BE 3 (Value.slice gf.x.a.p gf.x.pl.length gf.x.a.c) NJ O (AJ (v:=(vN gf.x.pl.length)) (AF O underlying46) O (AJ (Ac (c:=(decide (i<gf.x.pl.length))) O O (CD (a:=i) (b:=gf.x.pl.length))) O (AC.nil (OkQ.subF (sL [2,3,4,5,6,20] O) (OkQ.then_ ?_)))))))))
 refine AE.cond O (λhc0=>?_) (λhc0=>?_)
 ·replace hc0:=of_decide_eq_true hc0
  refine AE.skip (q1 (AE.block (AE.seq (Ck [(0,true),(1,true),(2,true),(3,true),(4,true),(5,true),(6,true),(7,true),(8,true),(9,true),(10,true),(11,true),(12,true),(13,true),(14,true),(15,true),(16,true),(17,false),(18,false)] sr (Ao (v:=(pP b3 0)) O (AB O underlying48 O sizeOf46 O) (Bk 3 (Value.slice gf.x.a.p gf.x.pl.length gf.x.a.c) NJ O (BT O (Ao (v:=(pP (pB gf.x.a.p) (pO gf.x.a.p+i*2))) O (AG (j:=i) O O gf.x.a.ok underlying46 sizeOf51 O Z) (Ao (v:=(pP (pB gf.x.a.p) (pO gf.x.a.p+(i*2+0)))) O (AD (j:=0) O O underlying51 sizeOf2 O (by decide) (Nat.add_assoc _ _ _)) (Ao O (AL (v:=(vI (((C5 m gf.x.pl).getD i ((0,0):Int×Int)).1))) (i:=4) O O (Aw.ne gf.x.a.ok Z) LO (Az EP ((0,0):Int×Int) _ _ 0 Z (by decide) O)) (BT O ?_)))))))))))
  refine Ao (v:=(aG ([(vI (((C5 m gf.x.pl).getD i ((0,0):Int×Int)).1)),(vK .u32 (B7 m))]))) O (AY (zs:=[(vI 0),(Value.int .u32 (0:Int))]) (vs:=[(vI (((C5 m gf.x.pl).getD i ((0,0):Int×Int)).1)),(vK .u32 (B7 m))]) (pv:=[(0,(vI (((C5 m gf.x.pl).getD i ((0,0):Int×Int)).1))),(1,(vK .u32 (B7 m)))]) (places:=[(0,1),(1,1)]) zeroValue53 underlying53 (λw=>by simp [sizeOf2,sizeOf50]) O O) (Ao (v:=(pP b3 0)) O (AB O underlying48 O sizeOf46 O) (Bk 3 (Value.slice gf.x.a.p gf.x.pl.length gf.x.a.c) NJ O (BT O (Ao (v:=(pP (pB gf.x.a.p) (pO gf.x.a.p+i*2))) O (AG (j:=i) O O gf.x.a.ok underlying46 sizeOf51 O Z) (Ao (v:=(pP (pB gf.x.a.p) (pO gf.x.a.p+(i*2+1)))) O (AD (j:=1) O O underlying51 sizeOf2 O (by decide) (Nat.add_assoc _ _ _)) (Ao O (AL (v:=(vI (((C5 m gf.x.pl).getD i ((0,0):Int×Int)).2))) (i:=4) O O (Aw.ne gf.x.a.ok Z) LO (Az EP ((0,0):Int×Int) _ _ 1 Z (by decide) O)) (BT O (Ao (v:=(aG ([(vI (((C5 m gf.x.pl).getD i ((0,0):Int×Int)).2)),(vK .u32 (B7 m))]))) O (AY (zs:=[(vI 0),(Value.int .u32 (0:Int))]) (vs:=[(vI (((C5 m gf.x.pl).getD i ((0,0):Int×Int)).2)),(vK .u32 (B7 m))]) (pv:=[(0,(vI (((C5 m gf.x.pl).getD i ((0,0):Int×Int)).2))),(1,(vK .u32 (B7 m)))]) (places:=[(0,1),(1,1)]) zeroValue53 underlying53 (λw=>by simp [sizeOf2,sizeOf50]) O O) (Ao (v:=(aG ([(vI (((C5 m gf.x.pl).getD i ((0,0):Int×Int)).1)),(vK .u32 (B7 m)),(vI (((C5 m gf.x.pl).getD i ((0,0):Int×Int)).2)),(vK .u32 (B7 m))]))) O (AY (zs:=[(vI 0),(Value.int .u32 (0:Int)),(vI 0),(Value.int .u32 (0:Int))]) (vs:=[(vI (((C5 m gf.x.pl).getD i ((0,0):Int×Int)).1)),(vK .u32 (B7 m)),(vI (((C5 m gf.x.pl).getD i ((0,0):Int×Int)).2)),(vK .u32 (B7 m))]) (pv:=[(0,(aG ([(vI (((C5 m gf.x.pl).getD i ((0,0):Int×Int)).1)),(vK .u32 (B7 m))]))),(1,(aG ([(vI (((C5 m gf.x.pl).getD i ((0,0):Int×Int)).2)),(vK .u32 (B7 m))])))]) (places:=[(0,2),(2,2)]) zeroValue55 underlying55 (λw=>by simp [sizeOf53]) O O) (OkE.imp O (al bb O λb5=>?_)))))))))))
  refine OkE.back (sl sr) (OkE.imp O (BN O sizeOf55 O (OkE.back (sl sr) (OkE.nil (OkQ.subF (sL [2,3,4,5,6,7] O) (OkQ.then_ (rC [(0,true),(1,true),(2,true),(3,false),(4,false),(5,false),(6,true)] 7 [] (sk (sk (sl sr))) (sk (sk (sl sr))) (by kernel_rfl) (λ_ _ d _ _ h=>by cases d<;>exact h) (vE (v:=(pP b4 0)) O (AB O underlying31 O sizeOf27 O) O (vE O (AS (i:=2) (v:=(Value.slice p1 ps.length c1)) O O Zj.a O) O (vE (v:=(aG ([(vI (((C5 m gf.x.pl).getD i ((0,0):Int×Int)).1)),(vK .u32 (B7 m)),(vI (((C5 m gf.x.pl).getD i ((0,0):Int×Int)).2)),(vK .u32 (B7 m))]))) O (BB (i:=0) (vs:=[(vI (((C5 m gf.x.pl).getD i ((0,0):Int×Int)).1)),(vK .u32 (B7 m)),(vI (((C5 m gf.x.pl).getD i ((0,0):Int×Int)).2)),(vK .u32 (B7 m))]) O O W5.a W5.s O O) O (Cj.imp O ?_)))))))))))
  refine ck' call14 (Z8 (RU m ((C5 m gf.x.pl).getD i (0,0))) (Wj gf.x.inv.small Z)) O (Cj.back (sk (sk (sl sr))) (Cj.imp O (AC.openV (V:=λb6=>(Value.slice (some ⟨b6,0,none⟩) 1 1)) (T:=66) (cs:=Bf (EQ (RU m ((C5 m gf.x.pl).getD i (0,0))))) (AP O) (Ai (z:=.agg (Bf (⟨0,0⟩:Pt)).toArray) (cs:=Bf (EQ (RU m ((C5 m gf.x.pl).getD i (0,0))))) (pv:=[(0,(aG (Bf (EQ (RU m ((C5 m gf.x.pl).getD i (0,0)))))))]) underlying27 sizeOf66 zeroValue66 (by decide) (by decide) O (KU (EQ (RU m ((C5 m gf.x.pl).getD i (0,0)))))) O (Ad O) λb6=>Cj.back (sl (sk (sk (sl sr)))) (Cj.imp O (AC.appendAt 3 (j:=0) (cs2:=rowsL Bf (ps++[EQ (RU m ((C5 m gf.x.pl).getD i (0,0)))])) dR O h1 (Al Qt _) O O O O O (by decide) (FE Z) Z (by rw [BJ];rfl) O λp_1 c_1 ho_1 hne_1=>Cj.back (sl (sk (sk (sl sr)))) (vE (v:=(pP b4 0)) O (AB O underlying31 O sizeOf27 O) O (Cj.cut O (F2 4 (off:=0) (vs:=[(Value.slice p_1 (ps.length+1) c_1)]) (cs':=[(Value.slice p_1 (ps.length+1) c_1),(Value.slice none 0 0),(Value.slice none 0 0)]) (AP O) O sizeOf27 O (OkE.back (sl (sk (sk (sl (sl sr))))) ?_)))))))))
  refine OkE.nil (OkQ.subF (sL [2,3,4,5,6,7] O) (OkQ.in_normal (OkQ.then_ (AE.region (AM O (AJ (AQ (c:=((i+1:Nat):Int)) O O (AN (a:=i) (b:=1) Z)) O (AI O (AC.nil (OkQ.subF (sL [2,3,4,5,6,7] O) ?_)))))))))
  rw [show ps.length+1=(ps++[EQ (RU m ((C5 m gf.x.pl).getD i (0,0)))]).length by simp]
  exact OkQ.round4 (i+1) p_1 c_1 (ps++[EQ (RU m ((C5 m gf.x.pl).getD i (0,0)))]) (⟨Z,(by simpa using ho_1),by rw [hps,N7 (by rw [hzl];omega)]⟩) Z (sF O) (sl (sl sr))
 ·replace hc0:=of_decide_eq_false hc0
  have hps9:ps.length=gf.x.pl.length:=by rw [hps,show i=gf.x.pl.length by omega,Js (by rw [hzl];omega)]
  have hfin:ps=Pd m (C5 m gf.x.pl) gf.x.pl.length:=by rw [hps,show i=gf.x.pl.length by omega]
  refine AE.exit (OkQ.then_exit (OkQ.round4_exit (OkQ.in_exit (q2 (AJ (v:=(pP b3 1)) (AB O underlying48 O sizeOf28 O) O (BE 3 (Value.slice gf.x.b.p gf.x.ts.length gf.x.b.c) Bl O (AJ (v:=(pP b4 1)) (AB O underlying31 O sizeOf28 O) O (F2 2 (off:=1) (vs:=[(Value.slice gf.x.b.p gf.x.ts.length gf.x.b.c)]) (cs':=[(Value.slice p1 ps.length c1),(Value.slice gf.x.b.p gf.x.ts.length gf.x.b.c),(Value.slice none 0 0)]) (AP O) O sizeOf28 O (q6 (sL [2,3,4,5,6] O) (q4 (AI O ?_)))))))))))
  refine AC.nil (OkQ.then_ (AE.block ?_))
  refine AE.lp4 (tg λ(j:Nat) (p2:Option Addr) (c2:Nat) (ss:List (Tq3))=>j<=gf.x.ss.length/\OwnOk p2 ss.length c2/\ss.length=j/\ss=gf.x.ss.take j) (tg λ(j:Nat) (p2:Option Addr) (c2:Nat) (ss:List (Tq3))=>[(2,(pP b2 0)),(3,(pP b3 0)),(4,(pP b4 0)),(8,(vN j))]) (tg λ(j:Nat) (p2:Option Addr) (c2:Nat) (ss:List (Tq3))=>[rowW p2 70 3 ss.length c2 (rowsL AZ ss),rowW p1 66 10 ps.length c1 (rowsL Bf ps),Af b4 31 ([(Value.slice p1 ps.length c1),(Value.slice gf.x.b.p gf.x.ts.length gf.x.b.c),(Value.slice p2 ss.length c2)]),Af b3 48 ([(Value.slice gf.x.a.p gf.x.pl.length gf.x.a.c),(Value.slice gf.x.b.p gf.x.ts.length gf.x.b.c),(Value.slice gf.x.c.p gf.x.ss.length gf.x.c.c)]),AK gf.x.a.p (rowsL CF (C5 m gf.x.pl)),AK gf.x.b.p (rowsL AZ gf.x.ts),AK gf.x.c.p (rowsL AZ gf.x.ss),LV gf,Af b2 31 ([(Value.slice none 0 0),(Value.slice none 0 0),(Value.slice none 0 0)]),Af b1 26 (Df m),AK m.p (Cb m.cs)]) (tg λ(j:Nat) (p2:Option Addr) (c2:Nat) (ss:List (Tq3))=>gf.x.ss.length-j) 0 none 0 ([]:List (Tq3)) (⟨Nat.zero_le _,OwnOk.none,rfl,rfl⟩) (sF O) sr (λj p2 c2 ss hJ=>?_)
  obtain ⟨hj,h2,hsl,hsd⟩:=hJ
  have hgs:=gf.x.sl
  refine AE.seq (q4 (AM O (AJ (v:=(pP b3 2)) (AB O underlying48 O sizeOf28 O) O (BE 3 (Value.slice gf.x.c.p gf.x.ss.length gf.x.c.c) Bl O (AJ (v:=(vN gf.x.ss.length)) (AF O underlying28) O (AJ (Ac (c:=(decide (j<gf.x.ss.length))) O O (CD (a:=j) (b:=gf.x.ss.length))) O (AC.nil (OkQ.subF (sL [2,3,4,8,54] O) (OkQ.then_ ?_)))))))))
  refine AE.cond O (λhc1=>?_) (λhc1=>?_)
  ·replace hc1:=of_decide_eq_true hc1
   refine AE.skip (q1 (AE.block (rC [(0,true),(1,true),(2,true),(3,true),(4,true),(5,true),(6,true),(7,true),(8,true),(9,true),(10,true),(11,true),(12,true),(13,true),(14,true),(15,true),(16,true),(17,true),(18,true),(19,true),(20,true),(21,false),(22,false),(23,true)] 24 [] (sl sr) (sk (sl sr)) (by kernel_rfl) (λ_ _ d _ _ h=>by cases d<;>exact h) (vE (v:=(pP b4 2)) O (AB O underlying31 O sizeOf29 O) O (vE O (AS (i:=1) (v:=(Value.slice p2 ss.length c2)) O O dD.a O) O (vE (v:=(pP b3 2)) O (AB O underlying48 O sizeOf28 O) O (vE O (AS (i:=2) (v:=(Value.slice gf.x.c.p gf.x.ss.length gf.x.c.c)) O O Bl.a O) O (vM O O O (vE (v:=(pP (pB gf.x.c.p) (pO gf.x.c.p+j*3))) O (AG (j:=j) O O gf.x.c.ok underlying28 sizeOf68 O Z) O (vE (v:=(pP (pB gf.x.c.p) (pO gf.x.c.p+(j*3+0)))) O (AD (j:=0) O O underlying68 sizeOf3 O (by decide) (Nat.add_assoc _ _ _)) O (vE O (AL (v:=(vN ((gf.x.ss.getD j ((0,0,0):Tq3)).1))) (i:=5) O O (Aw.ne gf.x.c.ok Z) BY (Az Aa ((0,0,0):Tq3) _ _ 0 Z (by decide) O)) O ?_)))))))))))
   refine vE (v:=(pP b3 2)) O (AB O underlying48 O sizeOf28 O) O (vE O (AS (i:=2) (v:=(Value.slice gf.x.c.p gf.x.ss.length gf.x.c.c)) O O Bl.a O) O (vM O O O (vE (v:=(pP (pB gf.x.c.p) (pO gf.x.c.p+j*3))) O (AG (j:=j) O O gf.x.c.ok underlying28 sizeOf68 O Z) O (vE (v:=(pP (pB gf.x.c.p) (pO gf.x.c.p+(j*3+1)))) O (AD (j:=1) O O underlying68 sizeOf3 O (by decide) (Nat.add_assoc _ _ _)) O (vE O (AL (v:=(vN ((gf.x.ss.getD j ((0,0,0):Tq3)).2.1))) (i:=5) O O (Aw.ne gf.x.c.ok Z) BY (Az Aa ((0,0,0):Tq3) _ _ 1 Z (by decide) O)) O (vE (v:=(pP b3 2)) O (AB O underlying48 O sizeOf28 O) O (vE O (AS (i:=2) (v:=(Value.slice gf.x.c.p gf.x.ss.length gf.x.c.c)) O O Bl.a O) O (vM O O O (vE (v:=(pP (pB gf.x.c.p) (pO gf.x.c.p+j*3))) O (AG (j:=j) O O gf.x.c.ok underlying28 sizeOf68 O Z) O (vE (v:=(pP (pB gf.x.c.p) (pO gf.x.c.p+(j*3+2)))) O (AD (j:=2) O O underlying68 sizeOf3 O (by decide) (Nat.add_assoc _ _ _)) O (vE O (AL (v:=(vN ((gf.x.ss.getD j ((0,0,0):Tq3)).2.2))) (i:=5) O O (Aw.ne gf.x.c.ok Z) BY (Az Aa ((0,0,0):Tq3) _ _ 2 Z (by decide) O)) O ?_)))))))))))
   refine vE (v:=(aG ([(vN ((gf.x.ss.getD j ((0,0,0):Tq3)).1)),(vN ((gf.x.ss.getD j ((0,0,0):Tq3)).2.1)),(vN ((gf.x.ss.getD j ((0,0,0):Tq3)).2.2))]))) O (AY (zs:=AZ ((0,0,0):Tq3)) (vs:=[(vN ((gf.x.ss.getD j ((0,0,0):Tq3)).1)),(vN ((gf.x.ss.getD j ((0,0,0):Tq3)).2.1)),(vN ((gf.x.ss.getD j ((0,0,0):Tq3)).2.2))]) (pv:=[(0,(vN ((gf.x.ss.getD j ((0,0,0):Tq3)).1))),(1,(vN ((gf.x.ss.getD j ((0,0,0):Tq3)).2.1))),(2,(vN ((gf.x.ss.getD j ((0,0,0):Tq3)).2.2)))]) (places:=[(0,1),(1,1),(2,1)]) zeroValue70 underlying70 (λw=>by simp [sizeOf3]) O O) O (Cj.imp O (AC.openV (V:=λb5=>(Value.slice (some ⟨b5,0,none⟩) 1 1)) (T:=70) (cs:=AZ ((gf.x.ss.getD j ((0,0,0):Tq3)).1,(gf.x.ss.getD j ((0,0,0):Tq3)).2.1,(gf.x.ss.getD j ((0,0,0):Tq3)).2.2)) (AP O) (Ai (z:=.agg (AZ ((0,0,0):Tq3)).toArray) (cs:=AZ ((gf.x.ss.getD j ((0,0,0):Tq3)).1,(gf.x.ss.getD j ((0,0,0):Tq3)).2.1,(gf.x.ss.getD j ((0,0,0):Tq3)).2.2)) (pv:=[(0,(aG ([(vN ((gf.x.ss.getD j ((0,0,0):Tq3)).1)),(vN ((gf.x.ss.getD j ((0,0,0):Tq3)).2.1)),(vN ((gf.x.ss.getD j ((0,0,0):Tq3)).2.2))])))]) underlying29 sizeOf70 zeroValue70 (by decide) (by decide) O (KJ ((gf.x.ss.getD j ((0,0,0):Tq3)).1,(gf.x.ss.getD j ((0,0,0):Tq3)).2.1,(gf.x.ss.getD j ((0,0,0):Tq3)).2.2))) O (Ad O) λb5=>Cj.back (sl (sl sr)) (Cj.imp O (AC.append1 (j:=0) (cs2:=rowsL AZ (ss++[((gf.x.ss.getD j ((0,0,0):Tq3)).1,(gf.x.ss.getD j ((0,0,0):Tq3)).2.1,(gf.x.ss.getD j ((0,0,0):Tq3)).2.2)])) ar O h2 (Al Aa _) O O O O (by decide) (FE Z) Z (by rw [BJ];rfl) O λp_2 c_2 ho_2 hne_2=>Cj.back (sl (sl sr)) (vE (v:=(pP b4 2)) O (AB O underlying31 O sizeOf29 O) O (Cj.cut O (F2 3 (off:=2) (vs:=[(Value.slice p_2 (ss.length+1) c_2)]) (cs':=[(Value.slice p1 ps.length c1),(Value.slice gf.x.b.p gf.x.ts.length gf.x.b.c),(Value.slice p_2 (ss.length+1) c_2)]) (AP O) O sizeOf29 O (OkE.back (sl (sl (sk (sl sr)))) (OkE.nil ?_)))))))))
   refine OkQ.subF (sL [2,3,4,8] O) (OkQ.in_normal (OkQ.then_ (AE.region (AM O (AJ (AQ (c:=((j+1:Nat):Int)) O O (AN (a:=j) (b:=1) Z)) O (AI O (AC.nil (OkQ.subF (sL [2,3,4,8] O) ?_))))))))
   rw [show ss.length+1=(ss++[((gf.x.ss.getD j ((0,0,0):Tq3)).1,(gf.x.ss.getD j ((0,0,0):Tq3)).2.1,(gf.x.ss.getD j ((0,0,0):Tq3)).2.2)]).length by simp]
   exact OkQ.round4 (j+1) p_2 c_2 (ss++[((gf.x.ss.getD j ((0,0,0):Tq3)).1,(gf.x.ss.getD j ((0,0,0):Tq3)).2.1,(gf.x.ss.getD j ((0,0,0):Tq3)).2.2)]) (⟨Z,(by simpa using ho_2),by simp [hsl],by rw [hsd];exact (Ly Z).symm⟩) Z (sF O) (sl sr)
  ·replace hc1:=of_decide_eq_false hc1
   exact AE.exit (OkQ.then_exit (OkQ.round4_exit (OkQ.in_exit (q2 (BF 2 DA O (F2 8 (off:=0) (vs:=[(Value.slice p1 ps.length c1),(Value.slice gf.x.b.p gf.x.ts.length gf.x.b.c),(Value.slice p2 ss.length c2)]) (cs':=[(Value.slice p1 ps.length c1),(Value.slice gf.x.b.p gf.x.ts.length gf.x.b.c),(Value.slice p2 ss.length c2)]) (AP O) O sizeOf31 O (AC.nil (OkQ.subF (sL [2,3,4,8] O) (OkQ.then_ (AE.ret (AV O (BP (i:=8) (cs:=[(Value.slice p1 ps.length c1),(Value.slice gf.x.b.p gf.x.ts.length gf.x.b.c),(Value.slice p2 ss.length c2)]) O O isAgg31 sizeOf31 O) (λw hw=>(Z0 hw ⟨⟨MG.mk ps gf.x.ts ss (Xb gf.x hfin) (by have h9:=gf.x.sl;omega) ⟨m,by rw [hps9,hsd,show j=gf.x.ss.length by omega,List.take_length];exact gf.x.sd⟩ ⟨p1,c1,h1.row⟩ gf.x.b ⟨p2,c2,h2.row⟩,YS gf.x hfin⟩,gf.ob,hw.asunder (i:=1) (j:=5) O O (by decide) O,hw.asunder (i:=0) (j:=5) O O (by decide) O⟩ (Db (S:=λ_=>False) hw 1 O h1 (Al Qt _)) (dN (Br hw 4 O (At.wm lgf))) (Db (S:=λ_=>False) hw 0 O h2 (Al Aa _)) (W8 hw 7 O (At.wmf lgf)) O)))))))))))))
theorem S7 (m:MQ) (w:World) {S:Nat->Prop} (hm:Ro S w m):Calls prog 5 #[(aG (Df m))] w (Am (MF m) S w):=(SQ m w hm).mono λe w1 h=>h.ofMGF
end
end Go.Proofs.YtpgncndhhhllfaaGreat
