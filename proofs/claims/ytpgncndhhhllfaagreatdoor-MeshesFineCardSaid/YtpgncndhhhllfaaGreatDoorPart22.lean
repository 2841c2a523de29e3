import Derived.Test.YtpgncndhhhllfaaGreatDoorPart03
import Derived.Test.YtpgncndhhhllfaaGreatDoorPart04
import Derived.Test.YtpgncndhhhllfaaGreatDoorPart06
import Derived.Test.YtpgncndhhhllfaaGreatDoorPart17
import Derived.Test.YtpgncndhhhllfaaGreatDoorPart18
import Derived.Test.YtpgncndhhhllfaaGreatDoorPart20
namespace Go.Proofs.YtpgncndhhhllfaaGreatDoor
open Go Go.RowKit Go.Proofs.Tryz
set_option linter.unusedVariables false
set_option linter.unusedSimpArgs false
section
def EG (a b:Nat):Int:=if a<b then -1 else if b<a then 1 else 0
theorem Q5 {a b:Nat} (h:a<b):EG a b = -1:=if_pos h
theorem RJ {a b:Nat} (h:¬a<b) (h2:b<a):EG a b=1:=by rw [EG,if_neg h,if_pos h2]
theorem RH {a b:Nat} (h:¬a<b) (h2:¬b<a):EG a b=0:=by rw [EG,if_neg h,if_neg h2]
def UZ (a b:Int):Int:=if a≠0 then a else if b≠0 then b else 0
section
variable {P:Program} {n:Nat} {F:List (Nat×Value)} {w0:BJ} {L:List As} {d:Option Tmp} {x:Operand} {t:TypeId} {p:String} {af:Array Edge} {g:Option (Nat×Bool)}
theorem Fb {tx e:TypeId} {a:Option Addr} {len cap k:Nat} {hi mx:Operand} {ki kj:IntKind} {m:Nat} (hx:evF F x=some (.slice a len cap)) (hh:evF F hi=some (.int ki (m:Nat))) (hj:evF F mx=some (.int kj (m:Nat))) (hu:P.underlying tx=some (.slice e)) (hs:∀w,(sizeOf e).run P w=.ok k w) (hm:m<=cap) :
    Ex P n F w0 L ⟨d,.slice tx x none (some hi) (some mx),t,p,af,g⟩ (.slice a m m):=λA w ha _=>by
  simp only [execOp,ha.ev hx,Instr.sliceAt,run_underlying hu,Instr.slice,Option.map_some,Option.map_none,ha.ev hh,ha.ev hj,Instr.sliceBounds,Instr.sliceBound,asIntOf,Sem.run_bind,Result.andThen_ok,Sem.run_pure]
  have h1:(0:Int)<=(m:Int)/\(m:Int)<=(cap:Int):=⟨Z,Z⟩
  simp [h1.2,hs]
  cases a<;>simp [Addr.add]
end
section
variable {P:Program} {ops:Array Oper} {rest:List Oper} {Q:Exit->Act->World->Prop} {n:Nat} {F:List (Nat×Value)} {w0:BJ} {L L':List As}
theorem AE.subL (hs:L'.Sublist L) (h:AE P ops rest Q n F w0 L'):AE P ops rest Q n F w0 L:=λa w ha hw=>h a w ha (hw.weak hs)
end
end
theorem HT (a b:Rat):a<b\/b<=a:=by grind
def J_ (A B:P2) (x y:Rat):Rat:=((B.1:Rat)-(A.1:Rat))*(y-(A.2:Rat))-((B.2:Rat)-(A.2:Rat))*(x-(A.1:Rat))
def Wq (t:P2×P2×P2) (x y:Rat):Prop:=0<J_ t.2.1 t.2.2 x y/\0<J_ t.2.2 t.1 x y/\0<J_ t.1 t.2.1 x y
def inC (t:P2×P2×P2) (x y:Rat):Prop:=0<=J_ t.2.1 t.2.2 x y/\0<=J_ t.2.2 t.1 x y/\0<=J_ t.1 t.2.1 x y
def cb (s t:P2×P2×P2):Prop:=∀x y,(Wq s x y->¬inC t x y)/\(Wq t x y->¬inC s x y)
theorem Gt (u:Nat):((2*u:Nat):Rat)=2*(u:Rat):=by rw [Rat.natCast_mul];rfl
theorem J3 (u:Nat):((2*u+2:Nat):Rat)=2*(u:Rat)+2:=by rw [Rat.natCast_add,Gt];rfl
theorem Qz (u:Nat):((2*u+1:Nat):Rat)=2*(u:Rat)+1:=by rw [Rat.natCast_add,Gt];rfl
theorem Q2 {t:P2×P2×P2} {nx way i u v:Nat} (hu:u=i%nx) (hv:v=i/nx) (ht:t∈Cu nx way i) (x y:Rat) :
    (Wq t x y->(2*(u:Rat)<x/\x<2*(u:Rat)+2)/\2*(v:Rat)<y/\y<2*(v:Rat)+2)/\(inC t x y->(2*(u:Rat)<=x/\x<=2*(u:Rat)+2)/\2*(v:Rat)<=y/\y<=2*(v:Rat)+2):=by
  have key:t∈[((2*u,2*v),(2*u+2,2*v),(2*u+2,2*v+2)),((2*u,2*v),(2*u+2,2*v+2),(2*u,2*v+2)),((2*u,2*v),(2*u+2,2*v),(2*u,2*v+2)),((2*u+2,2*v),(2*u+2,2*v+2),(2*u,2*v+2)),
      ((2*u,2*v),(2*u+2,2*v),(2*u+1,2*v+1)),((2*u+2,2*v),(2*u+2,2*v+2),(2*u+1,2*v+1)),((2*u+2,2*v+2),(2*u,2*v+2),(2*u+1,2*v+1)),((2*u,2*v+2),(2*u,2*v),(2*u+1,2*v+1))]:=by
    subst hu;subst hv
    unfold Cu at ht
    simp only at ht
    split at ht
    · simp only [List.mem_cons,List.not_mem_nil,or_false] at ht ⊢;rcases ht with h|h<;>simp [h]
    · split at ht
      · simp only [List.mem_cons,List.not_mem_nil,or_false] at ht ⊢;rcases ht with h|h<;>simp [h]
      · split at ht
        · simp only [List.mem_cons,List.not_mem_nil,or_false] at ht ⊢;rcases ht with h|h|h|h<;>simp [h]
        · cases ht
  clear hu hv ht
  simp only [List.mem_cons,List.not_mem_nil,or_false] at key
  rcases key with rfl|rfl|rfl|rfl|rfl|rfl|rfl|rfl<;>(simp only [Wq,inC,J_,Gt,J3,Qz];generalize (u:Rat)=U;generalize (v:Rat)=V;refine ⟨λh=>?_,λh=>?_⟩<;>obtain ⟨h1,h2,h3⟩:=h<;>refine ⟨⟨?_,?_⟩,?_,?_⟩<;>grind)
theorem TW {s t:P2×P2×P2} {nx way way' i j:Nat} (hij:i≠j) (hs:s∈Cu nx way i) (ht:t∈Cu nx way' j):cb s t:=λx y=>by
  have a:=Q2 rfl rfl hs x y
  have b:=Q2 rfl rfl ht x y
  have hne:i%nx≠j%nx\/i/nx≠j/nx:=by
    rcases Decidable.em (i%nx=j%nx) with e|e
    · rcases Decidable.em (i/nx=j/nx) with e2|e2
      · exact absurd (by rw [<-Nat.div_add_mod i nx,<-Nat.div_add_mod j nx,e,e2]) hij
      · exact .inr e2
    · exact .inl e
  have lt:∀{p q:Nat},p<q->(p:Rat)+1<=(q:Rat):=λ{p q} h=>by
    have h1:((p+1:Nat):Rat)<=(q:Rat):=by exact_mod_cast h
    rw [Rat.natCast_add] at h1
    exact h1
  have four:(i%nx:Nat)+1<=j%nx\/(j%nx:Nat)+1<=i%nx\/(i/nx:Nat)+1<=j/nx\/(j/nx:Nat)+1<=i/nx:=by omega
  revert a b
  rcases four with h|h|h|h<;>have h:=lt h<;>generalize ((i%nx:Nat):Rat)=A at*<;> generalize ((j%nx:Nat):Rat)=B at*<;> generalize ((i/nx:Nat):Rat)=C at*<;> generalize ((j/nx:Nat):Rat)=D at*<;> intro a b<;>refine ⟨λh1 h2=>?_,λh1 h2=>?_⟩ <;>
    first
      | (have a1:=a.1 h1;have b1:=b.2 h2;obtain ⟨⟨_,_⟩,_,_⟩:=a1;obtain ⟨⟨_,_⟩,_,_⟩:=b1;grind)
      | (have a1:=a.2 h2;have b1:=b.1 h1;obtain ⟨⟨_,_⟩,_,_⟩:=a1;obtain ⟨⟨_,_⟩,_,_⟩:=b1;grind)
theorem Ur (nx way i:Nat):(Cu nx way i).Pairwise cb:=by
  unfold Cu
  simp only
  generalize i%nx=u
  generalize i/nx=v
  split
  · refine List.pairwise_pair.2 λx y=>?_
    simp only [Wq,inC,J_,Gt,J3];generalize (u:Rat)=U;generalize (v:Rat)=V
    refine ⟨λh k=>?_,λh k=>?_⟩<;>obtain ⟨h1,h2,h3⟩:=h<;>obtain ⟨k1,k2,k3⟩:=k<;>grind
  · split
    · refine List.pairwise_pair.2 λx y=>?_
      simp only [Wq,inC,J_,Gt,J3];generalize (u:Rat)=U;generalize (v:Rat)=V
      refine ⟨λh k=>?_,λh k=>?_⟩<;>obtain ⟨h1,h2,h3⟩:=h<;>obtain ⟨k1,k2,k3⟩:=k<;>grind
    · split
      · simp only [List.pairwise_cons,List.mem_cons,List.not_mem_nil,or_false,forall_eq_or_imp,forall_eq,List.Pairwise.nil,and_true,false_implies,implies_true]
        refine ⟨⟨?_,?_,?_⟩,⟨?_,?_⟩,?_⟩<;>intro x y<;>simp only [Wq,inC,J_,Gt,J3,Qz]<;>generalize (u:Rat)=U<;>generalize (v:Rat)=V<;>refine ⟨λh k=>?_,λh k=>?_⟩<;>obtain ⟨h1,h2,h3⟩:=h<;>obtain ⟨k1,k2,k3⟩:=k<;>grind
      · exact List.Pairwise.nil
theorem EJ (m:MQ):∀i t,t∈EP m i->∃j,j<i/\t∈Cu (F0 m) (Gg m j) j
  | 0,t,h=>by cases h
  | i+1,t,h=>by
    rcases List.mem_append.1 h with h|h
    · obtain ⟨j,hj,h⟩:=EJ m i t h;exact ⟨j,Z,h⟩
    · exact ⟨i,Z,h⟩
theorem KX (m:MQ):∀i,(EP m i).Pairwise cb
  | 0=>List.Pairwise.nil
  | i+1=>List.pairwise_append.2 ⟨KX m i,Ur _ _ _,λs hs t ht=>by
      obtain ⟨j,hj,h⟩:=EJ m i s hs
      exact TW Z h ht⟩
theorem L_ (m:MQ) {i j:Nat} (hi:i<(BE m).length) (hj:j<(BE m).length) (hne:i≠j) (d:P2×P2×P2):∀x y,Wq ((BE m).getD i d) x y->¬inC ((BE m).getD j d) x y:=λx y h=>by
  have hp:=List.pairwise_iff_getElem.1 (KX m (F0 m*SP m))
  rw [List.getD,List.getElem?_eq_getElem hi] at h
  rw [List.getD,List.getElem?_eq_getElem hj]
  rcases Nat.lt_or_gt_of_ne hne with hlt|hgt
  · exact (hp i j hi hj hlt x y).1 h
  · exact (hp j i hj hi hgt x y).2 h
theorem lattice {k:DH} (h:k.Ok) (den:Nat) (q:Pt):∃x y c:Rat,0<c/\∀A B:P2,AX (CC (Ge k den A)) (CC (Ge k den B)) q=c*J_ A B x y:=by
  have hD:0<(((max den 1:Nat):Int):Rat):=by exact_mod_cast (show (0:Int)<((max den 1:Nat):Int) by omega)
  have hd:(0:Rat)<(k.det:Rat):=by exact_mod_cast h.pos
  have ed:(k.det:Rat)=(k.a:Rat)*(k.d:Rat)-(k.b:Rat)*(k.c:Rat):=by simp only [DH.det,Rat.intCast_sub,Rat.intCast_mul]
  have hi:=Rat.inv_pos.2 hD
  have he:((((max den 1:Nat):Int):Rat)⁻¹)*(((max den 1:Nat):Int):Rat)=1:=Rat.inv_mul_cancel _ (by grind)
  have hdi:((k.det:Rat)⁻¹)*(k.det:Rat)=1:=Rat.inv_mul_cancel _ (by grind)
  obtain ⟨qx,qy⟩:=q
  refine ⟨((k.d:Rat)*qx-(k.b:Rat)*qy)*(((max den 1:Nat):Int):Rat)*(k.det:Rat)⁻¹,((k.a:Rat)*qy-(k.c:Rat)*qx)*(((max den 1:Nat):Int):Rat)*(k.det:Rat)⁻¹,(k.det:Rat)*((((max den 1:Nat):Int):Rat)⁻¹*(((max den 1:Nat):Int):Rat)⁻¹),Rat.mul_pos hd (Rat.mul_pos hi hi),λA B=>?_⟩
  simp only [Ca,CC,Ge,Iy,DH.at_,J_,Rat.div_def,Rat.intCast_add,Rat.intCast_mul]
  rw [ed] at hdi ⊢
  clear hD hd hi ed
  generalize (((max den 1:Nat):Int):Rat)⁻¹=e at *
  generalize (((max den 1:Nat):Int):Rat)=D at *
  simp only [Rat.intCast_natCast]
  generalize ((k.a:Rat)*(k.d:Rat)-(k.b:Rat)*(k.c:Rat))⁻¹=f at *
  generalize (k.a:Rat)=a at *
  generalize (k.b:Rat)=b at *
  generalize (k.c:Rat)=c at *
  generalize (k.d:Rat)=d at *
  generalize (A.1:Rat)=A1
  generalize (A.2:Rat)=A2
  generalize (B.1:Rat)=B1
  generalize (B.2:Rat)=B2
  clear h
  have hx:qx=(a*((d*qx-b*qy)*D*f)+b*((a*qy-c*qx)*D*f))*e:=by grind
  have hy:qy=(c*((d*qx-b*qy)*D*f)+d*((a*qy-c*qx)*D*f))*e:=by grind
  generalize (d*qx-b*qy)*D*f=X at *
  generalize (a*qy-c*qx)*D*f=Y at *
  subst hx
  subst hy
  grind
theorem Bc {α:Type} {enc:α->List Value} {z:Nat} (h:∀x,(enc x).length=z) (d:α) (xs:List α) (j r:Nat) (hj:j<xs.length) (hr:r<z) {v:Value} (hv:(enc (xs.getD j d))[r]?=some v):(rowsL enc xs)[j*z+r]?=some v:=by
  have h1:=A7 h d xs j hj
  rw [<-h1,List.getElem?_take_of_lt hr,List.getElem?_drop] at hv
  exact hv
theorem BM (p:Pt):(Am p).length=10:=rfl
structure an (ps:List Pt) (t:Nat×Nat×Nat):Prop where
  a:t.1<ps.length
  b:t.2.1<ps.length
  c:t.2.2<ps.length
  ab:t.1≠t.2.1
  bc:t.2.1≠t.2.2
  ca:t.2.2≠t.1
  pos:0<AX (ps.getD t.1 ⟨0,0⟩) (ps.getD t.2.1 ⟨0,0⟩) (ps.getD t.2.2 ⟨0,0⟩)
def ci (ps:List Pt) (t:Nat×Nat×Nat) (q:Pt):Prop:=0<AX q (ps.getD t.2.1 ⟨0,0⟩) (ps.getD t.2.2 ⟨0,0⟩)/\0<AX (ps.getD t.1 ⟨0,0⟩) q (ps.getD t.2.2 ⟨0,0⟩)/\0<AX (ps.getD t.1 ⟨0,0⟩) (ps.getD t.2.1 ⟨0,0⟩) q
def Lf (ps:List Pt) (t:Nat×Nat×Nat) (q:Pt):Prop:=0<=AX q (ps.getD t.2.1 ⟨0,0⟩) (ps.getD t.2.2 ⟨0,0⟩)/\0<=AX (ps.getD t.1 ⟨0,0⟩) q (ps.getD t.2.2 ⟨0,0⟩)/\0<=AX (ps.getD t.1 ⟨0,0⟩) (ps.getD t.2.1 ⟨0,0⟩) q
def BT (m:MQ):Nat:=1+m.den%6
def QA (m:MQ) (z:Int×Int):PD:=⟨⟨z.1,BT m⟩,⟨z.2,BT m⟩⟩
def PU (m:MQ) (zs:List (Int×Int)) (i:Nat):List Pt:=(zs.take i).map λz=>CC (QA m z)
theorem F_ {m:MQ} {zs:List (Int×Int)} {i:Nat} (h:i<=zs.length):(PU m zs i).length=i:=by simp [PU];omega
theorem Ox {m:MQ} {zs:List (Int×Int)} {i:Nat} (h:i<zs.length):PU m zs (i+1)=PU m zs i++[CC (QA m (zs.getD i (0,0)))]:=by
  unfold PU
  rw [List.take_add_one,List.getElem?_eq_getElem h,List.map_append,List.getD,List.getElem?_eq_getElem h]
  rfl
theorem Jn {m:MQ} {zs:List (Int×Int)} {i:Nat} (h:i<zs.length):(PU m zs zs.length).getD i ⟨0,0⟩=CC (QA m (zs.getD i (0,0))):=by
  unfold PU
  rw [List.take_length,List.getD,List.getElem?_map,List.getElem?_eq_getElem h,List.getD,List.getElem?_eq_getElem h]
  rfl
def Ch (m:MQ) (pl:List P2):List (Int×Int):=pl.map λp=>(mapM m).at_ p
structure FJ (ps:List Pt) (ts:List (Nat×Nat×Nat)):Prop where
  ne:ts≠[]
  tl:ts.length<=36
  pl:ps.length<=108
  sz:∀i,B_ (ps.getD i ⟨0,0⟩)<=4
  tri:∀j,j<ts.length->an ps (ts.getD j (0,0,0))
  apart:∀i j,i<ts.length->j<ts.length->i≠j->∀q,ci ps (ts.getD i (0,0,0)) q->¬Lf ps (ts.getD j (0,0,0)) q
  lat:∃(m:MQ) (pl:List P2),Nb m (BE m).length pl ts/\Yv pl/\ps=PU m (Ch m pl) pl.length
structure MG where
  ps:List Pt
  ts:List (Nat×Nat×Nat)
  ss:List (Nat×Nat×Nat)
  good:FJ ps ts
  sl:ss.length<=108*108
  sd:∃m:MQ,ss=E3 m ts ps.length ps.length
  a:RX (rowsL Am ps) ps.length
  b:RX (rowsL Ai ts) ts.length
  c:RX (rowsL Ai ss) ss.length
def bw (x:MG):List Value:=[x.a.val,x.b.val,x.c.val]
theorem Y7 {x:MG} {y:As} (hy:y∈[x.a.row,x.b.row,x.c.row]):y.ro=true:=by
  simp only [List.mem_cons,List.not_mem_nil,or_false] at hy
  rcases hy with rfl|rfl|rfl<;>rfl
instance:DN MG:=⟨λx=>aG (bw x),λx=>[x.a.row,x.b.row,x.c.row],λx y hy=>Y7 hy⟩
theorem cS {S:Nat->Prop} {W w:World} {L:List As} {m:MQ} {x:WM m} (h:Ro (SL ⟨W,none⟩ S L) w x):Holds w x.b.row/\∀b,x.b.row.foot=some b->W.heap.size<=b\/S b:=by
  have h1:=h x.b.row (List.mem_cons_of_mem _ List.mem_cons_self)
  exact ⟨h1.1,λb e=>(h1.2 b e).2⟩
theorem H9 {m:MQ} {pl:List P2} {i:Nat} (h:i<pl.length):(Ch m pl).getD i (0,0)=(mapM m).at_ (pl.getD i (0,0)):=by
  simp [Ch,List.getD,h]
theorem Rs {m:MQ} {pl:List P2} (hs:∀p∈pl,p.1<=6/\p.2<=6) {i:Nat} (h:i<pl.length):(QA m ((Ch m pl).getD i (0,0))).ok:=by
  rw [H9 h]
  have hp:=hs (pl.getD i (0,0)) (by rw [List.getD,List.getElem?_eq_getElem h];exact List.getElem_mem h)
  obtain ⟨⟨h1,h2⟩,h3,h4⟩:=PG (Em m.a m.b m.c m.d) hp
  have hd:BT m<4294967296:=by unfold BT;omega
  have e:mapM m=F8 m.a m.b m.c m.d:=rfl
  rw [<-e] at h1 h2 h3 h4
  exact ⟨⟨by show -9223372036854775808<=((mapM m).at_ _).1;omega,by show ((mapM m).at_ _).1<_;omega,hd⟩,⟨by show -9223372036854775808<=((mapM m).at_ _).2;omega,by show ((mapM m).at_ _).2<_;omega,hd⟩⟩
theorem Er (a b c:P2):Bv b c a=Bv a b c:=by unfold Bv;grind
theorem DP (a b:P2):Bv a a b=0/\Bv a b b=0/\Bv b a b=0:=by unfold Bv;exact ⟨by grind,by grind,by grind⟩
theorem TN {m:MQ} {t:Nat} (h:t<(BE m).length):0<Bv (Ar m t 0) (Ar m t 1) (Ar m t 2):=by
  have h1:=HQ m ((BE m).getD t ((0,0),(0,0),(0,0))) (by rw [List.getD,List.getElem?_eq_getElem h];exact List.getElem_mem h)
  unfold Ar I0
  generalize (BE m).getD t ((0,0),(0,0),(0,0))=c at *
  generalize t*(m.fst/3)=q at *
  have h0:=h1.1
  have e:(m.fst+q)%3=0\/(m.fst+q)%3=1\/(m.fst+q)%3=2:=by omega
  rcases e with e|e|e
  · rw [show (0+m.fst+q)%3=0 by omega,show (1+m.fst+q)%3=1 by omega,show (2+m.fst+q)%3=2 by omega]
    exact h0
  · rw [show (0+m.fst+q)%3=1 by omega,show (1+m.fst+q)%3=2 by omega,show (2+m.fst+q)%3=0 by omega]
    show 0<Bv c.2.1 c.2.2 c.1
    rw [Er];exact h0
  · rw [show (0+m.fst+q)%3=2 by omega,show (1+m.fst+q)%3=0 by omega,show (2+m.fst+q)%3=1 by omega]
    show 0<Bv c.2.2 c.1 c.2.1
    rw [Er c.2.1,Er];exact h0
theorem NM (m:MQ) (t:Nat) (x y:Rat):(0<J_ (Ar m t 1) (Ar m t 2) x y->0<J_ (Ar m t 2) (Ar m t 0) x y->0<J_ (Ar m t 0) (Ar m t 1) x y->Wq ((BE m).getD t ((0,0),(0,0),(0,0))) x y) /\
    (0<=J_ (Ar m t 1) (Ar m t 2) x y->0<=J_ (Ar m t 2) (Ar m t 0) x y->0<=J_ (Ar m t 0) (Ar m t 1) x y->inC ((BE m).getD t ((0,0),(0,0),(0,0))) x y):=by
  unfold Ar I0
  generalize (BE m).getD t ((0,0),(0,0),(0,0))=c at *
  generalize t*(m.fst/3)=q at *
  have e:(m.fst+q)%3=0\/(m.fst+q)%3=1\/(m.fst+q)%3=2:=by omega
  rcases e with e|e|e
  · rw [show (0+m.fst+q)%3=0 by omega,show (1+m.fst+q)%3=1 by omega,show (2+m.fst+q)%3=2 by omega]
    exact ⟨λa b c=>⟨a,b,c⟩,λa b c=>⟨a,b,c⟩⟩
  · rw [show (0+m.fst+q)%3=1 by omega,show (1+m.fst+q)%3=2 by omega,show (2+m.fst+q)%3=0 by omega]
    exact ⟨λa b c=>⟨c,a,b⟩,λa b c=>⟨c,a,b⟩⟩
  · rw [show (0+m.fst+q)%3=2 by omega,show (1+m.fst+q)%3=0 by omega,show (2+m.fst+q)%3=1 by omega]
    exact ⟨λa b c=>⟨b,c,a⟩,λa b c=>⟨b,c,a⟩⟩
theorem Qn {c z:Rat} (hc:0<c) (h:0<c*z):0<z:=by
  rcases HT 0 z with h1|h1
  · exact h1
  · have:=Rat.mul_nonneg (show 0<=c by grind) (show 0 <= -z by grind)
    grind
theorem Ha {c z:Rat} (hc:0<c) (h:0<=c*z):0<=z:=by
  rcases HT z 0 with h1|h1
  · have:=Rat.mul_pos hc (show 0 < -z by grind)
    grind
  · exact h1
theorem W4 {m:MQ} (x:WM m) {ps:List Pt} (h:ps=PU m (Ch m x.pl) x.pl.length):FJ ps x.ts:=by
  have hz:(Ch m x.pl).length=x.pl.length:=by simp [Ch]
  rw [<-hz] at h
  have hl:ps.length=x.pl.length:=by rw [h,F_ (Nat.le_refl _),hz]
  have hg:∀i,i<x.pl.length->ps.getD i ⟨0,0⟩=CC (Ge (mapM m) (BT m) (x.pl.getD i (0,0))):=λi hi=>by
    rw [h,Jn (by rw [hz];exact hi),H9 hi];rfl
  have hi:=x.inv
  have hcl:=GI m
  refine ⟨λe=>TY m (List.eq_nil_of_length_eq_zero (by rw [<-hi.tl,e];rfl)),by rw [hi.tl];exact hcl,by rw [hl];have:=hi.pll;omega,λi=>?_,λj hj=>?_,λi j hi1 hj1 hne q ho hcl2=>?_,⟨m,x.pl,x.inv,x.dst,by rw [h,hz]⟩⟩
  · rcases Nat.lt_or_ge i x.pl.length with h1|h1
    · have hok:=Rs (m:=m) hi.small h1
      rw [hg i h1]
      have:=WI hok
      rw [H9 h1] at this
      exact this
    · rw [List.getD,List.getElem?_eq_none (by rw [hl];exact h1)];decide +kernel
  · rw [hi.tl] at hj
    have ht:=hi.at_ j hj
    have hc:=TN hj
    have hp:=X1 (Em m.a m.b m.c m.d) (BT m) hc
    obtain ⟨⟨a1,a2⟩,⟨b1,b2⟩,⟨c1,c2⟩⟩:=ht
    refine ⟨by rw [hl];exact a1,by rw [hl];exact b1,by rw [hl];exact c1,λe=>?_,λe=>?_,λe=>?_,?_⟩
    · rw [e,b2] at a2;rw [<-a2,(DP _ _).1] at hc;omega
    · rw [e,c2] at b2;rw [<-b2,(DP _ _).2.1] at hc;omega
    · rw [e,a2] at c2;rw [<-c2,(DP _ _).2.2] at hc;omega
    · rw [hg _ a1,hg _ b1,hg _ c1,a2,b2,c2];exact hp
  · rw [hi.tl] at hi1 hj1
    obtain ⟨x',y',c,hc,key⟩:=lattice (Em m.a m.b m.c m.d) (BT m) q
    obtain ⟨⟨a1,a2⟩,⟨b1,b2⟩,⟨c1,c2⟩⟩:=hi.at_ i hi1
    obtain ⟨⟨d1,d2⟩,⟨e1,e2⟩,⟨f1,f2⟩⟩:=hi.at_ j hj1
    obtain ⟨o1,o2,o3⟩:=ho
    obtain ⟨k1,k2,k3⟩:=hcl2
    rw [hg _ b1,hg _ c1,b2,c2,<-Fq,show mapM m=F8 m.a m.b m.c m.d from rfl,key] at o1
    rw [hg _ a1,hg _ c1,a2,c2,Fq,show mapM m=F8 m.a m.b m.c m.d from rfl,key] at o2
    rw [hg _ a1,hg _ b1,a2,b2,show mapM m=F8 m.a m.b m.c m.d from rfl,key] at o3
    rw [hg _ e1,hg _ f1,e2,f2,<-Fq,show mapM m=F8 m.a m.b m.c m.d from rfl,key] at k1
    rw [hg _ d1,hg _ f1,d2,f2,Fq,show mapM m=F8 m.a m.b m.c m.d from rfl,key] at k2
    rw [hg _ d1,hg _ e1,d2,e2,show mapM m=F8 m.a m.b m.c m.d from rfl,key] at k3
    exact L_ m hi1 hj1 hne _ x' y' ((NM m i x' y').1 (Qn hc o1) (Qn hc o2) (Qn hc o3)) ((NM m j x' y').2 (Ha hc k1) (Ha hc k2) (Ha hc k3))
def VD (m:MQ) (ps:List Pt) (ts:List (Nat×Nat×Nat)):Prop:=∃pl:List P2,Nb m (BE m).length pl ts/\Yv pl/\ps=PU m (Ch m pl) pl.length
theorem XU {m:MQ} (x:WM m) {ps:List Pt} (h:ps=PU m (Ch m x.pl) x.pl.length):VD m ps x.ts:=⟨x.pl,x.inv,x.dst,h⟩
structure MF (m:MQ) where
  g:MG
  lat:VD m g.ps g.ts
instance {m:MQ}:DN (MF m):=⟨λx=>aG (bw x.g),λx=>[x.g.a.row,x.g.b.row,x.g.c.row],λx y hy=>Y7 hy⟩
structure aa (m:MQ) where
  f:MF m
  ob:OwnOk f.g.b.p f.g.ts.length f.g.b.c
  da:∀x,f.g.b.p.map (·.block)=some x->f.g.a.p.map (·.block)≠some x
  dc:∀x,f.g.b.p.map (·.block)=some x->f.g.c.p.map (·.block)≠some x
def Va {m:MQ} (y:aa m):As:=ba y.f.g.b.p 53 3 y.f.g.ts.length y.f.g.b.c (rowsL Ai y.f.g.ts)
instance {m:MQ}:DN (aa m):=⟨λy=>aG (bw y.f.g),λy=>[y.f.g.a.row,y.f.g.b.row,y.f.g.c.row,Va y],λx y hy=>by
  simp only [List.mem_cons,List.not_mem_nil,or_false] at hy
  rcases hy with rfl|rfl|rfl|rfl<;>rfl⟩
theorem aM {m:MQ} {W w:World} {L:List As} (hw:BN ⟨W,none⟩ w L) (x:aa m) (h1:Holds w x.f.g.a.row/\∀b,x.f.g.a.row.foot=some b->W.heap.size<=b\/False) (h2:Holds w x.f.g.b.row/\∀b,x.f.g.b.row.foot=some b->W.heap.size<=b\/False) (h3:Holds w x.f.g.c.row/\∀b,x.f.g.c.row.foot=some b->W.heap.size<=b\/False) (h4:Holds w (Va x)/\∀b,(Va x).foot=some b->W.heap.size<=b\/False) {v:Value} (hv:v=aG (bw x.f.g)):Aw (aa m) (λ_=>False) W (.returned v) w:=by
  refine ⟨x,by rw [hv];rfl,hw.out,λy hy=>?_⟩
  have hy:y∈[x.f.g.a.row,x.f.g.b.row,x.f.g.c.row,Va x]:=hy
  simp only [List.mem_cons,List.not_mem_nil,or_false] at hy
  rcases hy with rfl|rfl|rfl|rfl
  · exact h1
  · exact h2
  · exact h3
  · exact h4
theorem Aw.ofMGF {m:MQ} {S:Nat->Prop} {W w:World} {e:Ending} (h:Aw (aa m) (λ_=>False) W e w):Aw (MF m) S W e w:=by
  obtain ⟨a,h1,h2,h3⟩:=h
  refine ⟨a.f,h1,h2,λy hy=>?_⟩
  have h4:=h3 y (by
    have hy:y∈[a.f.g.a.row,a.f.g.b.row,a.f.g.c.row]:=hy
    show y∈[a.f.g.a.row,a.f.g.b.row,a.f.g.c.row,Va a]
    simp only [List.mem_cons,List.not_mem_nil,or_false] at hy ⊢
    rcases hy with rfl|rfl|rfl<;>simp)
  exact ⟨h4.1,λb e=>(h4.2 b e).imp id λk=>k.elim⟩
section
set_option maxRecDepth 100000
theorem Up (q:QD) (h:q.ok) (w:World)  :Calls prog 96 #[(aG (Q0 q))] w (An w (aG (AO (Iy q)))):=by
 obtain ⟨h1,h2,h3⟩:=h
 refine Af (args:=[(aG (Q0 q))]) func96 O O (AT O) (AF.subF (sL [0] O) (q4 (BU (cs:=Q0 q) O λb1=>al Eb O λb2=>q3 (sL [1,2] O) ?_)))
 refine AH (v:=(pP b1 0)) (AA O underlying99 O sizeOf2 O) O (BA 1 (vI q.n) Lh O (AH (v:=(pP b1 1)) (AA O underlying99 O sizeOf97 O) O (BA 1 (vK .u32 q.d) aw O (AH (Fe (c:=((max q.d 1:Nat):Int)) O O (by split<;>omega)) O (AH (Ay (c:=((max q.d 1:Nat):Int)) O underlying97 underlying2 (B4 Z)) O ?_)))))
 refine ck' call166 (WE (q.n:Int) ((max q.d 1:Nat):Int) Z Z Z Z Z) O (AM O (AH (Aa (v:=(aG (AO (((q.n:Int):Rat)/(((max q.d 1:Nat):Int):Rat))))) O O) O (AH (Aa (v:=(vI 0)) O O) O (al Eb O λb3=>A8 O sizeOf48 O ?_))))
 refine asg' O (q3 (sL [2,3] O) (BD 0 Bp O (Cm O sizeOf48 O (AE.nil (AC.subF (sL [2,3] O) ?_)))))
 exact AC.then_ (AF.ret (AI O (Ap (i:=1) (cs:=AO (((q.n:Int):Rat)/(((max q.d 1:Nat):Int):Rat))) O O isAgg48 sizeOf48 O) (λw hw=>⟨rfl,hw.out⟩)))
theorem Ek (x0:Rat) (x1:Rat):Instr.fill ([(0,5),(5,5)].toArray[·]?) (Am (⟨0,0⟩:Pt)).toArray [(0,.agg (AO x0).toArray),(1,.agg (AO x1).toArray)]=some (AO x0++AO x1).toArray:=by kernel_rfl
theorem ZY (p:PD) (h:p.ok) (w:World)  :Calls prog 39 #[(aG (Zl p))] w (An w (aG (Am (CC p)))):=by
 have h1:=h.1
 have h2:=h.2
 refine Af (args:=[(aG (Zl p))]) func39 O O (AT O) (AF.subF (sL [0] O) (q4 (BU (cs:=Zl p) O λb1=>al E8 O λb2=>q6 (sL [1,2] O) ?_)))
 refine Cd [(0,true),(1,true),(3,true),(4,true),(2,false),(5,false),(6,true),(7,false)] (sl sr) (Aq (v:=(pP b1 0)) O (AA O underlying101 O sizeOf99 O) (Ff 0 (Q0 p.x) XO O (Aq (v:=(pP b1 2)) O (AA O underlying101 O sizeOf99 O) (Ff 0 (Q0 p.y) XO O (OkE.imp O ?_)))))
 refine ck' call96 (Up p.x (by assumption)) O (OkE.back (sl sr) (OkE.imp O (ck' call96 (Up p.y (by assumption)) O (OkE.back (sl sr) (Aq (v:=(aG (AO (Iy p.x)++AO (Iy p.y)))) O (AV (zs:=Am (⟨0,0⟩:Pt)) (vs:=AO (Iy p.x)++AO (Iy p.y)) (pv:=[(0,(aG (AO (Iy p.x)))),(1,(aG (AO (Iy p.y))))]) (places:=[(0,5),(5,5)]) zeroValue51 underlying51 (λw=>by simp [sizeOf48]) O (Ek (Iy p.x) (Iy p.y))) ?_)))))
 refine OkE.imp O (A8 O sizeOf51 O (OkE.back (sl sr) (OkE.nil (AC.subF (sL [2] O) (AC.then_ ?_)))))
 exact AF.ret (AI O (Ap (i:=0) (cs:=AO (Iy p.x)++AO (Iy p.y)) O O isAgg51 sizeOf51 O) (λw hw=>⟨rfl,hw.out⟩))
end
end Go.Proofs.YtpgncndhhhllfaaGreatDoor
