import Derived.Test.YtpolhpjiahbidaaGreatDoorPart18
namespace Go.Proofs.YtpolhpjiahbidaaGreatDoor
open Go Go.RowKit Go.Proofs.Tryz
open Go.Value renaming slice→qz,bool→qa
set_option linter.unusedVariables false
set_option linter.unusedSimpArgs false
section
set_option maxRecDepth 100000
end
section
set_option maxRecDepth 100000
end
section
set_option maxRecDepth 100000
end
section
set_option maxRecDepth 100000
end
section
set_option maxRecDepth 100000
end
section
structure dp (x y:Nat) where
  q:NX x
  r:NX y
instance {x y:Nat}:C4 (dp x y):=⟨λa=>.tuple #[a8 a.q,a8 a.r],λa=>[Wm a.q,Wm a.r],λa y hy=>QO rfl rfl hy⟩
section
variable {S:Nat->Prop} {w:World} {x y:Nat}
end
section
variable {P:Program} {ops:Array Oper} {rest:List Oper} {Q:Exit->Act->World->Prop} {n d:Nat} {F:List (Nat×Value)} {w0:BC} {S:Nat->Prop} {L:List As} {t:TypeId} {p:String} {af:Array Edge} {y:Operand} {f:FuncId} {xs:List Operand} {args:List Value} {ts:Array TypeId}
end
end

def txI (z:Int):List UInt8:=if z<0 then 45::Lib.decDigits z.natAbs else Lib.decDigits z.natAbs
section
set_option maxRecDepth 100000
end
def FX.cast {a b:Rat} (h:a=b) (f:FX a):FX b:=h▸f
def aF (q:Rat):List UInt8:=if q.den-1=0 then txI q.num else txI q.num++47::Lib.decDigits q.den
theorem Lb {α:Type} {enc:α->List Value} {z:Nat} (h:∀x,(enc x).length=z) (d:α) (xs:List α) (j r k:Nat) (hj:j<xs.length) (hr:r+k<=z) {vs:List Value} (hv:((enc (xs.getD j d)).drop r).take k=vs):((rowsL enc xs).drop (j*z+r)).take k=vs:=by
  have h1:=Af h d xs j hj
  rw [<-hv,<-h1,List.drop_take,List.take_take,List.drop_drop,Nat.min_eq_left Z]
section
abbrev Z3:=Int×Int×Int
def BP (t:Z3):List Value:=[vI t.1,vI t.2.1,vI t.2.2]
theorem Cu (t:Z3):(BP t).length=3:=rfl
theorem Rc (t:Z3):((BP t).all λu=>u.oneCell')=true:=rfl
structure MZ (ps:List Pt) (ts ss:List Z3) where
  a:RX (rowsL AZ ps) ps.length
  b:RX (rowsL BP ts) ts.length
  c:RX (rowsL BP ss) ss.length
def On {ps:List Pt} {ts ss:List Z3} (x:MZ ps ts ss):List Value:=[x.a.val,x.b.val,x.c.val]
theorem VK {ps:List Pt} {ts ss:List Z3} {x:MZ ps ts ss} {y:As} (hy:y∈[x.a.row,x.b.row,x.c.row]):y.ro=true:=by
  simp only [xN,List.not_mem_nil,or_false] at hy
  rcases hy with rfl|rfl|rfl<;>rfl
instance {ps:List Pt} {ts ss:List Z3}:C4 (MZ ps ts ss):=⟨λx=>aG (On x),λx=>[x.a.row,x.b.row,x.c.row],λx y hy=>VK hy⟩
structure RW where
  ds:List PD
  ts:List Z3
  ss:List Z3
  a:RX (rowsL RI ds) ds.length
  b:RX (rowsL BP ts) ts.length
  c:RX (rowsL BP ss) ss.length
  hd:∀d∈ds,d.ok
def eM (x:RW):List Value:=[x.a.val,x.b.val,x.c.val]
theorem bP {x:RW} {y:As} (hy:y∈[x.a.row,x.b.row,x.c.row]):y.ro=true:=by
  simp only [xN,List.not_mem_nil,or_false] at hy
  rcases hy with rfl|rfl|rfl<;>rfl
instance:C4 RW:=⟨λx=>aG (eM x),λx=>[x.a.row,x.b.row,x.c.row],λx y hy=>bP hy⟩
def eF:PD:=⟨⟨0,0⟩,⟨0,0⟩⟩
section
variable {S:Nat->Prop} {w:World} {ps:List Pt} {ts ss:List Z3} {x:MZ ps ts ss} {r:RW}
theorem Zv (h:Ro S w x):Ro S w x.a:=λy hy=>by rcases xO.1 hy with rfl;exact h _ List.mem_cons_self
theorem Zw (h:Ro S w x):Ro S w x.b:=λy hy=>by rcases xO.1 hy with rfl;exact h _ (List.mem_cons_of_mem _ List.mem_cons_self)
theorem Zx (h:Ro S w x):Ro S w x.c:=λy hy=>by rcases xO.1 hy with rfl;exact h _ (List.mem_cons_of_mem _ (List.mem_cons_of_mem _ List.mem_cons_self))
end
structure RP where
  p:Pt
  x:PX p
@[reducible] def aS (r:RP):List Value:=dX r.x
def aT (rs:List RP):List As:=rs.flatMap λr=>C4.rows r.x
theorem Vu {rs:List RP} {y:As} (h:y∈aT rs):y.ro=true:=by
  obtain ⟨r,_,h⟩:=List.mem_flatMap.1 h
  exact C4.ro r.x y h
structure b_ (ps:List Pt) (ts ss:List Z3) where
  rs:List RP
  e:rs.map (·.p)=ps
  a:RX (rowsL aS rs) rs.length
  b:RX (rowsL BP ts) ts.length
  c:RX (rowsL BP ss) ss.length
def dY {ps:List Pt} {ts ss:List Z3} (x:b_ ps ts ss):List Value:=[x.a.val,x.b.val,x.c.val]
theorem Y9 {ps:List Pt} {ts ss:List Z3} {x:b_ ps ts ss} {y:As} (hy:y∈[x.a.row,x.b.row,x.c.row]++aT x.rs):y.ro=true:=by
  rcases List.mem_append.1 hy with hy|hy
  · simp only [xN,List.not_mem_nil,or_false] at hy
    rcases hy with rfl|rfl|rfl<;>rfl
  · exact Vu hy
instance {ps:List Pt} {ts ss:List Z3}:C4 (b_ ps ts ss):=⟨λx=>aG (dY x),λx=>[x.a.row,x.b.row,x.c.row]++aT x.rs,λx y hy=>Y9 hy⟩
section
variable {P:Program} {ops:Array Oper} {rest:List Oper} {Q:Exit->Act->World->Prop} {n:Nat} {F:List (Nat×Value)} {w0:BC} {S:Nat->Prop} {L L2 A:List As} {w W:World} {rs:List RP} {i:Nat} {ps:List Pt} {ts ss:List Z3}
end
theorem Wb (a b:Z3):((a.1 == b.1)&&((a.2.1 == b.2.1)&&((a.2.2 == b.2.2)&&true)))=decide (a=b):=by
  obtain ⟨a1,a2,a3⟩:=a
  obtain ⟨b1,b2,b3⟩:=b
  rw [Bool.eq_iff_iff]
  simp
theorem ZT (D:Nat) (a b:Z3):E1 prog (D+2) 105 (.agg (BP a).toArray) (.agg (BP b).toArray) (decide (a=b)):=by
  rw [<-Wb]
  exact E1.array underlying105 K9 Ix (OC.one isAgg3 O O (E1.int underlying3) (OC.one isAgg3 O O (E1.int underlying3) (OC.one isAgg3 O O (E1.int underlying3) OC.nil)))
theorem ZU (D:Nat) (a b:Z3):E1 prog (D+2) 110 (.agg (BP a).toArray) (.agg (BP b).toArray) (decide (a=b)):=by
  rw [<-Wb]
  exact E1.struct underlying110 Tryz.stoodInHeld110 (Iu.one jY isAgg3 O O (E1.int underlying3) (Iu.one jY isAgg3 O O (E1.int underlying3) (Iu.one jY isAgg3 O O (E1.int underlying3) Iu.nil)))
theorem Kv {α:Type} {d:α} {xs ys:List α} (hl:xs.length=ys.length) (h:∀i,i<xs.length->xs.getD i d=ys.getD i d):xs=ys:=by
  refine List.ext_getElem hl λi h1 h2=>?_
  have:=h i h1
  rwa [List.getD,List.getD,xP h1,xP h2] at this
theorem Np {α:Type} {d:α} {xs ys:List α} {i:Nat} (h:xs.getD i d≠ys.getD i d):xs≠ys:=λe=>h (by rw [e])
theorem RW.ok (r:RW) {i:Nat} (h:i<r.ds.length):(r.ds.getD i eF).ok:=by
  rw [List.getD,xP h]
  exact r.hd _ (List.getElem_mem h)
structure aV (ps:List Pt) (ts ss:List Z3) where
  a:OX 99 10 (rowsL AZ ps) ps.length
  b:OX 105 3 (rowsL BP ts) ts.length
  c:OX 110 3 (rowsL BP ss) ss.length
def dS {ps:List Pt} {ts ss:List Z3} (x:aV ps ts ss):List Value:=[QK x.a,QK x.b,QK x.c]
@[reducible] def dT {ps:List Pt} {ts ss:List Z3} (x:aV ps ts ss):List As:=[rowW x.c.p 110 3 ss.length x.c.c (rowsL BP ss),rowW x.b.p 105 3 ts.length x.b.c (rowsL BP ts),rowW x.a.p 99 10 ps.length x.a.c (rowsL AZ ps)]
section
variable {S:Nat->Prop} {w:World} {w0:BC} {L:List As} {ps:List Pt} {ts ss:List Z3}
abbrev dw (_:Nat):Prop:=True
theorem Sl {α:Type} [C4 α] {a:α} (h:Ro S w a):Ro dw w a:=h.mono λ_ _=>trivial
end
end
section
def B5 (n:Nat) (p:Int):Bool:=decide (0<=p)&&decide (p<(n:Int))
def Wn (n:Nat) (t:Z3):Bool:=B5 n t.1&&B5 n t.2.1&&B5 n t.2.2&&!decide (t.1=t.2.1)&&!decide (t.2.1=t.2.2)&&!decide (t.2.2=t.1)
def JF (n:Nat) (ts:List Z3):Bool:=ts.all (Wn n)
def idxZ (n:Nat):List Z3->Nat->Int
  | [],_ => -1
  | t::r,i=>if Wn n t=true then idxZ n r (i+1) else (i:Int)
theorem SC {n:Nat} {ts:List Z3} {j:Nat} (hj:j<ts.length) (h:Wn n (ts.getD j (0,0,0))=true):idxZ n (ts.drop j) j=idxZ n (ts.drop (j+1)) (j+1):=by
  rw [FW (d:=(0,0,0)) hj];exact if_pos h
theorem Un {n:Nat} {ts:List Z3} {j:Nat} (hj:j<ts.length) (h:Wn n (ts.getD j (0,0,0))=false):idxZ n (ts.drop j) j=(j:Int):=by
  rw [FW (d:=(0,0,0)) hj];exact if_neg (by rw [h];exact Bool.false_ne_true)
theorem Um {n:Nat} {ts:List Z3} {j:Nat} (hj:¬j<ts.length):idxZ n (ts.drop j) j = -1:=by
  rw [List.drop_of_length_le Z];rfl
theorem Mj (n:Nat):∀(ts:List Z3) (i:Nat),decide (0<=idxZ n ts i)=!JF n ts
  | [],i=>rfl
  | t::r,i=>by
    unfold idxZ JF
    rw [List.all_cons]
    cases h:Wn n t with
    | true=>rw [if_pos rfl,Bool.true_and];exact Mj n r (i+1)
    | false=>rw [if_neg Bool.false_ne_true,Bool.false_and];simp
def cq (t:Z3):Tq3:=(t.1.toNat,t.2.1.toNat,t.2.2.toNat)
structure RQ (N K:Nat) (zs:List Z3) where
  cs:List Value
  ds:List Value
  a:RX cs N
  b:RX (rowsL BP zs) zs.length
  c:RX ds K
def bK {N K:Nat} {zs:List Z3} (x:RQ N K zs):List Value:=[x.a.val,x.b.val,x.c.val]
theorem bM {N K:Nat} {zs:List Z3} {x:RQ N K zs} {y:As} (hy:y∈[x.a.row,x.b.row,x.c.row]):y.ro=true:=by
  simp only [xN,List.not_mem_nil,or_false] at hy
  rcases hy with rfl|rfl|rfl<;>rfl
instance {N K:Nat} {zs:List Z3}:C4 (RQ N K zs):=⟨λx=>aG (bK x),λx=>[x.a.row,x.b.row,x.c.row],λx y hy=>bM hy⟩
section
variable {S:Nat->Prop} {w:World} {N K:Nat} {zs ss:List Z3} {ps:List Pt}
theorem cy {x:RQ N K zs} (h:Ro S w x):Ro S w x.b:=λy hy=>by rcases xO.1 hy with rfl;exact h _ (List.mem_cons_of_mem _ List.mem_cons_self)
def MZ.rq (x:MZ ps zs ss):RQ ps.length ss.length zs:=⟨rowsL AZ ps,rowsL BP ss,x.a,x.b,x.c⟩
theorem cj {x:MZ ps zs ss} (h:Ro S w x):Ro S w x.rq:=λy hy=>h y hy
end
end
def U8 (p q:Pt):Prop:=p.x<q.x\/(p.x=q.x/\p.y<q.y)
instance (p q:Pt):Decidable (U8 p q):=by unfold U8;infer_instance
theorem Zg {p q:Pt} (h:Gu p.x q.x≠0):decide (Gu p.x q.x<0)=decide (U8 p q):=by
  have h2:¬p.x=q.x:=λe=>h (Qs.2 e)
  refine decide_eq_decide.2 ⟨λk=>.inl (J7.1 k),λk=>?_⟩
  rcases k with k|k
  · exact J7.2 k
  · exact absurd k.1 h2
theorem Zh {p q:Pt} (h:Gu p.x q.x=0):decide (Gu p.y q.y<0)=decide (U8 p q):=by
  have h2:p.x=q.x:=Qs.1 h
  refine decide_eq_decide.2 ⟨λk=>.inr ⟨h2,J7.1 k⟩,λk=>?_⟩
  rcases k with k|k
  · rw [h2] at k;exact absurd k (by grind)
  · exact J7.2 k.2
abbrev T2:=P2×P2×P2
def au (A B:P2) (X Y:Nat):Int:=((B.1:Int)-A.1)*((Y:Int)-2*A.2)-((B.2:Int)-A.2)*((X:Int)-2*A.1)
def aq (t:T2) (X Y:Nat):Bool:=decide (0<=au t.2.1 t.2.2 X Y)&&decide (0<=au t.2.2 t.1 X Y)&&decide (0<=au t.1 t.2.1 X Y)
def Kl (t:T2) (q:P2):Bool:=t.1 == q||t.2.1 == q||t.2.2 == q
def O3 (u v c:Nat):List T2 :=
  let x:=2*u;let y:=2*v
  if c=0 then [((x,y),(x+2,y),(x+2,y+2)),((x,y),(x+2,y+2),(x,y+2))]
  else if c=1 then [((x,y),(x+2,y),(x,y+2)),((x+2,y),(x+2,y+2),(x,y+2))]
  else if c=2 then [((x,y),(x+2,y),(x+1,y+1)),((x+2,y),(x+2,y+2),(x+1,y+1)),((x+2,y+2),(x,y+2),(x+1,y+1)),((x,y+2),(x,y),(x+1,y+1))] else []
def XD (way i:Nat):Nat:=if way<3\/(way=7/\i=0) then 0 else if way<5 then 1 else if way<7 then 2 else 3
theorem Iw (nx way i:Nat):Cx nx way i=O3 (i%nx) (i/nx) (XD way i):=by
  unfold Cx O3 XD
  simp only
  split
  · rfl
  · split
    · rfl
    · split<;>rfl
theorem HJ (way i:Nat):XD way i<4:=by
  unfold XD
  split
  · omega
  · split
    · omega
    · split<;>omega
def Nr (s t:T2):Bool :=
  [s.1,s.2.1,s.2.2].all (λq=>!aq t (2*q.1) (2*q.2)||Kl t q) &&
  [(s.1,s.2.1),(s.2.1,s.2.2),(s.2.2,s.1)].all (λe=>!aq t (e.1.1+e.2.1) (e.1.2+e.2.2)||(Kl t e.1&&Kl t e.2))
def FA:List (Tq3):=[0,1,2].flatMap λu=>[0,1,2].flatMap λv=>[0,1,2,3].map λc=>(u,v,c)
def a9:Bool:=FA.all λp=>FA.all λq=>(decide (p.1=q.1/\p.2.1=q.2.1/\p.2.2≠q.2.2))||(O3 p.1 p.2.1 p.2.2).all λs=>(O3 q.1 q.2.1 q.2.2).all λt=>Nr s t
theorem QH:a9=true:=by decide +kernel
theorem De {u v c:Nat} (hu:u<=2) (hv:v<=2) (hc:c<4):(u,v,c)∈FA:=by
  have h1:u=0\/u=1\/u=2:=by omega
  have h2:v=0\/v=1\/v=2:=by omega
  have h3:c=0\/c=1\/c=2\/c=3:=by omega
  rcases h1 with rfl|rfl|rfl<;>rcases h2 with rfl|rfl|rfl<;>rcases h3 with rfl|rfl|rfl|rfl<;>decide
theorem RH {m:MQ} {s t:T2} (hs:s∈Av m) (ht:t∈Av m):Nr s t=true:=by
  obtain ⟨i,hi,h1⟩:=DO m _ s hs
  obtain ⟨j,hj,h2⟩:=DO m _ t ht
  have hx:=H4 m
  have hy:=H5 m
  have b:∀k,k<Em m*QG m->k%Em m<=2/\k/Em m<=2:=λk hk=>by
    have a1:=Nat.mod_lt k (show 0<Em m by omega)
    have a2:k/Em m<QG m:=Nat.div_lt_of_lt_mul hk
    omega
  rw [Iw] at h1 h2
  have h:=List.all_eq_true.1 (List.all_eq_true.1 QH _ (De (b i hi).1 (b i hi).2 (HJ (GC m i) i))) _ (De (b j hj).1 (b j hj).2 (HJ (GC m j) j))
  rw [yy,xV] at h
  rcases h with ⟨e1,e2,e3⟩|h
  · exfalso
    have e:i=j:=by rw [<-Nat.div_add_mod i (Em m),<-Nat.div_add_mod j (Em m),show i%Em m=j%Em m from e1,show i/Em m=j/Em m from e2]
    subst e
    exact e3 O
  · exact List.all_eq_true.1 (List.all_eq_true.1 h s h1) t h2
theorem U7 (A B:P2) (X Y:Nat):KF A B ((X:Rat)*(1/2)) ((Y:Rat)*(1/2))=((au A B X Y:Int):Rat)*(1/2):=by
  simp only [KF,au,Rat.intCast_sub,Rat.intCast_mul,Rat.intCast_natCast,show ((2:Int):Rat)=2 from rfl]
  grind
theorem Ur {t:T2} {X Y:Nat} (h:inC t ((X:Rat)*(1/2)) ((Y:Rat)*(1/2))):aq t X Y=true:=by
  obtain ⟨h1,h2,h3⟩:=h
  rw [U7] at h1 h2 h3
  have c:∀z:Int,0<=(z:Rat)*(1/2)->0<=z:=λz hz=>by
    have:(0:Rat)<=(z:Rat):=by grind
    exact_mod_cast this
  simp only [aq,yz,xV]
  exact ⟨⟨c _ h1,c _ h2⟩,c _ h3⟩
theorem NH {t:T2} {q:P2} (h:Kl t q=true):∃r,r<3/\Cn t r=q:=by
  simp only [Kl,yy,beq_iff_eq] at h
  rcases h with (h|h)|h
  · exact ⟨0,Z,h⟩
  · exact ⟨1,Z,h⟩
  · exact ⟨2,Z,h⟩
theorem UC (t:T2) {r:Nat} (h:r<3):Cn t r∈[t.1,t.2.1,t.2.2]:=by
  have:r=0\/r=1\/r=2:=by omega
  rcases this with rfl|rfl|rfl<;>simp [Cn]
theorem OT {m:MQ} {s t:T2} (hs:s∈Av m) (ht:t∈Av m) {r:Nat} (hr:r<3) (h:inC t ((Cn s r).1:Rat) ((Cn s r).2:Rat)):∃k,k<3/\Cn t k=Cn s r:=by
  have hp:=RH hs ht
  unfold Nr at hp
  rw [yz] at hp
  have h1:=List.all_eq_true.1 hp.1 _ (UC s hr)
  have h2:aq t (2*(Cn s r).1) (2*(Cn s r).2)=true:=Ur (by
    rw [Gs,Gs,show 2*((Cn s r).1:Rat)*(1/2)=((Cn s r).1:Rat) by grind,show 2*((Cn s r).2:Rat)*(1/2)=((Cn s r).2:Rat) by grind]
    exact h)
  rw [h2] at h1
  exact NH (by simpa using h1)
theorem UE {m:MQ} {s t:T2} (hs:s∈Av m) (ht:t∈Av m) {r:Nat} (hr:r<3) (h:inC t ((((Cn s r).1+(Cn s ((r+1)%3)).1:Nat):Rat)*(1/2)) ((((Cn s r).2+(Cn s ((r+1)%3)).2:Nat):Rat)*(1/2))) :
    (∃k,k<3/\Cn t k=Cn s r)/\∃k,k<3/\Cn t k=Cn s ((r+1)%3):=by
  have hp:=RH hs ht
  unfold Nr at hp
  rw [yz] at hp
  have hm:(Cn s r,Cn s ((r+1)%3))∈[(s.1,s.2.1),(s.2.1,s.2.2),(s.2.2,s.1)]:=by
    have:r=0\/r=1\/r=2:=by omega
    rcases this with rfl|rfl|rfl<;>simp [Cn]
  have h1:=List.all_eq_true.1 hp.2 _ hm
  rw [Ur h] at h1
  have h2:Kl t (Cn s r)=true/\Kl t (Cn s ((r+1)%3))=true:=by simpa using h1
  exact ⟨NH h2.1,NH h2.2⟩
section
def PQ (k:DG) (den:Nat) (X Y:Rat):Pt:=⟨((k.a:Rat)*X+(k.b:Rat)*Y)/(((max den 1:Nat):Int):Rat),((k.c:Rat)*X+(k.d:Rat)*Y)/(((max den 1:Nat):Int):Rat)⟩
theorem JS (k:DG) (den:Nat) (A:P2):CM (Gm k den A)=PQ k den (A.1:Rat) (A.2:Rat):=by
  simp only [CM,Gm,N_,DG.at_,PQ,Rat.intCast_add,Rat.intCast_mul,Rat.intCast_natCast]
theorem ZH (k:DG) (den:Nat) (A B:P2):Dk (CM (Gm k den A)+CM (Gm k den B)) (1/2)=PQ k den (((A.1+B.1:Nat):Rat)*(1/2)) (((A.2+B.2:Nat):Rat)*(1/2)):=by
  rw [JS,JS]
  refine Pt.ext ?_ ?_<;>simp only [PQ,RS,RT,Qi,Qj,Rat.natCast_add,Rat.div_def]<;>generalize (((max den 1:Nat):Int):Rat)⁻¹=e<;>grind
theorem Oj {k:DG} (h:k.Ok) (den:Nat):∃c:Rat,0<c/\∀(A B:P2) (X Y:Rat),AN (CM (Gm k den A)) (CM (Gm k den B)) (PQ k den X Y)=c*KF A B X Y:=by
  have hD:0<(((max den 1:Nat):Int):Rat):=by exact_mod_cast (show (0:Int)<((max den 1:Nat):Int) by omega)
  have hd:(0:Rat)<(k.det:Rat):=by exact_mod_cast h.pos
  have ed:(k.det:Rat)=(k.a:Rat)*(k.d:Rat)-(k.b:Rat)*(k.c:Rat):=by simp only [DG.det,Rat.intCast_sub,Rat.intCast_mul]
  have hi:=Rat.inv_pos.2 hD
  refine ⟨(k.det:Rat)*((((max den 1:Nat):Int):Rat)⁻¹*(((max den 1:Nat):Int):Rat)⁻¹),Rat.mul_pos hd (Rat.mul_pos hi hi),λA B X Y=>?_⟩
  rw [JS,JS,ed]
  simp only [Ck,PQ,KF,Rat.div_def]
  generalize (((max den 1:Nat):Int):Rat)⁻¹=e
  grind
theorem Zy (m:MQ) (t:Nat) {k:Nat} (hk:k<3):∃r,r<3/\G4 m t r=k:=by
  unfold G4
  generalize t*(m.fst/3)=q
  have e:(m.fst+q)%3=0\/(m.fst+q)%3=1\/(m.fst+q)%3=2:=by omega
  rcases e with e|e|e
  · exact ⟨k,hk,Z⟩
  · exact ⟨(k+2)%3,Nat.mod_lt _ jY,Z⟩
  · exact ⟨(k+1)%3,Nat.mod_lt _ jY,Z⟩
theorem Oz (m:MQ) (t r:Nat):G4 m t ((r+1)%3)=(G4 m t r+1)%3:=by unfold G4;omega
def crn (t:Tq3) (r:Nat):Nat:=if r=0 then t.1 else if r=1 then t.2.1 else t.2.2
def CO (t:Tq3) (p:Nat):Bool:=t.1 == p||t.2.1 == p||t.2.2 == p
theorem K6 {t:Tq3} {p:Nat}:CO t p=true↔∃r,r<3/\crn t r=p:=by
  simp only [CO,yy,beq_iff_eq]
  constructor
  · rintro ((h|h)|h)
    · exact ⟨0,Z,h⟩
    · exact ⟨1,Z,h⟩
    · exact ⟨2,Z,h⟩
  · rintro ⟨r,hr,h⟩
    have:r=0\/r=1\/r=2:=by omega
    rcases this with rfl|rfl|rfl
    · exact .inl (.inl h)
    · exact .inl (.inr h)
    · exact .inr h
theorem JT.crn {m:MQ} {pl:List P2} {n:Tq3} {t:Nat} (h:JT m pl n t) {r:Nat} (hr:r<3):Go.Proofs.YtpolhpjiahbidaaGreatDoor.crn n r<pl.length/\pl.getD (Go.Proofs.YtpolhpjiahbidaaGreatDoor.crn n r) (0,0)=Ai m t r:=by
  have:r=0\/r=1\/r=2:=by omega
  rcases this with rfl|rfl|rfl
  · exact h.a
  · exact h.b
  · exact h.c
section
variable {ps:List Pt} {ts:List (Tq3)}
structure ZF (ps:List Pt) (ts:List (Tq3)) (m:MQ) (pl:List P2):Prop where
  inv:NA m (Av m).length pl ts
  dst:Wv pl
  pl_len:ps.length=pl.length
  at_:∀i,i<pl.length->ps.getD i ⟨0,0⟩=CM (Gm (mapM m) (B7 m) (pl.getD i (0,0)))
theorem E_.lattice (g:E_ ps ts):∃m pl,ZF ps ts m pl:=by
  obtain ⟨m,pl,h1,h2,h3⟩:=g.lat
  have hz:(Fp m pl).length=pl.length:=by simp [Fp]
  refine ⟨m,pl,h1,h2,by rw [h3,KN Z],λi hi=>?_⟩
  rw [h3,<-hz,RJ (by rw [hz];exact hi),KR hi]
  rfl
theorem ZF.cell {m:MQ} {pl:List P2} (l:ZF ps ts m pl) {t:Nat} (ht:t<ts.length):(Av m).getD t ((0,0),(0,0),(0,0))∈Av m:=by
  have h:=l.inv.tl
  rw [List.getD,xP Z];exact List.getElem_mem _
theorem ZF.inC {m:MQ} {pl:List P2} (l:ZF ps ts m pl) {t:Nat} (ht:t<ts.length) {X Y:Rat} (h:KZ ps (ts.getD t (0,0,0)) (PQ (mapM m) (B7 m) X Y)):Go.Proofs.YtpolhpjiahbidaaGreatDoor.inC ((Av m).getD t ((0,0),(0,0),(0,0))) X Y:=by
  obtain ⟨c,hc,key⟩:=Oj (Fb m.a m.b m.c m.d) (B7 m)
  have hk:mapM m=Gl m.a m.b m.c m.d:=rfl
  rw [<-hk] at key
  have hat:=l.inv.at_ t (by have:=l.inv.tl;omega)
  obtain ⟨⟨a1,a2⟩,⟨b1,b2⟩,⟨c1,c2⟩⟩:=hat
  obtain ⟨k1,k2,k3⟩:=h
  rw [l.at_ _ b1,l.at_ _ c1,b2,c2,<-F_,key] at k1
  rw [l.at_ _ a1,l.at_ _ c1,a2,c2,F_,key] at k2
  rw [l.at_ _ a1,l.at_ _ b1,a2,b2,key] at k3
  exact (NG m t X Y).2 (Hm hc k1) (Hm hc k2) (Hm hc k3)
theorem ZF.idx {m:MQ} {pl:List P2} (l:ZF ps ts m pl) {t p:Nat} (ht:t<ts.length) (hp:p<pl.length) (h:∃k,k<3/\Cn ((Av m).getD t ((0,0),(0,0),(0,0))) k=pl.getD p (0,0)):CO (ts.getD t (0,0,0)) p=true:=by
  obtain ⟨k,hk,e⟩:=h
  obtain ⟨r,hr,e2⟩:=Zy m t hk
  obtain ⟨h1,h2⟩:=(l.inv.at_ t (by have:=l.inv.tl;omega)).crn hr
  have e3:Ai m t r=pl.getD p (0,0):=by rw [<-e,<-e2];rfl
  exact K6.2 ⟨r,hr,l.dst _ _ h1 hp (by rw [h2,e3])⟩
theorem JA (g:E_ ps ts) {p:Nat} (hp:p<ps.length):∃j,j<ts.length/\CO (ts.getD j (0,0,0)) p=true:=by
  obtain ⟨m,pl,l⟩:=g.lattice
  obtain ⟨j,hj,h⟩:=l.inv.used p (by rw [<-l.pl_len];exact hp)
  refine ⟨j,by have:=l.inv.tl;omega,?_⟩
  simp only [CO,yy,beq_iff_eq]
  rcases h with h|h|h
  · exact .inl (.inl h)
  · exact .inl (.inr h)
  · exact .inr h
theorem U9 (g:E_ ps ts) {p q:Nat} (hp:p<ps.length) (hq:q<ps.length) (h:ps.getD p ⟨0,0⟩=ps.getD q ⟨0,0⟩):p=q:=by
  obtain ⟨m,pl,l⟩:=g.lattice
  obtain ⟨j,hj,hh⟩:=JA g hq
  obtain ⟨r,hr,e⟩:=K6.1 hh
  have hp':p<pl.length:=by rw [<-l.pl_len];exact hp
  have hq':q<pl.length:=by rw [<-l.pl_len];exact hq
  rw [l.at_ p hp',l.at_ q hq'] at h
  refine l.dst p q hp' hq' ?_
  have hD:0<(((max (B7 m) 1:Nat):Int):Rat):=by exact_mod_cast (show (0:Int)<((max (B7 m) 1:Nat):Int) by omega)
  have hk:=Fb m.a m.b m.c m.d
  have hdet:=hk.pos
  have hx:=congrArg Pt.x h
  have hy:=congrArg Pt.y h
  rw [JS,JS] at hx hy
  simp only [PQ,Rat.div_def] at hx hy
  have hi:=Rat.inv_pos.2 hD
  generalize (((max (B7 m) 1:Nat):Int):Rat)⁻¹=e at *
  generalize pl.getD p (0,0)=A at *
  generalize pl.getD q (0,0)=B at *
  obtain ⟨x1,y1⟩:=A
  obtain ⟨x2,y2⟩:=B
  simp only at hx hy
  have hd:(0:Rat)<((mapM m).det:Rat):=by exact_mod_cast hdet
  have ed:((mapM m).det:Rat)=((mapM m).a:Rat)*((mapM m).d:Rat)-((mapM m).b:Rat)*((mapM m).c:Rat):=by simp only [DG.det,Rat.intCast_sub,Rat.intCast_mul]
  rw [ed] at hd
  generalize ((mapM m).a:Rat)=a at *
  generalize ((mapM m).b:Rat)=b at *
  generalize ((mapM m).c:Rat)=c at *
  generalize ((mapM m).d:Rat)=d at *
  clear hD hk hdet ed h
  have hX:((x1:Rat)-(x2:Rat))*(a*d-b*c)*e=0:=by grind
  have hY:((y1:Rat)-(y2:Rat))*(a*d-b*c)*e=0:=by grind
  have z1:(x1:Rat)-(x2:Rat)=0:=by
    rcases Rat.mul_eq_zero.1 hX with h|h
    · rcases Rat.mul_eq_zero.1 h with h|h
      · exact h
      · grind
    · grind
  have z2:(y1:Rat)-(y2:Rat)=0:=by
    rcases Rat.mul_eq_zero.1 hY with h|h
    · rcases Rat.mul_eq_zero.1 h with h|h
      · exact h
      · grind
    · grind
  have w1:(x1:Rat)=(x2:Rat):=by grind
  have w2:(y1:Rat)=(y2:Rat):=by grind
  exact Prod.ext (by exact_mod_cast w1) (by exact_mod_cast w2)
theorem Je (g:E_ ps ts) {p t:Nat} (hp:p<ps.length) (ht:t<ts.length) (h:KZ ps (ts.getD t (0,0,0)) (ps.getD p ⟨0,0⟩)):CO (ts.getD t (0,0,0)) p=true:=by
  obtain ⟨m,pl,l⟩:=g.lattice
  have hp':p<pl.length:=by rw [<-l.pl_len];exact hp
  obtain ⟨j,hj,hh⟩:=JA g hp
  obtain ⟨r,hr,e⟩:=K6.1 hh
  have hc:=((l.inv.at_ j (by have:=l.inv.tl;omega)).crn hr).2
  rw [e] at hc
  refine l.idx ht hp' ?_
  rw [l.at_ p hp',JS] at h
  have h2:=l.inC ht h
  rw [hc] at h2 ⊢
  exact OT (l.cell hj) (l.cell ht) (Nat.mod_lt _ jY) h2
theorem U_ (g:E_ ps ts) {s t r:Nat} (hs:s<ts.length) (ht:t<ts.length) (hr:r<3) (h:KZ ps (ts.getD t (0,0,0)) (Dk (ps.getD (crn (ts.getD s (0,0,0)) r) ⟨0,0⟩+ps.getD (crn (ts.getD s (0,0,0)) ((r+1)%3)) ⟨0,0⟩) (1/2))) :
    CO (ts.getD t (0,0,0)) (crn (ts.getD s (0,0,0)) r)=true/\CO (ts.getD t (0,0,0)) (crn (ts.getD s (0,0,0)) ((r+1)%3))=true:=by
  obtain ⟨m,pl,l⟩:=g.lattice
  have hat:=l.inv.at_ s (by have:=l.inv.tl;omega)
  obtain ⟨a1,a2⟩:=hat.crn hr
  obtain ⟨b1,b2⟩:=hat.crn (Nat.mod_lt (r+1) (show 0<3 by decide))
  rw [l.at_ _ a1,l.at_ _ b1,ZH,a2,b2] at h
  have h2:=l.inC ht h
  unfold Ai at h2
  rw [Oz] at h2
  obtain ⟨k1,k2⟩:=UE (l.cell hs) (l.cell ht) (r:=G4 m s r) (Nat.mod_lt _ jY) h2
  refine ⟨l.idx ht a1 ?_,l.idx ht b1 ?_⟩
  · rw [a2];exact k1
  · rw [b2];unfold Ai;rw [Oz];exact k2
end
end
section
def Uv (t:T3) (p:Nat):Int:=if p=t.1 then 0 else if p=t.2.1 then 1 else if p=t.2.2 then 2 else -1
theorem Xo (t:T3) (p:Nat):decide (0<=Uv t p)=CO t p:=by
  unfold Uv CO
  by_cases h1:p=t.1
  · rw [if_pos h1,h1];simp
  · have h1':¬t.1=p:=λe=>h1 e.symm
    rw [if_neg h1]
    by_cases h2:p=t.2.1
    · rw [if_pos h2,h2];simp
    · have h2':¬t.2.1=p:=λe=>h2 e.symm
      rw [if_neg h2]
      by_cases h3:p=t.2.2
      · rw [if_pos h3,h3];simp
      · have h3':¬t.2.2=p:=λe=>h3 e.symm
        rw [if_neg h3];simp [h1',h2',h3']
abbrev Q3:=Pt×Pt×Pt
def H8 (x:Q3):List Value:=AZ x.1++(AZ x.2.1++(AZ x.2.2++[]))
theorem bA (a b c:Pt):AZ a++AZ b++AZ c=H8 (a,b,c):=by simp [H8]
def Bn (ps:List Pt) (t:T3):Q3:=(cor ps t.1,cor ps t.2.1,cor ps t.2.2)
def NY (p q r:Pt):Bool:=decide (0<(AN p q r).num.sign)
def Uu (p q:Pt) (B:Q3):Int:=if NY p q B.1=true then 0 else if NY p q B.2.1=true then 1 else if NY p q B.2.2=true then 2 else -1
def GM (p q:Pt) (B:Q3):Bool:=NY p q B.1||NY p q B.2.1||NY p q B.2.2
theorem Xn (p q:Pt) (B:Q3):decide (0<=Uu p q B)=GM p q B:=by
  unfold Uu GM
  cases NY p q B.1<;>cases NY p q B.2.1<;>cases NY p q B.2.2<;>rfl
def Eb (A B:Q3):Bool:=!GM A.1 A.2.1 B||(!GM A.2.1 A.2.2 B||!GM A.2.2 A.1 B)
structure It (ps:List Pt) (ts ss:List T3):Prop where
  pl:ps.length<=4096
  tl:ts.length<=8192
  t0:0<ts.length
  sl:ss.length<=24576
  sz:∀k,Bc (cor ps k)<=1000
  num:Be ps.length ts=true
  pos:∀j,j<ts.length->(AN (cor ps (ts.getD j (0,0,0)).1) (cor ps (ts.getD j (0,0,0)).2.1) (cor ps (ts.getD j (0,0,0)).2.2)).num.sign=1
  sid:∀j,j<ss.length->(ss.getD j (0,0,0)).1<ps.length/\(ss.getD j (0,0,0)).2.1<ps.length/\(ss.getD j (0,0,0)).2.2<=255
  use:∀p,p<ps.length->∃j,j<ts.length/\CO (ts.getD j (0,0,0)) p=true
  dst:ps.Nodup
  apart:∀i k,i<ts.length->k<i->(!Eb (Bn ps (ts.getD i (0,0,0))) (Bn ps (ts.getD k (0,0,0)))&&!Eb (Bn ps (ts.getD k (0,0,0))) (Bn ps (ts.getD i (0,0,0))))=false
  crn:∀i p,i<ts.length->p<ps.length->CO (ts.getD i (0,0,0)) p=false->Lv ps (cor ps p) (ts.getD i (0,0,0))=0
  rl:ss.length=(FS ts).length
  rim:∀j,j<ss.length->(ss.getD j (0,0,0)).1=((FS ts).getD j (0,0,0)).1/\(ss.getD j (0,0,0)).2.1=((FS ts).getD j (0,0,0)).2.1
theorem It.szM {ps:List Pt} {ts ss:List T3} (h:It ps ts ss) (k:Nat):Bc (cor ps k)<=1000000:=xM (h.sz k) jY
def NF (x y:Pt):Int:=if U8 x y then -1 else if U8 y x then 1 else 0
theorem Fv {x y:Pt}:NF x y<0↔U8 x y:=by
  unfold NF
  split
  · exact ⟨λ_=>by assumption,λ_=>by decide⟩
  · rename_i h
    split<;>exact ⟨λk=>absurd k jY,λk=>absurd k h⟩
theorem SW {ys:List Pt} (h:ys.Nodup) {k:Nat} (h1:1<=k) (hk:k<ys.length) (e:ys.getD k ⟨0,0⟩=ys.getD (k-1) ⟨0,0⟩):False:=by
  rw [List.getD,List.getD,xP hk,xP (show k-1<ys.length by omega)] at e
  have:=(List.getElem_inj h).1 e
  omega
def bL (us:List Bool):List Value:=us.map qa
theorem NB (us:List Bool):(bL us).length=us.length:=xK _
theorem Pa (us:List Bool) (j:Nat) (v:Bool):(bL us).set j (.bool v)=bL (us.set j v):=by unfold bL;rw [List.map_set]
theorem ZN {us:List Bool} {j:Nat} (h:j<us.length):(bL us)[j*1]?=some (.bool (us.getD j false)):=by simp [bL,h]
def Lr (ts:List T3) (n i:Nat):List Bool:=(List.range n).map λp=>(ts.take i).any λt=>CO t p
theorem HB (ts:List T3) (n i:Nat):(Lr ts n i).length=n:=by simp [Lr]
theorem S5 (ts:List T3) (n:Nat):List.replicate n false=Lr ts n 0:=by
  unfold Lr
  rw [List.take_zero]
  apply List.ext_getElem?
  intro j
  rcases Nat.lt_or_ge j n with h|h
  · simp [h]
  · rw [List.getElem?_eq_none (by simpa using h),List.getElem?_eq_none (by simpa using h)]
theorem S4 {ts:List T3} {n i:Nat} (h:i<ts.length):(((Lr ts n i).set (ts.getD i (0,0,0)).1 true).set (ts.getD i (0,0,0)).2.1 true).set (ts.getD i (0,0,0)).2.2 true=Lr ts n (i+1):=by
  apply List.ext_getElem?
  intro j
  have e:ts.take (i+1)=ts.take i++[ts.getD i (0,0,0)]:=by rw [List.take_add_one,List.getD,xP h];rfl
  generalize ts.getD i (0,0,0)=T at *
  unfold Lr
  rw [e]
  simp only [List.getElem?_set,List.length_set,xK,List.length_range,List.getElem?_map,List.any_append,List.any_cons,List.any_nil,Bool.or_false]
  rcases Nat.lt_or_ge j n with hj|hj
  · rw [List.getElem?_range hj]
    simp only [Option.map_some]
    unfold CO
    by_cases h1:T.1=j<;>by_cases h2:T.2.1=j<;>by_cases h3:T.2.2=j<;>simp [h1,h2,h3]<;>try omega
  · rw [List.getElem?_eq_none (by simpa using hj)]
    simp only [Option.map_none]
    by_cases h1:T.1=j<;>by_cases h2:T.2.1=j<;>by_cases h3:T.2.2=j<;>simp [h1,h2,h3]<;>omega
theorem WR {ts:List T3} {n p:Nat} (hp:p<n) (h:∃j,j<ts.length/\CO (ts.getD j (0,0,0)) p=true):(Lr ts n ts.length).getD p false=true:=by
  unfold Lr
  rw [List.getD,List.getElem?_map,List.getElem?_range hp,Option.map_some,Option.getD_some,List.take_length,List.any_eq_true]
  obtain ⟨j,hj,h⟩:=h
  exact ⟨_,List.getElem_mem hj,by rwa [List.getD,xP hj] at h⟩
section
variable {P:Program} {ops:Array Oper} {rest:List Oper} {Q:Exit->Act->World->Prop} {n d i z m c:Nat} {F:List (Nat×Value)} {w0:BC} {L L':List As} {t ty T:TypeId} {p:String} {af:Array Edge} {x y:Operand} {cs vs:List Value} {q:Option Addr} {v:Value}
theorem AR.makeBool {ki kj:IntKind} {bytes:Nat} (ht:TW P t T (.bool false) bytes) (hx:evF F x=some (.int ki (m:Nat))) (hy:evF F y=some (.int kj (m:Nat))) (hm:m<=1099511627776) (hb:Nat.ble bytes 16=true) (hd:Nat.ble (d+1) n=true)
    (next:∀b,OwnOk (jk b) m m->AR P ops rest Q n ((d,.slice (jk b) m m)::F) w0 (rowW (jk b) T 1 m m (bL (List.replicate m false))::L)) :
    AR P ops (⟨some d,.makeSlice t x y,ty,p,af,none⟩::rest) Q n F w0 L:=AR.makeRow ht hx hy hm hb hd λb ho=>by
  have h:=next b ho
  unfold bL at h
  rw [List.map_replicate] at h
  exact h
end
section
variable {P:Program} {n:Nat} {F:List (Nat×Value)} {w0:BC} {L:List As} {x:Operand} {d:Option Tmp} {t:TypeId} {p:String} {af:Array Edge} {g:Option (Nat×Bool)}
theorem NQ {tx e:TypeId} {b off len k:Nat} (hx:evF F x=some (.pointer (some ⟨b,off,none⟩))) (hu:P.underlying tx=some (.array len e)) (hs:∀w,(sizeOf e).run P w=.ok k w) (h0:0<len) :
    Ex P n F w0 L ⟨d,.slice tx x none none none,t,p,af,g⟩ (.slice (some ⟨b,off,none⟩) len len):=λA w ha _=>by
  have e1:¬len=0:=by omega
  simp [execOp,ha.ev hx,Instr.sliceAt,run_underlying hu,Instr.sureAddr,Instr.sliceBounds,Instr.sliceBound,hs,e1,Addr.add_lit]
end
theorem YQ {S:Nat->Prop} {w:World} {ts:List T3} {x:RX (rowsL Ac ts) ts.length} (h:Ro S w x) {j:Nat} (hj:j<ts.length) (ok:Ay (some ⟨pB x.p,pO x.p+j*3,none⟩) 3 3):Ro S w (⟨some ⟨pB x.p,pO x.p+j*3,none⟩,3,ok⟩:RX (Ac (ts.getD j (0,0,0))) 3):=λy hy=>by
  rcases xO.1 hy with rfl
  obtain ⟨h1,h2⟩:=h (AF x.p (rowsL Ac ts)) (xO.2 rfl)
  obtain ⟨a,hp⟩:∃a,x.p=some a:=by
    cases hp:x.p with
    | none=>have:=(x.ok.nil hp).1;omega
    | some a=>exact ⟨a,rfl⟩
  have e:(some (⟨pB x.p,pO x.p+j*3,none⟩:Addr)).map (·.block)=x.p.map (·.block):=by rw [hp];rfl
  refine ⟨λb hb=>?_,λb hb=>h2 b (e.symm.trans hb)⟩
  obtain ⟨o,ho,cur,T,fr,rfl,hc⟩:=h1 b (e.symm.trans hb)
  refine ⟨_,ho,cur,T,fr,rfl,?_⟩
  have hl:=Af Aq (0,0,0) ts j hj
  have hz:=AS Aq ts
  show (cur.toList.drop (pO x.p+j*3)).take 3=_
  refine Eq.trans ?_ hl
  refine Eq.trans ?_ (congrArg (λl:List Value=>(l.drop (j*3)).take 3) hc)
  show _=(((cur.toList.drop (pO x.p)).take (rowsL Ac ts).length).drop (j*3)).take 3
  rw [List.drop_take,List.take_take,List.drop_drop]
  congr 1
  omega
theorem Zz (b o:Nat):Ay (some ⟨b,o,none⟩) 3 3:=⟨λe=>(by cases e),λa e=>(by injection e with e;subst e;rfl),Nat.le_refl _⟩
end
def WN (ps:List Pt) (t:T3):Rat:=AN (cor ps t.1) (cor ps t.2.1) (cor ps t.2.2)*(1/2)
theorem RZ {ps:List Pt} (hz:∀k,Bc (cor ps k)<=1000) (t:T3):Sz (WN ps t)<=8009:=by
  have h1:=EX (cor ps t.1) (cor ps t.2.1) (cor ps t.2.2)
  have z1:=hz t.1
  have z2:=hz t.2.1
  have z3:=hz t.2.2
  have h2:=Cv (AN (cor ps t.1) (cor ps t.2.1) (cor ps t.2.2)) (1/2)
  have h3:=Qg
  unfold WN
  omega
section
section
variable {ts:List T3} {ps:List Pt} {p:Int} {i:Nat}
end
end
section
def dt (a b:Pt):Rat:=a.x*b.y-a.y*b.x
theorem NN (a b:Pt):dt a b = -dt b a:=by unfold dt;grind
theorem KA (a:Pt):dt a a=0:=by unfold dt;grind
theorem H2 {c z:Rat} (hc:0<c) (h:0<=z*c):0<=z:=Hm hc (by rw [Rat.mul_comm];exact h)
theorem XO {u:Pt} (h:∀z,dt u z=0):u=⟨0,0⟩:=by
  have h1:=h ⟨0,1⟩;have h2:=h ⟨1,0⟩
  obtain ⟨x,y⟩:=u
  unfold dt at h1 h2
  simp only at h1 h2
  have e1:x=0:=by grind
  have e2:y=0:=by grind
  rw [e1,e2]
section
variable {p q r s u w:Pt}
def dK (p q r s w x:Pt):Prop:=0<=dt p x/\0<=dt x q/\0<=dt r x/\0<=dt x s/\0<=dt x w
theorem RL {x:Pt} {k l:Rat} (hk:0<k) (hl:0<l) (h:∀z,k*dt u z=l*dt x z) (hp:0<=dt p u) (hq:0<=dt u q) (hr:0<=dt r u) (hs:0<=dt u s) (hw:0<=dt u w):dK p q r s w x:=by
  have key:∀z,0<=dt u z->0<=dt x z:=λz hz=>Hm hl (by rw [<-h];exact Rat.mul_nonneg (Rat.le_of_lt hk) hz)
  have key2:∀z,0<=dt z u->0<=dt z x:=λz hz=>by
    rw [NN z x];rw [NN z u] at hz
    have e:=h z
    have h1:0<=k * -dt u z:=Rat.mul_nonneg (Rat.le_of_lt hk) hz
    exact Hm hl (by grind)
  exact ⟨key2 _ hp,key _ hq,key2 _ hr,key _ hs,key _ hw⟩
theorem Vj (hpq:0<dt p q) (hu:u≠⟨0,0⟩) (hp:0<=dt p u) (hq:0<=dt u q) (h:dt p u=0\/dt u q=0):∃x k l,(x=p\/x=q)/\0<k/\0<l/\∀z,k*dt u z=l*dt x z:=by
  have cr:∀z,dt p q*dt u z=dt u q*dt p z+dt p u*dt q z:=λz=>by unfold dt;grind
  have ne:¬(dt p u=0/\dt u q=0):=λ⟨a,b⟩=>hu (XO λz=>by
    have e:=cr z
    rw [a,b] at e
    have:dt p q*dt u z=0:=by grind
    rcases Rat.mul_eq_zero.1 this with c|c
    · rw [c] at hpq;exact absurd hpq (Rat.lt_irrefl)
    · exact c)
  rcases h with h|h
  · exact ⟨p,dt p q,dt u q,.inl O,hpq,by grind,λz=>by rw [cr,h];grind⟩
  · exact ⟨q,dt p q,dt p u,.inr O,hpq,by grind,λz=>by rw [cr,h];grind⟩
theorem UD (hpq:0<dt p q) (hrs:0<dt r s) (hu:u≠⟨0,0⟩) (hp:0<=dt p u) (hq:0<=dt u q) (hr:0<=dt r u) (hs:0<=dt u s) (hw:0<=dt u w):∃x,(x=p\/x=q\/x=r\/x=s)/\dK p q r s w x:=by
  by_cases d1:dt p u=0\/dt u q=0
  · obtain ⟨x,k,l,hx,hk,hl,h⟩:=Vj hpq hu hp hq d1
    exact ⟨x,hx.elim .inl (λe=>.inr (.inl e)),RL hk hl h hp hq hr hs hw⟩
  by_cases d2:dt r u=0\/dt u s=0
  · obtain ⟨x,k,l,hx,hk,hl,h⟩:=Vj hrs hu hr hs d2
    exact ⟨x,.inr (.inr hx),RL hk hl h hp hq hr hs hw⟩
  have p1:0<dt p u:=by grind
  have p2:0<dt u q:=by grind
  have p3:0<dt r u:=by grind
  have p4:0<dt u s:=by grind
  have mn:∀{a b:Rat},0<=a->0<=b->0<=a*b:=λa b=>Rat.mul_nonneg a b
  have X:∃x,(x=p\/x=q\/x=r\/x=s)/\0<dt x u/\0<=dt p x/\0<=dt x q/\0<=dt r x/\0<=dt x s:=by
    by_cases c:0<=dt p r
    · have h1:0<=dt r q*dt p u:=by
        have e:dt r q*dt p u=dt p r*dt u q+dt r u*dt p q:=by unfold dt;grind
        have:=mn c hq;have:=mn hr (Rat.le_of_lt hpq);grind
      exact ⟨r,.inr (.inr (.inl O)),p3,c,H2 p1 h1,by rw [KA];exact Rat.le_refl,Rat.le_of_lt hrs⟩
    · have c':0<=dt r p:=by rw [NN r p];grind
      have h1:0<=dt p s*dt r u:=by
        have e:dt p s*dt r u=dt r p*dt u s+dt p u*dt r s:=by unfold dt;grind
        have:=mn c' hs;have:=mn hp (Rat.le_of_lt hrs);grind
      exact ⟨p,.inl O,p1,by rw [KA];exact Rat.le_refl,Rat.le_of_lt hpq,c',H2 p3 h1⟩
  have Y:∃x,(x=p\/x=q\/x=r\/x=s)/\0<dt u x/\0<=dt p x/\0<=dt x q/\0<=dt r x/\0<=dt x s:=by
    by_cases c:0<=dt q s
    · have h1:0<=dt r q*dt u s:=by
        have e:dt r q*dt u s=dt r u*dt q s+dt r s*dt u q:=by unfold dt;grind
        have:=mn hr c;have:=mn (Rat.le_of_lt hrs) hq;grind
      exact ⟨q,.inr (.inl O),p2,Rat.le_of_lt hpq,by rw [KA];exact Rat.le_refl,H2 p4 h1,c⟩
    · have c':0<=dt s q:=by rw [NN s q];grind
      have h1:0<=dt p s*dt u q:=by
        have e:dt p s*dt u q=dt p u*dt s q+dt p q*dt u s:=by unfold dt;grind
        have:=mn hp c';have:=mn (Rat.le_of_lt hpq) hs;grind
      exact ⟨s,.inr (.inr (.inr O)),p4,H2 p2 h1,c',Rat.le_of_lt hrs,by rw [KA];exact Rat.le_refl⟩
  obtain ⟨x,hx,x0,x1,x2,x3,x4⟩:=X
  obtain ⟨y,hy,y0,y1,y2,y3,y4⟩:=Y
  have hxy:0<=dt x y*dt p u:=by
    have e:dt x y*dt p u=dt p x*dt u y+dt x u*dt p y:=by unfold dt;grind
    have:=mn x1 (Rat.le_of_lt y0);have:=mn (Rat.le_of_lt x0) y1;grind
  have hxy:=H2 p1 hxy
  by_cases a:0<=dt x w
  · exact ⟨x,hx,x1,x2,x3,x4,a⟩
  by_cases b:0<=dt y w
  · exact ⟨y,hy,y1,y2,y3,y4,b⟩
  exfalso
  have e:dt x y*dt u w=dt u y*dt x w+dt x u*dt y w:=by unfold dt;grind
  have h1:=mn hxy hw
  have h2:0<dt u y * -dt x w:=Rat.mul_pos y0 (by grind)
  have h3:0<dt x u * -dt y w:=Rat.mul_pos x0 (by grind)
  grind
end
def PM (a b c d e f:Pt):Prop:=(AN a b d<=0/\AN a b e<=0/\AN a b f<=0)\/(AN b c d<=0/\AN b c e<=0/\AN b c f<=0)\/(AN c a d<=0/\AN c a e<=0/\AN c a f<=0)
def Ey (a b:Pt):Pt:=⟨a.x-b.x,a.y-b.y⟩
section
variable {a b c d e f u:Pt}
theorem Z0 (hA:0<AN a b c) (hB:0<AN d e f) (hu:u≠⟨0,0⟩) (h1:dt u a<=dt u b) (h2:dt u a<=dt u c) (h3:dt u e<=dt u d) (h4:dt u f<=dt u d) (h5:dt u d<=dt u a) :
    (AN a b d<=0/\AN a b e<=0/\AN a b f<=0)\/(AN c a d<=0/\AN c a e<=0/\AN c a f<=0)\/(AN d e a<=0/\AN d e b<=0/\AN d e c<=0)\/(AN f d a<=0/\AN f d b<=0/\AN f d c<=0):=by
  have key:=UD (p:=Ey a c) (q:=Ey b a) (r:=Ey f d) (s:=Ey d e) (u:=u) (w:=Ey a d) (by simp only [Ck] at hA;unfold dt Ey;grind) (by simp only [Ck] at hB;unfold dt Ey;grind) hu
    (by unfold dt Ey at *;grind) (by unfold dt Ey at *;grind) (by unfold dt Ey at *;grind) (by unfold dt Ey at *;grind) (by unfold dt Ey at *;grind)
  clear h1 h2 h3 h4 h5 hA hB hu
  obtain ⟨x,hx,k1,k2,k3,k4,k5⟩:=key
  simp only [Ck]
  unfold dt Ey at k1 k2 k3 k4 k5
  rcases hx with rfl|rfl|rfl|rfl
  · right;left;simp only at k1 k2 k3 k4 k5;unfold Ey at *;simp only at k1 k2 k3 k4 k5;refine ⟨?_,?_,?_⟩<;>grind
  · left;simp only at k1 k2 k3 k4 k5;unfold Ey at *;simp only at k1 k2 k3 k4 k5;refine ⟨?_,?_,?_⟩<;>grind
  · right;right;right;simp only at k1 k2 k3 k4 k5;unfold Ey at *;simp only at k1 k2 k3 k4 k5;refine ⟨?_,?_,?_⟩<;>grind
  · right;right;left;simp only at k1 k2 k3 k4 k5;unfold Ey at *;simp only at k1 k2 k3 k4 k5;refine ⟨?_,?_,?_⟩<;>grind
theorem KO (a b c:Pt):AN b c a=AN a b c:=by simp only [Ck];grind
def ae (u:Pt) (k:Rat) (a b c d e f:Pt):Prop:=(k<=dt u a/\k<=dt u b/\k<=dt u c)/\dt u d<=k/\dt u e<=k/\dt u f<=k
theorem ay (x y z:Rat):(x<=y/\x<=z)\/(y<=z/\y<=x)\/(z<=x/\z<=y):=by grind
theorem Z1 (hA:0<AN a b c) (hB:0<AN d e f) (hu:u≠⟨0,0⟩) (h1:dt u a<=dt u b) (h2:dt u a<=dt u c) (h3:dt u d<=dt u a) (h4:dt u e<=dt u a) (h5:dt u f<=dt u a):PM a b c d e f\/PM d e f a b c:=by
  rcases ay (-dt u d) (-dt u e) (-dt u f) with m|m|m
  · rcases Z0 hA hB hu h1 h2 (by grind) (by grind) h3 with k|k|k|k
    · exact .inl (.inl k)
    · exact .inl (.inr (.inr k))
    · exact .inr (.inl k)
    · exact .inr (.inr (.inr k))
  · rcases Z0 (d:=e) (e:=f) (f:=d) hA (by rw [KO];exact hB) hu h1 h2 (by grind) (by grind) h4 with k|k|k|k
    · exact .inl (.inl ⟨k.2.2,k.1,k.2.1⟩)
    · exact .inl (.inr (.inr ⟨k.2.2,k.1,k.2.1⟩))
    · exact .inr (.inr (.inl k))
    · exact .inr (.inl k)
  · rcases Z0 (d:=f) (e:=d) (f:=e) hA (by rw [<-KO];exact hB) hu h1 h2 (by grind) (by grind) h5 with k|k|k|k
    · exact .inl (.inl ⟨k.2.1,k.2.2,k.1⟩)
    · exact .inl (.inr (.inr ⟨k.2.1,k.2.2,k.1⟩))
    · exact .inr (.inr (.inr k))
    · exact .inr (.inr (.inl k))
theorem PM.rot1 (h:PM b c a d e f):PM a b c d e f:=by
  rcases h with k|k|k
  · exact .inr (.inl k)
  · exact .inr (.inr k)
  · exact .inl k
theorem PM.rot2 (h:PM d e f b c a):PM d e f a b c:=by
  rcases h with k|k|k
  · exact .inl ⟨k.2.2,k.1,k.2.1⟩
  · exact .inr (.inl ⟨k.2.2,k.1,k.2.1⟩)
  · exact .inr (.inr ⟨k.2.2,k.1,k.2.1⟩)
theorem eN {k:Rat} (hA:0<AN a b c) (hB:0<AN d e f) (hu:u≠⟨0,0⟩) (h:ae u k a b c d e f):PM a b c d e f\/PM d e f a b c:=by
  obtain ⟨⟨h1,h2,h3⟩,h4,h5,h6⟩:=h
  rcases ay (dt u a) (dt u b) (dt u c) with m|m|m
  · exact Z1 hA hB hu m.1 m.2 (by grind) (by grind) (by grind)
  · exact (Z1 (a:=b) (b:=c) (c:=a) (by rw [KO];exact hA) hB hu m.1 m.2 (by grind) (by grind) (by grind)).imp PM.rot1 PM.rot2
  · exact (Z1 (a:=c) (b:=a) (c:=b) (by rw [<-KO];exact hA) hB hu m.1 m.2 (by grind) (by grind) (by grind)).imp (λq=>q.rot1.rot1) (λq=>q.rot2.rot2)
end
end
section
def bQ (ts:List T3):Nat->List (P2×Nat)
  | 0=>[]
  | s+1=>Bl (bQ ts s) (Bw ts s) (s/3)
section
variable {ts:List T3} {N t r s:Nat}
end
structure SX (ts:List T3) (o:Bool) where
  b:Nat
  kvs:List (P2×Nat)
  ok:N8 X9 kvs
  fin:o=true->kvs=bQ ts (3*ts.length)
instance {ts:List T3} {o:Bool}:C4 (SX ts o):=⟨λx=>.tuple #[.map (some x.b),.bool o],λx=>[av x.b Jp vN x.kvs],λx y hy=>by rcases xO.1 hy with rfl;rfl⟩
end
section
section
variable {P:Program} {Q:Exit->Act->World->Prop} {n:Nat} {F:List (Nat×Value)} {w0:BC} {L:List As} {c x y:Code}
end
end
section
section
variable {ts:List T3} {N:Nat} {k k0:P2} {i:Nat}
end
section
variable {ts:List T3} {N:Nat} {k k0:P2} {i:Nat} {dn dn0:List (P2×Nat)} {l:List Nat}
end
section
variable {ts:List T3} {N i:Nat} {dn dn2:List (P2×Nat)} {wq:T3} {l:List Nat}
end
end
section
def UJ (s:T2):List (P2×P2):=[(s.1,s.2.1),(s.2.1,s.2.2),(s.2.2,s.1)]
def VV (s t:T2):Bool:=s == t||(UJ s).all λe=>(UJ t).all λf=>!(e == f)
def VW:Bool:=FA.all λp=>FA.all λq=>(decide (p.1=q.1/\p.2.1=q.2.1/\p.2.2≠q.2.2))||(O3 p.1 p.2.1 p.2.2).all λs=>(O3 q.1 q.2.1 q.2.2).all λt=>VV s t
theorem MD:VW=true:=by decide +kernel
theorem Vd {m:MQ} {s t:T2} (hs:s∈Av m) (ht:t∈Av m):VV s t=true:=by
  obtain ⟨i,hi,h1⟩:=DO m _ s hs
  obtain ⟨j,hj,h2⟩:=DO m _ t ht
  have hx:=H4 m
  have hy:=H5 m
  have b:∀k,k<Em m*QG m->k%Em m<=2/\k/Em m<=2:=λk hk=>by
    have a1:=Nat.mod_lt k (show 0<Em m by omega)
    have a2:k/Em m<QG m:=Nat.div_lt_of_lt_mul hk
    omega
  rw [Iw] at h1 h2
  have h:=List.all_eq_true.1 (List.all_eq_true.1 MD _ (De (b i hi).1 (b i hi).2 (HJ (GC m i) i))) _ (De (b j hj).1 (b j hj).2 (HJ (GC m j) j))
  rw [yy,xV] at h
  rcases h with ⟨e1,e2,e3⟩|h
  · exfalso
    have e:i=j:=by rw [<-Nat.div_add_mod i (Em m),<-Nat.div_add_mod j (Em m),show i%Em m=j%Em m from e1,show i/Em m=j/Em m from e2]
    subst e
    exact e3 O
  · exact List.all_eq_true.1 (List.all_eq_true.1 h s h1) t h2
theorem Ty {c:T2} (h:0<Bs c.1 c.2.1 c.2.2):∃x y:Rat,Wj c x y:=by
  obtain ⟨⟨a1,a2⟩,⟨b1,b2⟩,⟨c1,c2⟩⟩:=c
  have h2:(0:Rat)<(Bs (a1,a2) (b1,b2) (c1,c2):Int):=by exact_mod_cast h
  have e:((Bs (a1,a2) (b1,b2) (c1,c2):Int):Rat)=((b1:Rat)-a1)*((c2:Rat)-a2)-((b2:Rat)-a2)*((c1:Rat)-a1):=by
    simp only [Bs,Rat.intCast_sub,Rat.intCast_mul,Rat.intCast_natCast]
  rw [e] at h2
  refine ⟨((a1:Rat)+b1+c1)/3,((a2:Rat)+b2+c2)/3,?_,?_,?_⟩<;>simp only [KF]<;>grind
section
variable {ps:List Pt} {ts:List T3}
theorem XM (c:T2) {k:Nat} (hk:k<3):(Cn c k,Cn c ((k+1)%3))∈UJ c:=by
  have e:k=0\/k=1\/k=2:=by omega
  rcases e with rfl|rfl|rfl<;>simp [UJ,Cn]
theorem Lo {m:MQ} {pl:List P2} {n:T3} {t:Nat} (h:JT m pl n t) {r:Nat} (hr:r<3):pl.getD (FV n r) (0,0)=Ai m t r:=by
  have e:r=0\/r=1\/r=2:=by omega
  rcases e with rfl|rfl|rfl
  · exact h.a.2
  · exact h.b.2
  · exact h.c.2
theorem UI (g:E_ ps ts) (hn:Be ps.length ts=true) {u v:Nat} (hu:u<3*ts.length) (hv:v<3*ts.length) (h:Bw ts u=Bw ts v):u=v:=by
  obtain ⟨m,pl,hi,_,_⟩:=g.lat
  have htl:=hi.tl
  have key:∀w,w<3*ts.length->(pl.getD (Bw ts w).1 (0,0),pl.getD (Bw ts w).2 (0,0))∈UJ ((Av m).getD (w/3) ((0,0),(0,0),(0,0))):=λw hw=>by
    have ha:=hi.at_ (w/3) Z
    have e1:=Lo ha (Nat.mod_lt w (show 0<3 by decide))
    have e2:=Lo ha (Nat.mod_lt (w%3+1) (show 0<3 by decide))
    unfold Bw
    rw [e1,e2]
    unfold Ai
    rw [show G4 m (w/3) ((w%3+1)%3)=(G4 m (w/3) (w%3)+1)%3 by unfold G4;omega]
    exact XM _ (by unfold G4;exact Nat.mod_lt _ jY)
  have cell:∀w,w<3*ts.length->(Av m).getD (w/3) ((0,0),(0,0),(0,0))∈Av m:=λw hw=>by
    rw [List.getD,xP Z];exact List.getElem_mem _
  have h1:=key u hu
  have h2:=key v hv
  rw [<-h] at h2
  have h3:=Vd (cell u hu) (cell v hv)
  have h4:u/3=v/3:=by
    simp only [VV,yy,beq_iff_eq] at h3
    rcases h3 with h3|h3
    · by_cases e:u/3=v/3
      · exact e
      · exfalso
        obtain ⟨x,y,ho⟩:=Ty (Fu m _ (cell u hu)).1
        refine Iy m (show u/3<(Av m).length by omega) (show v/3<(Av m).length by omega) e ((0,0),(0,0),(0,0)) x y ho ?_
        rw [<-h3]
        exact ⟨by have:=ho.1;grind,by have:=ho.2.1;grind,by have:=ho.2.2;grind⟩
    · have h5:=List.all_eq_true.1 (List.all_eq_true.1 h3 _ h1) _ h2
      simp at h5
  have hne:=QI (Cb hn (show u/3<ts.length by omega))
  have e1:(Bw ts u).1=(Bw ts v).1:=by rw [h]
  unfold Bw at e1
  rw [<-h4] at e1
  generalize ts.getD (u/3) (0,0,0)=t at *
  have a:u%3=0\/u%3=1\/u%3=2:=by omega
  have b:v%3=0\/v%3=1\/v%3=2:=by omega
  have e2:u%3=v%3:=by
    rcases a with a|a|a<;>rcases b with b|b|b<;>rw [a,b]<;>rw [a,b] at e1<;>simp [FV] at e1<;>omega
  omega
end
end
section
def UO (A B:P2) (t:T2):Bool:=decide (Bs A B t.1<=0)&&decide (Bs A B t.2.1<=0)&&decide (Bs A B t.2.2<=0)
def Vw (s t:T2):Bool:=UO s.1 s.2.1 t||UO s.2.1 s.2.2 t||UO s.2.2 s.1 t
def VX (s t:T2):Bool:=s == t||(Vw s t||Vw t s)
def VY:Bool:=FA.all λp=>FA.all λq=>(decide (p.1=q.1/\p.2.1=q.2.1/\p.2.2≠q.2.2))||(O3 p.1 p.2.1 p.2.2).all λs=>(O3 q.1 q.2.1 q.2.2).all λt=>VX s t
theorem ME:VY=true:=by decide +kernel
theorem Ve {m:MQ} {s t:T2} (hs:s∈Av m) (ht:t∈Av m):VX s t=true:=by
  obtain ⟨i,hi,h1⟩:=DO m _ s hs
  obtain ⟨j,hj,h2⟩:=DO m _ t ht
  have hx:=H4 m
  have hy:=H5 m
  have b:∀k,k<Em m*QG m->k%Em m<=2/\k/Em m<=2:=λk hk=>by
    have a1:=Nat.mod_lt k (show 0<Em m by omega)
    have a2:k/Em m<QG m:=Nat.div_lt_of_lt_mul hk
    omega
  rw [Iw] at h1 h2
  have h:=List.all_eq_true.1 (List.all_eq_true.1 ME _ (De (b i hi).1 (b i hi).2 (HJ (GC m i) i))) _ (De (b j hj).1 (b j hj).2 (HJ (GC m j) j))
  rw [yy,xV] at h
  rcases h with ⟨e1,e2,e3⟩|h
  · exfalso
    have e:i=j:=by rw [<-Nat.div_add_mod i (Em m),<-Nat.div_add_mod j (Em m),show i%Em m=j%Em m from e1,show i/Em m=j/Em m from e2]
    subst e
    exact e3 O
  · exact List.all_eq_true.1 (List.all_eq_true.1 h s h1) t h2
theorem NO {A B:P2} {t:T2} (h:UO A B t=true):∀q,q<3->Bs A B (Cn t q)<=0:=by
  simp only [UO,yz,xV] at h
  intro q hq
  have e:q=0\/q=1\/q=2:=by omega
  rcases e with rfl|rfl|rfl
  · exact h.1.1
  · exact h.1.2
  · exact h.2
theorem Z2 {s t:T2} (h:Vw s t=true) (hp:0<Bs s.1 s.2.1 s.2.2):∃A B X:P2,0<Bs A B X/\(∀q,q<3->0<=Bs A B (Cn s q))/\∀q,q<3->Bs A B (Cn t q)<=0:=by
  have hs:∀A B C:P2,0<Bs A B C->(A=s.1/\B=s.2.1/\C=s.2.2\/A=s.2.1/\B=s.2.2/\C=s.1\/A=s.2.2/\B=s.1/\C=s.2.1)->∀q,q<3->0<=Bs A B (Cn s q):=λA B C hc he q hq=>by
    have e:q=0\/q=1\/q=2:=by omega
    have s1:=(DW A B).2.1
    have s2:=(DW A B).2.2
    rcases he with ⟨rfl,rfl,rfl⟩|⟨rfl,rfl,rfl⟩|⟨rfl,rfl,rfl⟩<;>rcases e with rfl|rfl|rfl<;>simp only [Cn,if_true]<;>first|exact Int.le_of_lt hc|(simp;first|exact Int.le_of_lt hc|(rw [s1];exact Int.le_refl 0)|(have:=(DW s.1 s.2.1);have:=(DW s.2.1 s.2.2);have:=(DW s.2.2 s.1);unfold Bs at *;omega)|(unfold Bs;grind))
  simp only [Vw,yy] at h
  rcases h with (h|h)|h
  · exact ⟨_,_,_,hp,hs _ _ _ hp (.inl ⟨rfl,rfl,rfl⟩),NO h⟩
  · have hp':0<Bs s.2.1 s.2.2 s.1:=by rw [E8];exact hp
    exact ⟨_,_,_,hp',hs _ _ _ hp' (.inr (.inl ⟨rfl,rfl,rfl⟩)),NO h⟩
  · have hp':0<Bs s.2.2 s.1 s.2.1:=by rw [E8,E8];exact hp
    exact ⟨_,_,_,hp',hs _ _ _ hp' (.inr (.inr ⟨rfl,rfl,rfl⟩)),NO h⟩
def Ln (ps:List Pt) (s t:T3):Prop:=∃(u:Pt) (k:Rat),u≠⟨0,0⟩/\ae u k (cor ps s.1) (cor ps s.2.1) (cor ps s.2.2) (cor ps t.1) (cor ps t.2.1) (cor ps t.2.2)
theorem Ln.symm {ps:List Pt} {s t:T3} (h:Ln ps s t):Ln ps t s:=by
  obtain ⟨u,k,hu,⟨h1,h2,h3⟩,h4,h5,h6⟩:=h
  have ng:∀a,dt ⟨-u.x,-u.y⟩ a = -dt u a:=λa=>by unfold dt;grind
  refine ⟨⟨-u.x,-u.y⟩,-k,λe=>hu ?_,⟨?_,?_,?_⟩,?_,?_,?_⟩
  · obtain ⟨x,y⟩:=u
    injection e with e1 e2
    simp only at e1 e2
    rw [show x=0 by grind,show y=0 by grind]
  all_goals rw [ng];grind
section
variable {ps:List Pt} {ts:List T3}
theorem VA (g:E_ ps ts) {i j:Nat} (hi:i<ts.length) (hj:j<ts.length) (hne:i≠j):Ln ps (ts.getD i (0,0,0)) (ts.getD j (0,0,0)):=by
  obtain ⟨m,pl,l⟩:=g.lattice
  obtain ⟨c,hc,hT⟩:=Oj (Fb m.a m.b m.c m.d) (B7 m)
  have hlen:=l.inv.tl
  have dz:T2:=((0,0),(0,0),(0,0))
  have key:∀i j,i<ts.length->j<ts.length->Vw ((Av m).getD i ((0,0),(0,0),(0,0))) ((Av m).getD j ((0,0),(0,0),(0,0)))=true->Ln ps (ts.getD i (0,0,0)) (ts.getD j (0,0,0)):=λi j hi hj h=>by
    obtain ⟨A,B,X,hX,hs,ht⟩:=Z2 h (Fu m _ (l.cell hi)).1
    have pt:∀k,k<ts.length->∀r,r<3->∃q,q<3/\cor ps (FV (ts.getD k (0,0,0)) r)=PQ (mapM m) (B7 m) ((Cn ((Av m).getD k ((0,0),(0,0),(0,0))) q).1:Rat) ((Cn ((Av m).getD k ((0,0),(0,0),(0,0))) q).2:Rat):=λk hk r hr=>by
      have hat:=l.inv.at_ k Z
      have e:=Lo hat hr
      have hlt:FV (ts.getD k (0,0,0)) r<pl.length:=by
        have er:r=0\/r=1\/r=2:=by omega
        rcases er with rfl|rfl|rfl
        · exact hat.a.1
        · exact hat.b.1
        · exact hat.c.1
      refine ⟨G4 m k r,Nat.mod_lt _ jY,?_⟩
      show ps.getD _ ⟨0,0⟩=_
      rw [l.at_ _ hlt,JS,e]
      rfl
    have q2:∀C:P2,AN (CM (Gm (mapM m) (B7 m) A)) (CM (Gm (mapM m) (B7 m) B)) (PQ (mapM m) (B7 m) (C.1:Rat) (C.2:Rat))=c*((Bs A B C:Int):Rat):=λC=>by
      rw [show mapM m=Gl m.a m.b m.c m.d from rfl,hT]
      congr 1
      simp only [KF,Bs,Rat.intCast_sub,Rat.intCast_mul,Rat.intCast_natCast]
    have dq:∀P:Pt,AN (CM (Gm (mapM m) (B7 m) A)) (CM (Gm (mapM m) (B7 m) B)) P=dt (Ey (CM (Gm (mapM m) (B7 m) B)) (CM (Gm (mapM m) (B7 m) A))) P-dt (Ey (CM (Gm (mapM m) (B7 m) B)) (CM (Gm (mapM m) (B7 m) A))) (CM (Gm (mapM m) (B7 m) A)):=λP=>by
      simp only [Ck,dt,Ey];grind
    have lf:∀r,r<3->dt (Ey (CM (Gm (mapM m) (B7 m) B)) (CM (Gm (mapM m) (B7 m) A))) (CM (Gm (mapM m) (B7 m) A))<=dt (Ey (CM (Gm (mapM m) (B7 m) B)) (CM (Gm (mapM m) (B7 m) A))) (cor ps (FV (ts.getD i (0,0,0)) r)):=λr hr=>by
      obtain ⟨q,hq,e⟩:=pt i hi r hr
      have h1:=dq (cor ps (FV (ts.getD i (0,0,0)) r))
      rw [e,q2] at h1
      rw [e]
      have h2:(0:Rat)<=((Bs A B (Cn ((Av m).getD i ((0,0),(0,0),(0,0))) q):Int):Rat):=by exact_mod_cast hs q hq
      have h3:=Rat.mul_nonneg (Rat.le_of_lt hc) h2
      grind
    have rt:∀r,r<3->dt (Ey (CM (Gm (mapM m) (B7 m) B)) (CM (Gm (mapM m) (B7 m) A))) (cor ps (FV (ts.getD j (0,0,0)) r))<=dt (Ey (CM (Gm (mapM m) (B7 m) B)) (CM (Gm (mapM m) (B7 m) A))) (CM (Gm (mapM m) (B7 m) A)):=λr hr=>by
      obtain ⟨q,hq,e⟩:=pt j hj r hr
      have h1:=dq (cor ps (FV (ts.getD j (0,0,0)) r))
      rw [e,q2] at h1
      rw [e]
      have h2:(0:Rat) <= -((Bs A B (Cn ((Av m).getD j ((0,0),(0,0),(0,0))) q):Int):Rat):=by
        have h9:((Bs A B (Cn ((Av m).getD j ((0,0),(0,0),(0,0))) q):Int):Rat)<=0:=by exact_mod_cast ht q hq
        grind
      have h3:=Rat.mul_nonneg (Rat.le_of_lt hc) h2
      grind
    refine ⟨_,_,λe=>?_,⟨lf 0 jY,lf 1 jY,lf 2 jY⟩,rt 0 jY,rt 1 jY,rt 2 jY⟩
    have h1:=dq (PQ (mapM m) (B7 m) (X.1:Rat) (X.2:Rat))
    rw [q2,e] at h1
    have h2:(0:Rat)<((Bs A B X:Int):Rat):=by exact_mod_cast hX
    have h3:=Rat.mul_pos hc h2
    unfold dt at h1
    grind
  have h3:=Ve (l.cell hi) (l.cell hj)
  simp only [VX,yy,beq_iff_eq] at h3
  rcases h3 with h3|h3|h3
  · exfalso
    obtain ⟨x,y,ho⟩:=Ty (Fu m _ (l.cell hi)).1
    refine Iy m (show i<(Av m).length by omega) (show j<(Av m).length by omega) hne ((0,0),(0,0),(0,0)) x y ho ?_
    rw [<-h3]
    exact ⟨by have:=ho.1;grind,by have:=ho.2.1;grind,by have:=ho.2.2;grind⟩
  · exact key i j hi hj h3
  · exact (key j i hj hi h3).symm
end
end
section
section
variable {md:List (P2×Nat)} {N M n a b c e p:Nat} {k κ:P2} {T:T3} {ts ts':List T3}
end
end
end Go.Proofs.YtpolhpjiahbidaaGreatDoor
