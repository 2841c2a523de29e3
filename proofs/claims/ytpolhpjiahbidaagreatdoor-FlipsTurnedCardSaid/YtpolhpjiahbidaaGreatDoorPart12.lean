import Derived.Test.YtpolhpjiahbidaaGreatDoorPart11
namespace Go.Proofs.YtpolhpjiahbidaaGreatDoor
open Go Go.RowKit Go.Proofs.Tryz
open Go.Value renaming slice→qz,bool→qa
set_option linter.unusedVariables false
set_option linter.unusedSimpArgs false
section
def rowsL {α:Type} (enc:α->List Value) (xs:List α):List Value:=xs.flatMap enc
section
variable {α:Type} {enc:α->List Value} {z:Nat}
theorem Bd (xs ys:List α):rowsL enc (xs++ys)=rowsL enc xs++rowsL enc ys:=by simp [rowsL]
theorem AS (h:∀x,(enc x).length=z) (xs:List α):(rowsL enc xs).length=xs.length*z:=by
  induction xs with
  | nil=>simp [rowsL]
  | cons x r ih =>
    have e:rowsL enc (x::r)=enc x++rowsL enc r:=rfl
    rw [e,xL,ih,h,List.length_cons,Nat.add_mul];omega
theorem Af (h:∀x,(enc x).length=z) (d:α):∀(xs:List α) (j:Nat),j<xs.length->((rowsL enc xs).drop (j*z)).take z=enc (xs.getD j d)
  | x::r,0,_=>by
    have e:rowsL enc (x::r)=enc x++rowsL enc r:=rfl
    rw [e,Nat.zero_mul,List.drop_zero,List.take_append_of_le_length (by rw [h];exact Nat.le_refl _),List.take_of_length_le (by rw [h];exact Nat.le_refl _)];rfl
  | x::r,j+1,hj=>by
    have e:rowsL enc (x::r)=enc x++rowsL enc r:=rfl
    rw [e,show (j+1)*z=(enc x).length+j*z by rw [h,Nat.add_mul];omega,List.drop_append,List.drop_of_length_le Z,Nat.add_sub_cancel_left,List.nil_append,Af h d r j (by simpa using hj)];rfl
end
structure RX (cs:List Value) (n:Nat) where
  p:Option Addr
  c:Nat
  ok:Ay p n c
@[reducible] def RX.val {cs:List Value} {n:Nat} (a:RX cs n):Value:=.slice a.p n a.c
@[reducible] def RX.row {cs:List Value} {n:Nat} (a:RX cs n):As:=AF a.p cs
instance {cs:List Value} {n:Nat}:C4 (RX cs n):=⟨λa=>.slice a.p n a.c,λa=>[AF a.p cs],λa y hy=>by rcases xO.1 hy with rfl;rfl⟩
theorem cw {S:Nat->Prop} {W w:World} {L:List As} (hw:BD ⟨W,none⟩ w L) (i:Nat) {p:Option Addr} {T:TypeId} {z n c:Nat} {cs:List Value} (hi:L[i]?=some (rowW p T z n c cs)) (ho:OwnOk p n c) (hl:cs.length=n*z) {v:Value} (hv:v=.slice p n c):Bf (RX cs n) S W (.returned v) w:=by
  have hb:=hw.newRow hi
  refine ⟨⟨p,c,ho.row⟩,by rw [hv];rfl,hw.out,λy hy=>?_⟩
  rcases xO.1 hy with rfl
  refine ⟨λd e=>?_,λd e=>.inl (hb d e)⟩
  obtain ⟨_,o,ho2,hp⟩:=hw.2.1 _ (List.mem_of_getElem? hi) d e
  exact ⟨o,ho2,Dd ho hl hp⟩
def C5 (xs:List Nat):List Value:=xs.map λx=>Value.int .u8 (x:Nat)
theorem Tv {xs:List Nat} {j:Nat} (h:j<xs.length):(C5 xs)[j*1]?=some (.int .u8 ((xs.getD j 0:Nat):Int)):=by rw [Nat.mul_one];simp [C5,h]
structure MQ where
  nx:Nat
  ny:Nat
  cs:List Nat
  p:Option Addr
  cap:Nat
  a:Int
  b:Int
  c:Int
  d:Int
  den:Nat
  fst:Nat
  hx:nx<256
  hy:ny<256
  ha:-128<=a/\a<=127
  hb:-128<=b/\b<=127
  hc:-128<=c/\c<=127
  hd:-128<=d/\d<=127
  hden:den<256
  hfst:fst<256
  hcs:∀x∈cs,x<256
  ok:Ay p cs.length cap
def Eu (m:MQ):List Value:=[.int .u8 m.nx,.int .u8 m.ny,.slice m.p m.cs.length m.cap,.int .i8 m.a,.int .i8 m.b,.int .i8 m.c,.int .i8 m.d,.int .u8 m.den,.int .u8 m.fst]
instance:C4 MQ:=⟨λm=>aG (Eu m),λm=>[AF m.p (C5 m.cs)],λa y hy=>by rcases xO.1 hy with rfl;rfl⟩
theorem Ns {a b:Nat} (h:a<256):IntKind.u8.wrap ((a:Int).tdiv (b:Int))=((a/b:Nat):Int):=by
  have:a/b<=a:=Nat.div_le_self _ _
  rw [<-Int.ofNat_tdiv]
  generalize a/b=q at *
  exact N4 Z Z
theorem W4 {a b:Nat} (h:a+b<256):IntKind.u8.wrap ((a:Int)+(b:Int))=((a+b:Nat):Int):=by rw [N4 Z Z];omega
abbrev P2:=Nat×Nat
def Cx (nx way i:Nat):List (P2×P2×P2) :=
  let x:=2*(i%nx);let y:=2*(i/nx)
  if way<3\/(way=7/\i=0) then [((x,y),(x+2,y),(x+2,y+2)),((x,y),(x+2,y+2),(x,y+2))]
  else if way<5 then [((x,y),(x+2,y),(x,y+2)),((x+2,y),(x+2,y+2),(x,y+2))]
  else if way<7 then [((x,y),(x+2,y),(x+1,y+1)),((x+2,y),(x+2,y+2),(x+1,y+1)),((x+2,y+2),(x,y+2),(x+1,y+1)),((x,y+2),(x,y),(x+1,y+1))] else []
def Bs (p q r:P2):Int:=((q.1:Int)-p.1)*((r.2:Int)-p.2)-((q.2:Int)-p.2)*((r.1:Int)-p.1)
def Qh (t:P2×P2×P2):Prop:=0<Bs t.1 t.2.1 t.2.2/\(t.1.1<=6/\t.1.2<=6)/\(t.2.1.1<=6/\t.2.1.2<=6)/\(t.2.2.1<=6/\t.2.2.2<=6)
theorem Tx {nx ny way i:Nat} (hx:nx<=3) (hy:ny<=3) (hi:i<nx*ny):∀t∈Cx nx way i,Qh t:=by
  have h1:i%nx<=2:=by
    have:nx≠0:=λe=>by subst e;omega
    have:=Nat.mod_lt i (show 0<nx by omega)
    omega
  have h2:i/nx<=2:=by
    have:i/nx<ny:=Nat.div_lt_of_lt_mul (by rwa [Nat.mul_comm] at hi ⊢)
    omega
  intro t ht
  unfold Cx at ht
  generalize i%nx=u at *
  generalize i/nx=v at *
  have key:∀t:P2×P2×P2,t∈[((2*u,2*v),(2*u+2,2*v),(2*u+2,2*v+2)),((2*u,2*v),(2*u+2,2*v+2),(2*u,2*v+2)),((2*u,2*v),(2*u+2,2*v),(2*u,2*v+2)),((2*u+2,2*v),(2*u+2,2*v+2),(2*u,2*v+2)),
      ((2*u,2*v),(2*u+2,2*v),(2*u+1,2*v+1)),((2*u+2,2*v),(2*u+2,2*v+2),(2*u+1,2*v+1)),((2*u+2,2*v+2),(2*u,2*v+2),(2*u+1,2*v+1)),((2*u,2*v+2),(2*u,2*v),(2*u+1,2*v+1))]->Qh t:=by
    intro t ht
    simp only [xN,List.not_mem_nil,or_false] at ht
    rcases ht with rfl|rfl|rfl|rfl|rfl|rfl|rfl|rfl<;>refine ⟨?_,⟨?_,?_⟩,⟨?_,?_⟩,?_,?_⟩<;>dsimp only [Bs]<;>first|omega|grind
  refine key t ?_
  simp only at ht
  split at ht
  · simp only [xN,List.not_mem_nil,or_false] at ht ⊢;rcases ht with h|h<;>simp [h]
  · split at ht
    · simp only [xN,List.not_mem_nil,or_false] at ht ⊢;rcases ht with h|h<;>simp [h]
    · split at ht
      · simp only [xN,List.not_mem_nil,or_false] at ht ⊢;rcases ht with h|h|h|h<;>simp [h]
      · cases ht
theorem Rv (nx way i:Nat):(Cx nx way i).length<=4:=by
  unfold Cx;simp only;split
  · simp
  · split
    · simp
    · split<;>simp
theorem OL (nx way:Nat) (h:way<8):Cx nx way 0≠[]:=by
  unfold Cx;simp only;split
  · simp
  · split
    · simp
    · split
      · simp
      · rename_i h1 h2 h3;simp only [and_true,not_or] at h1;omega
section
variable {nx way i u v:Nat}
theorem W8 (hu:u=i%nx) (hv:v=i/nx) (h:way<3\/(way=7/\i=0)):Cx nx way i=[((2*u,2*v),(2*u+2,2*v),(2*u+2,2*v+2)),((2*u,2*v),(2*u+2,2*v+2),(2*u,2*v+2))]:=by
  subst hu;subst hv;exact if_pos h
theorem W9 (hu:u=i%nx) (hv:v=i/nx) (h0:¬(way<3\/(way=7/\i=0))) (h:way<5):Cx nx way i=[((2*u,2*v),(2*u+2,2*v),(2*u,2*v+2)),((2*u+2,2*v),(2*u+2,2*v+2),(2*u,2*v+2))]:=by
  subst hu;subst hv;exact (if_neg h0).trans (if_pos h)
theorem W_ (hu:u=i%nx) (hv:v=i/nx) (h0:¬(way<3\/(way=7/\i=0))) (h1:¬way<5) (h:way<7):Cx nx way i=[((2*u,2*v),(2*u+2,2*v),(2*u+1,2*v+1)),((2*u+2,2*v),(2*u+2,2*v+2),(2*u+1,2*v+1)),((2*u+2,2*v+2),(2*u,2*v+2),(2*u+1,2*v+1)),((2*u,2*v+2),(2*u,2*v),(2*u+1,2*v+1))]:=by
  subst hu;subst hv;exact (if_neg h0).trans ((if_neg h1).trans (if_pos h))
theorem XA (h0:¬(way<3\/(way=7/\i=0))) (h1:¬way<5) (h:¬way<7):Cx nx way i=[]:=(if_neg h0).trans ((if_neg h1).trans (if_neg h))
end
def A6 (p:P2):List Value:=[vN p.1,vN p.2]
theorem C7 (p:P2):(A6 p).length=2:=rfl
def A9 (t:P2×P2×P2):List Value:=A6 t.1++A6 t.2.1++A6 t.2.2
theorem F9 (t:P2×P2×P2):(A9 t).length=6:=rfl
def Ac (t:Tq3):List Value:=[vN t.1,vN t.2.1,vN t.2.2]
theorem Aq (t:Tq3):(Ac t).length=3:=rfl
def CW (z:Int×Int):List Value:=[.int .i64 z.1,.int .i64 z.2]
theorem F2 (z:Int×Int):(CW z).length=2:=rfl
def GC (m:MQ) (i:Nat):Nat:=if 0<m.cs.length then m.cs.getD (i%m.cs.length) 0%8 else 0
theorem Rb (m:MQ) (i:Nat):GC m i<8:=by unfold GC;split<;>omega
def Em (m:MQ):Nat:=1+m.nx%3
def QG (m:MQ):Nat:=1+m.ny%3
def EO (m:MQ):Nat->List (P2×P2×P2)
  | 0=>[]
  | i+1=>EO m i++Cx (Em m) (GC m i) i
def Av (m:MQ):List (P2×P2×P2):=EO m (Em m*QG m)
theorem H4 (m:MQ):1<=Em m/\Em m<=3:=by unfold Em;omega
theorem H5 (m:MQ):1<=QG m/\QG m<=3:=by unfold QG;omega
theorem Hu (m:MQ):∀i,(EO m i).length<=4*i
  | 0=>Nat.le_refl _
  | i+1=>by
    have h1:=Hu m i
    have h2:=Rv (Em m) (GC m i) i
    show (EO m i++Cx (Em m) (GC m i) i).length<=_
    rw [xL];omega
theorem MT (m:MQ):∀i,i<=Em m*QG m->∀t∈EO m i,Qh t
  | 0,_,t,ht=>by cases ht
  | i+1,hi,t,ht=>by
    rcases List.mem_append.1 ht with h|h
    · exact MT m i Z t h
    · exact Tx (H4 m).2 (H5 m).2 Z t h
theorem MS (m:MQ):∀i,1<=i->EO m i≠[]
  | 1,_=>by
    show []++Cx (Em m) (GC m 0) 0≠[]
    rw [List.nil_append];exact OL _ _ (Rb m 0)
  | i+2,_=>λe=>MS m (i+1) Z (List.append_eq_nil_iff.1 e).1
theorem Rw (m:MQ):Av m≠[]:=MS m _ (Nat.mul_pos (H4 m).1 (H5 m).1)
theorem Fu (m:MQ):∀t∈Av m,Qh t:=MT m _ (Nat.le_refl _)
theorem JW (m:MQ):Em m*QG m<=9:=Nat.mul_le_mul (H4 m).2 (H5 m).2
theorem Ht (m:MQ):(Av m).length<=36:=by
  have h1:=Hu m (Em m*QG m)
  have h2:=JW m
  unfold Av;omega
theorem DA {a b:Int} {k:Int} (ha:-3<=a/\a<=3) (hb:-k<=b/\b<=k):-(3*k)<=a*b/\a*b<=3*k:=by
  obtain ⟨h3,h4⟩:=ha
  have e:a = -3\/a = -2\/a = -1\/a=0\/a=1\/a=2\/a=3:=by omega
  rcases e with rfl|rfl|rfl|rfl|rfl|rfl|rfl<;>omega
def Wi (k:Int×Int×Int×Int):List Value:=[.int .i64 k.1,.int .i64 k.2.1,.int .i64 k.2.2.1,.int .i64 k.2.2.2]
structure DG where
  a:Int
  b:Int
  c:Int
  d:Int
def DG.det (k:DG):Int:=k.a*k.d-k.b*k.c
structure DG.Ok (k:DG):Prop where
  a:-3<=k.a/\k.a<=3
  b:-3<=k.b/\k.b<=3
  c:-3<=k.c/\k.c<=3
  d:-3<=k.d/\k.d<=3
  pos:0<k.det
def DG.at_ (k:DG) (p:P2):Int×Int:=(k.a*p.1+k.b*p.2,k.c*p.1+k.d*p.2)
def Gl (a b c d:Int):DG :=
  let k:DG:=⟨a.tmod 4,b.tmod 4,c.tmod 4,d.tmod 4⟩
  if k.det=0 then ⟨1,0,0,1⟩ else if k.det<0 then ⟨k.a,k.b,-k.c,-k.d⟩ else k
theorem Jk (a:Int):-3<=a.tmod 4/\a.tmod 4<=3:=by
  have h:=Int.tmod_eq_emod (a:=a) (b:=4)
  have h1:=Int.emod_nonneg a (show (4:Int)≠0 by decide)
  have h2:=Int.emod_lt_of_pos a (show (0:Int)<4 by decide)
  rw [h]
  split<;>omega
theorem Nn {a b c d A B C D:Int} (hA:A=a.tmod 4) (hB:B=b.tmod 4) (hC:C=c.tmod 4) (hD:D=d.tmod 4) (h:A*D-B*C=0):Gl a b c d=⟨1,0,0,1⟩:=by
  subst hA;subst hB;subst hC;subst hD;exact if_pos h
theorem Nl {a b c d A B C D:Int} (hA:A=a.tmod 4) (hB:B=b.tmod 4) (hC:C=c.tmod 4) (hD:D=d.tmod 4) (h:A*D-B*C<0):Gl a b c d=⟨A,B,-C,-D⟩:=by
  subst hA;subst hB;subst hC;subst hD;exact (if_neg (λe:a.tmod 4*d.tmod 4-b.tmod 4*c.tmod 4=0=>by rw [e] at h;omega)).trans (if_pos h)
theorem Nm {a b c d A B C D:Int} (hA:A=a.tmod 4) (hB:B=b.tmod 4) (hC:C=c.tmod 4) (hD:D=d.tmod 4) (h0:¬A*D-B*C=0) (h:¬A*D-B*C<0):Gl a b c d=⟨A,B,C,D⟩:=by
  subst hA;subst hB;subst hC;subst hD;exact (if_neg h0).trans (if_neg h)
theorem Fb (a b c d:Int):(Gl a b c d).Ok:=by
  have ha:=Jk a;have hb:=Jk b;have hc:=Jk c;have hd:=Jk d
  unfold Gl
  generalize a.tmod 4=a' at *
  generalize b.tmod 4=b' at *
  generalize c.tmod 4=c' at *
  generalize d.tmod 4=d' at *
  show (if a'*d'-b'*c'=0 then (⟨1,0,0,1⟩:DG) else if a'*d'-b'*c'<0 then ⟨a',b',-c',-d'⟩ else ⟨a',b',c',d'⟩).Ok
  by_cases h0:a'*d'-b'*c'=0
  · rw [if_pos h0];exact ⟨by decide,by decide,by decide,by decide,by decide⟩
  · rw [if_neg h0]
    by_cases h:a'*d'-b'*c'<0
    · rw [if_pos h];exact ⟨ha,hb,by dsimp only;omega,by dsimp only;omega,by show 0<a' * -d'-b' * -c';rw [Int.mul_neg,Int.mul_neg];omega⟩
    · rw [if_neg h];exact ⟨ha,hb,hc,hd,by show 0<a'*d'-b'*c';omega⟩
theorem To {k:DG} (h:k.Ok) {p:P2} (hp:p.1<=6/\p.2<=6):(-36<=(k.at_ p).1/\(k.at_ p).1<=36) /\ -36<=(k.at_ p).2/\(k.at_ p).2<=36:=by
  obtain ⟨x,y⟩:=p
  have key:∀(z:Int) (n:Nat),-3<=z/\z<=3->n<=6 -> -18<=z*n/\z*n<=18:=λz n h1 h2=>by
    obtain ⟨h3,h4⟩:=h1
    have e:z = -3\/z = -2\/z = -1\/z=0\/z=1\/z=2\/z=3:=by omega
    rcases e with rfl|rfl|rfl|rfl|rfl|rfl|rfl<;>omega
  have h1:=key k.a x h.a hp.1;have h2:=key k.b y h.b hp.2;have h3:=key k.c x h.c hp.1;have h4:=key k.d y h.d hp.2
  simp only [DG.at_]
  exact ⟨⟨Z,Z⟩,Z,Z⟩
def Gm (k:DG) (den:Nat) (p:P2):PD:=⟨⟨(k.at_ p).1,den⟩,⟨(k.at_ p).2,den⟩⟩
theorem Yg {k:DG} (h:k.Ok) (den:Nat) {p q r:P2} (ht:0<Bs p q r):0<AN (CM (Gm k den p)) (CM (Gm k den q)) (CM (Gm k den r)):=by
  have hD:0<(((max den 1:Nat):Int):Rat):=by exact_mod_cast (show (0:Int)<((max den 1:Nat):Int) by omega)
  have e:AN (CM (Gm k den p)) (CM (Gm k den q)) (CM (Gm k den r))=((k.det*Bs p q r:Int):Rat)*((((max den 1:Nat):Int):Rat)⁻¹*(((max den 1:Nat):Int):Rat)⁻¹):=by
    simp only [Ck,CM,Gm,N_,DG.at_,DG.det,Bs,Rat.div_def,Rat.intCast_add,Rat.intCast_mul,Rat.intCast_sub]
    generalize (((max den 1:Nat):Int):Rat)⁻¹=D
    grind
  rw [e]
  have h1:0<k.det*Bs p q r:=Int.mul_pos h.pos ht
  have h2:(0:Rat)<((k.det*Bs p q r:Int):Rat):=by exact_mod_cast h1
  have h3:=Rat.inv_pos.2 hD
  exact Rat.mul_pos h2 (Rat.mul_pos h3 h3)
end
section
set_option maxRecDepth 100000
theorem WE:ElemT prog 234 236 6 48:=⟨underlying234,FC jV⟩
theorem C9 (x0 x1:Nat):Instr.fill (λi=>some (i*1,1)) (A6 ((0,0):P2)).toArray [(0,vN x0),(1,vN x1)]=some (A6 (x0,x1)).toArray:=by kernel_rfl
theorem B6 (x0 x1 x2:P2):Instr.fill (λi=>some (i*2,2)) (A9 (((0,0),(0,0),(0,0)):P2×P2×P2)).toArray [(0,.agg (A6 x0).toArray),(1,.agg (A6 x1).toArray),(2,.agg (A6 x2).toArray)]=some (A9 (x0,x1,x2)).toArray:=by kernel_rfl
theorem Gi (x0 x1:P2×P2×P2):Instr.fill (λi=>some (i*6,6)) ((Array.range (2*6)).map ((Value.agg (A9 (((0,0),(0,0),(0,0)):P2×P2×P2)).toArray).cells[·%(Value.agg (A9 (((0,0),(0,0),(0,0)):P2×P2×P2)).toArray).cells.size]!)) [(0,.agg (A9 x0).toArray),(1,.agg (A9 x1).toArray)]=some (A9 x0++A9 x1).toArray:=by kernel_rfl
theorem Jz (x0 x1 x2 x3:P2×P2×P2):Instr.fill (λi=>some (i*6,6)) ((Array.range (4*6)).map ((Value.agg (A9 (((0,0),(0,0),(0,0)):P2×P2×P2)).toArray).cells[·%(Value.agg (A9 (((0,0),(0,0),(0,0)):P2×P2×P2)).toArray).cells.size]!)) [(0,.agg (A9 x0).toArray),(1,.agg (A9 x1).toArray),(2,.agg (A9 x2).toArray),(3,.agg (A9 x3).toArray)]=some (A9 x0++A9 x1++A9 x2++A9 x3).toArray:=by kernel_rfl
set_option maxHeartbeats 1000000 in
theorem SP (m:MQ) (w:World) {S:Nat->Prop} (hm:Ro S w m):Calls prog 164 #[(aG (Eu m))] w (Bf (RX (rowsL A9 (Av m)) (Av m).length) S w):=by
 obtain ⟨X,hX⟩:∃X,X=Em m:=⟨_,rfl⟩
 obtain ⟨Y,hY⟩:∃Y,Y=QG m:=⟨_,rfl⟩
 have hx1:=H4 m
 have hy1:=H5 m
 have hxy:=JW m
 rw [<-hX] at hx1 hxy
 rw [<-hY] at hy1 hxy
 have lm:=Da (W:=w) hm
 refine Ah (args:=[(aG (Eu m))]) (L:=[AF m.p (C5 m.cs)]) func164 O O (BA O) (Db hm A7) (zM (sL [0] O) (q4 (BV (cs:=Eu m) O λb1=>asg' O (q3 (sL [1,2] O) (AD (v:=(pP b1 0)) (AA O underlying90 O sizeOf5 O) O (BF 0 (vK .u8 m.nx) WG O (AD (CB (c:=((m.nx%3:Nat):Int)) O O Z (Ij (a:=m.nx) (b:=3))) O (AD (Au (c:=((m.nx%3:Nat):Int)) O underlying5 underlying3 (CJ Z)) O (AD (AT (c:=((1+(m.nx%3):Nat):Int)) O O (AV (a:=1) (b:=m.nx%3) Z)) O (zI (k:=19) (u:=(vN X)) O (by rw [hX];rfl) ?_))))))))))
 refine asg' O (q3 (sL [1,2,3] O) (AD (v:=(pP b1 1)) (AA O underlying90 O sizeOf5 O) O (BF 0 (vK .u8 m.ny) WG O (AD (CB (c:=((m.ny%3:Nat):Int)) O O Z (Ij (a:=m.ny) (b:=3))) O (AD (Au (c:=((m.ny%3:Nat):Int)) O underlying5 underlying3 (CJ Z)) O (AD (AT (c:=((1+(m.ny%3):Nat):Int)) O O (AV (a:=1) (b:=m.ny%3) Z)) O (zI (k:=24) (u:=(vN Y)) O (by rw [hY];rfl) (asg' O (q3 (sL [1,2,3,4] O) (asg' O (zo 236 6 ?_)))))))))))
 refine oNl' (q1 (q4 (asg' O (oNl' (zA (zJ ?_))))))
 refine yS (tg λ(i:Nat) (p:Option Addr) (c:Nat) (out:List (P2×P2×P2))=>i<=X*Y/\OwnOk p out.length c/\out=EO m i) (tg λ(i:Nat) (p:Option Addr) (c:Nat) (out:List (P2×P2×P2))=>[(1,(pP b1 0)),(2,jj),(3,(vN X)),(4,(vN Y)),(6,(vN i)),(5,(qz p out.length c))]) (tg λ(i:Nat) (p:Option Addr) (c:Nat) (out:List (P2×P2×P2))=>[rowW p 236 6 out.length c (rowsL A9 out),AX b1 90 (Eu m),AF m.p (C5 m.cs)]) (tg λ(i:Nat) (p:Option Addr) (c:Nat) (out:List (P2×P2×P2))=>X*Y-i) 0 none 0 ([]:List (P2×P2×P2)) (⟨Z,OwnOk.none,rfl⟩) (sF O) sr (λi p c out hJ=>?_)
 obtain ⟨hi,ho,hout⟩:=hJ
 have hlen:=Hu m i
 rw [<-hout] at hlen
 refine zX (q4 (AL O (AL O (AL O (AD (Bx (c:=((X*Y:Nat):Int)) O O (DP (a:=X) (b:=Y) (by exact Nat.lt_of_le_of_lt hxy jY))) O (AD (Aa (c:=(decide (i<(X*Y)))) O O (DB (a:=i) (b:=X*Y))) O (oNl' (zB (sL [1,2,3,4,6,5,29] O) (zA ?_)))))))))
 refine zL O (λhc0=>?_) (λhc0=>?_)
 ·replace hc0:=xT hc0
  refine zC (q1 (zJ (q4 (asg' O (oNl' (q1 (q4 (AD (v:=(pP b1 2)) (AA O underlying90 O sizeOf86 O) O (BF 1 (qz m.p m.cs.length m.cap) aC O (AD (v:=(vN m.cs.length)) (AE O underlying86) O (AD (D_ (c:=(decide (0<m.cs.length))) O O (DB (a:=0) (b:=m.cs.length))) O ?_)))))))))))
  refine oNl' (zB (sL [1,2,3,4,6,5,7,35] O) (zA ?_))
  refine yF (tg λ(wy:Nat)=>wy=GC m i) (tg λ(wy:Nat)=>[(1,(pP b1 0)),(2,jj),(3,(vN X)),(4,(vN Y)),(6,(vN i)),(5,(qz p out.length c)),(7,(vK .u8 wy))]) (tg λ(wy:Nat)=>[rowW p 236 6 out.length c (rowsL A9 out),AX b1 90 (Eu m),AF m.p (C5 m.cs)]) ?_ ?_
  ·refine zL O (λhc1=>?_) (λhc1=>?_)
   ·replace hc1:=xT hc1
    refine DC (Er 11) sr (Am (v:=(pP b1 2)) O (AA O underlying90 O sizeOf86 O) (BU 1 (qz m.p m.cs.length m.cap) aC O (By O (Am (v:=(pP b1 2)) O (AA O underlying90 O sizeOf86 O) (BU 1 (qz m.p m.cs.length m.cap) aC O (Am (v:=(vN m.cs.length)) O (AE O underlying86) (Am O (CB (c:=((i%m.cs.length:Nat):Int)) O O Z (Ij (a:=i) (b:=m.cs.length))) (Am (v:=(pP (pB m.p) (pO m.p+(i%m.cs.length)*1))) O (AM (j:=i%m.cs.length) O O m.ok underlying86 sizeOf5 O (by exact Nat.mod_lt _ hc1)) (Am O (BG (v:=(vK .u8 (m.cs.getD (i%m.cs.length) 0))) (i:=2) O O (m.ok.ne (by first|exact Nat.mod_lt i hc1|exact hc1)) WG (Tv (by first|exact Nat.mod_lt i hc1|exact hc1))) (Am O (CB (c:=(((m.cs.getD (i%m.cs.length) 0)%8:Nat):Int)) O O Z (Ij (a:=m.cs.getD (i%m.cs.length) 0) (b:=8))) (pS' O ?_)))))))))))
    exact zQ (zB (sL [1,2,3,4,6,5,7] O) (zi ((m.cs.getD (i%m.cs.length) 0)%8) (by unfold GC;first|rw [if_pos hc1]|rw [if_neg hc1]) (sF O) sr))
   ·replace hc1:=xS hc1
    exact zC (zi 0 (by unfold GC;first|rw [if_pos hc1]|rw [if_neg hc1]) (sF O) sr)
  ·intro wy hJ
   have hw:=hJ
   have hw8:=Rb m i
   rw [<-hw] at hw8
   refine q2 (AL O (AL O ?_))
   obtain ⟨u,hu⟩:∃u,u=i%X:=⟨_,rfl⟩
   have hu2:u<X:=by rw [hu];exact Nat.mod_lt _ Z
   refine AD (CB (c:=((u:Nat):Int)) O O Z (by rw [hu];exact Ij (a:=i) (b:=X))) O (AD (Bx (c:=((2*u:Nat):Int)) O O (DP (a:=2) (b:=u) Z)) O (asg' O (q3 (sL [1,2,3,4,6,5,7,8] O) (AL O (AL O ?_)))))
   obtain ⟨v,hv⟩:∃v,v=i/X:=⟨_,rfl⟩
   have hv2:v<=9:=by rw [hv];exact xM (Nat.div_le_self _ _) Z
   refine AD (Gy (c:=((v:Nat):Int)) O O Z (by rw [hv];exact Ox (a:=i) (b:=X) Z)) O (AD (Bx (c:=((2*v:Nat):Int)) O O (DP (a:=2) (b:=v) Z)) O (asg' O (q3 (sL [1,2,3,4,6,5,7,8,9] O) (AL O (AL O (AD (v:=(aG (A6 (2*u,2*v)))) (Ap (zs:=A6 ((0,0):P2)) (vs:=A6 (2*u,2*v)) (pv:=[(0,(vN (2*u))),(1,(vN (2*v)))]) zeroValue113 underlying113 sizeOf3 O (C9 (2*u) (2*v))) O (al Jj O λb2=>Ag O sizeOf113 O (q3 (sL [1,2,3,4,6,5,7,8,9,10] O) (AL O (AD (AT (c:=(((2*u)+2:Nat):Int)) O O (AV (a:=2*u) (b:=2) Z)) O ?_))))))))))
   refine AL O (AD (v:=(aG (A6 ((2*u)+2,2*v)))) (Ap (zs:=A6 ((0,0):P2)) (vs:=A6 ((2*u)+2,2*v)) (pv:=[(0,(vN ((2*u)+2))),(1,(vN (2*v)))]) zeroValue113 underlying113 sizeOf3 O (C9 ((2*u)+2) (2*v))) O (al Jj O λb3=>Ag O sizeOf113 O (q3 (sL [1,2,3,4,6,5,7,8,9,10,11] O) (AL O (AD (AT (c:=(((2*u)+2:Nat):Int)) O O (AV (a:=2*u) (b:=2) Z)) O (AL O (AD (AT (c:=(((2*v)+2:Nat):Int)) O O (AV (a:=2*v) (b:=2) Z)) O (AD (v:=(aG (A6 ((2*u)+2,(2*v)+2)))) (Ap (zs:=A6 ((0,0):P2)) (vs:=A6 ((2*u)+2,(2*v)+2)) (pv:=[(0,(vN ((2*u)+2))),(1,(vN ((2*v)+2)))]) zeroValue113 underlying113 sizeOf3 O (C9 ((2*u)+2) ((2*v)+2))) O (al Jj O λb4=>Ag O sizeOf113 O ?_)))))))))
   refine q3 (sL [1,2,3,4,6,5,7,8,9,10,11,12] O) (AL O (AL O (AD (AT (c:=(((2*v)+2:Nat):Int)) O O (AV (a:=2*v) (b:=2) Z)) O (AD (v:=(aG (A6 (2*u,(2*v)+2)))) (Ap (zs:=A6 ((0,0):P2)) (vs:=A6 (2*u,(2*v)+2)) (pv:=[(0,(vN (2*u))),(1,(vN ((2*v)+2)))]) zeroValue113 underlying113 sizeOf3 O (C9 (2*u) ((2*v)+2))) O (al Jj O λb5=>Ag O sizeOf113 O (q3 (sL [1,2,3,4,6,5,7,8,9,10,11,12,13] O) (AL O (AD (AT (c:=(((2*u)+1:Nat):Int)) O O (AV (a:=2*u) (b:=1) Z)) O (AL O (AD (AT (c:=(((2*v)+1:Nat):Int)) O O (AV (a:=2*v) (b:=1) Z)) O ?_))))))))))
   refine AD (v:=(aG (A6 ((2*u)+1,(2*v)+1)))) (Ap (zs:=A6 ((0,0):P2)) (vs:=A6 ((2*u)+1,(2*v)+1)) (pv:=[(0,(vN ((2*u)+1))),(1,(vN ((2*v)+1)))]) zeroValue113 underlying113 sizeOf3 O (C9 ((2*u)+1) ((2*v)+1))) O (al Jj O λb6=>Ag O sizeOf113 O (oNl' (zB (sL [1,2,3,4,6,5,7,8,9,10,11,12,13,14] O) (zA (zJ (q4 (AL O (AD (Aa (c:=(decide (wy<3))) O O (DB (a:=wy) (b:=3))) O (AL O ?_)))))))))
   refine ze (FM:=[(1,(pP b1 0)),(2,jj),(3,(vN X)),(4,(vN Y)),(6,(vN i)),(5,(qz p out.length c)),(7,(vK .u8 wy)),(8,(vN (2*u))),(9,(vN (2*v))),(10,(pP b2 0)),(11,(pP b3 0)),(12,(pP b4 0)),(13,(pP b5 0)),(14,(pP b6 0)),(76,(vK .u8 wy)),(77,(qa (decide (wy<3)))),(78,(qa (decide (wy<3)))),(85,(qa ((decide (wy<3))||((decide (wy=7))&&(decide (i=0))))))]) (LM:=[AX b6 113 (A6 ((2*u)+1,(2*v)+1)),AX b5 113 (A6 (2*u,(2*v)+2)),AX b4 113 (A6 ((2*u)+2,(2*v)+2)),AX b3 113 (A6 ((2*u)+2,2*v)),AX b2 113 (A6 (2*u,2*v)),rowW p 236 6 out.length c (rowsL A9 out),AX b1 90 (Eu m),AF m.p (C5 m.cs)]) 7 ?_ ?_
   ·rcases xQ (decide (wy<3)) with hg1|hg1
    ·refine zI (k:=78) (u:=qa true) O (by rw [hg1]) ?_
     have hg1':=xT hg1
     exact BO O (BO O (BO O (yq (PH O O O) O (BA O) (yq (PH O O O) O (BA O) (BO O (AD (v:=(qa true)) (AW O O) O (oNl' (zR Cc (xR _)))))))))
    ·refine zI (k:=78) (u:=qa false) O (by rw [hg1]) ?_
     have hg1':=xS hg1
     refine Hk O (BM (v:=(qa (decide (wy=7)))) O (BL (c:=(decide (wy=7))) O O (N9 (a:=wy) (b:=7))) (Hk O ?_))
     refine ze (FM:=[(1,(pP b1 0)),(2,jj),(3,(vN X)),(4,(vN Y)),(6,(vN i)),(5,(qz p out.length c)),(7,(vK .u8 wy)),(8,(vN (2*u))),(9,(vN (2*v))),(10,(pP b2 0)),(11,(pP b3 0)),(12,(pP b4 0)),(13,(pP b5 0)),(14,(pP b6 0)),(76,(vK .u8 wy)),(77,(qa (decide (wy<3)))),(78,(qa false)),(79,(vK .u8 wy)),(80,(qa (decide (wy=7)))),(81,(qa (decide (wy=7)))),(84,(qa ((decide (wy=7))&&(decide (i=0)))))]) (LM:=[AX b6 113 (A6 ((2*u)+1,(2*v)+1)),AX b5 113 (A6 (2*u,(2*v)+2)),AX b4 113 (A6 ((2*u)+2,(2*v)+2)),AX b3 113 (A6 ((2*u)+2,2*v)),AX b2 113 (A6 (2*u,2*v)),rowW p 236 6 out.length c (rowsL A9 out),AX b1 90 (Eu m),AF m.p (C5 m.cs)]) 3 ?_ ?_
     ·rcases xQ (decide (wy=7)) with hg2|hg2
      ·refine zI (k:=81) (u:=qa true) O (by rw [hg2]) ?_
       have hg2':=xT hg2
       exact Hk O (BM (v:=(qa (decide (i=0)))) O (BL (c:=(decide (i=0))) O O (N9 (a:=i) (b:=0))) (BM (v:=(qa (decide (i=0)))) O (AW O O) (oNl' (zR Hi (xR _)))))
      ·refine zI (k:=81) (u:=qa false) O (by rw [hg2]) ?_
       have hg2':=xS hg2
       exact BO O (BO O (BM (v:=(qa false)) O (AQ O O) (oNl' (zR Hi (xR _)))))
     exact AD (v:=(qa ((decide (wy=7))&&(decide (i=0))))) (AQ O O) O (oNl' (zR Cc (xR _)))
   refine asg' O (oNl' (zB (sL [1,2,3,4,6,5,7,8,9,10,11,12,13,14,75] O) (zA ?_)))
   refine zL O (λhc2=>?_) (λhc2=>?_)
   ·simp only [jK] at hc2
    have hcell:=W8 hu hv (way:=wy) (by simpa using hc2)
    refine zH (AL O (Al 4 Bq O (Al 3 Bq O (Al 2 Bq O (AD (v:=(aG (A9 ((2*u,2*v),((2*u)+2,2*v),((2*u)+2,(2*v)+2))))) (Ap (zs:=A9 (((0,0),(0,0),(0,0)):P2×P2×P2)) (vs:=A9 ((2*u,2*v),((2*u)+2,2*v),((2*u)+2,(2*v)+2))) (pv:=[(0,(aG (A6 (2*u,2*v)))),(1,(aG (A6 ((2*u)+2,2*v)))),(2,(aG (A6 ((2*u)+2,(2*v)+2))))]) zeroValue236 underlying236 sizeOf113 O (B6 (2*u,2*v) ((2*u)+2,2*v) ((2*u)+2,(2*v)+2))) O (Al 4 Bq O (Al 2 Bq O (Al 1 Bq O (AD (v:=(aG (A9 ((2*u,2*v),((2*u)+2,(2*v)+2),(2*u,(2*v)+2))))) (Ap (zs:=A9 (((0,0),(0,0),(0,0)):P2×P2×P2)) (vs:=A9 ((2*u,2*v),((2*u)+2,(2*v)+2),(2*u,(2*v)+2))) (pv:=[(0,(aG (A6 (2*u,2*v)))),(1,(aG (A6 ((2*u)+2,(2*v)+2)))),(2,(aG (A6 (2*u,(2*v)+2))))]) zeroValue236 underlying236 sizeOf113 O (B6 (2*u,2*v) ((2*u)+2,(2*v)+2) (2*u,(2*v)+2))) O (zZ (V:=λb7=>(qz (jk b7) 2 2)) (T:=236) (cs:=A9 ((2*u,2*v),((2*u)+2,2*v),((2*u)+2,(2*v)+2))++A9 ((2*u,2*v),((2*u)+2,(2*v)+2),(2*u,(2*v)+2))) (AI O) (Az (z:=.agg (A9 (((0,0),(0,0),(0,0)):P2×P2×P2)).toArray) (cs:=A9 ((2*u,2*v),((2*u)+2,2*v),((2*u)+2,(2*v)+2))++A9 ((2*u,2*v),((2*u)+2,(2*v)+2),(2*u,(2*v)+2))) (pv:=[(0,(aG (A9 ((2*u,2*v),((2*u)+2,2*v),((2*u)+2,(2*v)+2))))),(1,(aG (A9 ((2*u,2*v),((2*u)+2,(2*v)+2),(2*u,(2*v)+2)))))]) underlying234 sizeOf236 zeroValue236 jY jY O (Gi ((2*u,2*v),((2*u)+2,2*v),((2*u)+2,(2*v)+2)) ((2*u,2*v),((2*u)+2,(2*v)+2),(2*u,(2*v)+2)))) O (BA O) λb7=>zr 6 (j:=0) (cs2:=rowsL A9 (out++[((2*u,2*v),((2*u)+2,2*v),((2*u)+2,(2*v)+2)),((2*u,2*v),((2*u)+2,(2*v)+2),(2*u,(2*v)+2))])) WE O ho (AS F9 _) O O O O O jY (LG Z) Z (by rw [Bd];rfl) O λp_1 c_1 ho_1 hne_1=>?_))))))))))
    refine asg' O (oNl' (zB (sL [1,2,3,4,6,5,7,8,9,10,11,12,13,14] O) (zG (zG (zA (zH (AL O (AD (AT (c:=((i+1:Nat):Int)) O O (AV (a:=i) (b:=1) Z)) O (asg' O (oNl' (zB (sL [1,2,3,4,6,5,7,8,9,10,11,12,13,14] O) ?_)))))))))))
    rw [show out.length+2=(out++[((2*u,2*v),((2*u)+2,2*v),((2*u)+2,(2*v)+2)),((2*u,2*v),((2*u)+2,(2*v)+2),(2*u,(2*v)+2))]).length by simp]
    exact z7 (i+1) p_1 c_1 (out++[((2*u,2*v),((2*u)+2,2*v),((2*u)+2,(2*v)+2)),((2*u,2*v),((2*u)+2,(2*v)+2),(2*u,(2*v)+2))]) (⟨Z,(by simpa using ho_1),by rw [hout];show _=EO m i++Cx (Em m) (GC m i) i;rw [<-hX,<-hw,hcell]⟩) Z (sF O) (sl (sl (sl (sl (sl (sl sr))))))
   ·simp only [jK] at hc2
    have h20:¬(wy<3\/(wy=7/\i=0)):=by simp at hc2;omega
    refine q4 (AL O (AD (Aa (c:=(decide (wy<5))) O O (DB (a:=wy) (b:=5))) O (asg' O (oNl' (zB (sL [1,2,3,4,6,5,7,8,9,10,11,12,13,14,97] O) (zA ?_))))))
    refine zL O (λhc3=>?_) (λhc3=>?_)
    ·replace hc3:=xT hc3
     have hcell:=W9 hu hv h20 (by simpa using hc3)
     refine zH (AL O (Al 4 Bq O (Al 3 Bq O (Al 1 Bq O (AD (v:=(aG (A9 ((2*u,2*v),((2*u)+2,2*v),(2*u,(2*v)+2))))) (Ap (zs:=A9 (((0,0),(0,0),(0,0)):P2×P2×P2)) (vs:=A9 ((2*u,2*v),((2*u)+2,2*v),(2*u,(2*v)+2))) (pv:=[(0,(aG (A6 (2*u,2*v)))),(1,(aG (A6 ((2*u)+2,2*v)))),(2,(aG (A6 (2*u,(2*v)+2))))]) zeroValue236 underlying236 sizeOf113 O (B6 (2*u,2*v) ((2*u)+2,2*v) (2*u,(2*v)+2))) O (Al 3 Bq O (Al 2 Bq O (Al 1 Bq O (AD (v:=(aG (A9 (((2*u)+2,2*v),((2*u)+2,(2*v)+2),(2*u,(2*v)+2))))) (Ap (zs:=A9 (((0,0),(0,0),(0,0)):P2×P2×P2)) (vs:=A9 (((2*u)+2,2*v),((2*u)+2,(2*v)+2),(2*u,(2*v)+2))) (pv:=[(0,(aG (A6 ((2*u)+2,2*v)))),(1,(aG (A6 ((2*u)+2,(2*v)+2)))),(2,(aG (A6 (2*u,(2*v)+2))))]) zeroValue236 underlying236 sizeOf113 O (B6 ((2*u)+2,2*v) ((2*u)+2,(2*v)+2) (2*u,(2*v)+2))) O (zZ (V:=λb7=>(qz (jk b7) 2 2)) (T:=236) (cs:=A9 ((2*u,2*v),((2*u)+2,2*v),(2*u,(2*v)+2))++A9 (((2*u)+2,2*v),((2*u)+2,(2*v)+2),(2*u,(2*v)+2))) (AI O) (Az (z:=.agg (A9 (((0,0),(0,0),(0,0)):P2×P2×P2)).toArray) (cs:=A9 ((2*u,2*v),((2*u)+2,2*v),(2*u,(2*v)+2))++A9 (((2*u)+2,2*v),((2*u)+2,(2*v)+2),(2*u,(2*v)+2))) (pv:=[(0,(aG (A9 ((2*u,2*v),((2*u)+2,2*v),(2*u,(2*v)+2))))),(1,(aG (A9 (((2*u)+2,2*v),((2*u)+2,(2*v)+2),(2*u,(2*v)+2)))))]) underlying234 sizeOf236 zeroValue236 jY jY O (Gi ((2*u,2*v),((2*u)+2,2*v),(2*u,(2*v)+2)) (((2*u)+2,2*v),((2*u)+2,(2*v)+2),(2*u,(2*v)+2)))) O (BA O) λb7=>zr 6 (j:=0) (cs2:=rowsL A9 (out++[((2*u,2*v),((2*u)+2,2*v),(2*u,(2*v)+2)),(((2*u)+2,2*v),((2*u)+2,(2*v)+2),(2*u,(2*v)+2))])) WE O ho (AS F9 _) O O O O O jY (LG Z) Z (by rw [Bd];rfl) O λp_2 c_2 ho_2 hne_2=>?_))))))))))
     refine asg' O (oNl' (zB (sL [1,2,3,4,6,5,7,8,9,10,11,12,13,14] O) (zG (zG (zA (zH (AL O (AD (AT (c:=((i+1:Nat):Int)) O O (AV (a:=i) (b:=1) Z)) O (asg' O (oNl' (zB (sL [1,2,3,4,6,5,7,8,9,10,11,12,13,14] O) ?_)))))))))))
     rw [show out.length+2=(out++[((2*u,2*v),((2*u)+2,2*v),(2*u,(2*v)+2)),(((2*u)+2,2*v),((2*u)+2,(2*v)+2),(2*u,(2*v)+2))]).length by simp]
     exact z7 (i+1) p_2 c_2 (out++[((2*u,2*v),((2*u)+2,2*v),(2*u,(2*v)+2)),(((2*u)+2,2*v),((2*u)+2,(2*v)+2),(2*u,(2*v)+2))]) (⟨Z,(by simpa using ho_2),by rw [hout];show _=EO m i++Cx (Em m) (GC m i) i;rw [<-hX,<-hw,hcell]⟩) Z (sF O) (sl (sl (sl (sl (sl (sl sr))))))
    ·replace hc3:=xS hc3
     have h30:¬wy<5:=by simpa using hc3
     refine q4 (AL O (AD (Aa (c:=(decide (wy<7))) O O (DB (a:=wy) (b:=7))) O (asg' O (oNl' (zB (sL [1,2,3,4,6,5,7,8,9,10,11,12,13,14,111] O) (zA ?_))))))
     refine zL O (λhc4=>?_) (λhc4=>?_)
     ·replace hc4:=xT hc4
      have hcell:=W_ hu hv h20 h30 (by simpa using hc4)
      refine zH (AL O (Al 4 Bq O (Al 3 Bq O (Al 0 Bq O (AD (v:=(aG (A9 ((2*u,2*v),((2*u)+2,2*v),((2*u)+1,(2*v)+1))))) (Ap (zs:=A9 (((0,0),(0,0),(0,0)):P2×P2×P2)) (vs:=A9 ((2*u,2*v),((2*u)+2,2*v),((2*u)+1,(2*v)+1))) (pv:=[(0,(aG (A6 (2*u,2*v)))),(1,(aG (A6 ((2*u)+2,2*v)))),(2,(aG (A6 ((2*u)+1,(2*v)+1))))]) zeroValue236 underlying236 sizeOf113 O (B6 (2*u,2*v) ((2*u)+2,2*v) ((2*u)+1,(2*v)+1))) O (Al 3 Bq O (Al 2 Bq O (Al 0 Bq O (AD (v:=(aG (A9 (((2*u)+2,2*v),((2*u)+2,(2*v)+2),((2*u)+1,(2*v)+1))))) (Ap (zs:=A9 (((0,0),(0,0),(0,0)):P2×P2×P2)) (vs:=A9 (((2*u)+2,2*v),((2*u)+2,(2*v)+2),((2*u)+1,(2*v)+1))) (pv:=[(0,(aG (A6 ((2*u)+2,2*v)))),(1,(aG (A6 ((2*u)+2,(2*v)+2)))),(2,(aG (A6 ((2*u)+1,(2*v)+1))))]) zeroValue236 underlying236 sizeOf113 O (B6 ((2*u)+2,2*v) ((2*u)+2,(2*v)+2) ((2*u)+1,(2*v)+1))) O (Al 2 Bq O (Al 1 Bq O ?_)))))))))))
      refine Al 0 Bq O (AD (v:=(aG (A9 (((2*u)+2,(2*v)+2),(2*u,(2*v)+2),((2*u)+1,(2*v)+1))))) (Ap (zs:=A9 (((0,0),(0,0),(0,0)):P2×P2×P2)) (vs:=A9 (((2*u)+2,(2*v)+2),(2*u,(2*v)+2),((2*u)+1,(2*v)+1))) (pv:=[(0,(aG (A6 ((2*u)+2,(2*v)+2)))),(1,(aG (A6 (2*u,(2*v)+2)))),(2,(aG (A6 ((2*u)+1,(2*v)+1))))]) zeroValue236 underlying236 sizeOf113 O (B6 ((2*u)+2,(2*v)+2) (2*u,(2*v)+2) ((2*u)+1,(2*v)+1))) O (Al 1 Bq O (Al 4 Bq O (Al 0 Bq O (AD (v:=(aG (A9 ((2*u,(2*v)+2),(2*u,2*v),((2*u)+1,(2*v)+1))))) (Ap (zs:=A9 (((0,0),(0,0),(0,0)):P2×P2×P2)) (vs:=A9 ((2*u,(2*v)+2),(2*u,2*v),((2*u)+1,(2*v)+1))) (pv:=[(0,(aG (A6 (2*u,(2*v)+2)))),(1,(aG (A6 (2*u,2*v)))),(2,(aG (A6 ((2*u)+1,(2*v)+1))))]) zeroValue236 underlying236 sizeOf113 O (B6 (2*u,(2*v)+2) (2*u,2*v) ((2*u)+1,(2*v)+1))) O (zZ (V:=λb7=>(qz (jk b7) 4 4)) (T:=236) (cs:=A9 ((2*u,2*v),((2*u)+2,2*v),((2*u)+1,(2*v)+1))++A9 (((2*u)+2,2*v),((2*u)+2,(2*v)+2),((2*u)+1,(2*v)+1))++A9 (((2*u)+2,(2*v)+2),(2*u,(2*v)+2),((2*u)+1,(2*v)+1))++A9 ((2*u,(2*v)+2),(2*u,2*v),((2*u)+1,(2*v)+1))) (AI O) (Az (z:=.agg (A9 (((0,0),(0,0),(0,0)):P2×P2×P2)).toArray) (cs:=A9 ((2*u,2*v),((2*u)+2,2*v),((2*u)+1,(2*v)+1))++A9 (((2*u)+2,2*v),((2*u)+2,(2*v)+2),((2*u)+1,(2*v)+1))++A9 (((2*u)+2,(2*v)+2),(2*u,(2*v)+2),((2*u)+1,(2*v)+1))++A9 ((2*u,(2*v)+2),(2*u,2*v),((2*u)+1,(2*v)+1))) (pv:=[(0,(aG (A9 ((2*u,2*v),((2*u)+2,2*v),((2*u)+1,(2*v)+1))))),(1,(aG (A9 (((2*u)+2,2*v),((2*u)+2,(2*v)+2),((2*u)+1,(2*v)+1))))),(2,(aG (A9 (((2*u)+2,(2*v)+2),(2*u,(2*v)+2),((2*u)+1,(2*v)+1))))),(3,(aG (A9 ((2*u,(2*v)+2),(2*u,2*v),((2*u)+1,(2*v)+1)))))]) underlying234 sizeOf236 zeroValue236 jY jY O (Jz ((2*u,2*v),((2*u)+2,2*v),((2*u)+1,(2*v)+1)) (((2*u)+2,2*v),((2*u)+2,(2*v)+2),((2*u)+1,(2*v)+1)) (((2*u)+2,(2*v)+2),(2*u,(2*v)+2),((2*u)+1,(2*v)+1)) ((2*u,(2*v)+2),(2*u,2*v),((2*u)+1,(2*v)+1)))) O (BA O) λb7=>zr 6 (j:=0) (cs2:=rowsL A9 (out++[((2*u,2*v),((2*u)+2,2*v),((2*u)+1,(2*v)+1)),(((2*u)+2,2*v),((2*u)+2,(2*v)+2),((2*u)+1,(2*v)+1)),(((2*u)+2,(2*v)+2),(2*u,(2*v)+2),((2*u)+1,(2*v)+1)),((2*u,(2*v)+2),(2*u,2*v),((2*u)+1,(2*v)+1))])) WE O ho (AS F9 _) O O O O O jY (LG Z) Z (by rw [Bd];rfl) O λp_3 c_3 ho_3 hne_3=>asg' O (oNl' (zB (sL [1,2,3,4,6,5,7,8,9,10,11,12,13,14] O) (zG ?_)))))))))
      refine zG (zA (zH (AL O (AD (AT (c:=((i+1:Nat):Int)) O O (AV (a:=i) (b:=1) Z)) O (asg' O (oNl' (zB (sL [1,2,3,4,6,5,7,8,9,10,11,12,13,14] O) ?_)))))))
      rw [show out.length+4=(out++[((2*u,2*v),((2*u)+2,2*v),((2*u)+1,(2*v)+1)),(((2*u)+2,2*v),((2*u)+2,(2*v)+2),((2*u)+1,(2*v)+1)),(((2*u)+2,(2*v)+2),(2*u,(2*v)+2),((2*u)+1,(2*v)+1)),((2*u,(2*v)+2),(2*u,2*v),((2*u)+1,(2*v)+1))]).length by simp]
      exact z7 (i+1) p_3 c_3 (out++[((2*u,2*v),((2*u)+2,2*v),((2*u)+1,(2*v)+1)),(((2*u)+2,2*v),((2*u)+2,(2*v)+2),((2*u)+1,(2*v)+1)),(((2*u)+2,(2*v)+2),(2*u,(2*v)+2),((2*u)+1,(2*v)+1)),((2*u,(2*v)+2),(2*u,2*v),((2*u)+1,(2*v)+1))]) (⟨Z,(by simpa using ho_3),by rw [hout];show _=EO m i++Cx (Em m) (GC m i) i;rw [<-hX,<-hw,hcell]⟩) Z (sF O) (sl (sl (sl (sl (sl (sl sr))))))
     ·replace hc4:=xS hc4
      have hcell:Cx X wy i=[]:=XA h20 h30 (by simpa using hc4)
      exact zC (zG (zG (zA (zH (AL O (AD (AT (c:=((i+1:Nat):Int)) O O (AV (a:=i) (b:=1) Z)) O (asg' O (oNl' (zB (sL [1,2,3,4,6,5,7,8,9,10,11,12,13,14] O) (z7 (i+1) p c out (⟨Z,(by simpa using ho),by rw [hout];show _=EO m i++Cx (Em m) (GC m i) i;rw [<-hX,<-hw,hcell];simp⟩) Z (sF O) (sl (sl (sl (sl (sl sr)))))))))))))))
 ·replace hc0:=xS hc0
  have hfin:out=Av m:=by rw [hout];unfold Av;rw [<-hX,<-hY,show i=X*Y by omega]
  exact zU (zO (yB (zP (q2 (AL O (asg' O (oNl' (zB (sL [1,2,3,4,6,5] O) (zA (zF (ret_one O (rd_tmp (v:=(qz p out.length c)) O) (λw hw=>(by rw [<-hfin];exact cw hw 0 O ho (AS F9 _) O)))))))))))))
theorem Gg (x0 x1 x2 x3:Int):Instr.fill (λi=>some (i*1,1)) (Wi ((0,0,0,0):Int×Int×Int×Int)).toArray [(0,.int .i64 x0),(1,.int .i64 x1),(2,.int .i64 x2),(3,.int .i64 x3)]=some (Wi (x0,x1,x2,x3)).toArray:=by kernel_rfl
theorem Gf (x0 x1:Int):Instr.fill (λi=>some (i*1,1)) (CW ((0,0):Int×Int)).toArray [(0,.int .i64 x0),(1,.int .i64 x1)]=some (CW (x0,x1)).toArray:=by kernel_rfl
theorem JB (m:MQ) (p:P2) (hp:p.1<=6/\p.2<=6) (w:World) {S:Nat->Prop} (hm:Ro S w m):Calls prog 165 #[(aG (Eu m)),(aG (A6 p))] w (Ad w (aG (CW ((Gl m.a m.b m.c m.d).at_ p)))):=by
 obtain ⟨A,hA⟩:∃A,A=m.a.tmod 4:=⟨_,rfl⟩
 obtain ⟨B,hB⟩:∃A,A=m.b.tmod 4:=⟨_,rfl⟩
 obtain ⟨C,hC⟩:∃A,A=m.c.tmod 4:=⟨_,rfl⟩
 obtain ⟨D,hD⟩:∃A,A=m.d.tmod 4:=⟨_,rfl⟩
 have kA:=Jk m.a
 have kB:=Jk m.b
 have kC:=Jk m.c
 have kD:=Jk m.d
 rw [<-hA] at kA
 rw [<-hB] at kB
 rw [<-hC] at kC
 rw [<-hD] at kD
 have e1:=DA kA (k:=3) kD
 have e2:=DA kB (k:=3) kC
 have lm:=Da (W:=w) hm
 refine Ah (args:=[(aG (Eu m)),(aG (A6 p))]) (L:=[AF m.p (C5 m.cs)]) func165 O O (BA O) (Db hm A7) (zM (sL [0,1] O) (q4 (BV (cs:=Eu m) O λb1=>BV (cs:=A6 p) O λb2=>al bY O λb3=>q3 (sL [2,3,4] O) (AD (v:=(pP b1 3)) (AA O underlying90 O sizeOf88 O) O (AD (v:=(pP b1 3)) (AB (j:=0) O O underlying88 sizeOf87 O jY O) O (BF 2 (Value.int .i8 m.a) Ye O (AD (CB (c:=A) O O jY hA.symm) O (AD (Au (c:=A) O underlying87 underlying2 (BJ Z Z)) O ?_))))))))
 refine AD (v:=(pP b1 3)) (AA O underlying90 O sizeOf88 O) O (AD (v:=(pP b1 4)) (AB (j:=1) O O underlying88 sizeOf87 O jY O) O (BF 2 (Value.int .i8 m.b) Ye O (AD (CB (c:=B) O O jY hB.symm) O (AD (Au (c:=B) O underlying87 underlying2 (BJ Z Z)) O (AD (v:=(pP b1 3)) (AA O underlying90 O sizeOf88 O) O (AD (v:=(pP b1 5)) (AB (j:=2) O O underlying88 sizeOf87 O jY O) O (BF 2 (Value.int .i8 m.c) Ye O (AD (CB (c:=C) O O jY hC.symm) O (AD (Au (c:=C) O underlying87 underlying2 (BJ Z Z)) O (AD (v:=(pP b1 3)) (AA O underlying90 O sizeOf88 O) O (AD (v:=(pP b1 6)) (AB (j:=3) O O underlying88 sizeOf87 O jY O) O ?_)))))))))))
 refine BF 2 (Value.int .i8 m.d) Ye O (AD (CB (c:=D) O O jY hD.symm) O (AD (Au (c:=D) O underlying87 underlying2 (BJ Z Z)) O (AD (v:=(aG (Wi (A,B,C,D)))) (Ap (zs:=Wi ((0,0,0,0):Int×Int×Int×Int)) (vs:=Wi (A,B,C,D)) (pv:=[(0,(vI A)),(1,(vI B)),(2,(vI C)),(3,(vI D))]) zeroValue283 underlying283 sizeOf2 O (Gg A B C D)) O (al ba O λb4=>Ag O sizeOf283 O (q3 (sL [3,4,5] O) (AD (v:=(pP b4 0)) (AB (j:=0) O O underlying283 sizeOf2 O jY O) O (BF 0 (vI A) Ny O (AD (v:=(pP b4 3)) (AB (j:=3) O O underlying283 sizeOf2 O jY O) O (BF 0 (vI D) Ny O (AD (Bx (c:=(A*D)) O O (BJ Z Z)) O ?_))))))))))
 refine AD (v:=(pP b4 1)) (AB (j:=1) O O underlying283 sizeOf2 O jY O) O (BF 0 (vI B) Ny O (AD (v:=(pP b4 2)) (AB (j:=2) O O underlying283 sizeOf2 O jY O) O (BF 0 (vI C) Ny O (AD (Bx (c:=(B*C)) O O (BJ Z Z)) O (AD (B3 (c:=(A*D-B*C)) O O (BJ Z Z)) O (asg' O (q6 (sL [3,4,5,6] O) (q4 (AL O (AD (BL (c:=(decide ((A*D-B*C)=(0:Int)))) O O O) O (oNl' ?_)))))))))))
 refine zB (sL [3,4,5,6,42] O) (zA ?_)
 refine zL O (λhc0=>?_) (λhc0=>?_)
 ·replace hc0:=xT hc0
  have hz0:=hc0
  refine zH (AD (v:=(aG (Wi ((1:Int),(0:Int),(0:Int),(1:Int))))) (Ap (zs:=Wi ((0,0,0,0):Int×Int×Int×Int)) (vs:=Wi ((1:Int),(0:Int),(0:Int),(1:Int))) (pv:=[(0,(vI 1)),(1,(vI 0)),(2,(vI 0)),(3,(vI 1))]) zeroValue283 underlying283 sizeOf2 O (Gg (1:Int) (0:Int) (0:Int) (1:Int))) O (Ag O sizeOf283 O (q6 (sL [3,4,5,6] O) (q4 (AL O (AD (Aa (c:=(decide ((A*D-B*C)<(0:Int)))) O O O) O (oNl' (zB (sL [3,4,5,6,45] O) (zA ?_)))))))))
  refine yF (tg λ(K:DG)=>K=Gl m.a m.b m.c m.d) (tg λ(K:DG)=>[(3,(pP b2 0)),(4,(pP b3 0)),(5,(pP b4 0))]) (tg λ(K:DG)=>[AX b4 283 (Wi (K.a,K.b,K.c,K.d)),AX b3 179 (CW ((0,0):Int×Int)),AX b2 113 (A6 p),AX b1 90 (Eu m),AF m.p (C5 m.cs)]) ?_ ?_
  ·refine zL O (λhc1=>?_) (λhc1=>?_)
   ·replace hc1:=xT hc1
    refine q4 (AD (v:=(pP b4 2)) (AB (j:=2) O O underlying283 sizeOf2 O jY O) O (BF 0 (vI (0:Int)) Ny O (AD (Ku (c:=(-C)) O (by first|(exfalso;omega)|(rw [Int.zero_sub];exact BJ Z Z))) O (AD (v:=(pP b4 2)) (AB (j:=2) O O underlying283 sizeOf2 O jY O) O (F8 0 (off:=2) (vs:=[(vI (-C))]) (cs':=[(vI (1:Int)),(vI (0:Int)),(vI (-C)),(vI (1:Int))]) (AI O) O sizeOf2 O (oNl' (zB (sL [3,4,5,6] O) (zA (zH (AD (v:=(pP b4 3)) (AB (j:=3) O O underlying283 sizeOf2 O jY O) O (BF 0 (vI (1:Int)) Ny O ?_)))))))))))
    exact AD (Ku (c:=(-D)) O (by first|(exfalso;omega)|(rw [Int.zero_sub];exact BJ Z Z))) O (AD (v:=(pP b4 3)) (AB (j:=3) O O underlying283 sizeOf2 O jY O) O (F8 0 (off:=3) (vs:=[(vI (-D))]) (cs':=[(vI (1:Int)),(vI (0:Int)),(vI (-C)),(vI (-D))]) (AI O) O sizeOf2 O (oNl' (zB (sL [3,4,5,6] O) (zi (DG.mk (1:Int) (0:Int) (-C) (-D)) ((by first|(exfalso;omega)|exact (Nn hA hB hC hD hz0).symm|exact (Nl hA hB hC hD hc1).symm|exact (Nm hA hB hC hD hz0 hc1).symm)) (sF O) sr)))))
   ·replace hc1:=xS hc1
    exact zC (zi (DG.mk (1:Int) (0:Int) (0:Int) (1:Int)) ((by first|(exfalso;omega)|exact (Nn hA hB hC hD hz0).symm|exact (Nl hA hB hC hD hc1).symm|exact (Nm hA hB hC hD hz0 hc1).symm)) (sF O) sr)
  ·intro K hJ
   have hK:=hJ
   have kk:=Fb m.a m.b m.c m.d
   rw [<-hK] at kk
   have qz0:=DA kk.a (k:=6) (b:=(p.1:Int)) Z
   have qz1:=DA kk.b (k:=6) (b:=(p.2:Int)) Z
   have qz2:=DA kk.c (k:=6) (b:=(p.1:Int)) Z
   have qz3:=DA kk.d (k:=6) (b:=(p.2:Int)) Z
   refine q2 (AD (v:=(pP b2 0)) (AB (j:=0) O O underlying113 sizeOf3 O jY O) O (BF 2 (vN p.1) Bm O (asg' O (q3 (sL [3,4,5,7] O) (AD (v:=(pP b2 1)) (AB (j:=1) O O underlying113 sizeOf3 O jY O) O (BF 2 (vN p.2) Bm O (asg' O (q3 (sL [3,4,5,7,8] O) (AD (v:=(pP b4 0)) (AB (j:=0) O O underlying283 sizeOf2 O jY O) O (BF 0 (vI K.a) Ny O (AL O ?_)))))))))))
   refine AD (Bx (c:=(K.a*(p.1:Int))) O O (BJ Z Z)) O (AD (v:=(pP b4 1)) (AB (j:=1) O O underlying283 sizeOf2 O jY O) O (BF 0 (vI K.b) Ny O (AL O (AD (Bx (c:=(K.b*(p.2:Int))) O O (BJ Z Z)) O (AD (AT (c:=(K.a*(p.1:Int)+K.b*(p.2:Int))) O O (BJ Z Z)) O (AD (v:=(pP b4 2)) (AB (j:=2) O O underlying283 sizeOf2 O jY O) O (BF 0 (vI K.c) Ny O (AL O (AD (Bx (c:=(K.c*(p.1:Int))) O O (BJ Z Z)) O (AD (v:=(pP b4 3)) (AB (j:=3) O O underlying283 sizeOf2 O jY O) O (BF 0 (vI K.d) Ny O ?_)))))))))))
   exact AL O (AD (Bx (c:=(K.d*(p.2:Int))) O O (BJ Z Z)) O (AD (AT (c:=(K.c*(p.1:Int)+K.d*(p.2:Int))) O O (BJ Z Z)) O (AD (v:=(aG (CW (K.a*(p.1:Int)+K.b*(p.2:Int),K.c*(p.1:Int)+K.d*(p.2:Int))))) (Ap (zs:=CW ((0,0):Int×Int)) (vs:=CW (K.a*(p.1:Int)+K.b*(p.2:Int),K.c*(p.1:Int)+K.d*(p.2:Int))) (pv:=[(0,(vI (K.a*(p.1:Int)+K.b*(p.2:Int)))),(1,(vI (K.c*(p.1:Int)+K.d*(p.2:Int))))]) zeroValue179 underlying179 sizeOf2 O (Gf (K.a*(p.1:Int)+K.b*(p.2:Int)) (K.c*(p.1:Int)+K.d*(p.2:Int)))) O (Cd O sizeOf179 O (oNl' (zB (sL [3,4,5] O) (zA (zF (ret_one O (Ao (i:=1) (cs:=CW (K.a*(p.1:Int)+K.b*(p.2:Int),K.c*(p.1:Int)+K.d*(p.2:Int))) O O isAgg179 sizeOf179 O) (λw hw=>⟨by rw [<-hK];rfl,hw.out⟩))))))))))
 ·replace hc0:=xS hc0
  have hz0:=hc0
  refine zC (q1 (q4 (AL O (AD (Aa (c:=(decide ((A*D-B*C)<(0:Int)))) O O O) O (oNl' (zB (sL [3,4,5,6,45] O) (zA ?_)))))))
  refine yF (tg λ(K:DG)=>K=Gl m.a m.b m.c m.d) (tg λ(K:DG)=>[(3,(pP b2 0)),(4,(pP b3 0)),(5,(pP b4 0))]) (tg λ(K:DG)=>[AX b4 283 (Wi (K.a,K.b,K.c,K.d)),AX b3 179 (CW ((0,0):Int×Int)),AX b2 113 (A6 p),AX b1 90 (Eu m),AF m.p (C5 m.cs)]) ?_ ?_
  ·refine zL O (λhc1=>?_) (λhc1=>?_)
   ·replace hc1:=xT hc1
    refine q4 (AD (v:=(pP b4 2)) (AB (j:=2) O O underlying283 sizeOf2 O jY O) O (BF 0 (vI C) Ny O (AD (Ku (c:=(-C)) O (by first|(exfalso;omega)|(rw [Int.zero_sub];exact BJ Z Z))) O (AD (v:=(pP b4 2)) (AB (j:=2) O O underlying283 sizeOf2 O jY O) O (F8 0 (off:=2) (vs:=[(vI (-C))]) (cs':=[(vI A),(vI B),(vI (-C)),(vI D)]) (AI O) O sizeOf2 O (oNl' (zB (sL [3,4,5,6] O) (zA (zH (AD (v:=(pP b4 3)) (AB (j:=3) O O underlying283 sizeOf2 O jY O) O (BF 0 (vI D) Ny O ?_)))))))))))
    exact AD (Ku (c:=(-D)) O (by first|(exfalso;omega)|(rw [Int.zero_sub];exact BJ Z Z))) O (AD (v:=(pP b4 3)) (AB (j:=3) O O underlying283 sizeOf2 O jY O) O (F8 0 (off:=3) (vs:=[(vI (-D))]) (cs':=[(vI A),(vI B),(vI (-C)),(vI (-D))]) (AI O) O sizeOf2 O (oNl' (zB (sL [3,4,5,6] O) (zi (DG.mk A B (-C) (-D)) ((by first|(exfalso;omega)|exact (Nn hA hB hC hD hz0).symm|exact (Nl hA hB hC hD hc1).symm|exact (Nm hA hB hC hD hz0 hc1).symm)) (sF O) sr)))))
   ·replace hc1:=xS hc1
    exact zC (zi (DG.mk A B C D) ((by first|(exfalso;omega)|exact (Nn hA hB hC hD hz0).symm|exact (Nl hA hB hC hD hc1).symm|exact (Nm hA hB hC hD hz0 hc1).symm)) (sF O) sr)
  ·intro K hJ
   have hK:=hJ
   have kk:=Fb m.a m.b m.c m.d
   rw [<-hK] at kk
   have qz0:=DA kk.a (k:=6) (b:=(p.1:Int)) Z
   have qz1:=DA kk.b (k:=6) (b:=(p.2:Int)) Z
   have qz2:=DA kk.c (k:=6) (b:=(p.1:Int)) Z
   have qz3:=DA kk.d (k:=6) (b:=(p.2:Int)) Z
   refine q2 (AD (v:=(pP b2 0)) (AB (j:=0) O O underlying113 sizeOf3 O jY O) O (BF 2 (vN p.1) Bm O (asg' O (q3 (sL [3,4,5,7] O) (AD (v:=(pP b2 1)) (AB (j:=1) O O underlying113 sizeOf3 O jY O) O (BF 2 (vN p.2) Bm O (asg' O (q3 (sL [3,4,5,7,8] O) (AD (v:=(pP b4 0)) (AB (j:=0) O O underlying283 sizeOf2 O jY O) O (BF 0 (vI K.a) Ny O (AL O ?_)))))))))))
   refine AD (Bx (c:=(K.a*(p.1:Int))) O O (BJ Z Z)) O (AD (v:=(pP b4 1)) (AB (j:=1) O O underlying283 sizeOf2 O jY O) O (BF 0 (vI K.b) Ny O (AL O (AD (Bx (c:=(K.b*(p.2:Int))) O O (BJ Z Z)) O (AD (AT (c:=(K.a*(p.1:Int)+K.b*(p.2:Int))) O O (BJ Z Z)) O (AD (v:=(pP b4 2)) (AB (j:=2) O O underlying283 sizeOf2 O jY O) O (BF 0 (vI K.c) Ny O (AL O (AD (Bx (c:=(K.c*(p.1:Int))) O O (BJ Z Z)) O (AD (v:=(pP b4 3)) (AB (j:=3) O O underlying283 sizeOf2 O jY O) O (BF 0 (vI K.d) Ny O ?_)))))))))))
   exact AL O (AD (Bx (c:=(K.d*(p.2:Int))) O O (BJ Z Z)) O (AD (AT (c:=(K.c*(p.1:Int)+K.d*(p.2:Int))) O O (BJ Z Z)) O (AD (v:=(aG (CW (K.a*(p.1:Int)+K.b*(p.2:Int),K.c*(p.1:Int)+K.d*(p.2:Int))))) (Ap (zs:=CW ((0,0):Int×Int)) (vs:=CW (K.a*(p.1:Int)+K.b*(p.2:Int),K.c*(p.1:Int)+K.d*(p.2:Int))) (pv:=[(0,(vI (K.a*(p.1:Int)+K.b*(p.2:Int)))),(1,(vI (K.c*(p.1:Int)+K.d*(p.2:Int))))]) zeroValue179 underlying179 sizeOf2 O (Gf (K.a*(p.1:Int)+K.b*(p.2:Int)) (K.c*(p.1:Int)+K.d*(p.2:Int)))) O (Cd O sizeOf179 O (oNl' (zB (sL [3,4,5] O) (zA (zF (ret_one O (Ao (i:=1) (cs:=CW (K.a*(p.1:Int)+K.b*(p.2:Int),K.c*(p.1:Int)+K.d*(p.2:Int))) O O isAgg179 sizeOf179 O) (λw hw=>⟨by rw [<-hK];rfl,hw.out⟩))))))))))
end
section
section
variable {P:Program}
theorem OC.one {D c i:Nat} {e:TypeId} {is:List Nat} {xs ys:List Value} {u v:Value} {r s:Bool} (hg:∀w,(isAgg e).run P w=.ok false w)
    (ha:xs[i*c]?=some u) (hb:ys[i*c]?=some v) (h:E1 P D e u v r) (h2:OC P D e c xs ys is s):OC P D e c xs ys (i::is) (r&&s):=λw=>by
  have e1:(part e xs.toArray (i*c)).run P w=.ok u w:=by simp [part,hg,ha]
  have e2:(part e ys.toArray (i*c)).run P w=.ok v w:=by simp [part,hg,hb]
  simp only [Go.Op.eqItems,Sem.run_bind,e1,e2,Result.andThen_ok,h w]
  cases r
  · simp
  · simp [h2 w]
end
theorem K9:∃i,prog.info? 3=some i:=Option.isSome_iff_exists.1 jV
theorem Ix:prog.cellsOf 3=1:=by kernel_rfl
theorem NP (D:Nat) (a b:P2):E1 prog (D+2) 113 (.agg (A6 a).toArray) (.agg (A6 b).toArray) (decide (a=b)):=by
  have h:E1 prog (D+2) 113 (.agg (A6 a).toArray) (.agg (A6 b).toArray) (((a.1:Int) == (b.1:Int))&&(((a.2:Int) == (b.2:Int))&&true)) :=
    E1.array underlying113 K9 Ix (OC.one isAgg3 rfl rfl (E1.int underlying3) (OC.one isAgg3 rfl rfl (E1.int underlying3) OC.nil))
  have e:(((a.1:Int) == (b.1:Int))&&(((a.2:Int) == (b.2:Int))&&true))=decide (a=b):=by
    obtain ⟨a1,a2⟩:=a
    obtain ⟨b1,b2⟩:=b
    rw [Bool.eq_iff_iff]
    simp
    constructor<;>(rintro ⟨h1,h2⟩;constructor<;>omega)
  rwa [e] at h
theorem JO (xs:List (P2×P2×P2)) (i r:Nat) (hi:i<xs.length) (hr:r<3) (c:P2×P2×P2) (hc:c=xs.getD i ((0,0),(0,0),(0,0))) (p:P2) (hp:p=if r=0 then c.1 else if r=1 then c.2.1 else c.2.2):((rowsL A9 xs).drop (i*6+r*2)).take 2=A6 p:=by
  have h:=Af F9 ((0,0),(0,0),(0,0)) xs i hi
  rw [<-hc] at h
  have e:((rowsL A9 xs).drop (i*6+r*2)).take 2=((((rowsL A9 xs).drop (i*6)).take 6).drop (r*2)).take 2:=by
    rw [List.drop_take,List.take_take,List.drop_drop]
    congr 1
    omega
  rw [e,h]
  have h3:r=0\/r=1\/r=2:=by omega
  rcases h3 with rfl|rfl|rfl<;>subst hp<;>rfl
def Cn (c:P2×P2×P2) (k:Nat):P2:=if k=0 then c.1 else if k=1 then c.2.1 else c.2.2
def G4 (m:MQ) (t k:Nat):Nat:=(k+m.fst+t*(m.fst/3))%3
def Ai (m:MQ) (t k:Nat):P2:=Cn ((Av m).getD t ((0,0),(0,0),(0,0))) (G4 m t k)
structure JT (m:MQ) (pl:List P2) (n:Tq3) (t:Nat):Prop where
  a:n.1<pl.length/\pl.getD n.1 (0,0)=Ai m t 0
  b:n.2.1<pl.length/\pl.getD n.2.1 (0,0)=Ai m t 1
  c:n.2.2<pl.length/\pl.getD n.2.2 (0,0)=Ai m t 2
def GU (pl:List P2) (p:P2):List P2×Nat:=if p∈pl then (pl,pl.idxOf p) else (pl++[p],pl.length)
def Wp (m:MQ):Nat->List P2×List (Tq3)
  | 0=>([],[])
  | i+1=>((GU (GU (GU (Wp m i).1 (Ai m i 0)).1 (Ai m i 1)).1 (Ai m i 2)).1,
      (Wp m i).2++[((GU (Wp m i).1 (Ai m i 0)).2,(GU (GU (Wp m i).1 (Ai m i 0)).1 (Ai m i 1)).2,(GU (GU (GU (Wp m i).1 (Ai m i 0)).1 (Ai m i 1)).1 (Ai m i 2)).2)])
theorem WW {m:MQ} {i:Nat} {pl pl1 pl2 pl3:List P2} {ts:List (Tq3)} {n1 n2 n3:Nat} (h:(pl,ts)=Wp m i) (h1:(pl1,n1)=GU pl (Ai m i 0)) (h2:(pl2,n2)=GU pl1 (Ai m i 1)) (h3:(pl3,n3)=GU pl2 (Ai m i 2)):(pl3,ts++[(n1,n2,n3)])=Wp m (i+1):=by
  rw [Wp,<-h]
  dsimp only
  rw [<-h1]
  dsimp only
  rw [<-h2]
  dsimp only
  rw [<-h3]
theorem LX {pl:List P2} {p:P2} (h:∀j,j<pl.length->pl.getD j (0,0)≠p):(pl++[p],pl.length)=GU pl p:=by
  unfold GU
  rw [if_neg]
  intro hm
  obtain ⟨j,hj,e⟩:=List.getElem_of_mem hm
  exact h j hj (by rw [List.getD,xP hj];exact e)
structure NA (m:MQ) (i:Nat) (pl:List P2) (ts:List (Tq3)):Prop where
  tl:ts.length=i
  pll:pl.length<=3*i
  at_:∀j,j<i->JT m pl (ts.getD j (0,0,0)) j
  small:∀p∈pl,p.1<=6/\p.2<=6
  used:∀a,a<pl.length->∃j,j<i/\((ts.getD j (0,0,0)).1=a\/(ts.getD j (0,0,0)).2.1=a\/(ts.getD j (0,0,0)).2.2=a)
  fn:(pl,ts)=Wp m i
def Wv (pl:List P2):Prop:=∀a b,a<pl.length->b<pl.length->pl.getD a (0,0)=pl.getD b (0,0)->a=b
theorem LY {pl:List P2} {p:P2} {n:Nat} (hd:Wv pl) (hn:n<pl.length) (h:pl.getD n (0,0)=p):(pl,n)=GU pl p:=by
  have hm:p∈pl:=by rw [<-h,List.getD,xP hn];exact List.getElem_mem hn
  unfold GU
  rw [if_pos hm]
  have hi:pl.idxOf p<pl.length:=List.idxOf_lt_length_of_mem hm
  have e:pl.getD (pl.idxOf p) (0,0)=p:=by rw [List.getD,xP hi];exact List.getElem_idxOf hi
  rw [hd n (pl.idxOf p) hn hi (h.trans e.symm)]
theorem XN:Wv []:=λa b h=>absurd h (Nat.not_lt_zero _)
structure WS where
  pl:List P2
  p1:Option Addr
  c1:Nat
  p2:Option Addr
  c2:Nat
structure WS.Ok (s:WS):Prop where
  o1:OwnOk s.p1 s.pl.length s.c1
  o2:OwnOk s.p2 s.pl.length s.c2
  small:∀p∈s.pl,p.1<=6/\p.2<=6
  dst:Wv s.pl
def mapM (m:MQ):DG:=Gl m.a m.b m.c m.d
def WS.pts (s:WS) (m:MQ):List (Int×Int):=s.pl.map λp=>(mapM m).at_ p
theorem EQ {m:MQ} {t k:Nat} (h:t<(Av m).length):(Ai m t k).1<=6/\(Ai m t k).2<=6:=by
  have h1:=Fu m ((Av m).getD t ((0,0),(0,0),(0,0))) (by rw [List.getD,xP h];exact List.getElem_mem h)
  unfold Ai Cn
  split
  · exact h1.2.1
  · split
    · exact h1.2.2.1
    · exact h1.2.2.2
theorem Dr {pl:List P2} {x:P2} {j:Nat} (h:j<pl.length):(pl++[x]).getD j (0,0)=pl.getD j (0,0):=by simp [List.getD,List.getElem?_append_left h]
theorem DM (pl:List P2) (x:P2):(pl++[x]).getD pl.length (0,0)=x:=by simp [List.getD]
theorem Kn {pl:List P2} {x:P2} (h:Wv pl) (hx:∀j,j<pl.length->pl.getD j (0,0)≠x):Wv (pl++[x]):=λa b ha hb e=>by
  simp only [xL,List.length_singleton] at ha hb
  rcases Nat.lt_or_ge a pl.length with h1|h1<;>rcases Nat.lt_or_ge b pl.length with h2|h2
  · rw [Dr h1,Dr h2] at e;exact h a b h1 h2 e
  · obtain rfl:b=pl.length:=by omega
    rw [Dr h1,DM] at e;exact absurd e (hx a h1)
  · obtain rfl:a=pl.length:=by omega
    rw [Dr h2,DM] at e;exact absurd e.symm (hx b h2)
  · omega
def GF (a b:List P2):Prop:=a.length<=b.length/\∀j,j<a.length->b.getD j (0,0)=a.getD j (0,0)
theorem GF.refl (a:List P2):GF a a:=⟨Nat.le_refl _,λ_ _=>rfl⟩
theorem GF.trans {a b c:List P2} (h:GF a b) (k:GF b c):GF a c:=⟨xM h.1 k.1,λj hj=>(k.2 j (by have:=h.1;omega)).trans (h.2 j hj)⟩
theorem GF.snoc (a:List P2) (x:P2):GF a (a++[x]):=⟨by simp,λj hj=>Dr hj⟩
theorem JT.more {m:MQ} {a b:List P2} {n:Tq3} {t:Nat} (h:JT m a n t) (k:GF a b):JT m b n t :=
  ⟨⟨by have:=h.a.1;have:=k.1;omega,(k.2 _ h.a.1).trans h.a.2⟩,⟨by have:=h.b.1;have:=k.1;omega,(k.2 _ h.b.1).trans h.b.2⟩,⟨by have:=h.c.1;have:=k.1;omega,(k.2 _ h.c.1).trans h.c.2⟩⟩
theorem Jb {ts:List (Tq3)} {x:Tq3} {j:Nat} (h:j<ts.length):(ts++[x]).getD j (0,0,0)=ts.getD j (0,0,0):=by simp [List.getD,List.getElem?_append_left h]
theorem NA.step {m:MQ} {i:Nat} {pl pl':List P2} {ts:List (Tq3)} {n:Tq3} (h:NA m i pl ts) (k:GF pl pl') (hl:pl'.length<=pl.length+3) (hs:∀p∈pl',p.1<=6/\p.2<=6) (hn:JT m pl' n i) (hu:∀a,a<pl'.length->a<pl.length\/n.1=a\/n.2.1=a\/n.2.2=a) (hf:(pl',ts++[n])=Wp m (i+1)):NA m (i+1) pl' (ts++[n]) :=
  ⟨by rw [xL,h.tl];rfl,by have:=h.pll;omega,λj hj=>by
    rcases Nat.lt_or_ge j i with h1|h1
    · rw [Jb (by rw [h.tl];exact h1)];exact (h.at_ j h1).more k
    · have e:j=i:=by omega
      subst e
      have e2:(ts++[n]).getD j (0,0,0)=n:=by rw [<-h.tl];simp [List.getD]
      rw [e2];exact hn,hs,λa ha=>by
    rcases hu a ha with h1|h1
    · obtain ⟨j,hj,h2⟩:=h.used a h1
      exact ⟨j,Z,by rw [Jb (by rw [h.tl];exact hj)];exact h2⟩
    · have e2:(ts++[n]).getD i (0,0,0)=n:=by rw [<-h.tl];simp [List.getD]
      exact ⟨i,Z,by rw [e2];exact h1⟩,hf⟩
theorem bf (m:MQ):NA m 0 [] []:=⟨rfl,by simp,λj hj=>absurd hj Z,(λp hp=>by cases hp),(λa ha=>absurd ha (Nat.not_lt_zero _)),rfl⟩
def Gk (t:Tq3) (x:Nat):Bool:=decide (t.1=x)||decide (t.2.1=x)||decide (t.2.2=x)
def YX (m:MQ) (a b:Nat):Tq3:=(a,b,(a+3*b+m.fst)%5)
def Hv (ts:List (Tq3)) (a b:Nat):Nat->Nat
  | 0=>0
  | i+1=>Hv ts a b i+(if Gk (ts.getD i (0,0,0)) a=true/\Gk (ts.getD i (0,0,0)) b=true then 1 else 0)
def Jt (m:MQ) (ts:List (Tq3)) (a:Nat):Nat->List (Tq3)
  | 0=>[]
  | j+1=>Jt m ts a j++(if Hv ts a (a+1+j) ts.length=1 then [YX m a (a+1+j)] else [])
def FO (m:MQ) (ts:List (Tq3)) (N:Nat):Nat->List (Tq3)
  | 0=>[]
  | a+1=>FO m ts N a++Jt m ts a (N-(a+1))
theorem UB {ts:List (Tq3)} {a b i:Nat} (h:Gk (ts.getD i (0,0,0)) a=true/\Gk (ts.getD i (0,0,0)) b=true):Hv ts a b (i+1)=Hv ts a b i+1:=by show _+(if _ then _ else _)=_;rw [if_pos h]
theorem XH {ts:List (Tq3)} {a b i:Nat} (h:Gk (ts.getD i (0,0,0)) a=false\/Gk (ts.getD i (0,0,0)) b=false):Hv ts a b (i+1)=Hv ts a b i:=by
  show _+(if _ then _ else _)=_
  rw [if_neg (λk=>by rcases h with h|h<;>rw [h] at k<;>exact absurd k jX),Nat.add_zero]
theorem Vs {m:MQ} {ts L:List (Tq3)} {a b:Nat} (hb:a+1<=b) (h:Hv ts a b ts.length=1):(L++Jt m ts a (b-(a+1)))++[(a,b,(a+3*b+m.fst)%5)]=L++Jt m ts a (b+1-(a+1)):=by
  rw [show b+1-(a+1)=b-(a+1)+1 by omega]
  show _=L++(_++(if _ then _ else _))
  rw [show a+1+(b-(a+1))=b by omega,if_pos h,List.append_assoc];rfl
theorem YU {m:MQ} {ts L:List (Tq3)} {a b:Nat} (hb:a+1<=b) (h:¬Hv ts a b ts.length=1):L++Jt m ts a (b-(a+1))=L++Jt m ts a (b+1-(a+1)):=by
  rw [show b+1-(a+1)=b-(a+1)+1 by omega]
  show _=L++(_++(if _ then _ else _))
  rw [show a+1+(b-(a+1))=b by omega,if_neg h,List.append_nil]
theorem M4 {l:List (Tq3)} {j:Nat} (h:j<l.length):l.take (j+1)=l.take j++[l.getD j (0,0,0)]:=by
  rw [List.take_add_one,List.getD,xP h];rfl
structure WM (m:MQ) where
  pl:List P2
  ts:List (Tq3)
  ss:List (Tq3)
  inv:NA m (Av m).length pl ts
  dst:Wv pl
  sl:ss.length<=108*108
  sd:ss=FO m ts pl.length pl.length
  a:RX (rowsL CW (pl.map λp=>(mapM m).at_ p)) pl.length
  b:RX (rowsL Ac ts) ts.length
  c:RX (rowsL Ac ss) ss.length
def dJ {m:MQ} (x:WM m):List Value:=[x.a.val,x.b.val,x.c.val]
theorem bg {m:MQ} {x:WM m} {y:As} (hy:y∈[x.a.row,x.b.row,x.c.row]):y.ro=true:=by
  simp only [xN,List.not_mem_nil,or_false] at hy
  rcases hy with rfl|rfl|rfl<;>rfl
instance {m:MQ}:C4 (WM m):=⟨λx=>aG (dJ x),λx=>[x.a.row,x.b.row,x.c.row],λx y hy=>bg hy⟩
theorem GS {S:Nat->Prop} {W w:World} {L:List As} (hw:BD ⟨W,none⟩ w L) (i:Nat) {p:Option Addr} {T:TypeId} {z n c:Nat} {cs:List Value} (hi:L[i]?=some (rowW p T z n c cs)) (ho:OwnOk p n c) (hl:cs.length=n*z):Holds w (AF p cs)/\∀b,(AF p cs).foot=some b->W.heap.size<=b\/S b:=by
  have hb:=hw.newRow hi
  refine ⟨λd e=>?_,λd e=>.inl (hb d e)⟩
  obtain ⟨_,o,ho2,hp⟩:=hw.2.1 _ (List.mem_of_getElem? hi) d e
  exact ⟨o,ho2,Dd ho hl hp⟩
section
variable {P:Program} {ops:Array Oper} {rest:List Oper} {Q:Exit->Act->World->Prop} {n d:Nat} {F:List (Nat×Value)} {w0:BC} {S:Nat->Prop} {L:List As} {t:TypeId} {p:String} {af:Array Edge} {y:Operand} {f:FuncId} {xs:List Operand} {args:List Value} {ts:Array TypeId}
theorem cX {cs:List Value} {k:Nat} (hc:∀args w,(callFunc f args).run P w=.ok (.enter f args) w) (h:∀w,BD w0 w L->Calls P f args.toArray w (Bf (RX cs k) (SL w0 S L) w))
    (hf:evF F y=some (.func (.func f) #[] #[])) (hargs:xs.map (evF F)=args.map some) (hd:Nat.ble (d+1) n=true) (next:∀a:RX cs k,At w0 S a->AR P ops rest Q n ((d,.slice a.p k a.c)::F) w0 (AF a.p cs::L)) :
    AR P ops (⟨some d,.call { callee:=.value y,args:=xs.toArray,argTypes:=ts },t,p,af,none⟩::rest) Q n F w0 L:=yM hc h hf hargs hd next
end
def JK (p:Option Addr) (T:TypeId) (z n c:Nat) (cs:List Value):As:=⟨p.map (·.block),(rowW p T z n c cs).P,true⟩
theorem BD.asunder {w0:BC} {w:World} {L:List As} (hw:BD w0 w L) {i j:Nat} {x y:As} (hi:L[i]?=some x) (hj:L[j]?=some y) (hij:i≠j) (hr:x.ro=false):∀b,y.foot=some b->x.foot≠some b:=λb e e2=>by
  obtain ⟨hil,rfl⟩:=List.getElem?_eq_some_iff.1 hi
  obtain ⟨hjl,rfl⟩:=List.getElem?_eq_some_iff.1 hj
  have hp:=List.pairwise_iff_getElem.1 hw.2.2
  rcases Nat.lt_or_gt_of_ne hij with h|h
  · rcases hp i j hil hjl h with k|k
    · rw [hr] at k;cases k.1
    · exact k b e2 e
  · rcases hp j i hjl hil h with k|k
    · rw [hr] at k;cases k.2
    · exact k b e e2
theorem Yf {S:Nat->Prop} {W w:World} {L:List As} {a:As} (hw:BD ⟨W,none⟩ w L) (i:Nat) (hi:L[i]?=some a) (hat:∀b,a.foot=some b->Nw ⟨W,none⟩ S b):Holds w a/\∀b,a.foot=some b->W.heap.size<=b\/S b:=⟨hw.holds hi,hat⟩
theorem Bf.weak {α:Type} [C4 α] {S S':Nat->Prop} {W w:World} {e:Ending} (h:Bf α S W e w) (hs:∀b,S b->S' b):Bf α S' W e w:=by
  obtain ⟨a,h1,h2,h3⟩:=h
  exact ⟨a,h1,h2,h3.mono λb h=>h.imp id (hs b)⟩
structure ZK (m:MQ) where
  x:WM m
  ob:OwnOk x.b.p x.ts.length x.b.c
def N2 {m:MQ} (y:ZK m):As:=JK y.x.b.p 105 3 y.x.ts.length y.x.b.c (rowsL Ac y.x.ts)
instance {m:MQ}:C4 (ZK m):=⟨λy=>aG (dJ y.x),λy=>[y.x.a.row,y.x.b.row,y.x.c.row,N2 y],λx y hy=>by
  simp only [xN,List.not_mem_nil,or_false] at hy
  rcases hy with rfl|rfl|rfl|rfl<;>rfl⟩
theorem bD {W w:World} {L:List As} {m:MQ} (hw:BD ⟨W,none⟩ w L) (x:WM m) (ob:OwnOk x.b.p x.ts.length x.b.c) (j:Nat) (hj:L[j]?=some (rowW x.b.p 105 3 x.ts.length x.b.c (rowsL Ac x.ts))) (h1:Holds w x.a.row/\∀b,x.a.row.foot=some b->W.heap.size<=b\/False) (h2:Holds w x.b.row/\∀b,x.b.row.foot=some b->W.heap.size<=b\/False) (h3:Holds w x.c.row/\∀b,x.c.row.foot=some b->W.heap.size<=b\/False) {v:Value} (hv:v=aG (dJ x)):Bf (ZK m) (λ_=>False) W (.returned v) w:=by
  refine ⟨⟨x,ob⟩,by rw [hv];rfl,hw.out,λy hy=>?_⟩
  have hy:y∈[x.a.row,x.b.row,x.c.row,N2 ⟨x,ob⟩]:=hy
  simp only [xN,List.not_mem_nil,or_false] at hy
  rcases hy with rfl|rfl|rfl|rfl
  · exact h1
  · exact h2
  · exact h3
  · exact ⟨λb e=>(hw.2.1 _ (List.mem_of_getElem? hj) b e).2,λb e=>.inl (hw.newRow hj b e)⟩
theorem At.wm {m:MQ} {w0:BC} {S:Nat->Prop} {y:ZK m} (h:At w0 S y):At w0 S y.x:=λz hz=>h z (by
  have hz:z∈[y.x.a.row,y.x.b.row,y.x.c.row]:=hz
  show z∈[y.x.a.row,y.x.b.row,y.x.c.row,N2 y]
  simp only [xN,List.not_mem_nil,or_false] at hz ⊢
  rcases hz with rfl|rfl|rfl<;>simp)
theorem At.wmf {m:MQ} {w0:BC} {S:Nat->Prop} {y:ZK m} (h:At w0 S y):∀b,(N2 y).foot=some b->Nw w0 S b:=h (N2 y) (by
  show N2 y∈[y.x.a.row,y.x.b.row,y.x.c.row,N2 y]
  simp)
end
end Go.Proofs.YtpolhpjiahbidaaGreatDoor
