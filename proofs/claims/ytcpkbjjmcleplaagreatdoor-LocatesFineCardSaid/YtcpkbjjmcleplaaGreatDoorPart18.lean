import Derived.Test.YtcpkbjjmcleplaaGreatDoorRows
import Derived.Test.YtcpkbjjmcleplaaGreatDoorPart17
namespace Go.Proofs.YtcpkbjjmcleplaaGreatDoor
open Go Go.RowKit Go.Proofs.Tryz
open Go.Value renaming slice→qz,bool→qa
set_option linter.unusedVariables false
set_option linter.unusedSimpArgs false
section
structure QD where
  n:Int
  d:Nat
structure PD where
  x:QD
  y:QD
def Qw (q:QD):List Value:=[.int .i64 q.n,.int .u32 (q.d:Nat)]
def EI (p:PD):List Value:=Qw p.x++Qw p.y
def QD.ok (q:QD):Prop := -9223372036854775808<=q.n/\q.n<9223372036854775808/\q.d<4294967296
def PD.ok (p:PD):Prop:=p.x.ok/\p.y.ok
def K9 (q:QD):Rat:=((q.n:Int):Rat)/(((max q.d 1:Nat):Int):Rat)
def Ew (p:PD):Pt:=⟨K9 p.x,K9 p.y⟩
theorem Vk {q:QD} (h:q.ok):Sz (K9 q)<=4:=by
  obtain ⟨h1,h2,h3⟩:=h
  have s1:=IY h1 h2
  have s2:=IY (z:=((max q.d 1:Nat):Int)) Z Z
  have hb:(((max q.d 1:Nat):Int):Rat)≠0:=λe=>by
    have:((max q.d 1:Nat):Int)=0:=by exact_mod_cast e
    omega
  have:=He (a:=((q.n:Int):Rat)) hb
  unfold K9
  omega
theorem Iz {p:PD} (h:p.ok):BO (Ew p)<=4:=OA (Vk h.1) (Vk h.2)
section
variable {P:Program} {w:World} {r:Reach} {base:Nat}
def PG:List IntKind->List Int->List Value
  | k::ks,n::ns=>.int k n::PG ks ns
  | _,_=>[]
def IW:List IntKind->List Int->Prop
  | [],[]=>True
  | k::ks,n::ns=>k.has n/\IW ks ns
  | _,_=>False
theorem LZ:∀(ts:List TypeId) (ks:List IntKind) (cs:List Value),ts.map P.underlying=ks.map (λk=>some (.int k))->cs.length=ts.length ->
    (∀(i:Nat) v,cs[i]?=some v->∃u,ts[i]?=some u/\Cell.okWide P w r base u v)->∃ns,cs=PG ks ns/\IW ks ns
  | [],[],[],_,_,_=>⟨[],rfl,trivial⟩
  | t::ts,k::ks,c::cs,hk,hl,hc=>by
    simp only [List.map_cons,List.cons.injEq] at hk
    obtain ⟨ns,hns,hh⟩:=LZ ts ks cs hk.2 (by simpa using hl) (λi v hv=>by simpa using hc (i+1) v (by simpa using hv))
    obtain ⟨u,hu,ho⟩:=hc 0 c jX
    simp only [List.getElem?_cons_zero,Option.some.injEq] at hu
    subst hu
    simp only [Cell.okWide,hk.1] at ho
    have ho':∃n,c=.int k n/\k.has n:=by
      unfold Cell.ok at ho
      rw [hk.1] at ho
      cases c<;>simp at ho
      exact ⟨_,by rw [ho.1],ho.2⟩
    obtain ⟨n,rfl,hn⟩:=ho'
    exact ⟨n::ns,by rw [hns];rfl,hn,hh⟩
  | [],_::_,_,hk,_,_=>by simp at hk
  | _::_,[],_,hk,_,_=>by simp at hk
  | _::_,_::_,[],_,hl,_=>by simp at hl
  | [],[],_::_,_,hl,_=>by simp at hl
theorem Vs {t:TypeId} {v:Value} {ts:List TypeId} (ks:List IntKind) (hag:(match P.underlying t with|some (.struct _)=>true|some (.array _ _)=>true|_=>false)=true) (hts:P.cellTypes P.depth t=some ts) (hsz:P.cellsOf t=ts.length)
    (hk:ts.map P.underlying=ks.map (λk=>some (.int k))) (hv:Value.okWide P w r base t v):∃ns,v=.agg (PG ks ns).toArray/\IW ks ns:=by
  have h1:∃cs,v=.agg cs/\cs.size=P.cellsOf t/\Row.okWide P w r base t cs:=by
    unfold Value.okWide at hv
    split at hv
    · exact hv
    · exact hv
    · rename_i h2 h3
      split at hag
      · rename_i e;exact absurd e (h2 _)
      · rename_i e;exact absurd e (h3 _ _)
      · cases hag
  obtain ⟨cs,rfl,hs,ts',hts',⟨n,hn⟩,hc⟩:=h1
  obtain rfl:=Option.some.inj (hts.symm.trans hts')
  obtain ⟨ns,h2,h3⟩:=LZ (P:=P) (w:=w) (r:=r) (base:=base) ts ks cs.toList hk (by simp [hs,hsz]) (λi v hv=>by
    have hlt:i<ts.length:=by
      rcases Nat.lt_or_ge i cs.toList.length with h|h
      · simpa [hs,hsz] using h
      · rw [List.getElem?_eq_none h] at hv;cases hv
    have:=hc i v (by simpa using hv)
    rwa [Nat.mod_eq_of_lt hlt] at this)
  exact ⟨ns,by rw [<-h2],h3⟩
end
theorem ZU {n:Int} (h:IntKind.i64.has n):-9223372036854775808<=n/\n<9223372036854775808:=by
  simp only [IntKind.has,IntKind.min,IntKind.max,IntKind.bits,IntKind.signed] at h;simp at h;omega
theorem bA {n:Int} (h:IntKind.u32.has n):0<=n/\n<4294967296:=by
  simp only [IntKind.has,IntKind.min,IntKind.max,IntKind.bits,IntKind.signed] at h;simp at h;omega
theorem bX {ks:List IntKind}:∀{ns:List Int},IW (.i64::.u32::ks) ns->∃(q:QD) (ms:List Int),q.ok/\PG (.i64::.u32::ks) ns=Qw q++PG ks ms/\IW ks ms
  | [],h=>h.elim
  | [_],h=>h.2.elim
  | a::b::ms,h=>by
    have h1:=ZU h.1
    have h2:=bA h.2.1
    refine ⟨⟨a,b.toNat⟩,ms,⟨h1.1,h1.2,by show b.toNat<_;omega⟩,?_,h.2.2⟩
    simp only [PG,Qw,List.cons_append,List.nil_append]
    rw [Int.toNat_of_nonneg h2.1]
theorem XJ {ks:List IntKind} {ns:List Int} (h:IW (.i64::.u32::.i64::.u32::ks) ns):∃(p:PD) (ms:List Int),p.ok/\PG (.i64::.u32::.i64::.u32::ks) ns=EI p++PG ks ms/\IW ks ms:=by
  obtain ⟨q,ms,hq,e,h1⟩:=bX h
  obtain ⟨q',ms',hq',e',h2⟩:=bX h1
  exact ⟨⟨q,q'⟩,ms',⟨hq,hq'⟩,by rw [e,e',EI,xC],h2⟩
def kQ:List IntKind:=[.i64,.u32]
theorem YR (ms:List Int):PG [] ms=[]:=by cases ms<;>rfl
section
variable {P:Program} {w:World} {r:Reach} {base:Nat} {t:TypeId} {v:Value} {ts:List TypeId}
theorem bm (hag:(match P.underlying t with|some (.struct _)=>true|some (.array _ _)=>true|_=>false)=true) (hts:P.cellTypes P.depth t=some ts) (hsz:P.cellsOf t=ts.length)
    (hk:ts.map P.underlying=(kQ++kQ++kQ++kQ++kQ++kQ).map (λk=>some (.int k))) (hv:Value.okWide P w r base t v):∃p0 p1 p2:PD,p0.ok/\p1.ok/\p2.ok/\v=.agg (EI p0++EI p1++EI p2).toArray:=by
  obtain ⟨ns,rfl,h⟩:=Vs _ hag hts hsz hk hv
  obtain ⟨p0,m0,h0,e0,h⟩:=XJ (ks:=kQ++kQ++kQ++kQ) h
  obtain ⟨p1,m1,h1,e1,h⟩:=XJ (ks:=kQ++kQ) h
  obtain ⟨p2,m2,h2,e2,h⟩:=XJ (ks:=[]) h
  exact ⟨p0,p1,p2,h0,h1,h2,by rw [show kQ++kQ++kQ++kQ++kQ++kQ=.i64::.u32::.i64::.u32::(kQ++kQ++kQ++kQ) from O,e0,show kQ++kQ++kQ++kQ=.i64::.u32::.i64::.u32::(kQ++kQ) from O,e1,show kQ++kQ=[.i64,.u32,.i64,.u32] from O,e2,YR];simp⟩
end
end
section
def rowsL {α:Type} (enc:α->List Value) (xs:List α):List Value:=xs.flatMap enc
section
variable {α:Type} {enc:α->List Value} {z:Nat}
theorem Aw (xs ys:List α):rowsL enc (xs++ys)=rowsL enc xs++rowsL enc ys:=by simp [rowsL]
theorem AT (h:∀x,(enc x).length=z) (xs:List α):(rowsL enc xs).length=xs.length*z:=by
  induction xs with
  | nil=>simp [rowsL]
  | cons x r ih =>
    have e:rowsL enc (x::r)=enc x++rowsL enc r:=rfl
    rw [e,xJ,ih,h,List.length_cons,Nat.add_mul];omega
theorem BE (h:∀x,(enc x).length=z) (d:α):∀(xs:List α) (j:Nat),j<xs.length->((rowsL enc xs).drop (j*z)).take z=enc (xs.getD j d)
  | x::r,0,_=>by
    have e:rowsL enc (x::r)=enc x++rowsL enc r:=rfl
    rw [e,Nat.zero_mul,List.drop_zero,List.take_append_of_le_length (by rw [h];exact Nat.le_refl _),List.take_of_length_le (by rw [h];exact Nat.le_refl _)];rfl
  | x::r,j+1,hj=>by
    have e:rowsL enc (x::r)=enc x++rowsL enc r:=rfl
    rw [e,show (j+1)*z=(enc x).length+j*z by rw [h,Nat.add_mul];omega,List.drop_append,List.drop_of_length_le Z,Nat.add_sub_cancel_left,List.nil_append,BE h d r j (by simpa using hj)];rfl
end
structure RX (cs:List Value) (n:Nat) where
  p:Option Addr
  c:Nat
  ok:BG p n c
@[reducible] def RX.val {cs:List Value} {n:Nat} (a:RX cs n):Value:=.slice a.p n a.c
@[reducible] def RX.row {cs:List Value} {n:Nat} (a:RX cs n):As:=AI a.p cs
instance {cs:List Value} {n:Nat}:Cl (RX cs n):=⟨λa=>.slice a.p n a.c,λa=>[AI a.p cs],λa y hy=>by rcases xM.1 hy with rfl;rfl⟩
theorem gr {S:Nat->Prop} {W w:World} {L:List As} (hw:A_ ⟨W,none⟩ w L) (i:Nat) {p:Option Addr} {T:TypeId} {z n c:Nat} {cs:List Value} (hi:L[i]?=some (rowW p T z n c cs)) (ho:OwnOk p n c) (hl:cs.length=n*z) {v:Value} (hv:v=.slice p n c):Aj (RX cs n) S W (.returned v) w:=by
  have hb:=hw.newRow hi
  refine ⟨⟨p,c,ho.row⟩,by rw [hv];rfl,hw.out,λy hy=>?_⟩
  rcases xM.1 hy with rfl
  refine ⟨λd e=>?_,λd e=>.inl (hb d e)⟩
  obtain ⟨_,o,ho2,hp⟩:=hw.2.1 _ (List.mem_of_getElem? hi) d e
  exact ⟨o,ho2,C9 ho hl hp⟩
def C7 (xs:List Nat):List Value:=xs.map λx=>Value.int .u8 (x:Nat)
theorem Vy {xs:List Nat} {j:Nat} (h:j<xs.length):(C7 xs)[j*1]?=some (.int .u8 ((xs.getD j 0:Nat):Int)):=by rw [Nat.mul_one];simp [C7,h]
structure MQ where
  nx:Nat
  ny:Nat
  cs:List Nat
  p:Option Addr
  cap:Nat
  a:Int
  b:Int
  c:Int
  d:Int
  den:Nat
  fst:Nat
  hx:nx<256
  hy:ny<256
  ha:-128<=a/\a<=127
  hb:-128<=b/\b<=127
  hc:-128<=c/\c<=127
  hd:-128<=d/\d<=127
  hden:den<256
  hfst:fst<256
  hcs:∀x∈cs,x<256
  ok:BG p cs.length cap
def Em (m:MQ):List Value:=[.int .u8 m.nx,.int .u8 m.ny,.slice m.p m.cs.length m.cap,.int .i8 m.a,.int .i8 m.b,.int .i8 m.c,.int .i8 m.d,.int .u8 m.den,.int .u8 m.fst]
instance:Cl MQ:=⟨λm=>aG (Em m),λm=>[AI m.p (C7 m.cs)],λa y hy=>by rcases xM.1 hy with rfl;rfl⟩
theorem Oq {a b:Nat} (h:a<256):IntKind.u8.wrap ((a:Int).tdiv (b:Int))=((a/b:Nat):Int):=by
  have:a/b<=a:=Nat.div_le_self _ _
  rw [<-Int.ofNat_tdiv]
  generalize a/b=q at *
  exact O_ Z Z
theorem Sa {a b:Nat} (h:a+b<256):IntKind.u8.wrap ((a:Int)+(b:Int))=((a+b:Nat):Int):=by rw [O_ Z Z];omega
abbrev P2:=Nat×Nat
def Df (nx way i:Nat):List (P2×P2×P2) :=
  let x:=2*(i%nx);let y:=2*(i/nx)
  if way<3\/(way=7/\i=0) then [((x,y),(x+2,y),(x+2,y+2)),((x,y),(x+2,y+2),(x,y+2))]
  else if way<5 then [((x,y),(x+2,y),(x,y+2)),((x+2,y),(x+2,y+2),(x,y+2))]
  else if way<7 then [((x,y),(x+2,y),(x+1,y+1)),((x+2,y),(x+2,y+2),(x+1,y+1)),((x+2,y+2),(x,y+2),(x+1,y+1)),((x,y+2),(x,y),(x+1,y+1))] else []
def FY (p q r:P2):Int:=((q.1:Int)-p.1)*((r.2:Int)-p.2)-((q.2:Int)-p.2)*((r.1:Int)-p.1)
def SZ (t:P2×P2×P2):Prop:=0<FY t.1 t.2.1 t.2.2/\(t.1.1<=6/\t.1.2<=6)/\(t.2.1.1<=6/\t.2.1.2<=6)/\(t.2.2.1<=6/\t.2.2.2<=6)
theorem V1 {nx ny way i:Nat} (hx:nx<=3) (hy:ny<=3) (hi:i<nx*ny):∀t∈Df nx way i,SZ t:=by
  have h1:i%nx<=2:=by
    have:nx≠0:=λe=>by subst e;omega
    have:=Nat.mod_lt i (show 0<nx by omega)
    omega
  have h2:i/nx<=2:=by
    have:i/nx<ny:=Nat.div_lt_of_lt_mul (by rwa [Nat.mul_comm] at hi ⊢)
    omega
  intro t ht
  unfold Df at ht
  generalize i%nx=u at *
  generalize i/nx=v at *
  have key:∀t:P2×P2×P2,t∈[((2*u,2*v),(2*u+2,2*v),(2*u+2,2*v+2)),((2*u,2*v),(2*u+2,2*v+2),(2*u,2*v+2)),((2*u,2*v),(2*u+2,2*v),(2*u,2*v+2)),((2*u+2,2*v),(2*u+2,2*v+2),(2*u,2*v+2)),
      ((2*u,2*v),(2*u+2,2*v),(2*u+1,2*v+1)),((2*u+2,2*v),(2*u+2,2*v+2),(2*u+1,2*v+1)),((2*u+2,2*v+2),(2*u,2*v+2),(2*u+1,2*v+1)),((2*u,2*v+2),(2*u,2*v),(2*u+1,2*v+1))]->SZ t:=by
    intro t ht
    simp only [xL,List.not_mem_nil,or_false] at ht
    rcases ht with rfl|rfl|rfl|rfl|rfl|rfl|rfl|rfl<;>refine ⟨?_,⟨?_,?_⟩,⟨?_,?_⟩,?_,?_⟩<;>dsimp only [FY]<;>first|omega|grind
  refine key t ?_
  simp only at ht
  split at ht
  · simp only [xL,List.not_mem_nil,or_false] at ht ⊢;rcases ht with h|h<;>simp [h]
  · split at ht
    · simp only [xL,List.not_mem_nil,or_false] at ht ⊢;rcases ht with h|h<;>simp [h]
    · split at ht
      · simp only [xL,List.not_mem_nil,or_false] at ht ⊢;rcases ht with h|h|h|h<;>simp [h]
      · cases ht
theorem Tq (nx way i:Nat):(Df nx way i).length<=4:=by
  unfold Df;simp only;split
  · simp
  · split
    · simp
    · split<;>simp
theorem Ph (nx way:Nat) (h:way<8):Df nx way 0≠[]:=by
  unfold Df;simp only;split
  · simp
  · split
    · simp
    · split
      · simp
      · rename_i h1 h2 h3;simp only [and_true,not_or] at h1;omega
section
variable {nx way i u v:Nat}
theorem Yq (hu:u=i%nx) (hv:v=i/nx) (h:way<3\/(way=7/\i=0)):Df nx way i=[((2*u,2*v),(2*u+2,2*v),(2*u+2,2*v+2)),((2*u,2*v),(2*u+2,2*v+2),(2*u,2*v+2))]:=by
  subst hu;subst hv;exact if_pos h
theorem Yr (hu:u=i%nx) (hv:v=i/nx) (h0:¬(way<3\/(way=7/\i=0))) (h:way<5):Df nx way i=[((2*u,2*v),(2*u+2,2*v),(2*u,2*v+2)),((2*u+2,2*v),(2*u+2,2*v+2),(2*u,2*v+2))]:=by
  subst hu;subst hv;exact (if_neg h0).trans (if_pos h)
theorem Ys (hu:u=i%nx) (hv:v=i/nx) (h0:¬(way<3\/(way=7/\i=0))) (h1:¬way<5) (h:way<7):Df nx way i=[((2*u,2*v),(2*u+2,2*v),(2*u+1,2*v+1)),((2*u+2,2*v),(2*u+2,2*v+2),(2*u+1,2*v+1)),((2*u+2,2*v+2),(2*u,2*v+2),(2*u+1,2*v+1)),((2*u,2*v+2),(2*u,2*v),(2*u+1,2*v+1))]:=by
  subst hu;subst hv;exact (if_neg h0).trans ((if_neg h1).trans (if_pos h))
theorem Yt (h0:¬(way<3\/(way=7/\i=0))) (h1:¬way<5) (h:¬way<7):Df nx way i=[]:=(if_neg h0).trans ((if_neg h1).trans (if_neg h))
end
def BD (p:P2):List Value:=[vN p.1,vN p.2]
theorem Dl (p:P2):(BD p).length=2:=rfl
def BA (t:P2×P2×P2):List Value:=BD t.1++BD t.2.1++BD t.2.2
theorem Gk (t:P2×P2×P2):(BA t).length=6:=rfl
def BC (t:Tq3):List Value:=[vN t.1,vN t.2.1,vN t.2.2]
theorem Bv (t:Tq3):(BC t).length=3:=rfl
def CZ (z:Int×Int):List Value:=[.int .i64 z.1,.int .i64 z.2]
theorem FU (z:Int×Int):(CZ z).length=2:=rfl
def Jd (m:MQ) (i:Nat):Nat:=if 0<m.cs.length then m.cs.getD (i%m.cs.length) 0%8 else 0
theorem Tc (m:MQ) (i:Nat):Jd m i<8:=by unfold Jd;split<;>omega
def PO (m:MQ):Nat:=1+m.nx%3
def Zz (m:MQ):Nat:=1+m.ny%3
def E9 (m:MQ):Nat->List (P2×P2×P2)
  | 0=>[]
  | i+1=>E9 m i++Df (PO m) (Jd m i) i
def BT (m:MQ):List (P2×P2×P2):=E9 m (PO m*Zz m)
theorem Ol (m:MQ):1<=PO m/\PO m<=3:=by unfold PO;omega
theorem Om (m:MQ):1<=Zz m/\Zz m<=3:=by unfold Zz;omega
theorem Ic (m:MQ):∀i,(E9 m i).length<=4*i
  | 0=>Nat.le_refl _
  | i+1=>by
    have h1:=Ic m i
    have h2:=Tq (PO m) (Jd m i) i
    show (E9 m i++Df (PO m) (Jd m i) i).length<=_
    rw [xJ];omega
theorem NZ (m:MQ):∀i,i<=PO m*Zz m->∀t∈E9 m i,SZ t
  | 0,_,t,ht=>by cases ht
  | i+1,hi,t,ht=>by
    rcases List.mem_append.1 ht with h|h
    · exact NZ m i Z t h
    · exact V1 (Ol m).2 (Om m).2 Z t h
theorem NY (m:MQ):∀i,1<=i->E9 m i≠[]
  | 1,_=>by
    show []++Df (PO m) (Jd m 0) 0≠[]
    rw [List.nil_append];exact Ph _ _ (Tc m 0)
  | i+2,_=>λe=>NY m (i+1) Z (List.append_eq_nil_iff.1 e).1
theorem Tr (m:MQ):BT m≠[]:=NY m _ (Nat.mul_pos (Ol m).1 (Om m).1)
theorem NW (m:MQ):∀t∈BT m,SZ t:=NZ m _ (Nat.le_refl _)
theorem KH (m:MQ):PO m*Zz m<=9:=Nat.mul_le_mul (Ol m).2 (Om m).2
theorem Gz (m:MQ):(BT m).length<=36:=by
  have h1:=Ic m (PO m*Zz m)
  have h2:=KH m
  unfold BT;omega
theorem Dq {a b:Int} {k:Int} (ha:-3<=a/\a<=3) (hb:-k<=b/\b<=k):-(3*k)<=a*b/\a*b<=3*k:=by
  obtain ⟨h3,h4⟩:=ha
  have e:a = -3\/a = -2\/a = -1\/a=0\/a=1\/a=2\/a=3:=by omega
  rcases e with rfl|rfl|rfl|rfl|rfl|rfl|rfl<;>omega
def YW (k:Int×Int×Int×Int):List Value:=[.int .i64 k.1,.int .i64 k.2.1,.int .i64 k.2.2.1,.int .i64 k.2.2.2]
structure Ep where
  a:Int
  b:Int
  c:Int
  d:Int
def Ep.det (k:Ep):Int:=k.a*k.d-k.b*k.c
structure Ep.Ok (k:Ep):Prop where
  a:-3<=k.a/\k.a<=3
  b:-3<=k.b/\k.b<=3
  c:-3<=k.c/\k.c<=3
  d:-3<=k.d/\k.d<=3
  pos:0<k.det
def Ep.at_ (k:Ep) (p:P2):Int×Int:=(k.a*p.1+k.b*p.2,k.c*p.1+k.d*p.2)
def IP (a b c d:Int):Ep :=
  let k:Ep:=⟨a.tmod 4,b.tmod 4,c.tmod 4,d.tmod 4⟩
  if k.det=0 then ⟨1,0,0,1⟩ else if k.det<0 then ⟨k.a,k.b,-k.c,-k.d⟩ else k
theorem Ka (a:Int):-3<=a.tmod 4/\a.tmod 4<=3:=by
  have h:=Int.tmod_eq_emod (a:=a) (b:=4)
  have h1:=Int.emod_nonneg a (show (4:Int)≠0 by decide)
  have h2:=Int.emod_lt_of_pos a (show (0:Int)<4 by decide)
  rw [h]
  split<;>omega
theorem Oh {a b c d A B C D:Int} (hA:A=a.tmod 4) (hB:B=b.tmod 4) (hC:C=c.tmod 4) (hD:D=d.tmod 4) (h:A*D-B*C=0):IP a b c d=⟨1,0,0,1⟩:=by
  subst hA;subst hB;subst hC;subst hD;exact if_pos h
theorem Of {a b c d A B C D:Int} (hA:A=a.tmod 4) (hB:B=b.tmod 4) (hC:C=c.tmod 4) (hD:D=d.tmod 4) (h:A*D-B*C<0):IP a b c d=⟨A,B,-C,-D⟩:=by
  subst hA;subst hB;subst hC;subst hD;exact (if_neg (λe:a.tmod 4*d.tmod 4-b.tmod 4*c.tmod 4=0=>by rw [e] at h;omega)).trans (if_pos h)
theorem Og {a b c d A B C D:Int} (hA:A=a.tmod 4) (hB:B=b.tmod 4) (hC:C=c.tmod 4) (hD:D=d.tmod 4) (h0:¬A*D-B*C=0) (h:¬A*D-B*C<0):IP a b c d=⟨A,B,C,D⟩:=by
  subst hA;subst hB;subst hC;subst hD;exact (if_neg h0).trans (if_neg h)
theorem JA (a b c d:Int):(IP a b c d).Ok:=by
  have ha:=Ka a;have hb:=Ka b;have hc:=Ka c;have hd:=Ka d
  unfold IP
  generalize a.tmod 4=a' at *
  generalize b.tmod 4=b' at *
  generalize c.tmod 4=c' at *
  generalize d.tmod 4=d' at *
  show (if a'*d'-b'*c'=0 then (⟨1,0,0,1⟩:Ep) else if a'*d'-b'*c'<0 then ⟨a',b',-c',-d'⟩ else ⟨a',b',c',d'⟩).Ok
  by_cases h0:a'*d'-b'*c'=0
  · rw [if_pos h0];exact ⟨by decide,by decide,by decide,by decide,by decide⟩
  · rw [if_neg h0]
    by_cases h:a'*d'-b'*c'<0
    · rw [if_pos h];exact ⟨ha,hb,by dsimp only;omega,by dsimp only;omega,by show 0<a' * -d'-b' * -c';rw [Int.mul_neg,Int.mul_neg];omega⟩
    · rw [if_neg h];exact ⟨ha,hb,hc,hd,by show 0<a'*d'-b'*c';omega⟩
theorem Vt {k:Ep} (h:k.Ok) {p:P2} (hp:p.1<=6/\p.2<=6):(-36<=(k.at_ p).1/\(k.at_ p).1<=36) /\ -36<=(k.at_ p).2/\(k.at_ p).2<=36:=by
  obtain ⟨x,y⟩:=p
  have key:∀(z:Int) (n:Nat),-3<=z/\z<=3->n<=6 -> -18<=z*n/\z*n<=18:=λz n h1 h2=>by
    obtain ⟨h3,h4⟩:=h1
    have e:z = -3\/z = -2\/z = -1\/z=0\/z=1\/z=2\/z=3:=by omega
    rcases e with rfl|rfl|rfl|rfl|rfl|rfl|rfl<;>omega
  have h1:=key k.a x h.a hp.1;have h2:=key k.b y h.b hp.2;have h3:=key k.c x h.c hp.1;have h4:=key k.d y h.d hp.2
  simp only [Ep.at_]
  exact ⟨⟨Z,Z⟩,Z,Z⟩
def XI (k:Ep) (den:Nat) (p:P2):PD:=⟨⟨(k.at_ p).1,den⟩,⟨(k.at_ p).2,den⟩⟩
theorem a9 {k:Ep} (h:k.Ok) (den:Nat) {p q r:P2} (ht:0<FY p q r):0<AF (Ew (XI k den p)) (Ew (XI k den q)) (Ew (XI k den r)):=by
  have hD:0<(((max den 1:Nat):Int):Rat):=by exact_mod_cast (show (0:Int)<((max den 1:Nat):Int) by omega)
  have e:AF (Ew (XI k den p)) (Ew (XI k den q)) (Ew (XI k den r))=((k.det*FY p q r:Int):Rat)*((((max den 1:Nat):Int):Rat)⁻¹*(((max den 1:Nat):Int):Rat)⁻¹):=by
    simp only [B0,Ew,XI,K9,Ep.at_,Ep.det,FY,Rat.div_def,Rat.intCast_add,Rat.intCast_mul,Rat.intCast_sub]
    generalize (((max den 1:Nat):Int):Rat)⁻¹=D
    grind
  rw [e]
  have h1:0<k.det*FY p q r:=Int.mul_pos h.pos ht
  have h2:(0:Rat)<((k.det*FY p q r:Int):Rat):=by exact_mod_cast h1
  have h3:=Rat.inv_pos.2 hD
  exact Rat.mul_pos h2 (Rat.mul_pos h3 h3)
end
end Go.Proofs.YtcpkbjjmcleplaaGreatDoor
