import Derived.Test.YtpgncndhhhllfaaGreatDoorPart05
import Derived.Test.YtpgncndhhhllfaaGreatDoorPart22
import Derived.Test.YtpgncndhhhllfaaGreatDoorPart27
import Derived.Test.YtpgncndhhhllfaaGreatDoorPart29
import Derived.Test.YtpgncndhhhllfaaGreatDoorPart30
namespace Go.Proofs.YtpgncndhhhllfaaGreatDoor
open Go Go.RowKit Go.Proofs.Tryz
set_option linter.unusedVariables false
set_option linter.unusedSimpArgs false
section
def dt (a b:Pt):Rat:=a.x*b.y-a.y*b.x
theorem M5 (a b:Pt):dt a b = -dt b a:=by unfold dt;grind
theorem J0 (a:Pt):dt a a=0:=by unfold dt;grind
theorem Ho {c z:Rat} (hc:0<c) (h:0<=z*c):0<=z:=Ha hc (by rw [Rat.mul_comm];exact h)
theorem X9 {u:Pt} (h:∀z,dt u z=0):u=⟨0,0⟩:=by
  have h1:=h ⟨0,1⟩;have h2:=h ⟨1,0⟩
  obtain ⟨x,y⟩:=u
  unfold dt at h1 h2
  simp only at h1 h2
  have e1:x=0:=by grind
  have e2:y=0:=by grind
  rw [e1,e2]
section
variable {p q r s u w:Pt}
def dV (p q r s w x:Pt):Prop:=0<=dt p x/\0<=dt x q/\0<=dt r x/\0<=dt x s/\0<=dt x w
theorem R5 {x:Pt} {k l:Rat} (hk:0<k) (hl:0<l) (h:∀z,k*dt u z=l*dt x z) (hp:0<=dt p u) (hq:0<=dt u q) (hr:0<=dt r u) (hs:0<=dt u s) (hw:0<=dt u w):dV p q r s w x:=by
  have key:∀z,0<=dt u z->0<=dt x z:=λz hz=>Ha hl (by rw [<-h];exact Rat.mul_nonneg (Rat.le_of_lt hk) hz)
  have key2:∀z,0<=dt z u->0<=dt z x:=λz hz=>by
    rw [M5 z x];rw [M5 z u] at hz
    have e:=h z
    have h1:0<=k * -dt u z:=Rat.mul_nonneg (Rat.le_of_lt hk) hz
    exact Ha hl (by grind)
  exact ⟨key2 _ hp,key _ hq,key2 _ hr,key _ hs,key _ hw⟩
theorem T0 (hpq:0<dt p q) (hu:u≠⟨0,0⟩) (hp:0<=dt p u) (hq:0<=dt u q) (h:dt p u=0\/dt u q=0):∃x k l,(x=p\/x=q)/\0<k/\0<l/\∀z,k*dt u z=l*dt x z:=by
  have cr:∀z,dt p q*dt u z=dt u q*dt p z+dt p u*dt q z:=λz=>by unfold dt;grind
  have ne:¬(dt p u=0/\dt u q=0):=λ⟨a,b⟩=>hu (X9 λz=>by
    have e:=cr z
    rw [a,b] at e
    have:dt p q*dt u z=0:=by grind
    rcases Rat.mul_eq_zero.1 this with c|c
    · rw [c] at hpq;exact absurd hpq (Rat.lt_irrefl)
    · exact c)
  rcases h with h|h
  · exact ⟨p,dt p q,dt u q,.inl O,hpq,by grind,λz=>by rw [cr,h];grind⟩
  · exact ⟨q,dt p q,dt p u,.inr O,hpq,by grind,λz=>by rw [cr,h];grind⟩
theorem U0 (hpq:0<dt p q) (hrs:0<dt r s) (hu:u≠⟨0,0⟩) (hp:0<=dt p u) (hq:0<=dt u q) (hr:0<=dt r u) (hs:0<=dt u s) (hw:0<=dt u w):∃x,(x=p\/x=q\/x=r\/x=s)/\dV p q r s w x:=by
  by_cases d1:dt p u=0\/dt u q=0
  · obtain ⟨x,k,l,hx,hk,hl,h⟩:=T0 hpq hu hp hq d1
    exact ⟨x,hx.elim .inl (λe=>.inr (.inl e)),R5 hk hl h hp hq hr hs hw⟩
  by_cases d2:dt r u=0\/dt u s=0
  · obtain ⟨x,k,l,hx,hk,hl,h⟩:=T0 hrs hu hr hs d2
    exact ⟨x,.inr (.inr hx),R5 hk hl h hp hq hr hs hw⟩
  have p1:0<dt p u:=by grind
  have p2:0<dt u q:=by grind
  have p3:0<dt r u:=by grind
  have p4:0<dt u s:=by grind
  have mn:∀{a b:Rat},0<=a->0<=b->0<=a*b:=λa b=>Rat.mul_nonneg a b
  have X:∃x,(x=p\/x=q\/x=r\/x=s)/\0<dt x u/\0<=dt p x/\0<=dt x q/\0<=dt r x/\0<=dt x s:=by
    by_cases c:0<=dt p r
    · have h1:0<=dt r q*dt p u:=by
        have e:dt r q*dt p u=dt p r*dt u q+dt r u*dt p q:=by unfold dt;grind
        have:=mn c hq;have:=mn hr (Rat.le_of_lt hpq);grind
      exact ⟨r,.inr (.inr (.inl O)),p3,c,Ho p1 h1,by rw [J0];exact Rat.le_refl,Rat.le_of_lt hrs⟩
    · have c':0<=dt r p:=by rw [M5 r p];grind
      have h1:0<=dt p s*dt r u:=by
        have e:dt p s*dt r u=dt r p*dt u s+dt p u*dt r s:=by unfold dt;grind
        have:=mn c' hs;have:=mn hp (Rat.le_of_lt hrs);grind
      exact ⟨p,.inl O,p1,by rw [J0];exact Rat.le_refl,Rat.le_of_lt hpq,c',Ho p3 h1⟩
  have Y:∃x,(x=p\/x=q\/x=r\/x=s)/\0<dt u x/\0<=dt p x/\0<=dt x q/\0<=dt r x/\0<=dt x s:=by
    by_cases c:0<=dt q s
    · have h1:0<=dt r q*dt u s:=by
        have e:dt r q*dt u s=dt r u*dt q s+dt r s*dt u q:=by unfold dt;grind
        have:=mn hr c;have:=mn (Rat.le_of_lt hrs) hq;grind
      exact ⟨q,.inr (.inl O),p2,Rat.le_of_lt hpq,by rw [J0];exact Rat.le_refl,Ho p4 h1,c⟩
    · have c':0<=dt s q:=by rw [M5 s q];grind
      have h1:0<=dt p s*dt u q:=by
        have e:dt p s*dt u q=dt p u*dt s q+dt p q*dt u s:=by unfold dt;grind
        have:=mn hp c';have:=mn (Rat.le_of_lt hpq) hs;grind
      exact ⟨s,.inr (.inr (.inr O)),p4,Ho p2 h1,c',Rat.le_of_lt hrs,by rw [J0];exact Rat.le_refl⟩
  obtain ⟨x,hx,x0,x1,x2,x3,x4⟩:=X
  obtain ⟨y,hy,y0,y1,y2,y3,y4⟩:=Y
  have hxy:0<=dt x y*dt p u:=by
    have e:dt x y*dt p u=dt p x*dt u y+dt x u*dt p y:=by unfold dt;grind
    have:=mn x1 (Rat.le_of_lt y0);have:=mn (Rat.le_of_lt x0) y1;grind
  have hxy:=Ho p1 hxy
  by_cases a:0<=dt x w
  · exact ⟨x,hx,x1,x2,x3,x4,a⟩
  by_cases b:0<=dt y w
  · exact ⟨y,hy,y1,y2,y3,y4,b⟩
  exfalso
  have e:dt x y*dt u w=dt u y*dt x w+dt x u*dt y w:=by unfold dt;grind
  have h1:=mn hxy hw
  have h2:0<dt u y * -dt x w:=Rat.mul_pos y0 (by grind)
  have h3:0<dt x u * -dt y w:=Rat.mul_pos x0 (by grind)
  grind
end
def PT (a b c d e f:Pt):Prop:=(AX a b d<=0/\AX a b e<=0/\AX a b f<=0)\/(AX b c d<=0/\AX b c e<=0/\AX b c f<=0)\/(AX c a d<=0/\AX c a e<=0/\AX c a f<=0)
def Eo (a b:Pt):Pt:=⟨a.x-b.x,a.y-b.y⟩
section
variable {a b c d e f u:Pt}
theorem ZV (hA:0<AX a b c) (hB:0<AX d e f) (hu:u≠⟨0,0⟩) (h1:dt u a<=dt u b) (h2:dt u a<=dt u c) (h3:dt u e<=dt u d) (h4:dt u f<=dt u d) (h5:dt u d<=dt u a) :
    (AX a b d<=0/\AX a b e<=0/\AX a b f<=0)\/(AX c a d<=0/\AX c a e<=0/\AX c a f<=0)\/(AX d e a<=0/\AX d e b<=0/\AX d e c<=0)\/(AX f d a<=0/\AX f d b<=0/\AX f d c<=0):=by
  have key:=U0 (p:=Eo a c) (q:=Eo b a) (r:=Eo f d) (s:=Eo d e) (u:=u) (w:=Eo a d) (by simp only [Ca] at hA;unfold dt Eo;grind) (by simp only [Ca] at hB;unfold dt Eo;grind) hu
    (by unfold dt Eo at *;grind) (by unfold dt Eo at *;grind) (by unfold dt Eo at *;grind) (by unfold dt Eo at *;grind) (by unfold dt Eo at *;grind)
  clear h1 h2 h3 h4 h5 hA hB hu
  obtain ⟨x,hx,k1,k2,k3,k4,k5⟩:=key
  simp only [Ca]
  unfold dt Eo at k1 k2 k3 k4 k5
  rcases hx with rfl|rfl|rfl|rfl
  · right;left;simp only at k1 k2 k3 k4 k5;unfold Eo at *;simp only at k1 k2 k3 k4 k5;refine ⟨?_,?_,?_⟩<;>grind
  · left;simp only at k1 k2 k3 k4 k5;unfold Eo at *;simp only at k1 k2 k3 k4 k5;refine ⟨?_,?_,?_⟩<;>grind
  · right;right;right;simp only at k1 k2 k3 k4 k5;unfold Eo at *;simp only at k1 k2 k3 k4 k5;refine ⟨?_,?_,?_⟩<;>grind
  · right;right;left;simp only at k1 k2 k3 k4 k5;unfold Eo at *;simp only at k1 k2 k3 k4 k5;refine ⟨?_,?_,?_⟩<;>grind
theorem Js (a b c:Pt):AX b c a=AX a b c:=by simp only [Ca];grind
def bd (u:Pt) (k:Rat) (a b c d e f:Pt):Prop:=(k<=dt u a/\k<=dt u b/\k<=dt u c)/\dt u d<=k/\dt u e<=k/\dt u f<=k
theorem bf (x y z:Rat):(x<=y/\x<=z)\/(y<=z/\y<=x)\/(z<=x/\z<=y):=by grind
theorem Z9 (hA:0<AX a b c) (hB:0<AX d e f) (hu:u≠⟨0,0⟩) (h1:dt u a<=dt u b) (h2:dt u a<=dt u c) (h3:dt u d<=dt u a) (h4:dt u e<=dt u a) (h5:dt u f<=dt u a):PT a b c d e f\/PT d e f a b c:=by
  rcases bf (-dt u d) (-dt u e) (-dt u f) with m|m|m
  · rcases ZV hA hB hu h1 h2 (by grind) (by grind) h3 with k|k|k|k
    · exact .inl (.inl k)
    · exact .inl (.inr (.inr k))
    · exact .inr (.inl k)
    · exact .inr (.inr (.inr k))
  · rcases ZV (d:=e) (e:=f) (f:=d) hA (by rw [Js];exact hB) hu h1 h2 (by grind) (by grind) h4 with k|k|k|k
    · exact .inl (.inl ⟨k.2.2,k.1,k.2.1⟩)
    · exact .inl (.inr (.inr ⟨k.2.2,k.1,k.2.1⟩))
    · exact .inr (.inr (.inl k))
    · exact .inr (.inl k)
  · rcases ZV (d:=f) (e:=d) (f:=e) hA (by rw [<-Js];exact hB) hu h1 h2 (by grind) (by grind) h5 with k|k|k|k
    · exact .inl (.inl ⟨k.2.1,k.2.2,k.1⟩)
    · exact .inl (.inr (.inr ⟨k.2.1,k.2.2,k.1⟩))
    · exact .inr (.inr (.inr k))
    · exact .inr (.inr (.inl k))
theorem PT.rot1 (h:PT b c a d e f):PT a b c d e f:=by
  rcases h with k|k|k
  · exact .inr (.inl k)
  · exact .inr (.inr k)
  · exact .inl k
theorem PT.rot2 (h:PT d e f b c a):PT d e f a b c:=by
  rcases h with k|k|k
  · exact .inl ⟨k.2.2,k.1,k.2.1⟩
  · exact .inr (.inl ⟨k.2.2,k.1,k.2.1⟩)
  · exact .inr (.inr ⟨k.2.2,k.1,k.2.1⟩)
theorem de {k:Rat} (hA:0<AX a b c) (hB:0<AX d e f) (hu:u≠⟨0,0⟩) (h:bd u k a b c d e f):PT a b c d e f\/PT d e f a b c:=by
  obtain ⟨⟨h1,h2,h3⟩,h4,h5,h6⟩:=h
  rcases bf (dt u a) (dt u b) (dt u c) with m|m|m
  · exact Z9 hA hB hu m.1 m.2 (by grind) (by grind) (by grind)
  · exact (Z9 (a:=b) (b:=c) (c:=a) (by rw [Js];exact hA) hB hu m.1 m.2 (by grind) (by grind) (by grind)).imp PT.rot1 PT.rot2
  · exact (Z9 (a:=c) (b:=a) (c:=b) (by rw [<-Js];exact hA) hB hu m.1 m.2 (by grind) (by grind) (by grind)).imp (λq=>q.rot1.rot1) (λq=>q.rot2.rot2)
end
end
section
abbrev M3:=List Pt×List T3×List T3
def dS (M:M3):Prop:=M.1.length+(BV M.2.1).length<=4096/\4*M.2.1.length<=8192
instance (M:M3):Decidable (dS M):=inferInstanceAs (Decidable (_/\_))
theorem Wf (ts:List T3):(BV ts).length<=3*ts.length:=by rw [Jv];exact Jk _
structure d_ (ps:List Pt) (ts ss:List T3) (e:Nat) where
  m:MX ps ts ss
instance {ps:List Pt} {ts ss:List T3} {e:Nat}:DN (d_ ps ts ss e):=⟨λx=>.tuple #[aG (CI x.m),vN e],λx=>DN.rows x.m,λx y hy=>DN.ro x.m y hy⟩
section
variable {P:Program} {ops:Array Oper} {rest:List Oper} {Q:Exit->Act->World->Prop} {n d:Nat} {F:List (Nat×Value)} {w0:BJ} {S:Nat->Prop} {L:List As} {t:TypeId} {p:String} {af:Array Edge} {y:Operand} {f:FuncId} {xs:List Operand} {args:List Value} {tys:Array TypeId} {ps:List Pt} {ts ss:List T3} {e:Nat}
end
def dH (ts:List T3):List Value:=vI (-1)::vN 0::vN 1::rowsL Ai ts
structure MB (ps:List Pt) (ts ss:List T3) where
  a:RX (rowsL Am ps) ps.length
  b:RX (dH ts) (1+ts.length)
  c:RX (rowsL Ai ss) ss.length
def di {ps:List Pt} {ts ss:List T3} (x:MB ps ts ss):List Value:=[x.a.val,x.b.val,x.c.val]
theorem br {ps:List Pt} {ts ss:List T3} {x:MB ps ts ss} {y:As} (hy:y∈[x.a.row,x.b.row,x.c.row]):y.ro=true:=by
  simp only [List.mem_cons,List.not_mem_nil,or_false] at hy
  rcases hy with rfl|rfl|rfl<;>rfl
instance {ps:List Pt} {ts ss:List T3}:DN (MB ps ts ss):=⟨λx=>aG (di x),λx=>[x.a.row,x.b.row,x.c.row],λx y hy=>br hy⟩
end
section
def bj {α β:Type} (b:Nat) (enc:α->Value) (eV:β->Value) (kvs:List (α×β)):As:=⟨some b,λo=>o=.map (entsM enc eV kvs 0).toArray kvs.length,true⟩
section
variable {α β:Type} [DecidableEq α] {enc:α->Value} {eV:β->Value} {ok:α->Prop} {P:Program} {kt:TypeId} {n:Nat} {F:List (Nat×Value)} {w0:BJ} {L:List As} {d:Option Tmp} {tx et t b:Nat} {pp:String} {af:Array Edge} {g:Option (Nat×Bool)} {mp kp:Operand}
end
def To (t:T3):P2:=CT t.2.1 t.2.2
def cd (ts:List T3) (ms:List Int) (k:P2):Prop:=∃z∈ms,0<=z/\z<(ts.length:Int)/\k=To (ts.getD z.toNat (0,0,0))
inductive aU (ts:List T3) (S:P2->Prop):P2->Prop
  | start {k:P2}:S k->aU ts S k
  | up {t:T3} {k:P2}:t∈ts->aU ts S k->(k=CT t.1 t.2.1\/k=CT t.2.2 t.1)->aU ts S (To t)
section
variable {ts:List T3} {ms:List Int} {i:Nat} {kvs:List (P2×Nat)}
end
structure HC (ts:List T3) (ms:List Int) where
  b:Nat
  kvs:List (P2×Nat)
  ok:N5 XX kvs
  one:∀k,BZ kvs k=none\/BZ kvs k=some 1
  all:∀k,BZ kvs k=some 1↔aU ts (cd ts ms) k
instance {ts:List T3} {ms:List Int}:DN (HC ts ms):=⟨λx=>.map (some x.b),λx=>[bj x.b Jd vN x.kvs],λx y hy=>by rcases List.mem_singleton.1 hy with rfl;rfl⟩
structure DX (ts:List T3) (ms:List Int) where
  l:List E4
  r:RX (rowsL Bo l) l.length
  p:E4->Bool
  el:l=(BV ts).filter p
  all:∀e,p e=true↔aU ts (cd ts ms) (e.a,e.b)
instance {ts:List T3} {ms:List Int}:DN (DX ts ms):=⟨λx=>x.r.val,λx=>[x.r.row],λx y hy=>by rcases List.mem_singleton.1 hy with rfl;rfl⟩
end
section
def bn (ts:List T3):Nat->List (P2×Nat)
  | 0=>[]
  | s+1=>Bn (bn ts s) (Ct ts s) (s/3)
section
variable {ts:List T3} {N t r s:Nat}
end
structure SX (ts:List T3) (o:Bool) where
  b:Nat
  kvs:List (P2×Nat)
  ok:N5 XX kvs
  fin:o=true->kvs=bn ts (3*ts.length)
instance {ts:List T3} {o:Bool}:DN (SX ts o):=⟨λx=>.tuple #[.map (some x.b),.bool o],λx=>[bj x.b Jd vN x.kvs],λx y hy=>by rcases List.mem_singleton.1 hy with rfl;rfl⟩
theorem YA {ts:List T3}:(Bi ts).length<=3*ts.length:=by
  have h1:=O7 (ts:=ts) (BV ts).length
  have h2:=Wf ts
  show (If ts (BV ts).length).length<=_
  omega
end
section
section
variable {P:Program} {Q:Exit->Act->World->Prop} {n:Nat} {F:List (Nat×Value)} {w0:BJ} {L:List As} {c x y:Code}
end
end
section
section
variable {ts:List T3} {N:Nat} {k k0:P2} {i:Nat}
end
section
variable {ts:List T3} {N:Nat} {k k0:P2} {i:Nat} {dn dn0:List (P2×Nat)} {l:List Nat}
end
section
variable {ts:List T3} {N i:Nat} {dn dn2:List (P2×Nat)} {wq:T3} {l:List Nat}
end
end
section
theorem Z5 {c:T2} (h:0<Bv c.1 c.2.1 c.2.2):∃x y:Rat,Wq c x y:=by
  obtain ⟨⟨a1,a2⟩,⟨b1,b2⟩,⟨c1,c2⟩⟩:=c
  have h2:(0:Rat)<(Bv (a1,a2) (b1,b2) (c1,c2):Int):=by exact_mod_cast h
  have e:((Bv (a1,a2) (b1,b2) (c1,c2):Int):Rat)=((b1:Rat)-a1)*((c2:Rat)-a2)-((b2:Rat)-a2)*((c1:Rat)-a1):=by
    simp only [Bv,Rat.intCast_sub,Rat.intCast_mul,Rat.intCast_natCast]
  rw [e] at h2
  refine ⟨((a1:Rat)+b1+c1)/3,((a2:Rat)+b2+c2)/3,?_,?_,?_⟩<;>simp only [J_]<;>grind
section
variable {ps:List Pt} {ts:List T3}
theorem VI {m:MQ} {pl:List P2} {n:T3} {t:Nat} (h:JG m pl n t) {r:Nat} (hr:r<3):pl.getD (EE n r) (0,0)=Ar m t r:=by
  have e:r=0\/r=1\/r=2:=by omega
  rcases e with rfl|rfl|rfl
  · exact h.a.2
  · exact h.b.2
  · exact h.c.2
end
end
section
def Tf (A B:P2) (t:T2):Bool:=decide (Bv A B t.1<=0)&&decide (Bv A B t.2.1<=0)&&decide (Bv A B t.2.2<=0)
def VR (s t:T2):Bool:=Tf s.1 s.2.1 t||Tf s.2.1 s.2.2 t||Tf s.2.2 s.1 t
def V6 (s t:T2):Bool:=s == t||(VR s t||VR t s)
def VM:Bool:=Gv.all λp=>Gv.all λq=>(decide (p.1=q.1/\p.2.1=q.2.1/\p.2.2≠q.2.2))||(SD p.1 p.2.1 p.2.2).all λs=>(SD q.1 q.2.1 q.2.2).all λt=>V6 s t
theorem Lr:VM=true:=by decide +kernel
theorem US {m:MQ} {s t:T2} (hs:s∈BE m) (ht:t∈BE m):V6 s t=true:=by
  obtain ⟨i,hi,h1⟩:=EJ m _ s hs
  obtain ⟨j,hj,h2⟩:=EJ m _ t ht
  have hx:=Iq m
  have hy:=Ig m
  have b:∀k,k<F0 m*SP m->k%F0 m<=2/\k/F0 m<=2:=λk hk=>by
    have a1:=Nat.mod_lt k (show 0<F0 m by omega)
    have a2:k/F0 m<SP m:=Nat.div_lt_of_lt_mul hk
    omega
  rw [MW] at h1 h2
  have h:=List.all_eq_true.1 (List.all_eq_true.1 Lr _ (En (b i hi).1 (b i hi).2 (KA (Gg m i) i))) _ (En (b j hj).1 (b j hj).2 (KA (Gg m j) j))
  rw [Bool.or_eq_true,decide_eq_true_eq] at h
  rcases h with ⟨e1,e2,e3⟩|h
  · exfalso
    have e:i=j:=by rw [<-Nat.div_add_mod i (F0 m),<-Nat.div_add_mod j (F0 m),show i%F0 m=j%F0 m from e1,show i/F0 m=j/F0 m from e2]
    subst e
    exact e3 O
  · exact List.all_eq_true.1 (List.all_eq_true.1 h s h1) t h2
theorem M7 {A B:P2} {t:T2} (h:Tf A B t=true):∀q,q<3->Bv A B (C3 t q)<=0:=by
  simp only [Tf,Bool.and_eq_true,decide_eq_true_eq] at h
  intro q hq
  have e:q=0\/q=1\/q=2:=by omega
  rcases e with rfl|rfl|rfl
  · exact h.1.1
  · exact h.1.2
  · exact h.2
theorem ZG {s t:T2} (h:VR s t=true) (hp:0<Bv s.1 s.2.1 s.2.2):∃A B X:P2,0<Bv A B X/\(∀q,q<3->0<=Bv A B (C3 s q))/\∀q,q<3->Bv A B (C3 t q)<=0:=by
  have hs:∀A B C:P2,0<Bv A B C->(A=s.1/\B=s.2.1/\C=s.2.2\/A=s.2.1/\B=s.2.2/\C=s.1\/A=s.2.2/\B=s.1/\C=s.2.1)->∀q,q<3->0<=Bv A B (C3 s q):=λA B C hc he q hq=>by
    have e:q=0\/q=1\/q=2:=by omega
    have s1:=(DP A B).2.1
    have s2:=(DP A B).2.2
    rcases he with ⟨rfl,rfl,rfl⟩|⟨rfl,rfl,rfl⟩|⟨rfl,rfl,rfl⟩<;>rcases e with rfl|rfl|rfl<;>simp only [C3,if_true]<;>first|exact Int.le_of_lt hc|(simp;first|exact Int.le_of_lt hc|(rw [s1];exact Int.le_refl 0)|(have:=(DP s.1 s.2.1);have:=(DP s.2.1 s.2.2);have:=(DP s.2.2 s.1);unfold Bv at *;omega)|(unfold Bv;grind))
  simp only [VR,Bool.or_eq_true] at h
  rcases h with (h|h)|h
  · exact ⟨_,_,_,hp,hs _ _ _ hp (.inl ⟨rfl,rfl,rfl⟩),M7 h⟩
  · have hp':0<Bv s.2.1 s.2.2 s.1:=by rw [Er];exact hp
    exact ⟨_,_,_,hp',hs _ _ _ hp' (.inr (.inl ⟨rfl,rfl,rfl⟩)),M7 h⟩
  · have hp':0<Bv s.2.2 s.1 s.2.1:=by rw [Er,Er];exact hp
    exact ⟨_,_,_,hp',hs _ _ _ hp' (.inr (.inr ⟨rfl,rfl,rfl⟩)),M7 h⟩
def Ln (ps:List Pt) (s t:T3):Prop:=∃(u:Pt) (k:Rat),u≠⟨0,0⟩/\bd u k (cor ps s.1) (cor ps s.2.1) (cor ps s.2.2) (cor ps t.1) (cor ps t.2.1) (cor ps t.2.2)
theorem Ln.symm {ps:List Pt} {s t:T3} (h:Ln ps s t):Ln ps t s:=by
  obtain ⟨u,k,hu,⟨h1,h2,h3⟩,h4,h5,h6⟩:=h
  have ng:∀a,dt ⟨-u.x,-u.y⟩ a = -dt u a:=λa=>by unfold dt;grind
  refine ⟨⟨-u.x,-u.y⟩,-k,λe=>hu ?_,⟨?_,?_,?_⟩,?_,?_,?_⟩
  · obtain ⟨x,y⟩:=u
    injection e with e1 e2
    simp only at e1 e2
    rw [show x=0 by grind,show y=0 by grind]
  all_goals rw [ng];grind
section
variable {ps:List Pt} {ts:List T3}
theorem Ux (g:FJ ps ts) {i j:Nat} (hi:i<ts.length) (hj:j<ts.length) (hne:i≠j):Ln ps (ts.getD i (0,0,0)) (ts.getD j (0,0,0)):=by
  obtain ⟨m,pl,l⟩:=g.lattice
  obtain ⟨c,hc,hT⟩:=Ol (Em m.a m.b m.c m.d) (BT m)
  have hlen:=l.inv.tl
  have dz:T2:=((0,0),(0,0),(0,0))
  have key:∀i j,i<ts.length->j<ts.length->VR ((BE m).getD i ((0,0),(0,0),(0,0))) ((BE m).getD j ((0,0),(0,0),(0,0)))=true->Ln ps (ts.getD i (0,0,0)) (ts.getD j (0,0,0)):=λi j hi hj h=>by
    obtain ⟨A,B,X,hX,hs,ht⟩:=ZG h (HQ m _ (l.cell hi)).1
    have pt:∀k,k<ts.length->∀r,r<3->∃q,q<3/\cor ps (EE (ts.getD k (0,0,0)) r)=PQ (mapM m) (BT m) ((C3 ((BE m).getD k ((0,0),(0,0),(0,0))) q).1:Rat) ((C3 ((BE m).getD k ((0,0),(0,0),(0,0))) q).2:Rat):=λk hk r hr=>by
      have hat:=l.inv.at_ k Z
      have e:=VI hat hr
      have hlt:EE (ts.getD k (0,0,0)) r<pl.length:=by
        have er:r=0\/r=1\/r=2:=by omega
        rcases er with rfl|rfl|rfl
        · exact hat.a.1
        · exact hat.b.1
        · exact hat.c.1
      refine ⟨I0 m k r,Nat.mod_lt _ (by decide),?_⟩
      show ps.getD _ ⟨0,0⟩=_
      rw [l.at_ _ hlt,JQ,e]
      rfl
    have q2:∀C:P2,AX (CC (Ge (mapM m) (BT m) A)) (CC (Ge (mapM m) (BT m) B)) (PQ (mapM m) (BT m) (C.1:Rat) (C.2:Rat))=c*((Bv A B C:Int):Rat):=λC=>by
      rw [show mapM m=F8 m.a m.b m.c m.d from rfl,hT]
      congr 1
      simp only [J_,Bv,Rat.intCast_sub,Rat.intCast_mul,Rat.intCast_natCast]
    have dq:∀P:Pt,AX (CC (Ge (mapM m) (BT m) A)) (CC (Ge (mapM m) (BT m) B)) P=dt (Eo (CC (Ge (mapM m) (BT m) B)) (CC (Ge (mapM m) (BT m) A))) P-dt (Eo (CC (Ge (mapM m) (BT m) B)) (CC (Ge (mapM m) (BT m) A))) (CC (Ge (mapM m) (BT m) A)):=λP=>by
      simp only [Ca,dt,Eo];grind
    have lf:∀r,r<3->dt (Eo (CC (Ge (mapM m) (BT m) B)) (CC (Ge (mapM m) (BT m) A))) (CC (Ge (mapM m) (BT m) A))<=dt (Eo (CC (Ge (mapM m) (BT m) B)) (CC (Ge (mapM m) (BT m) A))) (cor ps (EE (ts.getD i (0,0,0)) r)):=λr hr=>by
      obtain ⟨q,hq,e⟩:=pt i hi r hr
      have h1:=dq (cor ps (EE (ts.getD i (0,0,0)) r))
      rw [e,q2] at h1
      rw [e]
      have h2:(0:Rat)<=((Bv A B (C3 ((BE m).getD i ((0,0),(0,0),(0,0))) q):Int):Rat):=by exact_mod_cast hs q hq
      have h3:=Rat.mul_nonneg (Rat.le_of_lt hc) h2
      grind
    have rt:∀r,r<3->dt (Eo (CC (Ge (mapM m) (BT m) B)) (CC (Ge (mapM m) (BT m) A))) (cor ps (EE (ts.getD j (0,0,0)) r))<=dt (Eo (CC (Ge (mapM m) (BT m) B)) (CC (Ge (mapM m) (BT m) A))) (CC (Ge (mapM m) (BT m) A)):=λr hr=>by
      obtain ⟨q,hq,e⟩:=pt j hj r hr
      have h1:=dq (cor ps (EE (ts.getD j (0,0,0)) r))
      rw [e,q2] at h1
      rw [e]
      have h2:(0:Rat) <= -((Bv A B (C3 ((BE m).getD j ((0,0),(0,0),(0,0))) q):Int):Rat):=by
        have h9:((Bv A B (C3 ((BE m).getD j ((0,0),(0,0),(0,0))) q):Int):Rat)<=0:=by exact_mod_cast ht q hq
        grind
      have h3:=Rat.mul_nonneg (Rat.le_of_lt hc) h2
      grind
    refine ⟨_,_,λe=>?_,⟨lf 0 (by decide),lf 1 (by decide),lf 2 (by decide)⟩,rt 0 (by decide),rt 1 (by decide),rt 2 (by decide)⟩
    have h1:=dq (PQ (mapM m) (BT m) (X.1:Rat) (X.2:Rat))
    rw [q2,e] at h1
    have h2:(0:Rat)<((Bv A B X:Int):Rat):=by exact_mod_cast hX
    have h3:=Rat.mul_pos hc h2
    unfold dt at h1
    grind
  have h3:=US (l.cell hi) (l.cell hj)
  simp only [V6,Bool.or_eq_true,beq_iff_eq] at h3
  rcases h3 with h3|h3|h3
  · exfalso
    obtain ⟨x,y,ho⟩:=Z5 (HQ m _ (l.cell hi)).1
    refine L_ m (show i<(BE m).length by omega) (show j<(BE m).length by omega) hne ((0,0),(0,0),(0,0)) x y ho ?_
    rw [<-h3]
    exact ⟨by have:=ho.1;grind,by have:=ho.2.1;grind,by have:=ho.2.2;grind⟩
  · exact key i j hi hj h3
  · exact (key j i hj hi h3).symm
end
end
def cJ (md:List (P2×Nat)):Nat->T3->List T3
  | 0,c=>[c]
  | d+1,c=>match BZ md (To c) with
    | none=>[c]
    | some n=>cJ md d (n,c.1,c.2.1)++cJ md d (n,c.2.2,c.1)
def dh (n p:Nat):List Nat:=List.replicate n p
section
section
variable {N:Nat} {es:List E4} {T:T3}
end
end
section
section
variable {m:MQ} {ts:List T3} {a b N:Nat}
theorem IR {s:T3}:∀j,s∈JZ m ts a j↔s.1=a/\a<s.2.1/\s.2.1<a+1+j/\Hl ts s.1 s.2.1 ts.length=1/\s=Xe m s.1 s.2.1
  | 0=>⟨λh=>(by cases h),λh=>Z⟩
  | j+1=>by
    show s∈JZ m ts a j++(if _ then _ else _)↔_
    rw [List.mem_append,IR j]
    constructor
    · rintro (h|h)
      · exact ⟨h.1,h.2.1,Z,h.2.2.2⟩
      · split at h
        · rename_i hc
          rw [List.mem_singleton] at h
          subst h
          exact ⟨rfl,(by show a<a+1+j;omega),(by show a+1+j<a+1+(j+1);omega),hc,rfl⟩
        · cases h
    · rintro ⟨h1,h2,h3,h4,h5⟩
      rcases Nat.lt_or_ge s.2.1 (a+1+j) with h6|h6
      · exact .inl ⟨h1,h2,h6,h4,h5⟩
      · have e:s.2.1=a+1+j:=by omega
        rw [h1,e] at h4 h5
        rw [if_pos h4]
        exact .inr (List.mem_singleton.2 h5)
theorem GG {s:T3}:∀A,s∈E3 m ts N A↔s.1<A/\s.1<s.2.1/\s.2.1<N/\Hl ts s.1 s.2.1 ts.length=1/\s=Xe m s.1 s.2.1
  | 0=>⟨λh=>(by cases h),λh=>Z⟩
  | A+1=>by
    show s∈E3 m ts N A++JZ m ts A (N-(A+1))↔_
    rw [List.mem_append,GG A,IR]
    constructor
    · rintro (h|h)
      · exact ⟨Z,h.2⟩
      · exact ⟨Z,Z,Z,h.2.2.2⟩
    · rintro ⟨h1,h2,h3,h4⟩
      rcases Nat.lt_or_ge s.1 A with h5|h5
      · exact .inl ⟨h5,h2,h3,h4⟩
      · exact .inr ⟨Z,Z,Z,h4⟩
theorem Gn:∀j,(JZ m ts a j).Pairwise ST
  | 0=>List.Pairwise.nil
  | j+1=>by
    show (JZ m ts a j++(if _ then _ else _)).Pairwise ST
    split
    · refine List.pairwise_append.2 ⟨Gn j,List.pairwise_singleton _ _,λx hx y hy=>?_⟩
      rw [List.mem_singleton] at hy
      subst hy
      have h:=(IR j).1 hx
      exact .inr ⟨h.1,(by show x.2.1<a+1+j;exact h.2.2.1)⟩
    · rw [List.append_nil];exact Gn j
theorem HW:∀A,(E3 m ts N A).Pairwise ST
  | 0=>List.Pairwise.nil
  | A+1=>List.pairwise_append.2 ⟨HW A,Gn _,λx hx y hy=>.inl (by
      have h1:=(GG A).1 hx
      have h2:=(IR _).1 hy
      omega)⟩
theorem Mu {x y:Nat} (hab:a<b) (hxy:x≠y):CT x y=(a,b)↔(x=a/\y=b)\/(x=b/\y=a):=by
  unfold CT
  rw [Prod.mk.injEq]
  omega
theorem Ry {t:T3} (hab:a<b) (h:t.1≠t.2.1/\t.2.1≠t.2.2/\t.2.2≠t.1):[CT t.1 t.2.1,CT t.2.1 t.2.2,CT t.2.2 t.1].count (a,b)=if EQ t a=true/\EQ t b=true then 1 else 0:=by
  obtain ⟨h1,h2,h3⟩:=h
  simp only [List.count_cons,List.count_nil,beq_iff_eq,Mu hab h1,Mu hab h2,Mu hab h3,EQ,Bool.or_eq_true,decide_eq_true_eq]
  split<;>split<;>split<;>split<;>omega
theorem Q9 (hn:By N ts=true) (hab:a<b):∀i,i<=ts.length->Hl ts a b i=((ts.take i).flatMap λt=>[CT t.1 t.2.1,CT t.2.1 t.2.2,CT t.2.2 t.1]).count (a,b)
  | 0,_=>rfl
  | i+1,hi=>by
    rw [Mk Z,List.flatMap_append,List.count_append,<-Q9 hn hab i Z]
    have h:=Mw (Cc hn (show i<ts.length by omega))
    have e:=Ry hab h
    show Hl ts a b i+(if _ then 1 else 0)=_
    rw [<-e]
    simp [List.flatMap]
theorem Od (hn:By N ts=true) (hab:a<b):Hl ts a b ts.length=(GF ts).count (a,b):=by
  rw [Q9 hn hab _ (Nat.le_refl _),List.take_length];rfl
theorem Ki (hn:By N ts=true) (hN:N<=4611686018427387904) (h:(a,b)∈GF ts):a<b/\b<N:=by
  obtain ⟨e,he,rfl,rfl⟩:=(LN hn hN).1 h
  exact ML hn hN he
theorem S2 (hn:By N ts=true) (hN:N<=4611686018427387904):E3 m ts N N=(Bi ts).map λs=>Xe m s.1 s.2.1:=by
  refine F6 ST.asymm (HW N) ?_ λs=>?_
  · exact List.pairwise_map.2 ((FQ hn hN).imp λ{x y} h=>h)
  · rw [GG,List.mem_map]
    constructor
    · rintro ⟨h1,h2,h3,h4,h5⟩
      refine ⟨(s.1,s.2.1,0),(Fx hn hN).2 ⟨?_,rfl⟩,h5.symm⟩
      rw [<-Od hn h2];exact h4
    · rintro ⟨r,hr,rfl⟩
      have h:=(Fx hn hN).1 hr
      have hk:=Ki hn hN (List.count_pos_iff.1 (by rw [h.1];decide))
      exact ⟨by show r.1<N;omega,hk.1,hk.2,by show Hl ts r.1 r.2.1 ts.length=1;rw [Od hn hk.1];exact h.1,rfl⟩
end
end
section
def dY (md:List (P2×Nat)) (ts:List T3):List T3:=ts.flatMap (cJ md 2)
def dX (md:List (P2×Nat)) (ts:List T3):Nat->List Nat
  | 0=>[]
  | i+1=>dX md ts i++dh (cJ md 2 (ts.getD i (0,0,0))).length i
section
variable {md:List (P2×Nat)} {ts ss:List T3} {i N:Nat} {es:List E4}
end
structure dm (ps:List Pt) (ts ss:List T3) (ms:List Int) where
  l:List E4
  p:E4->Bool
  el:l=(BV ts).filter p
  all:∀e,p e=true↔aU ts (cd ts ms) (e.a,e.b)
  x:dF (ct ps l) (dY (X3 ps.length l l.length) ts) (ch ps.length ss l (dY (X3 ps.length l l.length) ts)) (dX (X3 ps.length l l.length) ts ts.length) 0
instance {ps:List Pt} {ts ss:List T3} {ms:List Int}:DN (dm ps ts ss ms):=⟨λb=>DN.val b.x,λb=>DN.rows b.x,λb y hy=>DN.ro b.x y hy⟩
section
variable {ts ss:List T3} {N:Nat} {es:List E4} {ms:List Int}
end
section
variable {P:Program} {ops:Array Oper} {rest:List Oper} {Q:Exit->Act->World->Prop} {n d:Nat} {F:List (Nat×Value)} {w0:BJ} {S:Nat->Prop} {L:List As} {t:TypeId} {p:String} {af:Array Edge} {y:Operand} {f:FuncId} {xs:List Operand} {args:List Value} {tys:Array TypeId} {ps:List Pt} {ts ss:List T3} {ms:List Int}
end
theorem aK (a b:E4):(((a.a:Int) == (b.a:Int))&&(((a.b:Int) == (b.b:Int))&&((a.l == b.l)&&((a.r == b.r)&&true))))=decide (a=b):=by
  obtain ⟨a1,a2,a3,a4⟩:=a
  obtain ⟨b1,b2,b3,b4⟩:=b
  rw [Bool.eq_iff_iff]
  simp
  constructor<;>(rintro ⟨h1,h2,h3,h4⟩;refine ⟨?_,?_,?_,?_⟩<;>omega)
theorem aO (D:Nat) (a b:E4):GU prog (D+2) 91 (.agg (Bo a).toArray) (.agg (Bo b).toArray) (decide (a=b)):=by
  rw [<-aK]
  exact GU.struct underlying91 Tryz.stoodInHeld91 (IZ.one (by decide) isAgg3 O O (GU.int underlying3) (IZ.one (by decide) isAgg3 O O (GU.int underlying3) (IZ.one (by decide) isAgg3 O O (GU.int underlying3) (IZ.one (by decide) isAgg3 O O (GU.int underlying3) IZ.nil))))
theorem KW (D:Nat) {a b:E4} (h:a=b):GU prog (D+2) 91 (.agg (Bo a).toArray) (.agg (Bo b).toArray) true:=by
  have:=aO D a b;rwa [decide_eq_true h] at this
end
section
section
variable {md:List (P2×Nat)} {N M n a b c e p:Nat} {k κ:P2} {T:T3} {ts ts':List T3}
end
end
section
def bz (l:Nat):Int×Int×Int:=if l=0 then (2,0,0) else if l=1 then (0,2,0) else if l=2 then (0,0,2) else if l=3 then (1,1,0) else if l=4 then (0,1,1) else (1,0,1)
def D3 (i j k:Nat):Int:=(bz i).1*((bz j).2.1*(bz k).2.2-(bz j).2.2*(bz k).2.1)-(bz i).2.1*((bz j).1*(bz k).2.2-(bz j).2.2*(bz k).1)+(bz i).2.2*((bz j).1*(bz k).2.1-(bz j).2.1*(bz k).1)
def cG (a b:Pt):Pt:=Hu (a+b) (1/2)
def LP (a b c:Pt) (l:Nat):Pt:=if l=0 then a else if l=1 then b else if l=2 then c else if l=3 then cG a b else if l=4 then cG b c else cG c a
def Gc (fam:List T3) (l:Nat):Bool:=fam.any λL=>CS L l
def X2 (i j:Nat) (M:T3):Bool:=decide (D3 i j M.1<=0)&&decide (D3 i j M.2.1<=0)&&decide (D3 i j M.2.2<=0)
def S7 (L M:T3):Bool:=X2 L.1 L.2.1 M||X2 L.2.1 L.2.2 M||X2 L.2.2 L.1 M
def YC (L:T3) (l:Nat):Bool:=decide (0<=D3 l L.2.1 L.2.2)&&decide (0<=D3 L.1 l L.2.2)&&decide (0<=D3 L.1 L.2.1 l)
structure UJ (fam:List T3):Prop where
  lt:∀L∈fam,L.1<6/\L.2.1<6/\L.2.2<6
  pos:∀L∈fam,0<D3 L.1 L.2.1 L.2.2
  sep:fam.Pairwise λL M=>(S7 L M||S7 M L)=true
  cls:∀L∈fam,∀l,l<6->Gc fam l=true->YC L l=true->CS L l=true
  cor:∀l,l<3->Gc fam l=true
instance (fam:List T3):Decidable (∀l,l<6->Gc fam l=true->∀L∈fam,YC L l=true->CS L l=true):=inferInstance
theorem O9 {fam:List T3} (h:((fam.all λL=>decide (L.1<6)&&decide (L.2.1<6)&&decide (L.2.2<6)&&decide (0<D3 L.1 L.2.1 L.2.2)&&(List.range 6).all λl=>!Gc fam l||!YC L l||CS L l)&&(List.range 3).all (Gc fam))=true) (hs:fam.Pairwise λL M=>(S7 L M||S7 M L)=true):UJ fam:=by
  rw [Bool.and_eq_true] at h
  have h1:=List.all_eq_true.1 h.1
  simp only [Bool.and_eq_true,decide_eq_true_eq] at h1
  refine ⟨λL hL=>?_,λL hL=>?_,hs,λL hL l hl hu hc=>?_,λl hl=>?_⟩
  · have:=h1 L hL;exact ⟨this.1.1.1.1,this.1.1.1.2,this.1.1.2⟩
  · exact (h1 L hL).1.2
  · have:=List.all_eq_true.1 (h1 L hL).2 l (List.mem_range.2 hl)
    rw [hu,hc] at this
    simpa using this
  · exact List.all_eq_true.1 h.2 l (List.mem_range.2 hl)
section
variable {a b c q:Pt} {l i j k:Nat}
theorem Re (hl:l<6):(LP a b c l).x*2=((bz l).1:Rat)*a.x+((bz l).2.1:Rat)*b.x+((bz l).2.2:Rat)*c.x/\(LP a b c l).y*2=((bz l).1:Rat)*a.y+((bz l).2.1:Rat)*b.y+((bz l).2.2:Rat)*c.y/\((bz l).1:Rat)+((bz l).2.1:Rat)+((bz l).2.2:Rat)=2:=by
  have e:l=0\/l=1\/l=2\/l=3\/l=4\/l=5:=by omega
  rcases e with rfl|rfl|rfl|rfl|rfl|rfl<;>simp [LP,bz,cG,RC,RG,Y3,Y0]<;>refine ⟨?_,?_,?_⟩<;>grind
theorem Xy {P Q R:Pt} {p1 p2 p3 q1 q2 q3 r1 r2 r3:Rat} (hx:P.x*2=p1*a.x+p2*b.x+p3*c.x) (hy:P.y*2=p1*a.y+p2*b.y+p3*c.y) (hp:p1+p2+p3=2)
    (kx:Q.x*2=q1*a.x+q2*b.x+q3*c.x) (ky:Q.y*2=q1*a.y+q2*b.y+q3*c.y) (kq:q1+q2+q3=2) (mx:R.x*2=r1*a.x+r2*b.x+r3*c.x) (my:R.y*2=r1*a.y+r2*b.y+r3*c.y) (mr:r1+r2+r3=2) :
    AX P Q R*8=(p1*(q2*r3-q3*r2)-p2*(q1*r3-q3*r1)+p3*(q1*r2-q2*r1))*AX a b c:=by
  have e1:p3=2-p1-p2:=by grind
  have e2:q3=2-q1-q2:=by grind
  have e3:r3=2-r1-r2:=by grind
  subst e1;subst e2;subst e3
  have ux:(Q.x-P.x)*2=(q1-p1)*(a.x-c.x)+(q2-p2)*(b.x-c.x):=by grind
  have uy:(Q.y-P.y)*2=(q1-p1)*(a.y-c.y)+(q2-p2)*(b.y-c.y):=by grind
  have vx:(R.x-P.x)*2=(r1-p1)*(a.x-c.x)+(r2-p2)*(b.x-c.x):=by grind
  have vy:(R.y-P.y)*2=(r1-p1)*(a.y-c.y)+(r2-p2)*(b.y-c.y):=by grind
  have e:AX P Q R*4=((Q.x-P.x)*2)*((R.y-P.y)*2)-((Q.y-P.y)*2)*((R.x-P.x)*2):=by simp only [Ca];grind
  have e':AX P Q R*4=((q1-p1)*(r2-p2)-(q2-p2)*(r1-p1))*AX a b c:=by
    rw [e,ux,uy,vx,vy]
    simp only [Ca]
    generalize q1-p1=s1
    generalize q2-p2=s2
    generalize r1-p1=s3
    generalize r2-p2=s4
    grind
  have e4:p1*(q2*(2-r1-r2)-(2-q1-q2)*r2)-p2*(q1*(2-r1-r2)-(2-q1-q2)*r1)+(2-p1-p2)*(q1*r2-q2*r1)=((q1-p1)*(r2-p2)-(q2-p2)*(r1-p1))*2:=by grind
  rw [e4]
  have:AX P Q R*8=AX P Q R*4*2:=by grind
  rw [this,e']
  grind
theorem Fy (hi:i<6) (hj:j<6) (hk:k<6):AX (LP a b c i) (LP a b c j) (LP a b c k)*8=((D3 i j k:Int):Rat)*AX a b c:=by
  obtain ⟨x1,y1,s1⟩:=Re (a:=a) (b:=b) (c:=c) hi
  obtain ⟨x2,y2,s2⟩:=Re (a:=a) (b:=b) (c:=c) hj
  obtain ⟨x3,y3,s3⟩:=Re (a:=a) (b:=b) (c:=c) hk
  rw [Xy x1 y1 s1 x2 y2 s2 x3 y3 s3]
  congr 1
  unfold D3
  simp only [Rat.intCast_add,Rat.intCast_sub,Rat.intCast_mul]
theorem Pk (hT:0<AX a b c) (hi:i<6) (hj:j<6) (hk:k<6) (h:0<=AX (LP a b c i) (LP a b c j) (LP a b c k)):0<=D3 i j k:=by
  have e:=Fy (a:=a) (b:=b) (c:=c) hi hj hk
  have h1:0<=AX a b c*((D3 i j k:Int):Rat):=by rw [Rat.mul_comm,<-e];grind
  have h2:=Ha hT h1
  exact_mod_cast h2
theorem HF (hT:0<AX a b c) (hi:i<6) (hj:j<6) (hk:k<6) (h:0<=D3 i j k):0<=AX (LP a b c i) (LP a b c j) (LP a b c k):=by
  have e:=Fy (a:=a) (b:=b) (c:=c) hi hj hk
  have h1:(0:Rat)<=((D3 i j k:Int):Rat):=by exact_mod_cast h
  have h2:=Rat.mul_nonneg h1 (Rat.le_of_lt hT)
  grind
theorem GB (hT:0<AX a b c) (hi:i<6) (hj:j<6) (hk:k<6) (h:D3 i j k<=0):AX (LP a b c i) (LP a b c j) (LP a b c k)<=0:=by
  have e:=Fy (a:=a) (b:=b) (c:=c) hi hj hk
  have h1:(0:Rat) <= -((D3 i j k:Int):Rat):=by
    have:((D3 i j k:Int):Rat)<=0:=by exact_mod_cast h
    grind
  have h2:=Rat.mul_nonneg h1 (Rat.le_of_lt hT)
  grind
theorem Yu (hT:0<AX a b c) (hi:i<6) (hj:j<6) (hk:k<6) (h:0<D3 i j k):0<AX (LP a b c i) (LP a b c j) (LP a b c k):=by
  have e:=Fy (a:=a) (b:=b) (c:=c) hi hj hk
  have h1:(0:Rat)<((D3 i j k:Int):Rat):=by exact_mod_cast h
  have h2:=Rat.mul_pos h1 hT
  grind
theorem Rn (hT:0<AX a b c) (hi:i<6) (hj:j<6) (h:LP a b c i=LP a b c j):i=j:=by
  have key:∀u v:Nat,u<6->v<6->D3 i u v=D3 j u v:=λu v hu hv=>by
    have e1:=Fy (a:=a) (b:=b) (c:=c) hi hu hv
    have e2:=Fy (a:=a) (b:=b) (c:=c) hj hu hv
    rw [h,e2] at e1
    have h1:(((D3 i u v:Int):Rat)-((D3 j u v:Int):Rat))*AX a b c=0:=by grind
    rcases Rat.mul_eq_zero.1 h1 with h2|h2
    · have h3:((D3 i u v:Int):Rat)=((D3 j u v:Int):Rat):=by grind
      exact_mod_cast h3
    · rw [h2] at hT;exact absurd hT Rat.lt_irrefl
  have k1:=key 1 2 (by decide) (by decide)
  have k2:=key 2 0 (by decide) (by decide)
  have k3:=key 0 1 (by decide) (by decide)
  have ei:i=0\/i=1\/i=2\/i=3\/i=4\/i=5:=by omega
  have ej:j=0\/j=1\/j=2\/j=3\/j=4\/j=5:=by omega
  rcases ei with rfl|rfl|rfl|rfl|rfl|rfl<;>rcases ej with rfl|rfl|rfl|rfl|rfl|rfl<;>first|rfl|(revert k1 k2 k3;decide)
theorem cQ (P Q R q u v:Pt):AX u v q*AX P Q R=AX q Q R*AX u v P+AX P q R*AX u v Q+AX P Q q*AX u v R:=by simp only [Ca];grind
theorem YE {P Q R u v:Pt} (hT:0<AX P Q R) (h1:0<=AX q Q R) (h2:0<=AX P q R) (h3:0<=AX P Q q) (k1:0<=AX u v P) (k2:0<=AX u v Q) (k3:0<=AX u v R):0<=AX u v q:=by
  have e:=cQ P Q R q u v
  have m1:=Rat.mul_nonneg h1 k1
  have m2:=Rat.mul_nonneg h2 k2
  have m3:=Rat.mul_nonneg h3 k3
  exact Ho hT (by rw [e];grind)
end
theorem Nf {u a b c:Pt} {k:Rat} {l:Nat} (hl:l<6) (h1:k<=dt u a) (h2:k<=dt u b) (h3:k<=dt u c):k<=dt u (LP a b c l):=by
  obtain ⟨x1,y1,s1⟩:=Re (a:=a) (b:=b) (c:=c) hl
  have e:dt u (LP a b c l)*2=((bz l).1:Rat)*dt u a+((bz l).2.1:Rat)*dt u b+((bz l).2.2:Rat)*dt u c:=by
    have e0:dt u (LP a b c l)*2=u.x*((LP a b c l).y*2)-u.y*((LP a b c l).x*2):=by unfold dt;grind
    rw [e0,x1,y1];unfold dt;grind
  have z:(0:Rat)<=((bz l).1:Rat)/\(0:Rat)<=((bz l).2.1:Rat)/\(0:Rat)<=((bz l).2.2:Rat):=by
    have e:l=0\/l=1\/l=2\/l=3\/l=4\/l=5:=by omega
    rcases e with rfl|rfl|rfl|rfl|rfl|rfl<;>exact ⟨by decide,by decide,by decide⟩
  have m1:=Rat.mul_nonneg z.1 (show 0<=dt u a-k by grind)
  have m2:=Rat.mul_nonneg z.2.1 (show 0<=dt u b-k by grind)
  have m3:=Rat.mul_nonneg z.2.2 (show 0<=dt u c-k by grind)
  have s2:((bz l).1:Rat)*k+((bz l).2.1:Rat)*k+((bz l).2.2:Rat)*k=2*k:=by rw [<-s1];grind
  generalize ((bz l).1:Rat)=p1 at *
  generalize ((bz l).2.1:Rat)=p2 at *
  generalize ((bz l).2.2:Rat)=p3 at *
  clear x1 y1 z s1
  grind
theorem Mz {u a b c:Pt} {k:Rat} {l:Nat} (hl:l<6) (h1:dt u a<=k) (h2:dt u b<=k) (h3:dt u c<=k):dt u (LP a b c l)<=k:=by
  have ng:∀a,dt ⟨-u.x,-u.y⟩ a = -dt u a:=λa=>by unfold dt;grind
  have h:=Nf (u:=⟨-u.x,-u.y⟩) (k := -k) (a:=a) (b:=b) (c:=c) hl (by rw [ng];grind) (by rw [ng];grind) (by rw [ng];grind)
  rw [ng] at h
  grind
end
end Go.Proofs.YtpgncndhhhllfaaGreatDoor
