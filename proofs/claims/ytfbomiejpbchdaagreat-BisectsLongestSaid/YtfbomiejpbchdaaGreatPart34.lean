import Derived.Test.YtfbomiejpbchdaaGreatPart31
import Derived.Test.YtfbomiejpbchdaaGreatPart32
import Derived.Test.YtfbomiejpbchdaaGreatPart33
namespace Go.Proofs.YtfbomiejpbchdaaGreat
open Go Go.RowKit Go.Proofs.Tryz
set_option linter.unusedVariables false
set_option linter.unusedSimpArgs false
section
def LT (md:List (P2×Nat)) (ts:List T3) (i:Nat):List T3:=(ts.take i).flatMap (CX md 2)
def Mr (md:List (P2×Nat)) (ts:List T3):List T3:=ts.flatMap (CX md 2)
def Hh (md:List (P2×Nat)) (ts:List T3):Nat->List Nat
  | 0=>[]
  | i+1=>Hh md ts i++Ep (CX md 2 (ts.getD i (0,0,0))).length i
section
variable {md:List (P2×Nat)} {ts ss:List T3} {i N:Nat} {es:List E4}
theorem Kr (h:i<ts.length):LT md ts (i+1)=LT md ts i++CX md 2 (ts.getD i (0,0,0)):=by
  unfold LT
  rw [Gm (d:=(0,0,0)) h,List.flatMap_append];simp
theorem V_:LT md ts ts.length=Mr md ts:=by unfold LT Mr;rw [List.take_length]
theorem S7:∀i,i<=ts.length->(LT md ts i).length<=4*i
  | 0,_=>by simp [LT]
  | i+1,h=>by
    rw [Kr Z,List.length_append]
    have h1:=S7 i Z
    have h2:=Gz md 2 (ts.getD i (0,0,0))
    omega
theorem Qf:∀i,i<=ts.length->(Hh md ts i).length=(LT md ts i).length
  | 0,_=>by simp [LT,Hh]
  | i+1,h=>by
    rw [Kr Z,Hh,List.length_append,List.length_append,Qf i Z]
    simp [Ep]
theorem Xo {t:T3} (h:I0 N t=true):ZN N t:=⟨Cd h,Mf h⟩
theorem Vh {t:T3} (h:ZN N t):I0 N t=true:=by
  obtain ⟨⟨h1,h2,h3⟩,n1,n2,n3⟩:=h
  simp only [I0,Bool.and_eq_true,Bool.not_eq_true',decide_eq_false_iff_not,decide_eq_true_eq]
  exact ⟨⟨⟨⟨⟨h1,h2⟩,h3⟩,n1⟩,n2⟩,n3⟩
theorem V4 (hn:CD N ts=true):CD (N+es.length) (Mr (De N es es.length) ts)=true:=List.all_eq_true.2 λc hc=>by
  obtain ⟨t,ht,hc⟩:=List.mem_flatMap.1 hc
  exact Vh (Y9 (Xo (List.all_eq_true.1 hn t ht)) hc)
theorem Vt:∀i,i<=es.length->∀k n,Ao (De N es i) k=some n->n<N+es.length:=λi hi k n h=>by
  obtain ⟨j,h1,_,h3⟩:=Ez i h
  omega
end
structure Zd (ps:List Pt) (ts ss:List T3) (ms:List Int) where
  l:List E4
  p:E4->Bool
  el:l=(Br ts).filter p
  all:∀e,p e=true↔JE ts (OF ts ms) (e.a,e.b)
  x:VD (O9 ps l) (Mr (De ps.length l l.length) ts) (Pp ps.length ss l (Mr (De ps.length l l.length) ts)) (Hh (De ps.length l l.length) ts ts.length) 0
instance {ps:List Pt} {ts ss:List T3} {ms:List Int}:EI (Zd ps ts ss ms):=⟨λb=>EI.val b.x,λb=>EI.rows b.x,λb y hy=>EI.ro b.x y hy⟩
theorem Xp {S:Nat->Prop} {W w:World} {L:List As} {ps:List Pt} {ts ss:List T3} {l:List Nat} {e:Nat} (hw:Own ⟨W,none⟩ w L) {x:MX ps ts ss} (h:Ro (SL ⟨W,none⟩ S L) w x) (i:Nat) {q:Option Addr} {T n c:Nat} (hi:L[i]?=some (rowW q T 1 n c (inL l))) (ho:OwnOk q n c) (hl:n=l.length) {v:Value} (hv:v=.tuple #[aG (Bk x),.slice q n n,vN e]):BV (VD ps ts ss l e) S W (.returned v) w:=by
  subst hl
  refine ⟨⟨x,⟨q,l.length,ho.clip⟩⟩,by rw [hv];rfl,hw.out,λy hy=>?_⟩
  have hy:y∈[x.a.row,x.b.row,x.c.row]++[AY q (inL l)]:=hy
  rcases List.mem_append.1 hy with hy|hy
  · have h1:=h y hy
    exact ⟨h1.1,λb e=>(h1.2 b e).2⟩
  · rcases List.mem_singleton.1 hy with rfl
    exact Ef hw i hi ho (by rw [Dk,Nat.mul_one])
theorem YP {S:Nat->Prop} {W w:World} {ps:List Pt} {ts ss:List T3} {ms:List Int} {e:Ending} (u:DX ts ms) (h:BV (VD (O9 ps u.l) (Mr (De ps.length u.l u.l.length) ts) (Pp ps.length ss u.l (Mr (De ps.length u.l u.l.length) ts)) (Hh (De ps.length u.l u.l.length) ts ts.length) 0) S W e w):BV (Zd ps ts ss ms) S W e w:=by
  obtain ⟨a,h1,h2,h3⟩:=h
  exact ⟨⟨u.l,u.p,u.el,u.all,a⟩,h1,h2,h3⟩
section
variable {ts ss:List T3} {N:Nat} {es:List E4} {ms:List Int}
theorem Qx {l:List E4} {p:E4->Bool} (h:l=(Br ts).filter p):l.length<=(Br ts).length:=by rw [h];exact List.length_filter_le _ _
theorem Hm (hn:CD N ts=true) (hN:N<=4611686018427387904) {l:List E4} {p:E4->Bool} (h:l=(Br ts).filter p):∀e∈l,e.a<N/\e.b<N:=λe he=>by
  rw [h] at he
  exact Hx hn hN e (List.mem_filter.1 he).1
structure YG (ts:List T3) (ms:List Int) (l:List E4):Prop where
  ex:∃p:E4->Bool,l=(Br ts).filter p/\∀e,p e=true↔JE ts (OF ts ms) (e.a,e.b)
theorem DX.cut (u:DX ts ms):YG ts ms u.l:=⟨u.p,u.el,u.all⟩
theorem YG.mem {l:List E4} (h:YG ts ms l) {e:E4}:e∈l↔e∈Br ts/\JE ts (OF ts ms) (e.a,e.b):=by
  obtain ⟨p,h1,h2⟩:=h.ex
  rw [h1,List.mem_filter,h2]
end
theorem QG {ts:List T3} {ms:List Int} (K:List P2) (h0:∀z∈ms,0<=z->z<(ts.length:Int)->B7 (ts.getD z.toNat (0,0,0))∈K) (hc:∀t∈ts,B_ t.1 t.2.1∈K\/B_ t.2.2 t.1∈K->B7 t∈K) (h1:∀k∈K,JE ts (OF ts ms) k) {l:List E4} {p:E4->Bool} (h:l=(Br ts).filter p) (ha:∀e,p e=true↔JE ts (OF ts ms) (e.a,e.b)):l=(Br ts).filter λe=>decide ((e.a,e.b)∈K):=by
  rw [h]
  have key:∀k,JE ts (OF ts ms) k->k∈K:=λk c=>by
    induction c with
    | start hs=>obtain ⟨z,hz,a,b,rfl⟩:=hs;exact h0 z hz a b
    | up ht _ he ih =>
      refine hc _ ht ?_
      rcases he with he|he<;>rw [he] at ih
      · exact .inl ih
      · exact .inr ih
  refine List.filter_congr λe _=>?_
  rw [Bool.eq_iff_iff,ha,decide_eq_true_eq]
  exact ⟨key _,h1 _⟩
theorem S6 {S:Nat->Prop} {W w:World} {ps:List Pt} {ts ss:List T3} {ms:List Int} {e:Ending} (l0:List E4) (h:BV (Zd ps ts ss ms) S W e w) (hl:∀(l:List E4) (p:E4->Bool),l=(Br ts).filter p->(∀e,p e=true↔JE ts (OF ts ms) (e.a,e.b))->l=l0):BV (VD (O9 ps l0) (Mr (De ps.length l0 l0.length) ts) (Pp ps.length ss l0 (Mr (De ps.length l0 l0.length) ts)) (Hh (De ps.length l0 l0.length) ts ts.length) 0) S W e w:=by
  obtain ⟨⟨l,p,el,al,x⟩,h1,h2,h3⟩:=h
  have:=hl l p el al
  subst this
  exact ⟨x,h1,h2,h3⟩
section
variable {P:Program} {ops:Array Oper} {rest:List Oper} {Q:Exit->Act->World->Prop} {n d:Nat} {F:List (Nat×Value)} {w0:BM} {S:Nat->Prop} {L:List As} {t:TypeId} {p:String} {af:Array Edge} {y:Operand} {f:FuncId} {xs:List Operand} {args:List Value} {tys:Array TypeId} {ps:List Pt} {ts ss:List T3} {ms:List Int}
end
end
section
section
variable {md:List (P2×Nat)} {N M n a b c e p:Nat} {k κ:P2} {T:T3} {ts ts':List T3}
end
end
section
def bz (l:Nat):Int×Int×Int:=if l=0 then (2,0,0) else if l=1 then (0,2,0) else if l=2 then (0,0,2) else if l=3 then (1,1,0) else if l=4 then (0,1,1) else (1,0,1)
def D3 (i j k:Nat):Int:=(bz i).1*((bz j).2.1*(bz k).2.2-(bz j).2.2*(bz k).2.1)-(bz i).2.1*((bz j).1*(bz k).2.2-(bz j).2.2*(bz k).1)+(bz i).2.2*((bz j).1*(bz k).2.1-(bz j).2.1*(bz k).1)
def Zi (a b:Pt):Pt:=Cp (a+b) (1/2)
def LP (a b c:Pt) (l:Nat):Pt:=if l=0 then a else if l=1 then b else if l=2 then c else if l=3 then Zi a b else if l=4 then Zi b c else Zi c a
def GO (fam:List T3) (l:Nat):Bool:=fam.any λL=>CS L l
def We (i j:Nat) (M:T3):Bool:=decide (D3 i j M.1<=0)&&decide (D3 i j M.2.1<=0)&&decide (D3 i j M.2.2<=0)
def RY (L M:T3):Bool:=We L.1 L.2.1 M||We L.2.1 L.2.2 M||We L.2.2 L.1 M
def Wb (L:T3) (l:Nat):Bool:=decide (0<=D3 l L.2.1 L.2.2)&&decide (0<=D3 L.1 l L.2.2)&&decide (0<=D3 L.1 L.2.1 l)
structure Sc (fam:List T3):Prop where
  lt:∀L∈fam,L.1<6/\L.2.1<6/\L.2.2<6
  pos:∀L∈fam,0<D3 L.1 L.2.1 L.2.2
  sep:fam.Pairwise λL M=>(RY L M||RY M L)=true
  cls:∀L∈fam,∀l,l<6->GO fam l=true->Wb L l=true->CS L l=true
  cor:∀l,l<3->GO fam l=true
instance (fam:List T3):Decidable (∀l,l<6->GO fam l=true->∀L∈fam,Wb L l=true->CS L l=true):=inferInstance
theorem OM {fam:List T3} (h:((fam.all λL=>decide (L.1<6)&&decide (L.2.1<6)&&decide (L.2.2<6)&&decide (0<D3 L.1 L.2.1 L.2.2)&&(List.range 6).all λl=>!GO fam l||!Wb L l||CS L l)&&(List.range 3).all (GO fam))=true) (hs:fam.Pairwise λL M=>(RY L M||RY M L)=true):Sc fam:=by
  rw [Bool.and_eq_true] at h
  have h1:=List.all_eq_true.1 h.1
  simp only [Bool.and_eq_true,decide_eq_true_eq] at h1
  refine ⟨λL hL=>?_,λL hL=>?_,hs,λL hL l hl hu hc=>?_,λl hl=>?_⟩
  · have:=h1 L hL;exact ⟨this.1.1.1.1,this.1.1.1.2,this.1.1.2⟩
  · exact (h1 L hL).1.2
  · have:=List.all_eq_true.1 (h1 L hL).2 l (List.mem_range.2 hl)
    rw [hu,hc] at this
    simpa using this
  · exact List.all_eq_true.1 h.2 l (List.mem_range.2 hl)
section
variable {a b c q:Pt} {l i j k:Nat}
theorem QB (hl:l<6):(LP a b c l).x*2=((bz l).1:Rat)*a.x+((bz l).2.1:Rat)*b.x+((bz l).2.2:Rat)*c.x/\(LP a b c l).y*2=((bz l).1:Rat)*a.y+((bz l).2.1:Rat)*b.y+((bz l).2.2:Rat)*c.y/\((bz l).1:Rat)+((bz l).2.1:Rat)+((bz l).2.2:Rat)=2:=by
  have e:l=0\/l=1\/l=2\/l=3\/l=4\/l=5:=by omega
  rcases e with rfl|rfl|rfl|rfl|rfl|rfl<;>simp [LP,bz,Zi,Qi,QN,XK,XI]<;>refine ⟨?_,?_,?_⟩<;>grind
theorem Vm {P Q R:Pt} {p1 p2 p3 q1 q2 q3 r1 r2 r3:Rat} (hx:P.x*2=p1*a.x+p2*b.x+p3*c.x) (hy:P.y*2=p1*a.y+p2*b.y+p3*c.y) (hp:p1+p2+p3=2)
    (kx:Q.x*2=q1*a.x+q2*b.x+q3*c.x) (ky:Q.y*2=q1*a.y+q2*b.y+q3*c.y) (kq:q1+q2+q3=2) (mx:R.x*2=r1*a.x+r2*b.x+r3*c.x) (my:R.y*2=r1*a.y+r2*b.y+r3*c.y) (mr:r1+r2+r3=2) :
    AU P Q R*8=(p1*(q2*r3-q3*r2)-p2*(q1*r3-q3*r1)+p3*(q1*r2-q2*r1))*AU a b c:=by
  have e1:p3=2-p1-p2:=by grind
  have e2:q3=2-q1-q2:=by grind
  have e3:r3=2-r1-r2:=by grind
  subst e1;subst e2;subst e3
  have ux:(Q.x-P.x)*2=(q1-p1)*(a.x-c.x)+(q2-p2)*(b.x-c.x):=by grind
  have uy:(Q.y-P.y)*2=(q1-p1)*(a.y-c.y)+(q2-p2)*(b.y-c.y):=by grind
  have vx:(R.x-P.x)*2=(r1-p1)*(a.x-c.x)+(r2-p2)*(b.x-c.x):=by grind
  have vy:(R.y-P.y)*2=(r1-p1)*(a.y-c.y)+(r2-p2)*(b.y-c.y):=by grind
  have e:AU P Q R*4=((Q.x-P.x)*2)*((R.y-P.y)*2)-((Q.y-P.y)*2)*((R.x-P.x)*2):=by simp only [Ch];grind
  have e':AU P Q R*4=((q1-p1)*(r2-p2)-(q2-p2)*(r1-p1))*AU a b c:=by
    rw [e,ux,uy,vx,vy]
    simp only [Ch]
    generalize q1-p1=s1
    generalize q2-p2=s2
    generalize r1-p1=s3
    generalize r2-p2=s4
    grind
  have e4:p1*(q2*(2-r1-r2)-(2-q1-q2)*r2)-p2*(q1*(2-r1-r2)-(2-q1-q2)*r1)+(2-p1-p2)*(q1*r2-q2*r1)=((q1-p1)*(r2-p2)-(q2-p2)*(r1-p1))*2:=by grind
  rw [e4]
  have:AU P Q R*8=AU P Q R*4*2:=by grind
  rw [this,e']
  grind
theorem Fm (hi:i<6) (hj:j<6) (hk:k<6):AU (LP a b c i) (LP a b c j) (LP a b c k)*8=((D3 i j k:Int):Rat)*AU a b c:=by
  obtain ⟨x1,y1,s1⟩:=QB (a:=a) (b:=b) (c:=c) hi
  obtain ⟨x2,y2,s2⟩:=QB (a:=a) (b:=b) (c:=c) hj
  obtain ⟨x3,y3,s3⟩:=QB (a:=a) (b:=b) (c:=c) hk
  rw [Vm x1 y1 s1 x2 y2 s2 x3 y3 s3]
  congr 1
  unfold D3
  simp only [Rat.intCast_add,Rat.intCast_sub,Rat.intCast_mul]
theorem PB (hT:0<AU a b c) (hi:i<6) (hj:j<6) (hk:k<6) (h:0<=AU (LP a b c i) (LP a b c j) (LP a b c k)):0<=D3 i j k:=by
  have e:=Fm (a:=a) (b:=b) (c:=c) hi hj hk
  have h1:0<=AU a b c*((D3 i j k:Int):Rat):=by rw [Rat.mul_comm,<-e];grind
  have h2:=HN hT h1
  exact_mod_cast h2
theorem G4 (hT:0<AU a b c) (hi:i<6) (hj:j<6) (hk:k<6) (h:0<=D3 i j k):0<=AU (LP a b c i) (LP a b c j) (LP a b c k):=by
  have e:=Fm (a:=a) (b:=b) (c:=c) hi hj hk
  have h1:(0:Rat)<=((D3 i j k:Int):Rat):=by exact_mod_cast h
  have h2:=Rat.mul_nonneg h1 (Rat.le_of_lt hT)
  grind
theorem F2 (hT:0<AU a b c) (hi:i<6) (hj:j<6) (hk:k<6) (h:D3 i j k<=0):AU (LP a b c i) (LP a b c j) (LP a b c k)<=0:=by
  have e:=Fm (a:=a) (b:=b) (c:=c) hi hj hk
  have h1:(0:Rat) <= -((D3 i j k:Int):Rat):=by
    have:((D3 i j k:Int):Rat)<=0:=by exact_mod_cast h
    grind
  have h2:=Rat.mul_nonneg h1 (Rat.le_of_lt hT)
  grind
theorem Wj (hT:0<AU a b c) (hi:i<6) (hj:j<6) (hk:k<6) (h:0<D3 i j k):0<AU (LP a b c i) (LP a b c j) (LP a b c k):=by
  have e:=Fm (a:=a) (b:=b) (c:=c) hi hj hk
  have h1:(0:Rat)<((D3 i j k:Int):Rat):=by exact_mod_cast h
  have h2:=Rat.mul_pos h1 hT
  grind
theorem QA (hT:0<AU a b c) (hi:i<6) (hj:j<6) (h:LP a b c i=LP a b c j):i=j:=by
  have key:∀u v:Nat,u<6->v<6->D3 i u v=D3 j u v:=λu v hu hv=>by
    have e1:=Fm (a:=a) (b:=b) (c:=c) hi hu hv
    have e2:=Fm (a:=a) (b:=b) (c:=c) hj hu hv
    rw [h,e2] at e1
    have h1:(((D3 i u v:Int):Rat)-((D3 j u v:Int):Rat))*AU a b c=0:=by grind
    rcases Rat.mul_eq_zero.1 h1 with h2|h2
    · have h3:((D3 i u v:Int):Rat)=((D3 j u v:Int):Rat):=by grind
      exact_mod_cast h3
    · rw [h2] at hT;exact absurd hT Rat.lt_irrefl
  have k1:=key 1 2 (by decide) (by decide)
  have k2:=key 2 0 (by decide) (by decide)
  have k3:=key 0 1 (by decide) (by decide)
  have ei:i=0\/i=1\/i=2\/i=3\/i=4\/i=5:=by omega
  have ej:j=0\/j=1\/j=2\/j=3\/j=4\/j=5:=by omega
  rcases ei with rfl|rfl|rfl|rfl|rfl|rfl<;>rcases ej with rfl|rfl|rfl|rfl|rfl|rfl<;>first|rfl|(revert k1 k2 k3;decide)
theorem Z5 (P Q R q u v:Pt):AU u v q*AU P Q R=AU q Q R*AU u v P+AU P q R*AU u v Q+AU P Q q*AU u v R:=by simp only [Ch];grind
theorem WK {P Q R u v:Pt} (hT:0<AU P Q R) (h1:0<=AU q Q R) (h2:0<=AU P q R) (h3:0<=AU P Q q) (k1:0<=AU u v P) (k2:0<=AU u v Q) (k3:0<=AU u v R):0<=AU u v q:=by
  have e:=Z5 P Q R q u v
  have m1:=Rat.mul_nonneg h1 k1
  have m2:=Rat.mul_nonneg h2 k2
  have m3:=Rat.mul_nonneg h3 k3
  exact Hb hT (by rw [e];grind)
end
theorem Ms {u a b c:Pt} {k:Rat} {l:Nat} (hl:l<6) (h1:k<=dt u a) (h2:k<=dt u b) (h3:k<=dt u c):k<=dt u (LP a b c l):=by
  obtain ⟨x1,y1,s1⟩:=QB (a:=a) (b:=b) (c:=c) hl
  have e:dt u (LP a b c l)*2=((bz l).1:Rat)*dt u a+((bz l).2.1:Rat)*dt u b+((bz l).2.2:Rat)*dt u c:=by
    have e0:dt u (LP a b c l)*2=u.x*((LP a b c l).y*2)-u.y*((LP a b c l).x*2):=by unfold dt;grind
    rw [e0,x1,y1];unfold dt;grind
  have z:(0:Rat)<=((bz l).1:Rat)/\(0:Rat)<=((bz l).2.1:Rat)/\(0:Rat)<=((bz l).2.2:Rat):=by
    have e:l=0\/l=1\/l=2\/l=3\/l=4\/l=5:=by omega
    rcases e with rfl|rfl|rfl|rfl|rfl|rfl<;>exact ⟨by decide,by decide,by decide⟩
  have m1:=Rat.mul_nonneg z.1 (show 0<=dt u a-k by grind)
  have m2:=Rat.mul_nonneg z.2.1 (show 0<=dt u b-k by grind)
  have m3:=Rat.mul_nonneg z.2.2 (show 0<=dt u c-k by grind)
  have s2:((bz l).1:Rat)*k+((bz l).2.1:Rat)*k+((bz l).2.2:Rat)*k=2*k:=by rw [<-s1];grind
  generalize ((bz l).1:Rat)=p1 at *
  generalize ((bz l).2.1:Rat)=p2 at *
  generalize ((bz l).2.2:Rat)=p3 at *
  clear x1 y1 z s1
  grind
theorem Mz {u a b c:Pt} {k:Rat} {l:Nat} (hl:l<6) (h1:dt u a<=k) (h2:dt u b<=k) (h3:dt u c<=k):dt u (LP a b c l)<=k:=by
  have ng:∀a,dt ⟨-u.x,-u.y⟩ a = -dt u a:=λa=>by unfold dt;grind
  have h:=Ms (u:=⟨-u.x,-u.y⟩) (k := -k) (a:=a) (b:=b) (c:=c) hl (by rw [ng];grind) (by rw [ng];grind) (by rw [ng];grind)
  rw [ng] at h
  grind
end
section
theorem Xn {q:Rat}:0<q.num.sign↔0<q:=by
  rcases G_ 0 q with h|h
  · rw [NO h];exact ⟨λ_=>h,λ_=>by decide⟩
  · by_cases e:q=0
    · rw [Nc e,e];decide
    · rw [P_ (q:=q) (by grind)];exact ⟨λk=>absurd k (by decide),λk=>by grind⟩
theorem IY {q:Rat}:q.num.sign = -1↔q<0:=by
  rcases G_ 0 q with h|h
  · rw [NO h];exact ⟨λk=>absurd k (by decide),λk=>by grind⟩
  · by_cases e:q=0
    · rw [Nc e,e];decide
    · have:q<0:=by grind
      rw [P_ this];exact ⟨λ_=>this,λ_=>rfl⟩
theorem PZ {p q:Pt} {B:Q3} (h:AU p q B.1<=0/\AU p q B.2.1<=0/\AU p q B.2.2<=0):Fx p q B=false:=by
  have k:∀r,AU p q r<=0->NT p q r=false:=λr hr=>decide_eq_false (by rw [Xn];grind)
  unfold Fx
  rw [k _ h.1,k _ h.2.1,k _ h.2.2];rfl
theorem XH {A B:Q3} (h:OY A.1 A.2.1 A.2.2 B.1 B.2.1 B.2.2):Em A B=true:=by
  unfold Em
  rcases h with h|h|h
  · rw [PZ h];rfl
  · rw [PZ (p:=A.2.1) (q:=A.2.2) h];simp
  · rw [PZ (p:=A.2.2) (q:=A.1) h];simp
theorem RQ {ps:List Pt} {t:T3} {q:Pt} (hT:0<AU (cor ps t.1) (cor ps t.2.1) (cor ps t.2.2)):NS ps q t=0↔¬KU ps t q:=by
  have hd:∀z,0<=z/AU (cor ps t.1) (cor ps t.2.1) (cor ps t.2.2)↔0<=z:=λz=>by
    have e:z/AU (cor ps t.1) (cor ps t.2.1) (cor ps t.2.2)*AU (cor ps t.1) (cor ps t.2.1) (cor ps t.2.2)=z:=Rat.div_mul_cancel (by grind)
    generalize z/AU (cor ps t.1) (cor ps t.2.1) (cor ps t.2.2)=w at *
    exact ⟨λk=>by rw [<-e];exact Rat.mul_nonneg k (by grind),λk=>by rw [<-e] at k;exact Hb hT k⟩
  have h1:NS ps q t=F0 (AU q (cor ps t.2.1) (cor ps t.2.2)/AU (cor ps t.1) (cor ps t.2.1) (cor ps t.2.2)) (AU (cor ps t.1) q (cor ps t.2.2)/AU (cor ps t.1) (cor ps t.2.1) (cor ps t.2.2)) (AU (cor ps t.1) (cor ps t.2.1) q/AU (cor ps t.1) (cor ps t.2.1) (cor ps t.2.2)):=if_neg (λe=>by rw [e] at hT;exact absurd hT Rat.lt_irrefl)
  have h2:∀{x y z:Rat},F0 x y z=0↔¬(0<=x/\0<=y/\0<=z):=λ{x y z}=>by
    unfold F0
    split
    · rename_i h
      rw [IY,IY,IY] at h
      exact ⟨λ_=>by grind,λ_=>rfl⟩
    · rename_i h
      rw [IY,IY,IY] at h
      exact ⟨λh=>by omega,λh=>by exfalso;apply h;grind⟩
  rw [h1,h2,hd,hd,hd]
  exact Iff.rfl
def Ft (mv:Nat->Nat->Nat) (t:T3) (l:Nat):Nat:=if l=0 then t.1 else if l=1 then t.2.1 else if l=2 then t.2.2 else if l=3 then mv t.1 t.2.1 else if l=4 then mv t.2.1 t.2.2 else mv t.2.2 t.1
def Fe (mv:Nat->Nat->Nat) (t L:T3):T3:=(Ft mv t L.1,Ft mv t L.2.1,Ft mv t L.2.2)
def VL (t:T3) (l:Nat):P2:=if l=3 then B_ t.1 t.2.1 else if l=4 then B_ t.2.1 t.2.2 else B_ t.2.2 t.1
def Kh (ps:List Pt) (t:T3) (l:Nat):Pt:=LP (cor ps t.1) (cor ps t.2.1) (cor ps t.2.2) l
structure IE (ps:List Pt) (ts:List T3) (ps':List Pt) (ts':List T3) (mv:Nat->Nat->Nat) (fam:T3->List T3):Prop where
  g:FQ ps ts
  cut:ts'=ts.flatMap λt=>(fam t).map (Fe mv t)
  fok:∀t∈ts,Sc (fam t)
  len:ps.length<=ps'.length
  old:∀p,p<ps.length->cor ps' p=cor ps p
  mid:∀t∈ts,∀l,3<=l->l<6->GO (fam t) l=true->ps.length<=Ft mv t l/\Ft mv t l<ps'.length/\cor ps' (Ft mv t l)=Kh ps t l
  new:∀p,ps.length<=p->p<ps'.length->∃t∈ts,∃l,3<=l/\l<6/\GO (fam t) l=true/\p=Ft mv t l
  cls:∀t∈ts,∀s∈ts,∀l k,3<=l->l<6->3<=k->k<6->GO (fam s) k=true->VL t l=VL s k->GO (fam t) l=true/\Ft mv t l=Ft mv s k
theorem Om {fam:List T3} {L:T3} {l:Nat} (hL:L∈fam) (h:CS L l=true):GO fam l=true:=List.any_eq_true.2 ⟨L,hL,h⟩
theorem Zo (L:T3):CS L L.1=true/\CS L L.2.1=true/\CS L L.2.2=true:=by simp [CS]
theorem Mm {mv:Nat->Nat->Nat} {t L:T3} {l:Nat} (h:CS L l=true):CS (Fe mv t L) (Ft mv t l)=true:=by
  simp only [CS,Bool.or_eq_true,beq_iff_eq] at h ⊢
  rcases h with (h|h)|h
  · left;left;show Ft mv t L.1=_;rw [h]
  · left;right;show Ft mv t L.2.1=_;rw [h]
  · right;show Ft mv t L.2.2=_;rw [h]
section
variable {ps ps':List Pt} {ts ts':List T3} {mv:Nat->Nat->Nat} {fam:T3->List T3} {t s c L:T3} {l k p:Nat}
theorem G1 (h:t∈ts):∃j,j<ts.length/\ts.getD j (0,0,0)=t:=by
  obtain ⟨j,hj,e⟩:=List.getElem_of_mem h
  exact ⟨j,hj,by rw [List.getD,List.getElem?_eq_getElem hj];exact e⟩
theorem H9 {j:Nat} (h:j<ts.length):ts.getD j (0,0,0)∈ts:=by rw [List.getD,List.getElem?_eq_getElem h];exact List.getElem_mem h
theorem IE.tri (S:IE ps ts ps' ts' mv fam) (ht:t∈ts):ZY ps t:=by
  obtain ⟨j,hj,rfl⟩:=G1 ht
  exact S.g.tri j hj
theorem IE.v_pos (S:IE ps ts ps' ts' mv fam) (ht:t∈ts):0<AU (cor ps t.1) (cor ps t.2.1) (cor ps t.2.2):=(S.tri ht).pos
theorem IE.v_pt (S:IE ps ts ps' ts' mv fam) (ht:t∈ts) (hl:l<6) (hu:GO (fam t) l=true):Ft mv t l<ps'.length/\cor ps' (Ft mv t l)=Kh ps t l:=by
  have h:=S.tri ht
  have hle:=S.len
  rcases Nat.lt_or_ge l 3 with h3|h3
  · have e:l=0\/l=1\/l=2:=by omega
    rcases e with rfl|rfl|rfl
    · exact ⟨Nat.lt_of_lt_of_le h.a hle,S.old _ h.a⟩
    · exact ⟨Nat.lt_of_lt_of_le h.b hle,S.old _ h.b⟩
    · exact ⟨Nat.lt_of_lt_of_le h.c hle,S.old _ h.c⟩
  · exact (S.mid t ht l h3 hl hu).2
theorem IE.v_child (S:IE ps ts ps' ts' mv fam) (hc:c∈ts'):∃t∈ts,∃L∈fam t,c=Fe mv t L:=by
  rw [S.cut] at hc
  obtain ⟨t,ht,hc⟩:=List.mem_flatMap.1 hc
  obtain ⟨L,hL,e⟩:=List.mem_map.1 hc
  exact ⟨t,ht,L,hL,e.symm⟩
theorem IE.v_c3 (S:IE ps ts ps' ts' mv fam) (ht:t∈ts) (hL:L∈fam t):cor ps' (Fe mv t L).1=Kh ps t L.1/\cor ps' (Fe mv t L).2.1=Kh ps t L.2.1/\cor ps' (Fe mv t L).2.2=Kh ps t L.2.2:=by
  obtain ⟨h1,h2,h3⟩:=(S.fok t ht).lt L hL
  obtain ⟨u1,u2,u3⟩:=Zo L
  exact ⟨(S.v_pt ht h1 (Om hL u1)).2,(S.v_pt ht h2 (Om hL u2)).2,(S.v_pt ht h3 (Om hL u3)).2⟩
theorem IE.v_cpos (S:IE ps ts ps' ts' mv fam) (ht:t∈ts) (hL:L∈fam t):0<AU (cor ps' (Fe mv t L).1) (cor ps' (Fe mv t L).2.1) (cor ps' (Fe mv t L).2.2):=by
  obtain ⟨h1,h2,h3⟩:=(S.fok t ht).lt L hL
  obtain ⟨e1,e2,e3⟩:=S.v_c3 ht hL
  rw [e1,e2,e3]
  exact Wj (S.v_pos ht) h1 h2 h3 ((S.fok t ht).pos L hL)
def BB (ps:List Pt) (c d:T3):Prop:=OY (cor ps c.1) (cor ps c.2.1) (cor ps c.2.2) (cor ps d.1) (cor ps d.2.1) (cor ps d.2.2)\/OY (cor ps d.1) (cor ps d.2.1) (cor ps d.2.2) (cor ps c.1) (cor ps c.2.1) (cor ps c.2.2)
theorem Qb {a b c:Pt} {M:T3} (hT:0<AU a b c) (hL:L.1<6/\L.2.1<6/\L.2.2<6) (hM:M.1<6/\M.2.1<6/\M.2.2<6) (h:RY L M=true):OY (LP a b c L.1) (LP a b c L.2.1) (LP a b c L.2.2) (LP a b c M.1) (LP a b c M.2.1) (LP a b c M.2.2):=by
  simp only [RY,We,Bool.or_eq_true,Bool.and_eq_true,decide_eq_true_eq] at h
  rcases h with (⟨⟨h1,h2⟩,h3⟩|⟨⟨h1,h2⟩,h3⟩)|⟨⟨h1,h2⟩,h3⟩
  · exact .inl ⟨F2 hT hL.1 hL.2.1 hM.1 h1,F2 hT hL.1 hL.2.1 hM.2.1 h2,F2 hT hL.1 hL.2.1 hM.2.2 h3⟩
  · exact .inr (.inl ⟨F2 hT hL.2.1 hL.2.2 hM.1 h1,F2 hT hL.2.1 hL.2.2 hM.2.1 h2,F2 hT hL.2.1 hL.2.2 hM.2.2 h3⟩)
  · exact .inr (.inr ⟨F2 hT hL.2.2 hL.1 hM.1 h1,F2 hT hL.2.2 hL.1 hM.2.1 h2,F2 hT hL.2.2 hL.1 hM.2.2 h3⟩)
theorem IE.v_bb (S:IE ps ts ps' ts' mv fam):ts'.Pairwise (BB ps'):=by
  rw [S.cut]
  refine List.pairwise_flatMap.2 ⟨λt ht=>?_,?_⟩
  · refine List.pairwise_map.2 ((S.fok t ht).sep.imp_of_mem λ{L M} hL hM h=>?_)
    obtain ⟨e1,e2,e3⟩:=S.v_c3 ht hL
    obtain ⟨f1,f2,f3⟩:=S.v_c3 ht hM
    unfold BB
    rw [e1,e2,e3,f1,f2,f3]
    rw [Bool.or_eq_true] at h
    exact h.imp (Qb (S.v_pos ht) ((S.fok t ht).lt L hL) ((S.fok t ht).lt M hM)) (Qb (S.v_pos ht) ((S.fok t ht).lt M hM) ((S.fok t ht).lt L hL))
  · have base:ts.Pairwise (Ln ps):=List.pairwise_iff_getElem.2 λi j hi hj hij=>by
      have h:=Uj S.g hi hj Z
      rwa [List.getD,List.getD,List.getElem?_eq_getElem hi,List.getElem?_eq_getElem hj] at h
    refine base.imp_of_mem λ{t s} ht hs ⟨u,k,hu,⟨h1,h2,h3⟩,h4,h5,h6⟩ x hx y hy=>?_
    obtain ⟨L,hL,rfl⟩:=List.mem_map.1 hx
    obtain ⟨M,hM,rfl⟩:=List.mem_map.1 hy
    obtain ⟨l1,l2,l3⟩:=(S.fok t ht).lt L hL
    obtain ⟨m1,m2,m3⟩:=(S.fok s hs).lt M hM
    obtain ⟨e1,e2,e3⟩:=S.v_c3 ht hL
    obtain ⟨f1,f2,f3⟩:=S.v_c3 hs hM
    have a:=S.v_cpos ht hL
    have b:=S.v_cpos hs hM
    refine aT a b hu (k:=k) ?_
    rw [e1,e2,e3,f1,f2,f3]
    exact ⟨⟨Ms l1 h1 h2 h3,Ms l2 h1 h2 h3,Ms l3 h1 h2 h3⟩,Mz m1 h4 h5 h6,Mz m2 h4 h5 h6,Mz m3 h4 h5 h6⟩
theorem IE.v_up (S:IE ps ts ps' ts' mv fam) (ht:t∈ts) (hL:L∈fam t) {q:Pt} (h:KU ps' (Fe mv t L) q):KU ps t q:=by
  obtain ⟨l1,l2,l3⟩:=(S.fok t ht).lt L hL
  obtain ⟨e1,e2,e3⟩:=S.v_c3 ht hL
  have hc:=S.v_cpos ht hL
  obtain ⟨h1,h2,h3⟩:=h
  have hT:=S.v_pos ht
  have sd:∀i j:Nat,i<6->j<6->(∀l,l<6->0<=D3 i j l)->0<=AU (Kh ps t i) (Kh ps t j) q:=λi j hi hj hd =>
    WK hc h1 h2 h3 (by rw [e1];exact G4 hT hi hj l1 (hd _ l1)) (by rw [e2];exact G4 hT hi hj l2 (hd _ l2)) (by rw [e3];exact G4 hT hi hj l3 (hd _ l3))
  have d1:=sd 1 2 (by decide) (by decide) (by decide)
  have d2:=sd 2 0 (by decide) (by decide) (by decide)
  have d3:=sd 0 1 (by decide) (by decide) (by decide)
  have c1:AU q (cor ps t.2.1) (cor ps t.2.2)=AU (cor ps t.2.1) (cor ps t.2.2) q:=by simp only [Ch];grind
  have c2:AU (cor ps t.1) q (cor ps t.2.2)=AU (cor ps t.2.2) (cor ps t.1) q:=by simp only [Ch];grind
  exact ⟨by show 0<=AU q (cor ps t.2.1) (cor ps t.2.2);rw [c1];exact d1,by show 0<=AU (cor ps t.1) q (cor ps t.2.2);rw [c2];exact d2,d3⟩
theorem IE.v_lab (S:IE ps ts ps' ts' mv fam) (ht:t∈ts) (hL:L∈fam t) (hl:l<6) (hu:GO (fam t) l=true) (h:KU ps' (Fe mv t L) (Kh ps t l)):CS L l=true:=by
  obtain ⟨l1,l2,l3⟩:=(S.fok t ht).lt L hL
  obtain ⟨e1,e2,e3⟩:=S.v_c3 ht hL
  obtain ⟨h1,h2,h3⟩:=h
  have h1:0<=AU (Kh ps t l) (cor ps' (Fe mv t L).2.1) (cor ps' (Fe mv t L).2.2):=h1
  have h2:0<=AU (cor ps' (Fe mv t L).1) (Kh ps t l) (cor ps' (Fe mv t L).2.2):=h2
  have h3:0<=AU (cor ps' (Fe mv t L).1) (cor ps' (Fe mv t L).2.1) (Kh ps t l):=h3
  rw [e2,e3] at h1
  rw [e1,e3] at h2
  rw [e1,e2] at h3
  have hT:=S.v_pos ht
  refine (S.fok t ht).cls L hL l hl hu ?_
  simp only [Wb,Bool.and_eq_true,decide_eq_true_eq]
  exact ⟨⟨PB hT hl l2 l3 h1,PB hT l1 hl l3 h2⟩,PB hT l1 l2 hl h3⟩
theorem Mw (h:CS t p=true):∃l,l<3/\p=Ft mv t l:=by
  simp only [CS,Bool.or_eq_true,beq_iff_eq] at h
  rcases h with (h|h)|h
  · exact ⟨0,by decide,h.symm⟩
  · exact ⟨1,by decide,h.symm⟩
  · exact ⟨2,by decide,h.symm⟩
theorem UH (hk:3<=k) (hk6:k<6):∃r,r<3/\VL s k=B_ (crn s r) (crn s ((r+1)%3))/\Kh ps s k=Cp (cor ps (crn s r)+cor ps (crn s ((r+1)%3))) (1/2):=by
  have e:k=3\/k=4\/k=5:=by omega
  rcases e with rfl|rfl|rfl
  · exact ⟨0,by decide,rfl,rfl⟩
  · exact ⟨1,by decide,rfl,rfl⟩
  · exact ⟨2,by decide,rfl,rfl⟩
theorem Tx {x y:Nat} (hx:CS t x=true) (hy:CS t y=true) (hne:x≠y):∃l,3<=l/\l<6/\VL t l=B_ x y:=by
  simp only [CS,Bool.or_eq_true,beq_iff_eq] at hx hy
  have sy:∀a b,B_ a b=B_ b a:=λa b=>by unfold B_;rw [Nat.min_comm,Nat.max_comm]
  rcases hx with (hx|hx)|hx<;>rcases hy with (hy|hy)|hy<;>subst hx<;>subst hy
  · exact absurd O hne
  · exact ⟨3,by decide,by decide,rfl⟩
  · exact ⟨5,by decide,by decide,sy _ _⟩
  · exact ⟨3,by decide,by decide,sy _ _⟩
  · exact absurd O hne
  · exact ⟨4,by decide,by decide,rfl⟩
  · exact ⟨5,by decide,by decide,rfl⟩
  · exact ⟨4,by decide,by decide,sy _ _⟩
  · exact absurd O hne
theorem IE.v_mid (S:IE ps ts ps' ts' mv fam) (ht:t∈ts) (hs:s∈ts) (hk:3<=k) (hk6:k<6) (hu:GO (fam s) k=true) (h:KU ps t (Kh ps s k)):∃l,3<=l/\l<6/\GO (fam t) l=true/\Ft mv t l=Ft mv s k:=by
  obtain ⟨r,hr,e1,e2⟩:=UH (ps:=ps) (s:=s) hk hk6
  obtain ⟨i,hi,rfl⟩:=G1 hs
  obtain ⟨j,hj,rfl⟩:=G1 ht
  rw [e2] at h
  obtain ⟨a,b⟩:=So S.g hi hj hr h
  have hne:crn (ts.getD i (0,0,0)) r≠crn (ts.getD i (0,0,0)) ((r+1)%3):=by
    have hT:=S.tri hs
    have er:r=0\/r=1\/r=2:=by omega
    rcases er with rfl|rfl|rfl
    · exact hT.ab
    · exact hT.bc
    · exact hT.ca
  obtain ⟨l,hl,hl6,e⟩:=Tx a b hne
  exact ⟨l,hl,hl6,S.cls _ ht _ hs l k hl hl6 hk hk6 hu (by rw [e,e1])⟩
theorem Ug (hT:0<AU (cor ps t.1) (cor ps t.2.1) (cor ps t.2.2)) (hl:l<6):KU ps t (Kh ps t l):=by
  have e:l=0\/l=1\/l=2\/l=3\/l=4\/l=5:=by omega
  have k1:0<=D3 l 1 2:=by rcases e with rfl|rfl|rfl|rfl|rfl|rfl<;>decide
  have k2:0<=D3 0 l 2:=by rcases e with rfl|rfl|rfl|rfl|rfl|rfl<;>decide
  have k3:0<=D3 0 1 l:=by rcases e with rfl|rfl|rfl|rfl|rfl|rfl<;>decide
  have d1:0<=AU (Kh ps t l) (Kh ps t 1) (Kh ps t 2):=G4 hT hl (by decide) (by decide) k1
  have d2:0<=AU (Kh ps t 0) (Kh ps t l) (Kh ps t 2):=G4 hT (by decide) hl (by decide) k2
  have d3:0<=AU (Kh ps t 0) (Kh ps t 1) (Kh ps t l):=G4 hT (by decide) (by decide) hl k3
  exact ⟨d1,d2,d3⟩
theorem IE.v_crn (S:IE ps ts ps' ts' mv fam) (hc:c∈ts') (hp:p<ps'.length) (h:KU ps' c (cor ps' p)):CS c p=true:=by
  obtain ⟨t,ht,L,hL,rfl⟩:=S.v_child hc
  rcases Nat.lt_or_ge p ps.length with hlt|hge
  · have h1:=S.v_up ht hL h
    rw [S.old p hlt] at h1
    obtain ⟨j,hj,rfl⟩:=G1 ht
    obtain ⟨l,hl,e⟩:=Mw (mv:=mv) (I3 S.g hlt hj h1)
    have hu:=(S.fok _ ht).cor l hl
    rw [e,(S.v_pt ht (show l<6 by omega) hu).2] at h
    rw [e]
    exact Mm (S.v_lab ht hL Z hu h)
  · obtain ⟨s,hs,k,hk,hk6,hu,e⟩:=S.new p hge hp
    have e2:=(S.mid s hs k hk hk6 hu).2.2
    rw [e,e2] at h
    obtain ⟨l,hl,hl6,hul,el⟩:=S.v_mid ht hs hk hk6 hu (S.v_up ht hL h)
    have e3:=(S.mid t ht l hl hl6 hul).2.2
    rw [<-e2,<-el,e3] at h
    rw [e,<-el]
    exact Mm (S.v_lab ht hL hl6 hul h)
theorem IE.v_dst (S:IE ps ts ps' ts' mv fam) {p q:Nat} (hp:p<ps'.length) (hq:q<ps'.length) (h:cor ps' p=cor ps' q):p=q:=by
  have one:∀p q,p<ps.length->ps.length<=q->q<ps'.length->cor ps' p≠cor ps' q:=λp q hp hq hq' h=>by
    obtain ⟨s,hs,k,hk,hk6,hu,e⟩:=S.new q hq hq'
    have e2:=(S.mid s hs k hk hk6 hu).2.2
    rw [e,e2,S.old p hp] at h
    have h1:=Ug (S.v_pos hs) hk6
    rw [<-h] at h1
    obtain ⟨j,hj,rfl⟩:=G1 hs
    obtain ⟨l,hl,e4⟩:=Mw (mv:=mv) (I3 S.g hp hj h1)
    have e5:=(S.v_pt hs (show l<6 by omega) ((S.fok _ hs).cor l hl)).2
    rw [<-e4,S.old p hp] at e5
    have:=QA (S.v_pos hs) (show l<6 by omega) hk6 (e5.symm.trans h)
    omega
  rcases Nat.lt_or_ge p ps.length with hpl|hpg<;>rcases Nat.lt_or_ge q ps.length with hql|hqg
  · rw [S.old p hpl,S.old q hql] at h
    exact TU S.g hpl hql h
  · exact absurd h (one p q hpl hqg hq)
  · exact absurd h.symm (one q p hql hpg hp)
  · obtain ⟨s,hs,k,hk,hk6,hu,e⟩:=S.new p hpg hp
    obtain ⟨t,ht,l,hl,hl6,hul,e'⟩:=S.new q hqg hq
    have e2:=(S.mid s hs k hk hk6 hu).2.2
    have e3:=(S.mid t ht l hl hl6 hul).2.2
    rw [e,e2,e',e3] at h
    have h1:=Ug (S.v_pos ht) hl6
    rw [<-h] at h1
    obtain ⟨l0,h0,h06,hu0,e0⟩:=S.v_mid ht hs hk hk6 hu h1
    have e4:=(S.mid t ht l0 h0 h06 hu0).2.2
    rw [e0,e2,h] at e4
    have:=QA (S.v_pos ht) hl6 h06 e4
    rw [e,e',<-e0,this]
theorem IE.v_use (S:IE ps ts ps' ts' mv fam) (hp:p<ps'.length):∃c∈ts',CS c p=true:=by
  have fin:∀t∈ts,∀l,GO (fam t) l=true->∃c∈ts',CS c (Ft mv t l)=true:=λt ht l hu=>by
    obtain ⟨L,hL,h⟩:=List.any_eq_true.1 hu
    exact ⟨Fe mv t L,by rw [S.cut];exact List.mem_flatMap.2 ⟨t,ht,List.mem_map_of_mem hL⟩,Mm h⟩
  rcases Nat.lt_or_ge p ps.length with hlt|hge
  · obtain ⟨j,hj,h⟩:=If S.g hlt
    obtain ⟨l,hl,e⟩:=Mw (mv:=mv) h
    rw [e]
    exact fin _ (H9 hj) l ((S.fok _ (H9 hj)).cor l hl)
  · obtain ⟨s,hs,k,hk,hk6,hu,e⟩:=S.new p hge hp
    rw [e]
    exact fin s hs k hu
theorem IE.chk {ss':List T3} (S:IE ps ts ps' ts' mv fam) (hpl:ps'.length<=4096) (htl:ts'.length<=8192) (hsl:ss'.length<=24576) (h0:0<ts'.length) (hz:∀k,B5 (cor ps' k)<=1000) (hn:CD ps'.length ts'=true)
    (hs:∀s∈ss',s.1<ps'.length/\s.2.1<ps'.length/\s.2.2<=255) (hr:ss'.map (λs=>(s.1,s.2.1))=(Bx ts').map λs=>(s.1,s.2.1)):J1 ps' ts' ss' where
  pl:=hpl
  tl:=htl
  t0:=h0
  sl:=hsl
  sz:=hz
  num:=hn
  pos j hj:=by
    obtain ⟨t,ht,L,hL,e⟩:=S.v_child (H9 hj)
    rw [e]
    exact NO (S.v_cpos ht hL)
  sid j hj:=hs _ (H9 hj)
  use p hp:=by
    obtain ⟨c,hc,h⟩:=S.v_use hp
    obtain ⟨j,hj,e⟩:=G1 hc
    exact ⟨j,hj,by rw [e];exact h⟩
  dst:=List.pairwise_iff_getElem.2 λi j hi hj hij e=>by
    have:=S.v_dst hi hj (by unfold cor;rw [List.getD,List.getD,List.getElem?_eq_getElem hi,List.getElem?_eq_getElem hj];exact e)
    omega
  apart i k hi hk:=by
    have h:=List.pairwise_iff_getElem.1 S.v_bb k i Z hi hk
    rw [<-show ts'.getD k (0,0,0)=ts'[k] by rw [List.getD,List.getElem?_eq_getElem Z];rfl,<-show ts'.getD i (0,0,0)=ts'[i] by rw [List.getD,List.getElem?_eq_getElem hi];rfl] at h
    rcases h with h|h
    · rw [XH (A:=Bs ps' (ts'.getD k (0,0,0))) (B:=Bs ps' (ts'.getD i (0,0,0))) h];simp
    · rw [XH (A:=Bs ps' (ts'.getD i (0,0,0))) (B:=Bs ps' (ts'.getD k (0,0,0))) h];simp
  crn i p hi hp hn:=by
    have hm:=H9 hi
    obtain ⟨t,ht,L,hL,e⟩:=S.v_child hm
    refine (RQ (by rw [e];exact S.v_cpos ht hL)).2 λh=>?_
    rw [S.v_crn hm hp h] at hn
    cases hn
  rl:=by have h:=congrArg List.length hr;simpa using h
  rim j hj:=by
    have hl:=congrArg List.length hr
    simp only [List.length_map] at hl
    have h:=congrArg (λl:List (Nat×Nat)=>l[j]?) hr
    simp only [List.getElem?_map,List.getElem?_eq_getElem hj,List.getElem?_eq_getElem (show j<(Bx ts').length by omega),Option.map_some,Option.some.injEq,Prod.mk.injEq] at h
    rw [List.getD,List.getD,List.getElem?_eq_getElem hj,List.getElem?_eq_getElem (show j<(Bx ts').length by omega)]
    exact h
end
end
end Go.Proofs.YtfbomiejpbchdaaGreat
