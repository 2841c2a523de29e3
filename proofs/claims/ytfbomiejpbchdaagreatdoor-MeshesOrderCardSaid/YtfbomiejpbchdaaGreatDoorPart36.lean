import Derived.Test.YtfbomiejpbchdaaGreatDoorPart28
import Derived.Test.YtfbomiejpbchdaaGreatDoorPart29
import Derived.Test.YtfbomiejpbchdaaGreatDoorPart35
namespace Go.Proofs.YtfbomiejpbchdaaGreatDoor
open Go Go.RowKit Go.Proofs.Tryz
set_option linter.unusedVariables false
set_option linter.unusedSimpArgs false
section
def RQ (A B:P2) (t:T2):Bool:=decide (Bl A B t.1<=0)&&decide (Bl A B t.2.1<=0)&&decide (Bl A B t.2.2<=0)
def SI (s t:T2):Bool:=RQ s.1 s.2.1 t||RQ s.2.1 s.2.2 t||RQ s.2.2 s.1 t
def Q4 (s t:T2):Bool:=s == t||(SI s t||SI t s)
def Sk:Bool:=F6.all λp=>F6.all λq=>(decide (p.1=q.1/\p.2.1=q.2.1/\p.2.2≠q.2.2))||(Pc p.1 p.2.1 p.2.2).all λs=>(Pc q.1 q.2.1 q.2.2).all λt=>Q4 s t
theorem KT:Sk=true:=by decide +kernel
theorem S8 {m:MQ} {s t:T2} (hs:s∈Az m) (ht:t∈Az m):Q4 s t=true:=by
  obtain ⟨i,hi,h1⟩:=Dp m _ s hs
  obtain ⟨j,hj,h2⟩:=Dp m _ t ht
  have hx:=Hy m
  have hy:=H5 m
  have b:∀k,k<FN m*P_ m->k%FN m<=2/\k/FN m<=2:=λk hk=>by
    have a1:=Nat.mod_lt k (show 0<FN m by omega)
    have a2:k/FN m<P_ m:=Nat.div_lt_of_lt_mul hk
    omega
  rw [Ko] at h1 h2
  have h:=List.all_eq_true.1 (List.all_eq_true.1 KT _ (EA (b i hi).1 (b i hi).2 (JE (Fm m i) i))) _ (EA (b j hj).1 (b j hj).2 (JE (Fm m j) j))
  rw [Bool.or_eq_true,decide_eq_true_eq] at h
  rcases h with ⟨e1,e2,e3⟩|h
  · exfalso
    have e:i=j:=by rw [<-Nat.div_add_mod i (FN m),<-Nat.div_add_mod j (FN m),show i%FN m=j%FN m from e1,show i/FN m=j/FN m from e2]
    subst e
    exact e3 O
  · exact List.all_eq_true.1 (List.all_eq_true.1 h s h1) t h2
theorem MH {A B:P2} {t:T2} (h:RQ A B t=true):∀q,q<3->Bl A B (Cb t q)<=0:=by
  simp only [RQ,Bool.and_eq_true,decide_eq_true_eq] at h
  intro q hq
  have e:q=0\/q=1\/q=2:=by omega
  rcases e with rfl|rfl|rfl
  · exact h.1.1
  · exact h.1.2
  · exact h.2
theorem WL {s t:T2} (h:SI s t=true) (hp:0<Bl s.1 s.2.1 s.2.2):∃A B X:P2,0<Bl A B X/\(∀q,q<3->0<=Bl A B (Cb s q))/\∀q,q<3->Bl A B (Cb t q)<=0:=by
  have hs:∀A B C:P2,0<Bl A B C->(A=s.1/\B=s.2.1/\C=s.2.2\/A=s.2.1/\B=s.2.2/\C=s.1\/A=s.2.2/\B=s.1/\C=s.2.1)->∀q,q<3->0<=Bl A B (Cb s q):=λA B C hc he q hq=>by
    have e:q=0\/q=1\/q=2:=by omega
    have s1:=(C6 A B).2.1
    have s2:=(C6 A B).2.2
    rcases he with ⟨rfl,rfl,rfl⟩|⟨rfl,rfl,rfl⟩|⟨rfl,rfl,rfl⟩<;>rcases e with rfl|rfl|rfl<;>simp only [Cb,if_true]<;>first|exact Int.le_of_lt hc|(simp;first|exact Int.le_of_lt hc|(rw [s1];exact Int.le_refl 0)|(have:=(C6 s.1 s.2.1);have:=(C6 s.2.1 s.2.2);have:=(C6 s.2.2 s.1);unfold Bl at *;omega)|(unfold Bl;grind))
  simp only [SI,Bool.or_eq_true] at h
  rcases h with (h|h)|h
  · exact ⟨_,_,_,hp,hs _ _ _ hp (.inl ⟨rfl,rfl,rfl⟩),MH h⟩
  · have hp':0<Bl s.2.1 s.2.2 s.1:=by rw [EK];exact hp
    exact ⟨_,_,_,hp',hs _ _ _ hp' (.inr (.inl ⟨rfl,rfl,rfl⟩)),MH h⟩
  · have hp':0<Bl s.2.2 s.1 s.2.1:=by rw [EK,EK];exact hp
    exact ⟨_,_,_,hp',hs _ _ _ hp' (.inr (.inr ⟨rfl,rfl,rfl⟩)),MH h⟩
def Ln (ps:List Pt) (s t:T3):Prop:=∃(u:Pt) (k:Rat),u≠⟨0,0⟩/\W7 u k (cor ps s.1) (cor ps s.2.1) (cor ps s.2.2) (cor ps t.1) (cor ps t.2.1) (cor ps t.2.2)
theorem Ln.symm {ps:List Pt} {s t:T3} (h:Ln ps s t):Ln ps t s:=by
  obtain ⟨u,k,hu,⟨h1,h2,h3⟩,h4,h5,h6⟩:=h
  have ng:∀a,dt ⟨-u.x,-u.y⟩ a = -dt u a:=λa=>by unfold dt;grind
  refine ⟨⟨-u.x,-u.y⟩,-k,λe=>hu ?_,⟨?_,?_,?_⟩,?_,?_,?_⟩
  · obtain ⟨x,y⟩:=u
    injection e with e1 e2
    simp only at e1 e2
    rw [show x=0 by grind,show y=0 by grind]
  all_goals rw [ng];grind
section
variable {ps:List Pt} {ts:List T3}
theorem Sc (g:Ek ps ts) {i j:Nat} (hi:i<ts.length) (hj:j<ts.length) (hne:i≠j):Ln ps (ts.getD i (0,0,0)) (ts.getD j (0,0,0)):=by
  obtain ⟨m,pl,l⟩:=g.lattice
  obtain ⟨c,hc,hT⟩:=Mw (El m.a m.b m.c m.d) (Bt m)
  have hlen:=l.inv.tl
  have dz:T2:=((0,0),(0,0),(0,0))
  have key:∀i j,i<ts.length->j<ts.length->SI ((Az m).getD i ((0,0),(0,0),(0,0))) ((Az m).getD j ((0,0),(0,0),(0,0)))=true->Ln ps (ts.getD i (0,0,0)) (ts.getD j (0,0,0)):=λi j hi hj h=>by
    obtain ⟨A,B,X,hX,hs,ht⟩:=WL h (GY m _ (l.cell hi)).1
    have pt:∀k,k<ts.length->∀r,r<3->∃q,q<3/\cor ps (Cd (ts.getD k (0,0,0)) r)=PQ (mapM m) (Bt m) ((Cb ((Az m).getD k ((0,0),(0,0),(0,0))) q).1:Rat) ((Cb ((Az m).getD k ((0,0),(0,0),(0,0))) q).2:Rat):=λk hk r hr=>by
      have hat:=l.inv.at_ k Z
      have e:=Q1 hat hr
      have hlt:Cd (ts.getD k (0,0,0)) r<pl.length:=by
        have er:r=0\/r=1\/r=2:=by omega
        rcases er with rfl|rfl|rfl
        · exact hat.a.1
        · exact hat.b.1
        · exact hat.c.1
      refine ⟨H2 m k r,Nat.mod_lt _ (by decide),?_⟩
      show ps.getD _ ⟨0,0⟩=_
      rw [l.at_ _ hlt,IQ,e]
      rfl
    have q2:∀C:P2,AO (CE (Fq (mapM m) (Bt m) A)) (CE (Fq (mapM m) (Bt m) B)) (PQ (mapM m) (Bt m) (C.1:Rat) (C.2:Rat))=c*((Bl A B C:Int):Rat):=λC=>by
      rw [show mapM m=Fp m.a m.b m.c m.d from rfl,hT]
      congr 1
      simp only [Ir,Bl,Rat.intCast_sub,Rat.intCast_mul,Rat.intCast_natCast]
    have dq:∀P:Pt,AO (CE (Fq (mapM m) (Bt m) A)) (CE (Fq (mapM m) (Bt m) B)) P=dt (ED (CE (Fq (mapM m) (Bt m) B)) (CE (Fq (mapM m) (Bt m) A))) P-dt (ED (CE (Fq (mapM m) (Bt m) B)) (CE (Fq (mapM m) (Bt m) A))) (CE (Fq (mapM m) (Bt m) A)):=λP=>by
      simp only [B5,dt,ED];grind
    have lf:∀r,r<3->dt (ED (CE (Fq (mapM m) (Bt m) B)) (CE (Fq (mapM m) (Bt m) A))) (CE (Fq (mapM m) (Bt m) A))<=dt (ED (CE (Fq (mapM m) (Bt m) B)) (CE (Fq (mapM m) (Bt m) A))) (cor ps (Cd (ts.getD i (0,0,0)) r)):=λr hr=>by
      obtain ⟨q,hq,e⟩:=pt i hi r hr
      have h1:=dq (cor ps (Cd (ts.getD i (0,0,0)) r))
      rw [e,q2] at h1
      rw [e]
      have h2:(0:Rat)<=((Bl A B (Cb ((Az m).getD i ((0,0),(0,0),(0,0))) q):Int):Rat):=by exact_mod_cast hs q hq
      have h3:=Rat.mul_nonneg (Rat.le_of_lt hc) h2
      grind
    have rt:∀r,r<3->dt (ED (CE (Fq (mapM m) (Bt m) B)) (CE (Fq (mapM m) (Bt m) A))) (cor ps (Cd (ts.getD j (0,0,0)) r))<=dt (ED (CE (Fq (mapM m) (Bt m) B)) (CE (Fq (mapM m) (Bt m) A))) (CE (Fq (mapM m) (Bt m) A)):=λr hr=>by
      obtain ⟨q,hq,e⟩:=pt j hj r hr
      have h1:=dq (cor ps (Cd (ts.getD j (0,0,0)) r))
      rw [e,q2] at h1
      rw [e]
      have h2:(0:Rat) <= -((Bl A B (Cb ((Az m).getD j ((0,0),(0,0),(0,0))) q):Int):Rat):=by
        have h9:((Bl A B (Cb ((Az m).getD j ((0,0),(0,0),(0,0))) q):Int):Rat)<=0:=by exact_mod_cast ht q hq
        grind
      have h3:=Rat.mul_nonneg (Rat.le_of_lt hc) h2
      grind
    refine ⟨_,_,λe=>?_,⟨lf 0 (by decide),lf 1 (by decide),lf 2 (by decide)⟩,rt 0 (by decide),rt 1 (by decide),rt 2 (by decide)⟩
    have h1:=dq (PQ (mapM m) (Bt m) (X.1:Rat) (X.2:Rat))
    rw [q2,e] at h1
    have h2:(0:Rat)<((Bl A B X:Int):Rat):=by exact_mod_cast hX
    have h3:=Rat.mul_pos hc h2
    unfold dt at h1
    grind
  have h3:=S8 (l.cell hi) (l.cell hj)
  simp only [Q4,Bool.or_eq_true,beq_iff_eq] at h3
  rcases h3 with h3|h3|h3
  · exfalso
    obtain ⟨x,y,ho⟩:=WE (GY m _ (l.cell hi)).1
    refine LC m (show i<(Az m).length by omega) (show j<(Az m).length by omega) hne ((0,0),(0,0),(0,0)) x y ho ?_
    rw [<-h3]
    exact ⟨by have:=ho.1;grind,by have:=ho.2.1;grind,by have:=ho.2.2;grind⟩
  · exact key i j hi hj h3
  · exact (key j i hj hi h3).symm
end
end
def Xa (md:List (P2×Nat)):Nat->T3->List T3
  | 0,c=>[c]
  | d+1,c=>match BG md (Mi c) with
    | none=>[c]
    | some n=>Xa md d (n,c.1,c.2.1)++Xa md d (n,c.2.2,c.1)
def YV (n p:Nat):List Nat:=List.replicate n p
section
section
variable {N:Nat} {es:List E4} {T:T3}
end
end
section
section
variable {m:MQ} {ts:List T3} {a b N:Nat}
theorem Hf {s:T3}:∀j,s∈Id m ts a j↔s.1=a/\a<s.2.1/\s.2.1<a+1+j/\G_ ts s.1 s.2.1 ts.length=1/\s=VS m s.1 s.2.1
  | 0=>⟨λh=>(by cases h),λh=>Z⟩
  | j+1=>by
    show s∈Id m ts a j++(if _ then _ else _)↔_
    rw [List.mem_append,Hf j]
    constructor
    · rintro (h|h)
      · exact ⟨h.1,h.2.1,Z,h.2.2.2⟩
      · split at h
        · rename_i hc
          rw [List.mem_singleton] at h
          subst h
          exact ⟨rfl,(by show a<a+1+j;omega),(by show a+1+j<a+1+(j+1);omega),hc,rfl⟩
        · cases h
    · rintro ⟨h1,h2,h3,h4,h5⟩
      rcases Nat.lt_or_ge s.2.1 (a+1+j) with h6|h6
      · exact .inl ⟨h1,h2,h6,h4,h5⟩
      · have e:s.2.1=a+1+j:=by omega
        rw [h1,e] at h4 h5
        rw [if_pos h4]
        exact .inr (List.mem_singleton.2 h5)
theorem FX {s:T3}:∀A,s∈EX m ts N A↔s.1<A/\s.1<s.2.1/\s.2.1<N/\G_ ts s.1 s.2.1 ts.length=1/\s=VS m s.1 s.2.1
  | 0=>⟨λh=>(by cases h),λh=>Z⟩
  | A+1=>by
    show s∈EX m ts N A++Id m ts A (N-(A+1))↔_
    rw [List.mem_append,FX A,Hf]
    constructor
    · rintro (h|h)
      · exact ⟨Z,h.2⟩
      · exact ⟨Z,Z,Z,h.2.2.2⟩
    · rintro ⟨h1,h2,h3,h4⟩
      rcases Nat.lt_or_ge s.1 A with h5|h5
      · exact .inl ⟨h5,h2,h3,h4⟩
      · exact .inr ⟨Z,Z,Z,h4⟩
theorem GI:∀j,(Id m ts a j).Pairwise Tl
  | 0=>List.Pairwise.nil
  | j+1=>by
    show (Id m ts a j++(if _ then _ else _)).Pairwise Tl
    split
    · refine List.pairwise_append.2 ⟨GI j,List.pairwise_singleton _ _,λx hx y hy=>?_⟩
      rw [List.mem_singleton] at hy
      subst hy
      have h:=(Hf j).1 hx
      exact .inr ⟨h.1,(by show x.2.1<a+1+j;exact h.2.2.1)⟩
    · rw [List.append_nil];exact GI j
theorem Gm:∀A,(EX m ts N A).Pairwise Tl
  | 0=>List.Pairwise.nil
  | A+1=>List.pairwise_append.2 ⟨Gm A,GI _,λx hx y hy=>.inl (by
      have h1:=(FX A).1 hx
      have h2:=(Hf _).1 hy
      omega)⟩
theorem Lo {x y:Nat} (hab:a<b) (hxy:x≠y):B9 x y=(a,b)↔(x=a/\y=b)\/(x=b/\y=a):=by
  unfold B9
  rw [Prod.mk.injEq]
  omega
theorem Tn {t:T3} (hab:a<b) (h:t.1≠t.2.1/\t.2.1≠t.2.2/\t.2.2≠t.1):[B9 t.1 t.2.1,B9 t.2.1 t.2.2,B9 t.2.2 t.1].count (a,b)=if Fs t a=true/\Fs t b=true then 1 else 0:=by
  obtain ⟨h1,h2,h3⟩:=h
  simp only [List.count_cons,List.count_nil,beq_iff_eq,Lo hab h1,Lo hab h2,Lo hab h3,Fs,Bool.or_eq_true,decide_eq_true_eq]
  split<;>split<;>split<;>split<;>omega
theorem PK (hn:Bn N ts=true) (hab:a<b):∀i,i<=ts.length->G_ ts a b i=((ts.take i).flatMap λt=>[B9 t.1 t.2.1,B9 t.2.1 t.2.2,B9 t.2.2 t.1]).count (a,b)
  | 0,_=>rfl
  | i+1,hi=>by
    rw [Kq Z,List.flatMap_append,List.count_append,<-PK hn hab i Z]
    have h:=Nc (Cp hn (show i<ts.length by omega))
    have e:=Tn hab h
    show G_ ts a b i+(if _ then 1 else 0)=_
    rw [<-e]
    simp [List.flatMap]
theorem M4 (hn:Bn N ts=true) (hab:a<b):G_ ts a b ts.length=(FF ts).count (a,b):=by
  rw [PK hn hab _ (Nat.le_refl _),List.take_length];rfl
theorem Rq (hn:Bn N ts=true) (hN:N<=4611686018427387904) (h:(a,b)∈FF ts):a<b/\b<N:=by
  obtain ⟨e,he,rfl,rfl⟩:=(Md hn hN).1 h
  exact LE hn hN he
theorem Qb (hn:Bn N ts=true) (hN:N<=4611686018427387904):EX m ts N N=(Eu ts).map λs=>VS m s.1 s.2.1:=by
  refine Fa Tl.asymm (Gm N) ?_ λs=>?_
  · exact List.pairwise_map.2 ((F2 hn hN).imp λ{x y} h=>h)
  · rw [FX,List.mem_map]
    constructor
    · rintro ⟨h1,h2,h3,h4,h5⟩
      refine ⟨(s.1,s.2.1,0),(HS hn hN).2 ⟨?_,rfl⟩,h5.symm⟩
      rw [<-M4 hn h2];exact h4
    · rintro ⟨r,hr,rfl⟩
      have h:=(HS hn hN).1 hr
      have hk:=Rq hn hN (List.count_pos_iff.1 (by rw [h.1];decide))
      exact ⟨by show r.1<N;omega,hk.1,hk.2,by show G_ ts r.1 r.2.1 ts.length=1;rw [M4 hn hk.1];exact h.1,rfl⟩
end
end
section
def YE (md:List (P2×Nat)) (ts:List T3):List T3:=ts.flatMap (Xa md 2)
def YK (md:List (P2×Nat)) (ts:List T3):Nat->List Nat
  | 0=>[]
  | i+1=>YK md ts i++YV (Xa md 2 (ts.getD i (0,0,0))).length i
section
variable {md:List (P2×Nat)} {ts ss:List T3} {i N:Nat} {es:List E4}
end
structure YT (ps:List Pt) (ts ss:List T3) (ms:List Int) where
  l:List E4
  p:E4->Bool
  el:l=(edL ts).filter p
  all:∀e,p e=true↔MW ts (VR ts ms) (e.a,e.b)
  x:Xj (X4 ps l) (YE (UG ps.length l l.length) ts) (Xu ps.length ss l (YE (UG ps.length l l.length) ts)) (YK (UG ps.length l l.length) ts ts.length) 0
instance {ps:List Pt} {ts ss:List T3} {ms:List Int}:D8 (YT ps ts ss ms):=⟨λb=>D8.val b.x,λb=>D8.rows b.x,λb y hy=>D8.ro b.x y hy⟩
section
variable {ts ss:List T3} {N:Nat} {es:List E4} {ms:List Int}
structure WP (ts:List T3) (ms:List Int) (l:List E4):Prop where
  ex:∃p:E4->Bool,l=(edL ts).filter p/\∀e,p e=true↔MW ts (VR ts ms) (e.a,e.b)
theorem DX.cut (u:DX ts ms):WP ts ms u.l:=⟨u.p,u.el,u.all⟩
theorem WP.mem {l:List E4} (h:WP ts ms l) {e:E4}:e∈l↔e∈edL ts/\MW ts (VR ts ms) (e.a,e.b):=by
  obtain ⟨p,h1,h2⟩:=h.ex
  rw [h1,List.mem_filter,h2]
end
section
variable {P:Program} {ops:Array Oper} {rest:List Oper} {Q:Exit->Act->World->Prop} {n d:Nat} {F:List (Nat×Value)} {w0:BK} {S:Nat->Prop} {L:List As} {t:TypeId} {p:String} {af:Array Edge} {y:Operand} {f:FuncId} {xs:List Operand} {args:List Value} {tys:Array TypeId} {ps:List Pt} {ts ss:List T3} {ms:List Int}
end
theorem Vy (a b:E4):(((a.a:Int) == (b.a:Int))&&(((a.b:Int) == (b.b:Int))&&((a.l == b.l)&&((a.r == b.r)&&true))))=decide (a=b):=by
  obtain ⟨a1,a2,a3,a4⟩:=a
  obtain ⟨b1,b2,b3,b4⟩:=b
  rw [Bool.eq_iff_iff]
  simp
  constructor<;>(rintro ⟨h1,h2,h3,h4⟩;refine ⟨?_,?_,?_,?_⟩<;>omega)
theorem V0 (D:Nat) (a b:E4):E3 prog (D+2) 65 (.agg (B8 a).toArray) (.agg (B8 b).toArray) (decide (a=b)):=by
  rw [<-Vy]
  exact E3.struct underlying65 Tryz.stoodInHeld65 (Hn.one (by decide) isAgg3 O O (E3.int underlying3) (Hn.one (by decide) isAgg3 O O (E3.int underlying3) (Hn.one (by decide) isAgg3 O O (E3.int underlying3) (Hn.one (by decide) isAgg3 O O (E3.int underlying3) Hn.nil))))
theorem KI (D:Nat) {a b:E4} (h:a=b):E3 prog (D+2) 65 (.agg (B8 a).toArray) (.agg (B8 b).toArray) true:=by
  have:=V0 D a b;rwa [decide_eq_true h] at this
end
section
section
variable {md:List (P2×Nat)} {N M n a b c e p:Nat} {k κ:P2} {T:T3} {ts ts':List T3}
end
end
section
def bz (l:Nat):Int×Int×Int:=if l=0 then (2,0,0) else if l=1 then (0,2,0) else if l=2 then (0,0,2) else if l=3 then (1,1,0) else if l=4 then (0,1,1) else (1,0,1)
def D3 (i j k:Nat):Int:=(bz i).1*((bz j).2.1*(bz k).2.2-(bz j).2.2*(bz k).2.1)-(bz i).2.1*((bz j).1*(bz k).2.2-(bz j).2.2*(bz k).1)+(bz i).2.2*((bz j).1*(bz k).2.1-(bz j).2.1*(bz k).1)
def Xd (a b:Pt):Pt:=Gt (a+b) (1/2)
def LP (a b c:Pt) (l:Nat):Pt:=if l=0 then a else if l=1 then b else if l=2 then c else if l=3 then Xd a b else if l=4 then Xd b c else Xd c a
def Fo (fam:List T3) (l:Nat):Bool:=fam.any λL=>B_ L l
def UC (i j:Nat) (M:T3):Bool:=decide (D3 i j M.1<=0)&&decide (D3 i j M.2.1<=0)&&decide (D3 i j M.2.2<=0)
def P3 (L M:T3):Bool:=UC L.1 L.2.1 M||UC L.2.1 L.2.2 M||UC L.2.2 L.1 M
def VE (L:T3) (l:Nat):Bool:=decide (0<=D3 l L.2.1 L.2.2)&&decide (0<=D3 L.1 l L.2.2)&&decide (0<=D3 L.1 L.2.1 l)
structure SP (fam:List T3):Prop where
  lt:∀L∈fam,L.1<6/\L.2.1<6/\L.2.2<6
  pos:∀L∈fam,0<D3 L.1 L.2.1 L.2.2
  sep:fam.Pairwise λL M=>(P3 L M||P3 M L)=true
  cls:∀L∈fam,∀l,l<6->Fo fam l=true->VE L l=true->B_ L l=true
  cor:∀l,l<3->Fo fam l=true
instance (fam:List T3):Decidable (∀l,l<6->Fo fam l=true->∀L∈fam,VE L l=true->B_ L l=true):=inferInstance
theorem NJ {fam:List T3} (h:((fam.all λL=>decide (L.1<6)&&decide (L.2.1<6)&&decide (L.2.2<6)&&decide (0<D3 L.1 L.2.1 L.2.2)&&(List.range 6).all λl=>!Fo fam l||!VE L l||B_ L l)&&(List.range 3).all (Fo fam))=true) (hs:fam.Pairwise λL M=>(P3 L M||P3 M L)=true):SP fam:=by
  rw [Bool.and_eq_true] at h
  have h1:=List.all_eq_true.1 h.1
  simp only [Bool.and_eq_true,decide_eq_true_eq] at h1
  refine ⟨λL hL=>?_,λL hL=>?_,hs,λL hL l hl hu hc=>?_,λl hl=>?_⟩
  · have:=h1 L hL;exact ⟨this.1.1.1.1,this.1.1.1.2,this.1.1.2⟩
  · exact (h1 L hL).1.2
  · have:=List.all_eq_true.1 (h1 L hL).2 l (List.mem_range.2 hl)
    rw [hu,hc] at this
    simpa using this
  · exact List.all_eq_true.1 h.2 l (List.mem_range.2 hl)
section
variable {a b c q:Pt} {l i j k:Nat}
theorem PT (hl:l<6):(LP a b c l).x*2=((bz l).1:Rat)*a.x+((bz l).2.1:Rat)*b.x+((bz l).2.2:Rat)*c.x/\(LP a b c l).y*2=((bz l).1:Rat)*a.y+((bz l).2.1:Rat)*b.y+((bz l).2.2:Rat)*c.y/\((bz l).1:Rat)+((bz l).2.1:Rat)+((bz l).2.2:Rat)=2:=by
  have e:l=0\/l=1\/l=2\/l=3\/l=4\/l=5:=by omega
  rcases e with rfl|rfl|rfl|rfl|rfl|rfl<;>simp [LP,bz,Xd,Ol,O5,VV,VW]<;>refine ⟨?_,?_,?_⟩<;>grind
theorem VL {P Q R:Pt} {p1 p2 p3 q1 q2 q3 r1 r2 r3:Rat} (hx:P.x*2=p1*a.x+p2*b.x+p3*c.x) (hy:P.y*2=p1*a.y+p2*b.y+p3*c.y) (hp:p1+p2+p3=2)
    (kx:Q.x*2=q1*a.x+q2*b.x+q3*c.x) (ky:Q.y*2=q1*a.y+q2*b.y+q3*c.y) (kq:q1+q2+q3=2) (mx:R.x*2=r1*a.x+r2*b.x+r3*c.x) (my:R.y*2=r1*a.y+r2*b.y+r3*c.y) (mr:r1+r2+r3=2) :
    AO P Q R*8=(p1*(q2*r3-q3*r2)-p2*(q1*r3-q3*r1)+p3*(q1*r2-q2*r1))*AO a b c:=by
  have e1:p3=2-p1-p2:=by grind
  have e2:q3=2-q1-q2:=by grind
  have e3:r3=2-r1-r2:=by grind
  subst e1;subst e2;subst e3
  have ux:(Q.x-P.x)*2=(q1-p1)*(a.x-c.x)+(q2-p2)*(b.x-c.x):=by grind
  have uy:(Q.y-P.y)*2=(q1-p1)*(a.y-c.y)+(q2-p2)*(b.y-c.y):=by grind
  have vx:(R.x-P.x)*2=(r1-p1)*(a.x-c.x)+(r2-p2)*(b.x-c.x):=by grind
  have vy:(R.y-P.y)*2=(r1-p1)*(a.y-c.y)+(r2-p2)*(b.y-c.y):=by grind
  have e:AO P Q R*4=((Q.x-P.x)*2)*((R.y-P.y)*2)-((Q.y-P.y)*2)*((R.x-P.x)*2):=by simp only [B5];grind
  have e':AO P Q R*4=((q1-p1)*(r2-p2)-(q2-p2)*(r1-p1))*AO a b c:=by
    rw [e,ux,uy,vx,vy]
    simp only [B5]
    generalize q1-p1=s1
    generalize q2-p2=s2
    generalize r1-p1=s3
    generalize r2-p2=s4
    grind
  have e4:p1*(q2*(2-r1-r2)-(2-q1-q2)*r2)-p2*(q1*(2-r1-r2)-(2-q1-q2)*r1)+(2-p1-p2)*(q1*r2-q2*r1)=((q1-p1)*(r2-p2)-(q2-p2)*(r1-p1))*2:=by grind
  rw [e4]
  have:AO P Q R*8=AO P Q R*4*2:=by grind
  rw [this,e']
  grind
theorem FC (hi:i<6) (hj:j<6) (hk:k<6):AO (LP a b c i) (LP a b c j) (LP a b c k)*8=((D3 i j k:Int):Rat)*AO a b c:=by
  obtain ⟨x1,y1,s1⟩:=PT (a:=a) (b:=b) (c:=c) hi
  obtain ⟨x2,y2,s2⟩:=PT (a:=a) (b:=b) (c:=c) hj
  obtain ⟨x3,y3,s3⟩:=PT (a:=a) (b:=b) (c:=c) hk
  rw [VL x1 y1 s1 x2 y2 s2 x3 y3 s3]
  congr 1
  unfold D3
  simp only [Rat.intCast_add,Rat.intCast_sub,Rat.intCast_mul]
theorem N3 (hT:0<AO a b c) (hi:i<6) (hj:j<6) (hk:k<6) (h:0<=AO (LP a b c i) (LP a b c j) (LP a b c k)):0<=D3 i j k:=by
  have e:=FC (a:=a) (b:=b) (c:=c) hi hj hk
  have h1:0<=AO a b c*((D3 i j k:Int):Rat):=by rw [Rat.mul_comm,<-e];grind
  have h2:=Gp hT h1
  exact_mod_cast h2
theorem Ge (hT:0<AO a b c) (hi:i<6) (hj:j<6) (hk:k<6) (h:0<=D3 i j k):0<=AO (LP a b c i) (LP a b c j) (LP a b c k):=by
  have e:=FC (a:=a) (b:=b) (c:=c) hi hj hk
  have h1:(0:Rat)<=((D3 i j k:Int):Rat):=by exact_mod_cast h
  have h2:=Rat.mul_nonneg h1 (Rat.le_of_lt hT)
  grind
theorem FW (hT:0<AO a b c) (hi:i<6) (hj:j<6) (hk:k<6) (h:D3 i j k<=0):AO (LP a b c i) (LP a b c j) (LP a b c k)<=0:=by
  have e:=FC (a:=a) (b:=b) (c:=c) hi hj hk
  have h1:(0:Rat) <= -((D3 i j k:Int):Rat):=by
    have:((D3 i j k:Int):Rat)<=0:=by exact_mod_cast h
    grind
  have h2:=Rat.mul_nonneg h1 (Rat.le_of_lt hT)
  grind
theorem UM (hT:0<AO a b c) (hi:i<6) (hj:j<6) (hk:k<6) (h:0<D3 i j k):0<AO (LP a b c i) (LP a b c j) (LP a b c k):=by
  have e:=FC (a:=a) (b:=b) (c:=c) hi hj hk
  have h1:(0:Rat)<((D3 i j k:Int):Rat):=by exact_mod_cast h
  have h2:=Rat.mul_pos h1 hT
  grind
theorem Oz (hT:0<AO a b c) (hi:i<6) (hj:j<6) (h:LP a b c i=LP a b c j):i=j:=by
  have key:∀u v:Nat,u<6->v<6->D3 i u v=D3 j u v:=λu v hu hv=>by
    have e1:=FC (a:=a) (b:=b) (c:=c) hi hu hv
    have e2:=FC (a:=a) (b:=b) (c:=c) hj hu hv
    rw [h,e2] at e1
    have h1:(((D3 i u v:Int):Rat)-((D3 j u v:Int):Rat))*AO a b c=0:=by grind
    rcases Rat.mul_eq_zero.1 h1 with h2|h2
    · have h3:((D3 i u v:Int):Rat)=((D3 j u v:Int):Rat):=by grind
      exact_mod_cast h3
    · rw [h2] at hT;exact absurd hT Rat.lt_irrefl
  have k1:=key 1 2 (by decide) (by decide)
  have k2:=key 2 0 (by decide) (by decide)
  have k3:=key 0 1 (by decide) (by decide)
  have ei:i=0\/i=1\/i=2\/i=3\/i=4\/i=5:=by omega
  have ej:j=0\/j=1\/j=2\/j=3\/j=4\/j=5:=by omega
  rcases ei with rfl|rfl|rfl|rfl|rfl|rfl<;>rcases ej with rfl|rfl|rfl|rfl|rfl|rfl<;>first|rfl|(revert k1 k2 k3;decide)
theorem Xp (P Q R q u v:Pt):AO u v q*AO P Q R=AO q Q R*AO u v P+AO P q R*AO u v Q+AO P Q q*AO u v R:=by simp only [B5];grind
theorem Uj {P Q R u v:Pt} (hT:0<AO P Q R) (h1:0<=AO q Q R) (h2:0<=AO P q R) (h3:0<=AO P Q q) (k1:0<=AO u v P) (k2:0<=AO u v Q) (k3:0<=AO u v R):0<=AO u v q:=by
  have e:=Xp P Q R q u v
  have m1:=Rat.mul_nonneg h1 k1
  have m2:=Rat.mul_nonneg h2 k2
  have m3:=Rat.mul_nonneg h3 k3
  exact G8 hT (by rw [e];grind)
end
theorem Lb {u a b c:Pt} {k:Rat} {l:Nat} (hl:l<6) (h1:k<=dt u a) (h2:k<=dt u b) (h3:k<=dt u c):k<=dt u (LP a b c l):=by
  obtain ⟨x1,y1,s1⟩:=PT (a:=a) (b:=b) (c:=c) hl
  have e:dt u (LP a b c l)*2=((bz l).1:Rat)*dt u a+((bz l).2.1:Rat)*dt u b+((bz l).2.2:Rat)*dt u c:=by
    have e0:dt u (LP a b c l)*2=u.x*((LP a b c l).y*2)-u.y*((LP a b c l).x*2):=by unfold dt;grind
    rw [e0,x1,y1];unfold dt;grind
  have z:(0:Rat)<=((bz l).1:Rat)/\(0:Rat)<=((bz l).2.1:Rat)/\(0:Rat)<=((bz l).2.2:Rat):=by
    have e:l=0\/l=1\/l=2\/l=3\/l=4\/l=5:=by omega
    rcases e with rfl|rfl|rfl|rfl|rfl|rfl<;>exact ⟨by decide,by decide,by decide⟩
  have m1:=Rat.mul_nonneg z.1 (show 0<=dt u a-k by grind)
  have m2:=Rat.mul_nonneg z.2.1 (show 0<=dt u b-k by grind)
  have m3:=Rat.mul_nonneg z.2.2 (show 0<=dt u c-k by grind)
  have s2:((bz l).1:Rat)*k+((bz l).2.1:Rat)*k+((bz l).2.2:Rat)*k=2*k:=by rw [<-s1];grind
  generalize ((bz l).1:Rat)=p1 at *
  generalize ((bz l).2.1:Rat)=p2 at *
  generalize ((bz l).2.2:Rat)=p3 at *
  clear x1 y1 z s1
  grind
theorem L7 {u a b c:Pt} {k:Rat} {l:Nat} (hl:l<6) (h1:dt u a<=k) (h2:dt u b<=k) (h3:dt u c<=k):dt u (LP a b c l)<=k:=by
  have ng:∀a,dt ⟨-u.x,-u.y⟩ a = -dt u a:=λa=>by unfold dt;grind
  have h:=Lb (u:=⟨-u.x,-u.y⟩) (k := -k) (a:=a) (b:=b) (c:=c) hl (by rw [ng];grind) (by rw [ng];grind) (by rw [ng];grind)
  rw [ng] at h
  grind
end
end Go.Proofs.YtfbomiejpbchdaaGreatDoor
