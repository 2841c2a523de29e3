import Derived.Test.YtpolhpjiahbidaaGreatDoorPart22
import Derived.Test.YtpolhpjiahbidaaGreatDoorPart24
import Derived.Test.YtpolhpjiahbidaaGreatDoorPart25
import Derived.Test.YtpolhpjiahbidaaGreatDoorPart32
import Derived.Test.YtpolhpjiahbidaaGreatDoorPart33
namespace Go.Proofs.YtpolhpjiahbidaaGreatDoor
open Go Go.RowKit Go.Proofs.Tryz
set_option linter.unusedVariables false
set_option linter.unusedSimpArgs false
section
abbrev EZ:=Int×Int×Int×Int
def Gl:EZ:=(0,0,0,0)
def C5 (e:EZ):List Value:=[vI e.1,vI e.2.1,vI e.2.2.1,vI e.2.2.2]
theorem FA (e:EZ):(C5 e).length=4:=rfl
abbrev KI:=List (P2×Int)
def Zf (a b:Int):P2:=Bw a.toNat b.toNat
def El (N:Nat) (ss:List Z3):Nat->KI
  | 0=>[]
  | k+1=>if Ar N (ss.getD (ss.length-1-k) (0,0,0)).1=true/\Ar N (ss.getD (ss.length-1-k) (0,0,0)).2.1=true then BN (El N ss k) (Zf (ss.getD (ss.length-1-k) (0,0,0)).1 (ss.getD (ss.length-1-k) (0,0,0)).2.1) (ss.getD (ss.length-1-k) (0,0,0)).2.2 else El N ss k
def Gs (m:KI) (a b:Nat):Int:=(A7 m (Bw a b)).getD 0
def Vl (N:Nat) (st:KI×Nat) (v:P2):KI×Nat:=(BN (BN st.1 (Bw v.1 (N+st.2)) (Gs st.1 v.1 v.2)) (Bw v.2 (N+st.2)) (Gs st.1 v.1 v.2),st.2+1)
def Ci (N:Nat) (ss:List Z3) (vs:List P2):KI:=(vs.foldl (Vl N) (El N ss ss.length,0)).1
def GY (N:Nat) (e:EZ):Bool:=Ar N e.1&&Ar N e.2.1
def Rc (e:EZ):P2:=(e.1.toNat,e.2.1.toNat)
def EJ (N:Nat) (es:List EZ) (i:Nat):List P2:=((es.take i).filter (GY N)).map Rc
def Ik (ps:List Pt) (v:P2):Pt:=Bd (ps.getD v.1 ⟨0,0⟩+ps.getD v.2 ⟨0,0⟩) (1/2)
def Ke (ps:List Pt) (vs:List P2):List Pt:=vs.foldl (λl v=>l++[Ik ps v]) ps
theorem Jk (ps:List Pt) (vs:List P2):Ke ps vs=ps++vs.map (Ik ps):=by
  have key:∀(vs:List P2) (l:List Pt),vs.foldl (λl v=>l++[Ik ps v]) l=l++vs.map (Ik ps):=λvs=>by
    induction vs with
    | nil=>intro l;rw [List.map_nil,List.append_nil];rfl
    | cons v r ih=>intro l;rw [List.foldl_cons,ih,List.map_cons,List.append_assoc];rfl
  exact key vs ps
def CQ (s:Tq3):Z3:=((s.1:Int),(s.2.1:Int),(s.2.2:Int))
def BB (n:Nat) (us:List Z3):List T3:=if DL n us=true then Bl (us.map Db) else []
def F4 (m:KI) (rs:List T3) (i:Nat):List Z3:=((rs.take i).map λs=>((s.1:Int),(s.2.1:Int),Gs m s.1 s.2.1))++(rs.drop i).map CQ
def DD (N:Nat) (a b:Int):List Z3->Int
  | []=>0
  | s::r=>if Ar N a=true/\Ar N b=true/\(s.1=a/\s.2.1=b\/s.1=b/\s.2.1=a) then s.2.2 else DD N a b r
def DG (N:Nat) (ss:List Z3) (vs:List P2) (a b:Nat):Int:=if N<=b/\b-N<vs.length/\((vs.getD (b-N) (0,0)).1=a\/(vs.getD (b-N) (0,0)).2=a) then DD N (vs.getD (b-N) (0,0)).1 (vs.getD (b-N) (0,0)).2 ss else DD N a b ss
section
variable {N:Nat} {ss:List Z3} {vs:List P2} {v:P2} {es:List EZ} {i j k a b:Nat} {m:KI} {rs:List T3} {ps:List Pt}
theorem DY (rs:List T3):rowsL Ad rs=rowsL Ac (rs.map CQ):=by unfold rowsL;rw [List.flatMap_map];rfl
theorem Fh:Ar N (a:Int)=true↔a<N:=by unfold Ar;simp
theorem Bp {p:Int} (h:Ar N p=true):((p.toNat:Nat):Int)=p/\p.toNat<N:=by
  unfold Ar at h
  simp only [Bool.and_eq_true,decide_eq_true_eq] at h
  omega
theorem NZ {p:Int} (h:Ar N p=true):vN p.toNat=vI p:=congrArg vI (Bp h).1
theorem Y9 (st:KI×Nat):∀vs:List P2,(vs.foldl (Vl N) st).2=st.2+vs.length:=λvs=>by
  induction vs generalizing st with
  | nil=>rfl
  | cons v r ih=>rw [List.foldl_cons,ih];show st.2+1+r.length=st.2+(r.length+1);omega
theorem K5:Ci N ss (vs++[v])=BN (BN (Ci N ss vs) (Bw v.1 (N+vs.length)) (Gs (Ci N ss vs) v.1 v.2)) (Bw v.2 (N+vs.length)) (Gs (Ci N ss vs) v.1 v.2):=by
  unfold Ci
  rw [List.foldl_append,List.foldl_cons,List.foldl_nil]
  have key:∀st:KI×Nat,(Vl N st v).1=BN (BN st.1 (Bw v.1 (N+st.2)) (Gs st.1 v.1 v.2)) (Bw v.2 (N+st.2)) (Gs st.1 v.1 v.2):=λ_=>rfl
  rw [key,Y9,Nat.zero_add]
theorem Po (hi:i<es.length) (h:GY N (es.getD i Gl)=true):EJ N es (i+1)=EJ N es i++[Rc (es.getD i Gl)]:=by
  unfold EJ
  rw [Bf (d:=Gl) hi,List.filter_append,List.map_append,List.filter_cons,if_pos h];rfl
theorem UL (hi:i<es.length) (h:GY N (es.getD i Gl)=false):EJ N es (i+1)=EJ N es i:=by
  unfold EJ
  rw [Bf (d:=Gl) hi,List.filter_append,List.map_append,List.filter_cons,if_neg (by rw [h];exact Bool.false_ne_true)];simp
theorem QY:(EJ N es i).length<=i:=by
  unfold EJ
  rw [List.length_map]
  exact Nat.le_trans (List.length_filter_le _ _) (List.length_take_le _ _)
theorem PY (hv:v∈EJ N es i):v.1<N/\v.2<N:=by
  obtain ⟨e,he,rfl⟩:=List.mem_map.1 hv
  have h:=(List.mem_filter.1 he).2
  unfold GY at h
  rw [Bool.and_eq_true] at h
  exact ⟨(Bp h.1).2,(Bp h.2).2⟩
theorem Gj:(Ke ps vs).length=ps.length+vs.length:=by rw [Jk,List.length_append,List.length_map]
theorem NP:Ke ps vs++[Ik ps v]=Ke ps (vs++[v]):=by rw [Jk,Jk,List.map_append,List.append_assoc];rfl
theorem V9 (h:i<ps.length):(Ke ps vs).getD i ⟨0,0⟩=ps.getD i ⟨0,0⟩:=by
  rw [Jk,List.getD,List.getElem?_append_left h];rfl
theorem RB (a b:Nat):Bw a b=Bw b a:=by unfold Bw;exact Prod.ext (Nat.min_comm a b) (Nat.max_comm a b)
theorem I8 (hN:N<=4611686018427387904):∀k,Hi Ml (El N ss k)
  | 0=>Hi.nil
  | k+1=>by
    unfold El
    split
    · rename_i h
      exact (I8 hN k).put (BQ (Nat.lt_of_lt_of_le (Bp h.1).2 hN) (Nat.lt_of_lt_of_le (Bp h.2).2 hN))
    · exact I8 hN k
theorem JI (hv:∀v∈vs,v.1<N/\v.2<N) (hN:N+vs.length<=4611686018427387904):Hi Ml (Ci N ss vs):=by
  have key:∀(vs:List P2) (st:KI×Nat),Hi Ml st.1->(∀v∈vs,v.1<N/\v.2<N)->N+st.2+vs.length<=4611686018427387904->Hi Ml (vs.foldl (Vl N) st).1:=λvs=>by
    induction vs with
    | nil=>intro st h _ _;exact h
    | cons v r ih =>
      intro st h h1 h2
      rw [List.length_cons] at h2
      have:=h1 v List.mem_cons_self
      rw [List.foldl_cons]
      exact ih _ ((h.put (BQ Z Z)).put (BQ Z Z)) (λx hx=>h1 x (List.mem_cons_of_mem _ hx)) (by show N+(st.2+1)+r.length<=_;omega)
  exact key vs _ (I8 Z _) hv Z
theorem Tz (h:Ar N (ss.getD (ss.length-1-k) (0,0,0)).1=true/\Ar N (ss.getD (ss.length-1-k) (0,0,0)).2.1=true):BN (El N ss k) (Zf (ss.getD (ss.length-1-k) (0,0,0)).1 (ss.getD (ss.length-1-k) (0,0,0)).2.1) (ss.getD (ss.length-1-k) (0,0,0)).2.2=El N ss (k+1):=(if_pos h).symm
theorem VY (h:¬(Ar N (ss.getD (ss.length-1-k) (0,0,0)).1=true/\Ar N (ss.getD (ss.length-1-k) (0,0,0)).2.1=true)):El N ss k=El N ss (k+1):=(if_neg h).symm
theorem U7 {x y a b:Nat}:Bw x y=Bw a b↔(x=a/\y=b\/x=b/\y=a):=by
  unfold Bw
  constructor
  · intro h
    have h1:min x y=min a b:=congrArg Prod.fst h
    have h2:max x y=max a b:=congrArg Prod.snd h
    omega
  · rintro (⟨rfl,rfl⟩|⟨rfl,rfl⟩)
    · rfl
    · exact Prod.ext (Nat.min_comm _ _) (Nat.max_comm _ _)
theorem Lb (a b:Int):∀l,DD N a b l=DD N b a l
  | []=>rfl
  | s::r=>by
    unfold DD
    rw [Lb a b r]
    by_cases h:Ar N a=true/\Ar N b=true/\(s.1=a/\s.2.1=b\/s.1=b/\s.2.1=a)
    · rw [if_pos h,if_pos ⟨h.2.1,h.1,h.2.2.symm⟩]
    · rw [if_neg h,if_neg λh2=>h ⟨h2.2.1,h2.1,h2.2.2.symm⟩]
theorem ON {a b:Int} (h:¬(Ar N a=true/\Ar N b=true)):∀l,DD N a b l=0
  | []=>rfl
  | s::r=>by
    unfold DD
    rw [if_neg λh2=>h ⟨h2.1,h2.2.1⟩,ON h r]
theorem Nh (ha:a<N) (hb:b<N):∀k,k<=ss.length->(A7 (El N ss k) (Bw a b)).getD 0=DD N a b (ss.drop (ss.length-k))
  | 0,_=>by rw [Nat.sub_zero,List.drop_length];rfl
  | k+1,hk=>by
    have ih:=Nh ha hb k Z
    have hj:ss.length-(k+1)<ss.length:=by omega
    rw [D8 (d:=(0,0,0)) hj,show ss.length-(k+1)+1=ss.length-k by omega]
    unfold El DD
    rw [show ss.length-1-k=ss.length-(k+1) by omega]
    generalize ss.getD (ss.length-(k+1)) (0,0,0)=s
    by_cases hs:Ar N s.1=true/\Ar N s.2.1=true
    · rw [if_pos hs,C1]
      obtain ⟨e1,l1⟩:=Bp hs.1
      obtain ⟨e2,l2⟩:=Bp hs.2
      by_cases hq:Bw a b=Zf s.1 s.2.1
      · rw [if_pos hq]
        have h:=U7.1 hq
        rw [if_pos ⟨Fh.2 ha,Fh.2 hb,Z⟩];rfl
      · rw [if_neg hq,if_neg,ih]
        rintro ⟨_,_,h⟩
        exact hq (U7.2 Z)
    · rw [if_neg hs,if_neg,ih]
      rintro ⟨_,_,h⟩
      refine hs ?_
      rcases h with ⟨h1,h2⟩|⟨h1,h2⟩
      · rw [h1,h2];exact ⟨Fh.2 ha,Fh.2 hb⟩
      · rw [h1,h2];exact ⟨Fh.2 hb,Fh.2 ha⟩
theorem JS {k:P2} (h:N<=k.2):∀n,A7 (El N ss n) k=none
  | 0=>rfl
  | n+1=>by
    unfold El
    split
    · rename_i hs
      rw [C1,if_neg,JS h n]
      intro e
      have h1:=(Bp hs.1).2
      have h2:=(Bp hs.2).2
      rw [e] at h
      unfold Zf Bw at h
      simp only at h
      omega
    · exact JS h n
theorem S5:∀(n:Nat) (vs:List P2),vs.length=n->(∀v∈vs,v.1<N/\v.2<N)->∀a b,a<=b->Gs (Ci N ss vs) a b=DG N ss vs a b
  | 0,vs,hl,_,a,b,hab=>by
    have e:vs=[]:=List.eq_nil_of_length_eq_zero hl
    subst e
    unfold DG
    rw [if_neg λh=>absurd h.2.1 (Nat.not_lt_zero _)]
    show (A7 (El N ss ss.length) (Bw a b)).getD 0=_
    rcases Nat.lt_or_ge b N with h|h
    · rw [Nh Z h _ (Nat.le_refl _),Nat.sub_self,List.drop_zero]
    · rw [JS (by unfold Bw;simp only;omega),ON λh2=>absurd (Fh.1 h2.2) Z];rfl
  | n+1,vs,hl,hv,a,b,hab=>by
    obtain ⟨us,v,rfl⟩:∃us v,vs=us++[v]:=⟨vs.dropLast,vs.getLast (λe=>by rw [e] at hl;cases hl),(List.dropLast_concat_getLast _).symm⟩
    rw [List.length_append,List.length_singleton] at hl
    have hvv:=hv v (List.mem_append_right _ (List.mem_singleton.2 rfl))
    have ih:=S5 n us Z λx hx=>hv x (List.mem_append_left _ hx)
    have hmk:Gs (Ci N ss us) v.1 v.2=DD N v.1 v.2 ss:=by
      rcases Nat.le_total v.1 v.2 with h|h
      · rw [ih v.1 v.2 h];unfold DG;rw [if_neg Z]
      · have e:=ih v.2 v.1 h
        unfold DG at e
        rw [if_neg Z,Lb] at e
        rw [<-e];unfold Gs;rw [RB]
    have e1:Bw v.1 (N+us.length)=(v.1,N+us.length):=by unfold Bw;exact Prod.ext (by simp only;omega) (by simp only;omega)
    have e2:Bw v.2 (N+us.length)=(v.2,N+us.length):=by unfold Bw;exact Prod.ext (by simp only;omega) (by simp only;omega)
    have e3:Bw a b=(a,b):=by unfold Bw;exact Prod.ext (by simp only;omega) (by simp only;omega)
    have ih2:=ih a b hab
    rw [K5,hmk,e1,e2]
    unfold Gs at ih2 ⊢
    rw [e3] at ih2 ⊢
    rw [C1,C1]
    unfold DG at ih2 ⊢
    rw [List.length_append,List.length_singleton]
    by_cases hb:b=N+us.length
    · have hg:(us++[v]).getD (b-N) (0,0)=v:=by rw [show b-N=us.length by omega,List.getD,List.getElem?_append_right (Nat.le_refl _),Nat.sub_self];rfl
      rw [hg]
      by_cases h2:v.2=a
      · rw [if_pos (Prod.ext h2.symm hb),if_pos ⟨Z,Z,.inr h2⟩];rfl
      · rw [if_neg λe=>h2 (congrArg Prod.fst e).symm]
        by_cases h1:v.1=a
        · rw [if_pos (Prod.ext h1.symm hb),if_pos ⟨Z,Z,.inl h1⟩];rfl
        · rw [if_neg λe=>h1 (congrArg Prod.fst e).symm,if_neg λh=>by rcases h.2.2 with h|h;exact h1 h;exact h2 h,ih2,if_neg Z]
    · rw [if_neg λe=>hb (congrArg Prod.snd e),if_neg λe=>hb (congrArg Prod.snd e),ih2]
      by_cases h3:N<=b/\b-N<us.length
      · have hg:(us++[v]).getD (b-N) (0,0)=us.getD (b-N) (0,0):=by rw [List.getD,List.getElem?_append_left h3.2];rfl
        rw [hg]
        by_cases h4:(us.getD (b-N) (0,0)).1=a\/(us.getD (b-N) (0,0)).2=a
        · rw [if_pos ⟨h3.1,h3.2,h4⟩,if_pos ⟨h3.1,Z,h4⟩]
        · rw [if_neg λh=>h4 h.2.2,if_neg λh=>h4 h.2.2]
      · rw [if_neg λh=>h3 ⟨h.1,h.2.1⟩,if_neg λh=>h3 ⟨h.1,Z⟩]
theorem Sc:F4 m rs rs.length=rs.map λs=>((s.1:Int),(s.2.1:Int),Gs m s.1 s.2.1):=by unfold F4;simp
theorem Hu:(F4 m rs i).length=rs.length:=by unfold F4;simp;omega
theorem Nn (h:i<rs.length):(F4 m rs i).getD i (0,0,0)=CQ (rs.getD i (0,0,0)):=by
  unfold F4
  have hl:((rs.take i).map λs:T3=>((s.1:Int),(s.2.1:Int),Gs m s.1 s.2.1)).length=i:=by rw [List.length_map,List.length_take];omega
  rw [List.getD,List.getElem?_append_right (by rw [hl];exact Nat.le_refl _),hl,Nat.sub_self,List.getElem?_map,List.getElem?_drop,Nat.add_zero,List.getD,List.getElem?_eq_getElem h];rfl
theorem Qo {v:Int} (h:i<rs.length) (hv:v=Gs m (rs.getD i (0,0,0)).1 (rs.getD i (0,0,0)).2.1):(F4 m rs i).set i (((F4 m rs i).getD i (0,0,0)).1,((F4 m rs i).getD i (0,0,0)).2.1,v)=F4 m rs (i+1):=by
  rw [Nn h,hv]
  unfold F4
  have hl:((rs.take i).map λs:T3=>((s.1:Int),(s.2.1:Int),Gs m s.1 s.2.1)).length=i:=by rw [List.length_map,List.length_take];omega
  rw [List.set_append_right _ _ (by rw [hl];exact Nat.le_refl _),hl,Nat.sub_self,D8 (d:=(0,0,0)) h,List.map_cons,List.set_cons_zero,Bf (d:=(0,0,0)) h,List.map_append,List.append_assoc]
  rfl
end
def L8 (N:Nat) (ss:List Z3) (vs:List P2) (us:List Z3):List Z3:=(BB (N+vs.length) us).map λs=>((s.1:Int),(s.2.1:Int),Gs (Ci N ss vs) s.1 s.2.1)
theorem Px {n:Nat} {us:List Z3} {s:T3} (h:s∈BB n us) (hN:n<=4611686018427387904):s.1<n/\s.2.1<n:=by
  unfold BB at h
  split at h
  · rename_i e
    exact Qj (F8 e).1 hN h
  · cases h
theorem KB {n:Nat} {us:List Z3}:(BB n us).length<=3*us.length:=by
  unfold BB
  split
  · have h1:=J4 (ts:=us.map Db) (An (us.map Db)).length
    have h2:=Ga (ts:=us.map Db) (3*(us.map Db).length)
    rw [<-Gi] at h2
    have:=Nat.le_trans h1 h2
    rwa [List.length_map] at this
  · exact Nat.zero_le _
structure W5 (N M:Nat) (ss:List Z3) where
  cs:List Value
  es:List Value
  a:RX cs N
  b:RX es M
  c:RX (rowsL Ac ss) ss.length
def Mq {N M:Nat} {ss:List Z3} (x:W5 N M ss):List Value:=[x.a.val,x.b.val,x.c.val]
theorem Y0 {N M:Nat} {ss:List Z3} {x:W5 N M ss} {y:As} (hy:y∈[x.a.row,x.b.row,x.c.row]):y.ro=true:=by
  simp only [List.mem_cons,List.not_mem_nil,or_false] at hy
  rcases hy with rfl|rfl|rfl<;>rfl
instance {N M:Nat} {ss:List Z3}:Cc (W5 N M ss):=⟨λx=>aG (Mq x),λx=>[x.a.row,x.b.row,x.c.row],λx y hy=>Y0 hy⟩
section
variable {S:Nat->Prop} {w:World} {N M:Nat} {zs ss:List Z3} {ps:List Pt} {a b:Int} {i:Nat}
def W5.ru (x:W5 N M ss):RU N M ss.length:=⟨x.cs,x.es,rowsL Ac ss,x.a,x.b,x.c⟩
theorem ZA {x:W5 N M ss} (h:Ro S w x):Ro S w x.ru:=λy hy=>h y hy
def HO.rs' (x:HO ps zs ss):W5 x.rs.length zs.length ss:=⟨rowsL B0 x.rs,rowsL Ac zs,x.a,x.b,x.c⟩
theorem Xm {x:HO ps zs ss} (h:Ro S w x):Ro S w x.rs':=λy hy=>h y (List.mem_append_left _ hy)
theorem Ud (hi:i<ss.length) {s:Z3} (hs:s=ss.getD i (0,0,0)) (h:Ar N a=true/\Ar N b=true/\(s.1=a/\s.2.1=b\/s.1=b/\s.2.1=a)):DD N a b (ss.drop i)=s.2.2:=by
  rw [D8 (d:=(0,0,0)) hi,<-hs];exact if_pos h
theorem V1 (hi:i<ss.length) {s:Z3} (hs:s=ss.getD i (0,0,0)) (h:¬(Ar N a=true/\Ar N b=true/\(s.1=a/\s.2.1=b\/s.1=b/\s.2.1=a))):DD N a b (ss.drop i)=DD N a b (ss.drop (i+1)):=by
  rw [D8 (d:=(0,0,0)) hi,<-hs];exact if_neg h
end
def Yy (N:Nat) (ss:List Z3) (vs:List P2) (us:List Z3):List Z3:=(BB (N+vs.length) us).map λs=>((s.1:Int),(s.2.1:Int),DG N ss vs s.1 s.2.1)
theorem Vq {N:Nat} {ss us:List Z3} {vs:List P2} (hv:∀v∈vs,v.1<N/\v.2<N) (hN:N+vs.length<=4611686018427387904):Yy N ss vs us=L8 N ss vs us:=List.map_congr_left λs hs=>by
  have h:s.1<=s.2.1:=by
    unfold BB at hs
    split at hs
    · rename_i e
      rw [<-QT (F8 e).1 hN,HX] at hs
      omega
    · cases hs
  rw [S5 _ vs rfl hv _ _ h]
def Dr (f:Nat->Nat->Int) (rs:List T3) (i:Nat):List Z3:=((rs.take i).map λs=>((s.1:Int),(s.2.1:Int),f s.1 s.2.1))++(rs.drop i).map CQ
section
variable {f:Nat->Nat->Int} {rs:List T3} {i:Nat}
theorem Tu:Dr f rs rs.length=rs.map λs=>((s.1:Int),(s.2.1:Int),f s.1 s.2.1):=by unfold Dr;simp
theorem Eq:(Dr f rs i).length=rs.length:=by unfold Dr;simp;omega
theorem Jg (h:i<rs.length):(Dr f rs i).getD i (0,0,0)=CQ (rs.getD i (0,0,0)):=by
  unfold Dr
  have hl:((rs.take i).map λs:T3=>((s.1:Int),(s.2.1:Int),f s.1 s.2.1)).length=i:=by rw [List.length_map,List.length_take];omega
  rw [List.getD,List.getElem?_append_right (by rw [hl];exact Nat.le_refl _),hl,Nat.sub_self,List.getElem?_map,List.getElem?_drop,Nat.add_zero,List.getD,List.getElem?_eq_getElem h];rfl
theorem IA {v:Int} (h:i<rs.length) (hv:v=f (rs.getD i (0,0,0)).1 (rs.getD i (0,0,0)).2.1):(Dr f rs i).set i (((Dr f rs i).getD i (0,0,0)).1,((Dr f rs i).getD i (0,0,0)).2.1,v)=Dr f rs (i+1):=by
  rw [Jg h,hv]
  unfold Dr
  have hl:((rs.take i).map λs:T3=>((s.1:Int),(s.2.1:Int),f s.1 s.2.1)).length=i:=by rw [List.length_map,List.length_take];omega
  rw [List.set_append_right _ _ (by rw [hl];exact Nat.le_refl _),hl,Nat.sub_self,D8 (d:=(0,0,0)) h,List.map_cons,List.set_cons_zero,Bf (d:=(0,0,0)) h,List.map_append,List.append_assoc]
  rfl
end
def Bb (rs qs:List RP):List RP:=qs.foldl (λl q=>l++[q]) rs
def Cp (N:Nat) (es:List EZ) (i:Nat):List EZ:=(es.take i).filter (GY N)
section
variable {rs qs:List RP} {q:RP} {N i k:Nat} {es:List EZ}
theorem MO (rs qs:List RP):Bb rs qs=rs++qs:=by
  have key:∀(qs l:List RP),qs.foldl (λl q=>l++[q]) l=l++qs:=λqs=>by
    induction qs with
    | nil=>intro l;rw [List.append_nil];rfl
    | cons v r ih=>intro l;rw [List.foldl_cons,ih,List.append_assoc];rfl
  exact key qs rs
theorem Hz:Bb rs qs++[q]=Bb rs (qs++[q]):=by rw [MO,MO,List.append_assoc]
theorem QC:(Bb rs qs).length=rs.length+qs.length:=by rw [MO,List.length_append]
theorem Fg {y:As} (h:y∈Ca rs):y∈Ca (Bb rs qs):=by
  rw [MO]
  unfold Ca at h ⊢
  rw [List.flatMap_append]
  exact List.mem_append_left _ h
theorem MK (hi:i<es.length) (h:GY N (es.getD i Gl)=true):Cp N es (i+1)=Cp N es i++[es.getD i Gl]:=by
  unfold Cp
  rw [Bf (d:=Gl) hi,List.filter_append,List.filter_cons,if_pos h];rfl
theorem TV (hi:i<es.length) (h:GY N (es.getD i Gl)=false):Cp N es (i+1)=Cp N es i:=by
  unfold Cp
  rw [Bf (d:=Gl) hi,List.filter_append,List.filter_cons,if_neg (by rw [h];exact Bool.false_ne_true)];simp
theorem Wg:(Cp N es i).length<=i:=Nat.le_trans (List.length_filter_le _ _) (List.length_take_le _ _)
theorem Oz:(EJ N es i).length=(Cp N es i).length:=by unfold EJ;rw [List.length_map];rfl
theorem T7 (hk:k<(Cp N es i).length):(((((EJ N es i).getD k (0,0)).1:Nat):Int)=((Cp N es i).getD k Gl).1)/\(((((EJ N es i).getD k (0,0)).2:Nat):Int)=((Cp N es i).getD k Gl).2.1):=by
  have h1:(EJ N es i).getD k (0,0)=Rc ((Cp N es i).getD k Gl):=by
    unfold EJ
    show (((Cp N es i).map Rc)[k]?).getD (0,0)=_
    rw [List.getElem?_map,List.getElem?_eq_getElem hk,List.getD,List.getElem?_eq_getElem hk];rfl
  have h2:GY N ((Cp N es i).getD k Gl)=true:=by
    rw [List.getD,List.getElem?_eq_getElem hk]
    exact (List.mem_filter.1 (List.getElem_mem hk)).2
  unfold GY at h2
  rw [Bool.and_eq_true] at h2
  rw [h1]
  exact ⟨(Bp h2.1).1,(Bp h2.2).1⟩
theorem Uv {ss:List Z3} {a b n:Nat} {e:EZ} (hn:n=N) (hk:n<=b) (hl:b-n<(Cp N es i).length) (he:e=(Cp N es i).getD (b-n) Gl) (h:e.1=(a:Int)\/e.2.1=(a:Int)):DD N e.1 e.2.1 ss=DG N ss (EJ N es i) a b:=by
  subst hn
  obtain ⟨h1,h2⟩:=T7 (k:=b-n) hl
  rw [<-he] at h1 h2
  unfold DG
  rw [if_pos ⟨hk,by rw [Oz];exact hl,Z⟩,h1,h2]
theorem Vk {ss:List Z3} {a b n:Nat} {e:EZ} (hn:n=N) (hl:b-n<(Cp N es i).length) (he:e=(Cp N es i).getD (b-n) Gl) (h:¬(e.1=(a:Int)\/e.2.1=(a:Int))):DD N a b ss=DG N ss (EJ N es i) a b:=by
  subst hn
  obtain ⟨h1,h2⟩:=T7 (k:=b-n) hl
  rw [<-he] at h1 h2
  unfold DG
  rw [if_neg λk=>h Z]
theorem TY {ss:List Z3} {a b n:Nat} (hn:n=N) (h:¬(n<=b/\b-n<(Cp N es i).length)):DD N a b ss=DG N ss (EJ N es i) a b:=by
  subst hn
  unfold DG
  rw [if_neg λk=>h ⟨k.1,by rw [<-Oz];exact k.2.1⟩]
theorem DT.any {α:Type} {V:α->Value} {LW:α->List As} {S S':Nat->Prop} {W w:World} {e:Ending} (h:DT V LW S W e w) (hr:∀a,∀y∈LW a,y.ro=false):DT V LW S' W e w:=by
  obtain ⟨a,h1,h2,h3,h4⟩:=h
  refine ⟨a,h1,h2,λx hx b e=>?_,h4⟩
  obtain ⟨k1,k2⟩:=h3 x hx b e
  refine ⟨.inl ?_,k2⟩
  rcases k1 with k1|⟨k1,_⟩
  · exact k1
  · rw [hr a x hx] at k1;cases k1
theorem aH {S:Nat->Prop} {w:World} {N K:Nat} {zs:List Z3} {x:RQ N K zs} (ha:Ro S w x.a) (hb:Ro S w x.b) (hc:Ro S w x.c):Ro S w x:=λy hy=>by
  have hy:y∈[x.a.row,x.b.row,x.c.row]:=hy
  simp only [List.mem_cons,List.not_mem_nil,or_false] at hy
  rcases hy with rfl|rfl|rfl
  · exact ha _ List.mem_cons_self
  · exact hb _ List.mem_cons_self
  · exact hc _ List.mem_cons_self
theorem Xb {w:World} {cs:List Value}:Ro SA w (⟨none,0,OwnOk.none.row⟩:RX cs 0):=λy hy=>by
  rcases List.mem_singleton.1 hy with rfl
  exact ⟨λb e=>(by cases e),λ_ _=>trivial⟩
end
theorem XE {w0:A_} {S:Nat->Prop} {L:List As} {w:World} {ps:List Pt} {ts ss:List Z3} {x:HO ps ts ss} (hw:BD w0 w L) (i:Nat) (hi:(L.drop i).take 3=[x.a.row,x.b.row,x.c.row]) (hs:∀y∈Ca x.rs,y∈L) (ha:At w0 S x):Ro (SL w0 S L) w x:=λy hy=>by
  have hy':y∈[x.a.row,x.b.row,x.c.row]++Ca x.rs:=hy
  have hm:y∈L:=by
    rcases List.mem_append.1 hy' with hy|hy
    · exact List.mem_of_mem_drop (List.mem_of_mem_take (hi▸hy))
    · exact hs y hy
  exact ⟨λb e=>(hw.2.1 y hm b e).2,λb e=>⟨⟨y,hm,Cc.ro x y hy,e⟩,ha y hy b e⟩⟩
section
variable {N i:Nat} {es:List EZ}
end
end
section
section
variable {N:Nat} {ts:List T3} {zs ss:List Z3} {ps:List Pt}
theorem N4 (ts:List T3):(ts.map CQ).map Db=ts:=by
  rw [List.map_map]
  conv=>rhs;rw [<-List.map_id ts]
  exact List.map_congr_left λt _=>rfl
theorem Vg (t:T3):Lo N (CQ t)=La N t:=by
  obtain ⟨a,b,c⟩:=t
  unfold Lo La CQ Ar
  rw [Bool.eq_iff_iff]
  simp only [Bool.and_eq_true,Bool.not_eq_true',decide_eq_true_eq,decide_eq_false_iff_not]
  omega
theorem LT:DL N (ts.map CQ)=Bn N ts:=by
  unfold DL Bn
  rw [List.all_map]
  congr 1
  funext t
  exact Vg t
theorem RG {z:Z3} (h:Lo N z=true):CQ (Db z)=z:=by
  obtain ⟨a,b,c⟩:=z
  unfold Lo Ar at h
  simp only [Bool.and_eq_true,Bool.not_eq_true',decide_eq_true_eq,decide_eq_false_iff_not] at h
  obtain ⟨⟨⟨⟨⟨⟨h1,h2⟩,h3,h4⟩,h5,h6⟩,h7⟩,h8⟩,h9⟩:=h
  exact Prod.ext (Int.toNat_of_nonneg h1) (Prod.ext (Int.toNat_of_nonneg h3) (Int.toNat_of_nonneg h5))
theorem Nf (h:DL N zs=true):∃ts:List T3,zs=ts.map CQ/\Bn N ts=true:=by
  refine ⟨zs.map Db,?_,(F8 h).1⟩
  rw [List.map_map]
  conv=>lhs;rw [<-List.map_id zs]
  exact List.map_congr_left λz hz=>(RG (List.all_eq_true.1 h z hz)).symm
end
structure MN (ps:List Pt) (ts:List T3) (ss:List Z3) where
  a:RX (rowsL BC ps) ps.length
  b:RX (rowsL Ad ts) ts.length
  c:RX (rowsL Ac ss) ss.length
def Qg {ps:List Pt} {ts:List T3} {ss:List Z3} (x:MN ps ts ss):List Value:=[x.a.val,x.b.val,x.c.val]
theorem ZR {ps:List Pt} {ts:List T3} {ss:List Z3} {x:MN ps ts ss} {y:As} (hy:y∈[x.a.row,x.b.row,x.c.row]):y.ro=true:=by
  simp only [List.mem_cons,List.not_mem_nil,or_false] at hy
  rcases hy with rfl|rfl|rfl<;>rfl
instance {ps:List Pt} {ts:List T3} {ss:List Z3}:Cc (MN ps ts ss):=⟨λx=>aG (Qg x),λx=>[x.a.row,x.b.row,x.c.row],λx y hy=>ZR hy⟩
section
variable {N:Nat} {ts:List T3} {zs ss:List Z3} {ps:List Pt}
theorem ZK (x:MN ps ts ss):∃y:RM ps.length ts (List.replicate ss.length (0,0,0)),FE y=Qg x/\∀{S:Nat->Prop} {w:World},Ro S w x->Ro S w y:=by
  obtain ⟨a,b,⟨cp,cc,cok⟩⟩:=x
  have hk:ss.length=(List.replicate ss.length ((0,0,0):Tq3)).length:=(List.length_replicate).symm
  refine ⟨⟨rowsL BC ps,rowsL Ac ss,a,b,⟨cp,cc,hk▸cok⟩⟩,?_,λ{S w} hx y hy=>hx y hy⟩
  show [a.val,b.val,.slice cp (List.replicate ss.length ((0,0,0):Tq3)).length cc]=[a.val,b.val,.slice cp ss.length cc]
  rw [<-hk]
theorem W3 (x:MN ps ts ss):∃y:MZ ps (ts.map CQ) ss,Cy y=Qg x/\∀{S:Nat->Prop} {w:World},Ro S w x->Ro S w y:=by
  obtain ⟨a,⟨bp,bc,bok⟩,c⟩:=x
  have hk:ts.length=(ts.map CQ).length:=(List.length_map _).symm
  refine ⟨⟨a,⟨bp,bc,hk▸bok⟩,c⟩,?_,λ{S w} hx y hy=>?_⟩
  · show [a.val,.slice bp (ts.map CQ).length bc,c.val]=[a.val,.slice bp ts.length bc,c.val]
    rw [<-hk]
  · have hy:y∈[a.row,AE bp (rowsL Ac (ts.map CQ)),c.row]:=hy
    rw [<-DY] at hy
    exact hx y hy
theorem ZS (x:MZ ps (ts.map CQ) ss):∃y:MN ps ts ss,Qg y=Cy x/\∀{S:Nat->Prop} {w:World},Ro S w x->Ro S w y:=by
  obtain ⟨a,⟨bp,bc,bok⟩,c⟩:=x
  have hk:(ts.map CQ).length=ts.length:=List.length_map _
  refine ⟨⟨a,⟨bp,bc,hk▸bok⟩,c⟩,?_,λ{S w} hx y hy=>?_⟩
  · show [a.val,.slice bp ts.length bc,c.val]=[a.val,.slice bp (ts.map CQ).length bc,c.val]
    rw [hk]
  · have hy:y∈[a.row,AE bp (rowsL Ad ts),c.row]:=hy
    rw [DY] at hy
    exact hx y hy
end
structure Ph (ps:List Pt) (ts:List T3) (ss:List Z3) where
  rs:List RP
  e:rs.map (·.p)=ps
  a:RX (rowsL B0 rs) rs.length
  b:RX (rowsL Ad ts) ts.length
  c:RX (rowsL Ac ss) ss.length
def Ie {ps:List Pt} {ts:List T3} {ss:List Z3} (x:Ph ps ts ss):List Value:=[x.a.val,x.b.val,x.c.val]
theorem ZB {ps:List Pt} {ts:List T3} {ss:List Z3} {x:Ph ps ts ss} {y:As} (hy:y∈[x.a.row,x.b.row,x.c.row]++Ca x.rs):y.ro=true:=by
  rcases List.mem_append.1 hy with hy|hy
  · simp only [List.mem_cons,List.not_mem_nil,or_false] at hy
    rcases hy with rfl|rfl|rfl<;>rfl
  · exact Ol hy
instance {ps:List Pt} {ts:List T3} {ss:List Z3}:Cc (Ph ps ts ss):=⟨λx=>aG (Ie x),λx=>[x.a.row,x.b.row,x.c.row]++Ca x.rs,λx y hy=>ZB hy⟩
section
variable {N:Nat} {ts:List T3} {zs ss:List Z3} {ps:List Pt}
theorem Ph.len (x:Ph ps ts ss):x.rs.length=ps.length:=by
  have h:=congrArg List.length x.e
  rwa [List.length_map] at h
theorem ZH (x:Ph ps ts ss):∃y:RM x.rs.length ts (List.replicate ss.length (0,0,0)),FE y=Ie x/\∀{S:Nat->Prop} {w:World},Ro S w x->Ro S w y:=by
  obtain ⟨rs,e,a,b,⟨cp,cc,cok⟩⟩:=x
  have hk:ss.length=(List.replicate ss.length ((0,0,0):Tq3)).length:=(List.length_replicate).symm
  refine ⟨⟨rowsL B0 rs,rowsL Ac ss,a,b,⟨cp,cc,hk▸cok⟩⟩,?_,λ{S w} hx y hy=>hx y (List.mem_append_left (Ca rs) hy)⟩
  show [a.val,b.val,.slice cp (List.replicate ss.length ((0,0,0):Tq3)).length cc]=[a.val,b.val,.slice cp ss.length cc]
  rw [<-hk]
theorem W8 (x:Ph ps ts ss):∃y:HO ps (ts.map CQ) ss,Dp y=Ie x/\y.rs=x.rs/\∀{S:Nat->Prop} {w:World},Ro S w x->Ro S w y:=by
  obtain ⟨rs,e,a,⟨bp,bc,bok⟩,c⟩:=x
  have hk:ts.length=(ts.map CQ).length:=(List.length_map _).symm
  refine ⟨⟨rs,e,a,⟨bp,bc,hk▸bok⟩,c⟩,?_,rfl,λ{S w} hx y hy=>?_⟩
  · show [a.val,.slice bp (ts.map CQ).length bc,c.val]=[a.val,.slice bp ts.length bc,c.val]
    rw [<-hk]
  · have hy:y∈[a.row,AE bp (rowsL Ac (ts.map CQ)),c.row]++Ca rs:=hy
    rw [<-DY] at hy
    exact hx y hy
theorem ZI (x:HO ps (ts.map CQ) ss):∃y:Ph ps ts ss,Ie y=Dp x/\y.rs=x.rs/\∀{S:Nat->Prop} {w:World},Ro S w x->Ro S w y:=by
  obtain ⟨rs,e,a,⟨bp,bc,bok⟩,c⟩:=x
  have hk:(ts.map CQ).length=ts.length:=List.length_map _
  refine ⟨⟨rs,e,a,⟨bp,bc,hk▸bok⟩,c⟩,?_,rfl,λ{S w} hx y hy=>?_⟩
  · show [a.val,.slice bp ts.length bc,c.val]=[a.val,.slice bp (ts.map CQ).length bc,c.val]
    rw [hk]
  · have hy:y∈[a.row,AE bp (rowsL Ad ts),c.row]++Ca rs:=hy
    rw [DY] at hy
    exact hx y hy
end
theorem R0 {w0:A_} {S:Nat->Prop} {L:List As} {w:World} {ps:List Pt} {ts:List T3} {ss:List Z3} {x:Ph ps ts ss} (hw:BD w0 w L) (i:Nat) (hi:(L.drop i).take 3=[x.a.row,x.b.row,x.c.row]) (hs:∀y∈Ca x.rs,y∈L) (ha:At w0 S x):Ro (SL w0 S L) w x:=λy hy=>by
  have hy':y∈[x.a.row,x.b.row,x.c.row]++Ca x.rs:=hy
  have hm:y∈L:=by
    rcases List.mem_append.1 hy' with hy|hy
    · exact List.mem_of_mem_drop (List.mem_of_mem_take (hi▸hy))
    · exact hs y hy
  exact ⟨λb e=>(hw.2.1 y hm b e).2,λb e=>⟨⟨y,hm,Cc.ro x y hy,e⟩,ha y hy b e⟩⟩
def Ph.ru {ps:List Pt} {ts:List T3} {ss:List Z3} (x:Ph ps ts ss):RU x.rs.length ts.length ss.length:=⟨rowsL B0 x.rs,rowsL Ad ts,rowsL Ac ss,x.a,x.b,x.c⟩
theorem Xy {S:Nat->Prop} {w:World} {ps:List Pt} {ts:List T3} {ss:List Z3} {x:Ph ps ts ss} (h:Ro S w x):Ro S w x.ru:=λy hy=>h y (List.mem_append_left (Ca x.rs) hy)
def NG (e:E4):EZ:=((e.a:Int),(e.b:Int),e.l,e.r)
theorem Nz (es:List E4):rowsL BY es=rowsL C5 (es.map NG):=by unfold rowsL;rw [List.flatMap_map];rfl
def Q0 (N:Nat) (ts:List T3):List P2:=EJ N ((An ts).map NG) ((An ts).map NG).length
theorem Ul {N:Nat} {ts:List T3}:(Q0 N ts).length<=(An ts).length:=by
  have h:=QY (N:=N) (es:=(An ts).map NG) (i:=((An ts).map NG).length)
  rw [List.length_map] at h
  unfold Q0
  rw [List.length_map]
  exact h
theorem Wm {N:Nat} {ts:List T3} {v:P2} (h:v∈Q0 N ts):v.1<N/\v.2<N:=PY h
def Rs (N:Nat) (ts:List T3):List Z3:=(EC N (An ts) ts).map CQ
theorem Pr {N:Nat} {ts:List T3}:(Rs N ts).length=4*ts.length:=by unfold Rs;rw [List.length_map,CG]
def YS (ps:List Pt) (ts:List T3):List Pt:=Ke ps (Q0 ps.length ts)
def U8 (N:Nat) (ts:List T3) (ss:List Z3):List Z3:=L8 N ss (Q0 N ts) (Rs N ts)
structure Xp (ps:List Pt) (ts ss:List Z3) where
  m:MZ ps ts ss
  ha:m.a.c=ps.length
  hb:m.b.c=ts.length
instance {ps:List Pt} {ts ss:List Z3}:Cc (Xp ps ts ss):=⟨λx=>aG (Cy x.m),λx=>[x.m.a.row,x.m.b.row,x.m.c.row],λx y hy=>TB hy⟩
theorem XN {S:Nat->Prop} {W w:World} {L:List As} {ps:List Pt} {ts ss:List Z3} (hw:BD ⟨W,none⟩ w L) (i j k:Nat) {p1 p2 p3:Option Addr} {T1 T3 n1 n2 n3 c1 c3:Nat}
    (h1:L[i]?=some (rowW p1 T1 10 n1 c1 (rowsL BC ps))) (h2:L[j]?=some (AE p2 (rowsL Ac ts))) (h3:L[k]?=some (rowW p3 T3 3 n3 c3 (rowsL Ac ss))) (o1:OwnOk p1 n1 c1) (o2:Av p2 n2 n2) (b2:∀b,p2.map (·.block)=some b->W.heap.size<=b) (o3:OwnOk p3 n3 c3) (e1:n1=ps.length) (e2:n2=ts.length) (e3:n3=ss.length)
    {v:Value} (hv:v=aG [.slice p1 n1 n1,.slice p2 n2 n2,.slice p3 n3 n3]):Af (Xp ps ts ss) S W (.returned v) w:=by
  subst e1;subst e2;subst e3
  refine ⟨⟨⟨⟨p1,ps.length,o1.clip⟩,⟨p2,ts.length,o2⟩,⟨p3,ss.length,o3.clip⟩⟩,rfl,rfl⟩,by rw [hv];rfl,hw.out,λy hy=>?_⟩
  have hy:y∈[AE p1 (rowsL BC ps),AE p2 (rowsL Ac ts),AE p3 (rowsL Ac ss)]:=hy
  simp only [List.mem_cons,List.not_mem_nil,or_false] at hy
  rcases hy with rfl|rfl|rfl
  · exact Cs hw i h1 o1 (Aa Bk _)
  · exact ⟨hw.holds h2,λb e=>.inl (b2 b e)⟩
  · exact Cs hw k h3 o3 (Aa Ay _)
structure Wz (ps:List Pt) (ts ss:List Z3) (l:List Nat) (e:Nat) where
  x:Xp ps ts ss
  q:CX (inL l) l.length
instance {ps:List Pt} {ts ss:List Z3} {l:List Nat} {e:Nat}:Cc (Wz ps ts ss l e):=⟨λr=>.tuple #[aG (Cy r.x.m),.slice r.q.p l.length l.length,vN e],λr=>[r.x.m.a.row,r.x.m.b.row,r.x.m.c.row,AE r.q.p (inL l)],λr y hy=>by
  rcases List.mem_append.1 (show y∈[r.x.m.a.row,r.x.m.b.row,r.x.m.c.row]++[AE r.q.p (inL l)] from hy) with hy|hy
  · exact TB hy
  · rcases List.mem_singleton.1 hy with rfl;rfl⟩
theorem X8 {S:Nat->Prop} {W w:World} {L:List As} {ps:List Pt} {ts ss:List Z3} {l:List Nat} {e:Nat} (hw:BD ⟨W,none⟩ w L) {x:Xp ps ts ss} (h:Ro (SL ⟨W,none⟩ S L) w x) (i:Nat) {q:Option Addr} {T n c:Nat} (hi:L[i]?=some (rowW q T 1 n c (inL l))) (ho:OwnOk q n c) (hl:n=l.length) (hc:c=n) {v:Value} (hv:v=.tuple #[aG (Cy x.m),.slice q n c,vN e]):Af (Wz ps ts ss l e) S W (.returned v) w:=by
  subst hl
  subst hc
  refine ⟨⟨x,⟨q,ho.row⟩⟩,by rw [hv];rfl,hw.out,λy hy=>?_⟩
  rcases List.mem_append.1 (show y∈[x.m.a.row,x.m.b.row,x.m.c.row]++[AE q (inL l)] from hy) with hy|hy
  · have h1:=h y hy
    exact ⟨h1.1,λb e=>(h1.2 b e).2⟩
  · rcases List.mem_singleton.1 hy with rfl
    exact Cs hw i hi ho (by rw [Dz,Nat.mul_one])
theorem Wr {S:Nat->Prop} {W w:World} {L:List As} (hw:BD ⟨W,none⟩ w L) (e:Nat) {v:Value} (hv:v=.tuple #[aG [.slice none 0 0,.slice none 0 0,.slice none 0 0],.slice none 0 0,vN e]):Af (Wz [] [] [] [] e) S W (.returned v) w:=by
  refine ⟨⟨⟨⟨⟨none,0,OwnOk.none.row⟩,⟨none,0,OwnOk.none.row⟩,⟨none,0,OwnOk.none.row⟩⟩,rfl,rfl⟩,⟨none,OwnOk.none.row⟩⟩,by rw [hv];rfl,hw.out,λy hy=>?_⟩
  have hy:y∈[AE none (rowsL BC []),AE none (rowsL Ac []),AE none (rowsL Ac []),AE none (inL [])]:=hy
  simp only [List.mem_cons,List.not_mem_nil,or_false] at hy
  rcases hy with rfl|rfl|rfl|rfl<;>exact ⟨(λb e=>by cases e),(λb e=>by cases e)⟩
structure Xc (ps:List Pt) (ts ss:List Z3) (l:List Nat) (e:Nat) where
  x:HO ps ts ss
  q:RX (inL l) l.length
instance {ps:List Pt} {ts ss:List Z3} {l:List Nat} {e:Nat}:Cc (Xc ps ts ss l e):=⟨λr=>.tuple #[aG (Dp r.x),r.q.val,vN e],λr=>r.q.row::([r.x.a.row,r.x.b.row,r.x.c.row]++Ca r.x.rs),λr y hy=>by
  rcases List.mem_cons.1 hy with rfl|hy
  · rfl
  · exact XA hy⟩
theorem XX {S:Nat->Prop} {W w:World} {L:List As} {ps:List Pt} {ts ss:List Z3} {l:List Nat} {e:Nat} (hw:BD ⟨W,none⟩ w L) {x:HO ps ts ss} (h:Ro (SL ⟨W,none⟩ S L) w x) (i:Nat) {q:Option Addr} {T n c:Nat} (hi:L[i]?=some (rowW q T 1 n c (inL l))) (ho:OwnOk q n c) (hl:n=l.length) {v:Value} (hv:v=.tuple #[aG (Dp x),.slice q n c,vN e]):Af (Xc ps ts ss l e) S W (.returned v) w:=by
  subst hl
  refine ⟨⟨x,⟨q,c,ho.row⟩⟩,by rw [hv];rfl,hw.out,λy hy=>?_⟩
  rcases List.mem_cons.1 (show y∈AE q (inL l)::([x.a.row,x.b.row,x.c.row]++Ca x.rs) from hy) with rfl|hy
  · exact Cs hw i hi ho (by rw [Dz,Nat.mul_one])
  · have h1:=h y hy
    exact ⟨h1.1,λb e=>(h1.2 b e).2⟩
theorem Wf {S:Nat->Prop} {W w:World} {L:List As} (hw:BD ⟨W,none⟩ w L) (e:Nat) {v:Value} (hv:v=.tuple #[aG [.slice none 0 0,.slice none 0 0,.slice none 0 0],.slice none 0 0,vN e]):Af (Xc [] [] [] [] e) S W (.returned v) w:=by
  refine ⟨⟨⟨[],rfl,⟨none,0,OwnOk.none.row⟩,⟨none,0,OwnOk.none.row⟩,⟨none,0,OwnOk.none.row⟩⟩,⟨none,0,OwnOk.none.row⟩⟩,by rw [hv];rfl,hw.out,λy hy=>?_⟩
  have hy:y∈[AE none (inL []),AE none (rowsL B0 []),AE none (rowsL Ac []),AE none (rowsL Ac [])]:=hy
  simp only [List.mem_cons,List.not_mem_nil,or_false] at hy
  rcases hy with rfl|rfl|rfl|rfl<;>exact ⟨(λb e=>by cases e),(λb e=>by cases e)⟩
def Hb (ps:List Pt) (zt:List Z3):List Pt:=if DL ps.length zt=true then YS ps (zt.map Db) else []
def Gw (N:Nat) (zt:List Z3):List Z3:=if DL N zt=true then Rs N (zt.map Db) else []
def H2 (N:Nat) (zt ss:List Z3):List Z3:=if DL N zt=true then U8 N (zt.map Db) ss else []
def F3 (N:Nat) (zt:List Z3):List Nat:=if DL N zt=true then C0 zt.length else []
def XG (N:Nat) (zt:List Z3):Nat:=if DL N zt=true then 0 else 1
section
variable {N M i j a b:Nat} {ts:List T3}
theorem Wq (hn:Bn N ts=true) (hN:N<=4611686018427387904) (hk:Bw a b∈FD ts) (hi:i<(An ts).length) (h1:((An ts).getD i E0).a=min a b) (h2:((An ts).getD i E0).b=max a b):M+i=EN M (An ts) a b:=by
  obtain ⟨j,hj,j1,j2,j3⟩:=FR (M:=M) hn hN hk
  rw [j3]
  have hs:=List.pairwise_iff_getElem.1 (Fo hn hN)
  have hd:∀k (h:k<(An ts).length),(An ts).getD k E0=(An ts)[k]:=λk h=>by rw [List.getD,List.getElem?_eq_getElem h];rfl
  rw [hd i hi] at h1 h2
  rw [hd j hj] at j1 j2
  rcases Nat.lt_trichotomy i j with h|h|h
  · have:=hs i j hi hj h
    unfold QM at this
    omega
  · rw [h]
  · have:=hs j i hj hi h
    unfold QM at this
    omega
theorem UV (hn:Bn N ts=true) (hN:N<=4611686018427387904) (hk:Bw a b∈FD ts) (h:∀i,i<(An ts).length->¬(((An ts).getD i E0).a=min a b/\((An ts).getD i E0).b=max a b)):False:=by
  obtain ⟨j,hj,j1,j2,_⟩:=FR (M:=N) hn hN hk
  exact h j hj ⟨j1,j2⟩
end
end
end Go.Proofs.YtpolhpjiahbidaaGreatDoor
