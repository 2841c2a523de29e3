import Derived.Test.YtpolhpjiahbidaaGreatDoorPart30
import Derived.Test.YtpolhpjiahbidaaGreatDoorPart31
import Derived.Test.YtpolhpjiahbidaaGreatDoorPart32
namespace Go.Proofs.YtpolhpjiahbidaaGreatDoor
open Go Go.RowKit Go.Proofs.Tryz
set_option linter.unusedVariables false
set_option linter.unusedSimpArgs false
section
abbrev EZ:=Int×Int×Int×Int
def BT:EZ:=(0,0,0,0)
def Bn (e:EZ):List Value:=[vI e.1,vI e.2.1,vI e.2.2.1,vI e.2.2.2]
theorem BO (e:EZ):(Bn e).length=4:=rfl
abbrev KI:=List (P2×Int)
def YU (a b:Int):P2:=Bz a.toNat b.toNat
def EU (N:Nat) (ss:List Z3):Nat->KI
  | 0=>[]
  | k+1=>if Ao N (ss.getD (ss.length-1-k) (0,0,0)).1=true/\Ao N (ss.getD (ss.length-1-k) (0,0,0)).2.1=true then BL (EU N ss k) (YU (ss.getD (ss.length-1-k) (0,0,0)).1 (ss.getD (ss.length-1-k) (0,0,0)).2.1) (ss.getD (ss.length-1-k) (0,0,0)).2.2 else EU N ss k
def GW (m:KI) (a b:Nat):Int:=(Az m (Bz a b)).getD 0
def UF (N:Nat) (st:KI×Nat) (v:P2):KI×Nat:=(BL (BL st.1 (Bz v.1 (N+st.2)) (GW st.1 v.1 v.2)) (Bz v.2 (N+st.2)) (GW st.1 v.1 v.2),st.2+1)
def Cb (N:Nat) (ss:List Z3) (vs:List P2):KI:=(vs.foldl (UF N) (EU N ss ss.length,0)).1
def Fg (N:Nat) (e:EZ):Bool:=Ao N e.1&&Ao N e.2.1
def P_ (e:EZ):P2:=(e.1.toNat,e.2.1.toNat)
def CS (N:Nat) (es:List EZ) (i:Nat):List P2:=((es.take i).filter (Fg N)).map P_
def IR (ps:List Pt) (v:P2):Pt:=Bc (ps.getD v.1 ⟨0,0⟩+ps.getD v.2 ⟨0,0⟩) (1/2)
def Ge (ps:List Pt) (vs:List P2):List Pt:=vs.foldl (λl v=>l++[IR ps v]) ps
theorem JJ (ps:List Pt) (vs:List P2):Ge ps vs=ps++vs.map (IR ps):=by
  have key:∀(vs:List P2) (l:List Pt),vs.foldl (λl v=>l++[IR ps v]) l=l++vs.map (IR ps):=λvs=>by
    induction vs with
    | nil=>intro l;rw [List.map_nil,List.append_nil];rfl
    | cons v r ih=>intro l;rw [List.foldl_cons,ih,List.map_cons,List.append_assoc];rfl
  exact key vs ps
def H7 (s:Nat×Nat×Nat):Z3:=((s.1:Int),(s.2.1:Int),(s.2.2:Int))
def A9 (n:Nat) (us:List Z3):List T3:=if Fd n us=true then Bl (us.map FF) else []
def Fo (m:KI) (rs:List T3) (i:Nat):List Z3:=((rs.take i).map λs=>((s.1:Int),(s.2.1:Int),GW m s.1 s.2.1))++(rs.drop i).map H7
def C4 (N:Nat) (a b:Int):List Z3->Int
  | []=>0
  | s::r=>if Ao N a=true/\Ao N b=true/\(s.1=a/\s.2.1=b\/s.1=b/\s.2.1=a) then s.2.2 else C4 N a b r
def C7 (N:Nat) (ss:List Z3) (vs:List P2) (a b:Nat):Int:=if N<=b/\b-N<vs.length/\((vs.getD (b-N) (0,0)).1=a\/(vs.getD (b-N) (0,0)).2=a) then C4 N (vs.getD (b-N) (0,0)).1 (vs.getD (b-N) (0,0)).2 ss else C4 N a b ss
section
variable {N:Nat} {ss:List Z3} {vs:List P2} {v:P2} {es:List EZ} {i j k a b:Nat} {m:KI} {rs:List T3} {ps:List Pt}
theorem KZ (rs:List T3):rowsL Aq rs=rowsL Ad (rs.map H7):=by unfold rowsL;rw [List.flatMap_map];rfl
theorem FT:Ao N (a:Int)=true↔a<N:=by unfold Ao;simp
theorem Bq {p:Int} (h:Ao N p=true):((p.toNat:Nat):Int)=p/\p.toNat<N:=by
  unfold Ao at h
  simp only [Bool.and_eq_true,decide_eq_true_eq] at h
  omega
theorem Mo {p:Int} (h:Ao N p=true):vN p.toNat=vI p:=congrArg vI (Bq h).1
theorem Xl (st:KI×Nat):∀vs:List P2,(vs.foldl (UF N) st).2=st.2+vs.length:=λvs=>by
  induction vs generalizing st with
  | nil=>rfl
  | cons v r ih=>rw [List.foldl_cons,ih];show st.2+1+r.length=st.2+(r.length+1);omega
theorem Kx:Cb N ss (vs++[v])=BL (BL (Cb N ss vs) (Bz v.1 (N+vs.length)) (GW (Cb N ss vs) v.1 v.2)) (Bz v.2 (N+vs.length)) (GW (Cb N ss vs) v.1 v.2):=by
  unfold Cb
  rw [List.foldl_append,List.foldl_cons,List.foldl_nil]
  have key:∀st:KI×Nat,(UF N st v).1=BL (BL st.1 (Bz v.1 (N+st.2)) (GW st.1 v.1 v.2)) (Bz v.2 (N+st.2)) (GW st.1 v.1 v.2):=λ_=>rfl
  rw [key,Xl,Nat.zero_add]
theorem O6 (hi:i<es.length) (h:Fg N (es.getD i BT)=true):CS N es (i+1)=CS N es i++[P_ (es.getD i BT)]:=by
  unfold CS
  rw [BW (d:=BT) hi,List.filter_append,List.map_append,List.filter_cons,if_pos h];rfl
theorem TO (hi:i<es.length) (h:Fg N (es.getD i BT)=false):CS N es (i+1)=CS N es i:=by
  unfold CS
  rw [BW (d:=BT) hi,List.filter_append,List.map_append,List.filter_cons,if_neg (by rw [h];exact Bool.false_ne_true)];simp
theorem Pd:(CS N es i).length<=i:=by
  unfold CS
  rw [List.length_map]
  exact Nat.le_trans (List.length_filter_le _ _) (List.length_take_le _ _)
theorem LJ (hv:v∈CS N es i):v.1<N/\v.2<N:=by
  obtain ⟨e,he,rfl⟩:=List.mem_map.1 hv
  have h:=(List.mem_filter.1 he).2
  unfold Fg at h
  rw [Bool.and_eq_true] at h
  exact ⟨(Bq h.1).2,(Bq h.2).2⟩
theorem GJ:(Ge ps vs).length=ps.length+vs.length:=by rw [JJ,List.length_append,List.length_map]
theorem Ma:Ge ps vs++[IR ps v]=Ge ps (vs++[v]):=by rw [JJ,JJ,List.map_append,List.append_assoc];rfl
theorem Vr (h:i<ps.length):(Ge ps vs).getD i ⟨0,0⟩=ps.getD i ⟨0,0⟩:=by
  rw [JJ,List.getD,List.getElem?_append_left h];rfl
theorem QS (a b:Nat):Bz a b=Bz b a:=by unfold Bz;exact Prod.ext (Nat.min_comm a b) (Nat.max_comm a b)
theorem Ir (hN:N<=4611686018427387904):∀k,G3 Li (EU N ss k)
  | 0=>G3.nil
  | k+1=>by
    unfold EU
    split
    · rename_i h
      exact (Ir hN k).put (BV (Nat.lt_of_lt_of_le (Bq h.1).2 hN) (Nat.lt_of_lt_of_le (Bq h.2).2 hN))
    · exact Ir hN k
theorem Is (hv:∀v∈vs,v.1<N/\v.2<N) (hN:N+vs.length<=4611686018427387904):G3 Li (Cb N ss vs):=by
  have key:∀(vs:List P2) (st:KI×Nat),G3 Li st.1->(∀v∈vs,v.1<N/\v.2<N)->N+st.2+vs.length<=4611686018427387904->G3 Li (vs.foldl (UF N) st).1:=λvs=>by
    induction vs with
    | nil=>intro st h _ _;exact h
    | cons v r ih =>
      intro st h h1 h2
      rw [List.length_cons] at h2
      have:=h1 v List.mem_cons_self
      rw [List.foldl_cons]
      exact ih _ ((h.put (BV (by omega) (by omega))).put (BV (by omega) (by omega))) (λx hx=>h1 x (List.mem_cons_of_mem _ hx)) (by show N+(st.2+1)+r.length<=_;omega)
  exact key vs _ (Ir (by omega) _) hv (by omega)
theorem R6 (h:Ao N (ss.getD (ss.length-1-k) (0,0,0)).1=true/\Ao N (ss.getD (ss.length-1-k) (0,0,0)).2.1=true):BL (EU N ss k) (YU (ss.getD (ss.length-1-k) (0,0,0)).1 (ss.getD (ss.length-1-k) (0,0,0)).2.1) (ss.getD (ss.length-1-k) (0,0,0)).2.2=EU N ss (k+1):=(if_pos h).symm
theorem UV (h:¬(Ao N (ss.getD (ss.length-1-k) (0,0,0)).1=true/\Ao N (ss.getD (ss.length-1-k) (0,0,0)).2.1=true)):EU N ss k=EU N ss (k+1):=(if_neg h).symm
theorem Rh {x y a b:Nat}:Bz x y=Bz a b↔(x=a/\y=b\/x=b/\y=a):=by
  unfold Bz
  constructor
  · intro h
    have h1:min x y=min a b:=congrArg Prod.fst h
    have h2:max x y=max a b:=congrArg Prod.snd h
    omega
  · rintro (⟨rfl,rfl⟩|⟨rfl,rfl⟩)
    · rfl
    · exact Prod.ext (Nat.min_comm _ _) (Nat.max_comm _ _)
theorem Kh (a b:Int):∀l,C4 N a b l=C4 N b a l
  | []=>rfl
  | s::r=>by
    unfold C4
    rw [Kh a b r]
    by_cases h:Ao N a=true/\Ao N b=true/\(s.1=a/\s.2.1=b\/s.1=b/\s.2.1=a)
    · rw [if_pos h,if_pos ⟨h.2.1,h.1,h.2.2.symm⟩]
    · rw [if_neg h,if_neg λh2=>h ⟨h2.2.1,h2.1,h2.2.2.symm⟩]
theorem MS {a b:Int} (h:¬(Ao N a=true/\Ao N b=true)):∀l,C4 N a b l=0
  | []=>rfl
  | s::r=>by
    unfold C4
    rw [if_neg λh2=>h ⟨h2.1,h2.2.1⟩,MS h r]
theorem NM (ha:a<N) (hb:b<N):∀k,k<=ss.length->(Az (EU N ss k) (Bz a b)).getD 0=C4 N a b (ss.drop (ss.length-k))
  | 0,_=>by rw [Nat.sub_zero,List.drop_length];rfl
  | k+1,hk=>by
    have ih:=NM ha hb k (by omega)
    have hj:ss.length-(k+1)<ss.length:=by omega
    rw [Dq (d:=(0,0,0)) hj,show ss.length-(k+1)+1=ss.length-k by omega]
    unfold EU C4
    rw [show ss.length-1-k=ss.length-(k+1) by omega]
    generalize ss.getD (ss.length-(k+1)) (0,0,0)=s
    by_cases hs:Ao N s.1=true/\Ao N s.2.1=true
    · rw [if_pos hs,Cx]
      obtain ⟨e1,l1⟩:=Bq hs.1
      obtain ⟨e2,l2⟩:=Bq hs.2
      by_cases hq:Bz a b=YU s.1 s.2.1
      · rw [if_pos hq]
        have h:=Rh.1 hq
        rw [if_pos ⟨FT.2 ha,FT.2 hb,by omega⟩];rfl
      · rw [if_neg hq,if_neg,ih]
        rintro ⟨_,_,h⟩
        exact hq (Rh.2 (by omega))
    · rw [if_neg hs,if_neg,ih]
      rintro ⟨_,_,h⟩
      refine hs ?_
      rcases h with ⟨h1,h2⟩|⟨h1,h2⟩
      · rw [h1,h2];exact ⟨FT.2 ha,FT.2 hb⟩
      · rw [h1,h2];exact ⟨FT.2 hb,FT.2 ha⟩
theorem JK {k:P2} (h:N<=k.2):∀n,Az (EU N ss n) k=none
  | 0=>rfl
  | n+1=>by
    unfold EU
    split
    · rename_i hs
      rw [Cx,if_neg,JK h n]
      intro e
      have h1:=(Bq hs.1).2
      have h2:=(Bq hs.2).2
      rw [e] at h
      unfold YU Bz at h
      simp only at h
      omega
    · exact JK h n
theorem Sy:∀(n:Nat) (vs:List P2),vs.length=n->(∀v∈vs,v.1<N/\v.2<N)->∀a b,a<=b->GW (Cb N ss vs) a b=C7 N ss vs a b
  | 0,vs,hl,_,a,b,hab=>by
    have e:vs=[]:=List.eq_nil_of_length_eq_zero hl
    subst e
    unfold C7
    rw [if_neg λh=>absurd h.2.1 (Nat.not_lt_zero _)]
    show (Az (EU N ss ss.length) (Bz a b)).getD 0=_
    rcases Nat.lt_or_ge b N with h|h
    · rw [NM (by omega) h _ (Nat.le_refl _),Nat.sub_self,List.drop_zero]
    · rw [JK (by unfold Bz;simp only;omega),MS λh2=>absurd (FT.1 h2.2) (by omega)];rfl
  | n+1,vs,hl,hv,a,b,hab=>by
    obtain ⟨us,v,rfl⟩:∃us v,vs=us++[v]:=⟨vs.dropLast,vs.getLast (λe=>by rw [e] at hl;cases hl),(List.dropLast_concat_getLast _).symm⟩
    rw [List.length_append,List.length_singleton] at hl
    have hvv:=hv v (List.mem_append_right _ (List.mem_singleton.2 rfl))
    have ih:=Sy n us (by omega) λx hx=>hv x (List.mem_append_left _ hx)
    have hmk:GW (Cb N ss us) v.1 v.2=C4 N v.1 v.2 ss:=by
      rcases Nat.le_total v.1 v.2 with h|h
      · rw [ih v.1 v.2 h];unfold C7;rw [if_neg (by omega)]
      · have e:=ih v.2 v.1 h
        unfold C7 at e
        rw [if_neg (by omega),Kh] at e
        rw [<-e];unfold GW;rw [QS]
    have e1:Bz v.1 (N+us.length)=(v.1,N+us.length):=by unfold Bz;exact Prod.ext (by simp only;omega) (by simp only;omega)
    have e2:Bz v.2 (N+us.length)=(v.2,N+us.length):=by unfold Bz;exact Prod.ext (by simp only;omega) (by simp only;omega)
    have e3:Bz a b=(a,b):=by unfold Bz;exact Prod.ext (by simp only;omega) (by simp only;omega)
    have ih2:=ih a b hab
    rw [Kx,hmk,e1,e2]
    unfold GW at ih2 ⊢
    rw [e3] at ih2 ⊢
    rw [Cx,Cx]
    unfold C7 at ih2 ⊢
    rw [List.length_append,List.length_singleton]
    by_cases hb:b=N+us.length
    · have hg:(us++[v]).getD (b-N) (0,0)=v:=by rw [show b-N=us.length by omega,List.getD,List.getElem?_append_right (Nat.le_refl _),Nat.sub_self];rfl
      rw [hg]
      by_cases h2:v.2=a
      · rw [if_pos (Prod.ext h2.symm hb),if_pos ⟨by omega,by omega,.inr h2⟩];rfl
      · rw [if_neg λe=>h2 (congrArg Prod.fst e).symm]
        by_cases h1:v.1=a
        · rw [if_pos (Prod.ext h1.symm hb),if_pos ⟨by omega,by omega,.inl h1⟩];rfl
        · rw [if_neg λe=>h1 (congrArg Prod.fst e).symm,if_neg λh=>by rcases h.2.2 with h|h;exact h1 h;exact h2 h,ih2,if_neg (by omega)]
    · rw [if_neg λe=>hb (congrArg Prod.snd e),if_neg λe=>hb (congrArg Prod.snd e),ih2]
      by_cases h3:N<=b/\b-N<us.length
      · have hg:(us++[v]).getD (b-N) (0,0)=us.getD (b-N) (0,0):=by rw [List.getD,List.getElem?_append_left h3.2];rfl
        rw [hg]
        by_cases h4:(us.getD (b-N) (0,0)).1=a\/(us.getD (b-N) (0,0)).2=a
        · rw [if_pos ⟨h3.1,h3.2,h4⟩,if_pos ⟨h3.1,by omega,h4⟩]
        · rw [if_neg λh=>h4 h.2.2,if_neg λh=>h4 h.2.2]
      · rw [if_neg λh=>h3 ⟨h.1,h.2.1⟩,if_neg λh=>h3 ⟨h.1,by omega⟩]
theorem Sq:Fo m rs rs.length=rs.map λs=>((s.1:Int),(s.2.1:Int),GW m s.1 s.2.1):=by unfold Fo;simp
theorem G4:(Fo m rs i).length=rs.length:=by unfold Fo;simp;omega
theorem NY (h:i<rs.length):(Fo m rs i).getD i (0,0,0)=H7 (rs.getD i (0,0,0)):=by
  unfold Fo
  have hl:((rs.take i).map λs:T3=>((s.1:Int),(s.2.1:Int),GW m s.1 s.2.1)).length=i:=by rw [List.length_map,List.length_take];omega
  rw [List.getD,List.getElem?_append_right (by rw [hl];exact Nat.le_refl _),hl,Nat.sub_self,List.getElem?_map,List.getElem?_drop,Nat.add_zero,List.getD,List.getElem?_eq_getElem h];rfl
theorem QG {v:Int} (h:i<rs.length) (hv:v=GW m (rs.getD i (0,0,0)).1 (rs.getD i (0,0,0)).2.1):(Fo m rs i).set i (((Fo m rs i).getD i (0,0,0)).1,((Fo m rs i).getD i (0,0,0)).2.1,v)=Fo m rs (i+1):=by
  rw [NY h,hv]
  unfold Fo
  have hl:((rs.take i).map λs:T3=>((s.1:Int),(s.2.1:Int),GW m s.1 s.2.1)).length=i:=by rw [List.length_map,List.length_take];omega
  rw [List.set_append_right _ _ (by rw [hl];exact Nat.le_refl _),hl,Nat.sub_self,Dq (d:=(0,0,0)) h,List.map_cons,List.set_cons_zero,BW (d:=(0,0,0)) h,List.map_append,List.append_assoc]
  rfl
end
def EN (N:Nat) (ss:List Z3) (vs:List P2) (us:List Z3):List Z3:=(A9 (N+vs.length) us).map λs=>((s.1:Int),(s.2.1:Int),GW (Cb N ss vs) s.1 s.2.1)
theorem PV {n:Nat} {us:List Z3} {s:T3} (h:s∈A9 n us) (hN:n<=4611686018427387904):s.1<n/\s.2.1<n:=by
  unfold A9 at h
  split at h
  · rename_i e
    exact Pb (HX e).1 hN h
  · cases h
theorem JA {n:Nat} {us:List Z3}:(A9 n us).length<=3*us.length:=by
  unfold A9
  split
  · have h1:=I2 (ts:=us.map FF) (BS (us.map FF)).length
    have h2:=HU (ts:=us.map FF) (3*(us.map FF).length)
    rw [<-HO] at h2
    have:=Nat.le_trans h1 h2
    rwa [List.length_map] at this
  · exact Nat.zero_le _
structure Vx (N M:Nat) (ss:List Z3) where
  cs:List Value
  es:List Value
  a:RX cs N
  b:RX es M
  c:RX (rowsL Ad ss) ss.length
def L4 {N M:Nat} {ss:List Z3} (x:Vx N M ss):List Value:=[x.a.val,x.b.val,x.c.val]
theorem YD {N M:Nat} {ss:List Z3} {x:Vx N M ss} {y:As} (hy:y∈[x.a.row,x.b.row,x.c.row]):y.ro=true:=by
  simp only [List.mem_cons,List.not_mem_nil,or_false] at hy
  rcases hy with rfl|rfl|rfl<;>rfl
instance {N M:Nat} {ss:List Z3}:Ci (Vx N M ss):=⟨λx=>aG (L4 x),λx=>[x.a.row,x.b.row,x.c.row],λx y hy=>YD hy⟩
section
variable {S:Nat->Prop} {w:World} {N M:Nat} {zs ss:List Z3} {ps:List Pt} {a b:Int} {i:Nat}
def Vx.ru (x:Vx N M ss):RU N M ss.length:=⟨x.cs,x.es,rowsL Ad ss,x.a,x.b,x.c⟩
theorem Xt {x:Vx N M ss} (h:Ro S w x):Ro S w x.ru:=λy hy=>h y hy
def In.rs' (x:In ps zs ss):Vx x.rs.length zs.length ss:=⟨rowsL Cs x.rs,rowsL Ad zs,x.a,x.b,x.c⟩
theorem WB {x:In ps zs ss} (h:Ro S w x):Ro S w x.rs':=λy hy=>h y (List.mem_append_left _ hy)
theorem RY (hi:i<ss.length) {s:Z3} (hs:s=ss.getD i (0,0,0)) (h:Ao N a=true/\Ao N b=true/\(s.1=a/\s.2.1=b\/s.1=b/\s.2.1=a)):C4 N a b (ss.drop i)=s.2.2:=by
  rw [Dq (d:=(0,0,0)) hi,<-hs];exact if_pos h
theorem UJ (hi:i<ss.length) {s:Z3} (hs:s=ss.getD i (0,0,0)) (h:¬(Ao N a=true/\Ao N b=true/\(s.1=a/\s.2.1=b\/s.1=b/\s.2.1=a))):C4 N a b (ss.drop i)=C4 N a b (ss.drop (i+1)):=by
  rw [Dq (d:=(0,0,0)) hi,<-hs];exact if_neg h
end
def Xm (N:Nat) (ss:List Z3) (vs:List P2) (us:List Z3):List Z3:=(A9 (N+vs.length) us).map λs=>((s.1:Int),(s.2.1:Int),C7 N ss vs s.1 s.2.1)
theorem VA {N:Nat} {ss us:List Z3} {vs:List P2} (hv:∀v∈vs,v.1<N/\v.2<N) (hN:N+vs.length<=4611686018427387904):Xm N ss vs us=EN N ss vs us:=List.map_congr_left λs hs=>by
  have h:s.1<=s.2.1:=by
    unfold A9 at hs
    split at hs
    · rename_i e
      rw [<-PZ (HX e).1 hN,HI] at hs
      omega
    · cases hs
  rw [Sy _ vs rfl hv _ _ h]
def Dd (f:Nat->Nat->Int) (rs:List T3) (i:Nat):List Z3:=((rs.take i).map λs=>((s.1:Int),(s.2.1:Int),f s.1 s.2.1))++(rs.drop i).map H7
section
variable {f:Nat->Nat->Int} {rs:List T3} {i:Nat}
theorem RN:Dd f rs rs.length=rs.map λs=>((s.1:Int),(s.2.1:Int),f s.1 s.2.1):=by unfold Dd;simp
theorem EO:(Dd f rs i).length=rs.length:=by unfold Dd;simp;omega
theorem Ju (h:i<rs.length):(Dd f rs i).getD i (0,0,0)=H7 (rs.getD i (0,0,0)):=by
  unfold Dd
  have hl:((rs.take i).map λs:T3=>((s.1:Int),(s.2.1:Int),f s.1 s.2.1)).length=i:=by rw [List.length_map,List.length_take];omega
  rw [List.getD,List.getElem?_append_right (by rw [hl];exact Nat.le_refl _),hl,Nat.sub_self,List.getElem?_map,List.getElem?_drop,Nat.add_zero,List.getD,List.getElem?_eq_getElem h];rfl
theorem H_ {v:Int} (h:i<rs.length) (hv:v=f (rs.getD i (0,0,0)).1 (rs.getD i (0,0,0)).2.1):(Dd f rs i).set i (((Dd f rs i).getD i (0,0,0)).1,((Dd f rs i).getD i (0,0,0)).2.1,v)=Dd f rs (i+1):=by
  rw [Ju h,hv]
  unfold Dd
  have hl:((rs.take i).map λs:T3=>((s.1:Int),(s.2.1:Int),f s.1 s.2.1)).length=i:=by rw [List.length_map,List.length_take];omega
  rw [List.set_append_right _ _ (by rw [hl];exact Nat.le_refl _),hl,Nat.sub_self,Dq (d:=(0,0,0)) h,List.map_cons,List.set_cons_zero,BW (d:=(0,0,0)) h,List.map_append,List.append_assoc]
  rfl
end
def Bb (rs qs:List RP):List RP:=qs.foldl (λl q=>l++[q]) rs
def Ch (N:Nat) (es:List EZ) (i:Nat):List EZ:=(es.take i).filter (Fg N)
section
variable {rs qs:List RP} {q:RP} {N i k:Nat} {es:List EZ}
theorem LP (rs qs:List RP):Bb rs qs=rs++qs:=by
  have key:∀(qs l:List RP),qs.foldl (λl q=>l++[q]) l=l++qs:=λqs=>by
    induction qs with
    | nil=>intro l;rw [List.append_nil];rfl
    | cons v r ih=>intro l;rw [List.foldl_cons,ih,List.append_assoc];rfl
  exact key qs rs
theorem G7:Bb rs qs++[q]=Bb rs (qs++[q]):=by rw [LP,LP,List.append_assoc]
theorem Ox:(Bb rs qs).length=rs.length+qs.length:=by rw [LP,List.length_append]
theorem Fc {y:As} (h:y∈Db rs):y∈Db (Bb rs qs):=by
  rw [LP]
  unfold Db at h ⊢
  rw [List.flatMap_append]
  exact List.mem_append_left _ h
theorem Lu (hi:i<es.length) (h:Fg N (es.getD i BT)=true):Ch N es (i+1)=Ch N es i++[es.getD i BT]:=by
  unfold Ch
  rw [BW (d:=BT) hi,List.filter_append,List.filter_cons,if_pos h];rfl
theorem R5 (hi:i<es.length) (h:Fg N (es.getD i BT)=false):Ch N es (i+1)=Ch N es i:=by
  unfold Ch
  rw [BW (d:=BT) hi,List.filter_append,List.filter_cons,if_neg (by rw [h];exact Bool.false_ne_true)];simp
theorem UO:(Ch N es i).length<=i:=Nat.le_trans (List.length_filter_le _ _) (List.length_take_le _ _)
theorem Om:(CS N es i).length=(Ch N es i).length:=by unfold CS;rw [List.length_map];rfl
theorem RA (hk:k<(Ch N es i).length):(((((CS N es i).getD k (0,0)).1:Nat):Int)=((Ch N es i).getD k BT).1)/\(((((CS N es i).getD k (0,0)).2:Nat):Int)=((Ch N es i).getD k BT).2.1):=by
  have h1:(CS N es i).getD k (0,0)=P_ ((Ch N es i).getD k BT):=by
    unfold CS
    show (((Ch N es i).map P_)[k]?).getD (0,0)=_
    rw [List.getElem?_map,List.getElem?_eq_getElem hk,List.getD,List.getElem?_eq_getElem hk];rfl
  have h2:Fg N ((Ch N es i).getD k BT)=true:=by
    rw [List.getD,List.getElem?_eq_getElem hk]
    exact (List.mem_filter.1 (List.getElem_mem hk)).2
  unfold Fg at h2
  rw [Bool.and_eq_true] at h2
  rw [h1]
  exact ⟨(Bq h2.1).1,(Bq h2.2).1⟩
theorem Tz {ss:List Z3} {a b n:Nat} {e:EZ} (hn:n=N) (hk:n<=b) (hl:b-n<(Ch N es i).length) (he:e=(Ch N es i).getD (b-n) BT) (h:e.1=(a:Int)\/e.2.1=(a:Int)):C4 N e.1 e.2.1 ss=C7 N ss (CS N es i) a b:=by
  subst hn
  obtain ⟨h1,h2⟩:=RA (k:=b-n) hl
  rw [<-he] at h1 h2
  unfold C7
  rw [if_pos ⟨hk,by rw [Om];exact hl,by omega⟩,h1,h2]
theorem Vl {ss:List Z3} {a b n:Nat} {e:EZ} (hn:n=N) (hl:b-n<(Ch N es i).length) (he:e=(Ch N es i).getD (b-n) BT) (h:¬(e.1=(a:Int)\/e.2.1=(a:Int))):C4 N a b ss=C7 N ss (CS N es i) a b:=by
  subst hn
  obtain ⟨h1,h2⟩:=RA (k:=b-n) hl
  rw [<-he] at h1 h2
  unfold C7
  rw [if_neg λk=>h (by omega)]
theorem Sn {ss:List Z3} {a b n:Nat} (hn:n=N) (h:¬(n<=b/\b-n<(Ch N es i).length)):C4 N a b ss=C7 N ss (CS N es i) a b:=by
  subst hn
  unfold C7
  rw [if_neg λk=>h ⟨k.1,by rw [<-Om];exact k.2.1⟩]
theorem DJ.any {α:Type} {V:α->Value} {LW:α->List As} {S S':Nat->Prop} {W w:World} {e:Ending} (h:DJ V LW S W e w) (hr:∀a,∀y∈LW a,y.ro=false):DJ V LW S' W e w:=by
  obtain ⟨a,h1,h2,h3,h4⟩:=h
  refine ⟨a,h1,h2,λx hx b e=>?_,h4⟩
  obtain ⟨k1,k2⟩:=h3 x hx b e
  refine ⟨.inl ?_,k2⟩
  rcases k1 with k1|⟨k1,_⟩
  · exact k1
  · rw [hr a x hx] at k1;cases k1
theorem Y5 {S:Nat->Prop} {w:World} {N K:Nat} {zs:List Z3} {x:RQ N K zs} (ha:Ro S w x.a) (hb:Ro S w x.b) (hc:Ro S w x.c):Ro S w x:=λy hy=>by
  have hy:y∈[x.a.row,x.b.row,x.c.row]:=hy
  simp only [List.mem_cons,List.not_mem_nil,or_false] at hy
  rcases hy with rfl|rfl|rfl
  · exact ha _ List.mem_cons_self
  · exact hb _ List.mem_cons_self
  · exact hc _ List.mem_cons_self
theorem WW {w:World} {cs:List Value}:Ro UD w (⟨none,0,OwnOk.none.row⟩:RX cs 0):=λy hy=>by
  rcases List.mem_singleton.1 hy with rfl
  exact ⟨λb e=>(by cases e),λ_ _=>trivial⟩
end
theorem Xu {w0:A_} {S:Nat->Prop} {L:List As} {w:World} {ps:List Pt} {ts ss:List Z3} {x:In ps ts ss} (hw:BB w0 w L) (i:Nat) (hi:(L.drop i).take 3=[x.a.row,x.b.row,x.c.row]) (hs:∀y∈Db x.rs,y∈L) (ha:At w0 S x):Ro (SL w0 S L) w x:=λy hy=>by
  have hy':y∈[x.a.row,x.b.row,x.c.row]++Db x.rs:=hy
  have hm:y∈L:=by
    rcases List.mem_append.1 hy' with hy|hy
    · exact List.mem_of_mem_drop (List.mem_of_mem_take (hi▸hy))
    · exact hs y hy
  exact ⟨λb e=>(hw.2.1 y hm b e).2,λb e=>⟨⟨y,hm,Ci.ro x y hy,e⟩,ha y hy b e⟩⟩
def Fj (es:List EZ) (i:Nat):List EZ:=(es.take i).map λe=>(e.1,e.2.1,0,0)
section
variable {N i:Nat} {es:List EZ}
theorem SG (hi:i<es.length):Fj es i++[(((es.getD i BT).1,(es.getD i BT).2.1,0,0):EZ)]=Fj es (i+1):=by
  unfold Fj
  rw [BW (d:=BT) hi,List.map_append];rfl
theorem PF (hi:i<=es.length):(Fj es i).length=i:=by unfold Fj;rw [List.length_map,List.length_take];omega
theorem W1:CS N (Fj es es.length) (Fj es es.length).length=CS N es es.length:=by
  unfold CS Fj
  rw [List.take_length,List.take_length]
  generalize es=l
  induction l with
  | nil=>rfl
  | cons e r ih =>
    rw [List.map_cons,List.filter_cons,List.filter_cons]
    have h:Fg N (e.1,e.2.1,0,0)=Fg N e:=rfl
    rw [h]
    split
    · rw [List.map_cons,List.map_cons,ih];rfl
    · exact ih
end
end
end Go.Proofs.YtpolhpjiahbidaaGreatDoor
