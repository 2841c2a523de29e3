import Derived.Test.YtpolhpjiahbidaaGreatDoorPart26
namespace Go.Proofs.YtpolhpjiahbidaaGreatDoor
open Go Go.RowKit Go.Proofs.Tryz
open Go.Value renaming slice→qw,bool→qa
set_option linter.unusedVariables false
set_option linter.unusedSimpArgs false
section
set_option maxRecDepth 100000
theorem Ht {ps:List Pt} (C:T3) (v1 v2:Value) (x:RX (rowsL BB ps) ps.length) (bo:BX [(qw x.p ps.length x.c),v1,v2]) (bc:BX (Ac C)) (hC:∀r,r<3->CJ C r<ps.length) (hp:ps.length<=1000000) (hz:∀k,DU (IR ps k)<=1000) (i:Nat) (hi:i<3) (w:World) {S:Nat->Prop} (hx:Ro S w x) (hbo:Ro S w bo) (hbc:Ro S w bc):Calls prog 70 #[(vN i),(pP bo.b 0),(pP bc.b 0)] w (Ak w (aG (AY (ED ps C i)))):=by
 have c1:CJ C ((i+1)%3)<ps.length:=hC _ Z
 have c2:CJ C ((i+2)%3)<ps.length:=hC _ Z
 have z1:DU (ps.getD (CJ C ((i+1)%3)) ⟨0,0⟩)<=1000:=hz _
 have z2:DU (ps.getD (CJ C ((i+2)%3)) ⟨0,0⟩)<=1000:=hz _
 have lx:=Bx (W:=w) hx
 have lbo:=Bx (W:=w) hbo
 have lbc:=Bx (W:=w) hbc
 refine AX (args:=[(vN i),(pP bo.b 0),(pP bc.b 0)]) (L:=[AB x.p (rowsL BB ps),AB (some ⟨bo.b,0,none⟩) ([(qw x.p ps.length x.c),v1,v2]),AB (some ⟨bc.b,0,none⟩) (Ac C)]) func70 O O (Av O) (DF hx (DF hbo (DF hbc Ah))) (zN (sL [0,1,2] O) (q4 (al Gt O λb1=>oNl' (q1 (CQ (Db 18++[(18,false),(19,false)]) (sl sr) (Aj (v:=(pP bo.b 0)) O (AA O underlying30 O sizeOf28 O) (Aj O (AK (q:=some ⟨bo.b,0,none⟩) (v:=(qw x.p ps.length x.c)) (off:=0) (i:=1) O O (λe=>by cases e) GG O) (BT O (Aj O (AW (c:=((i+1:Nat):Int)) O O (AU (a:=i) (b:=1) Z)) (Aj O (Dh (c:=(((i+1)%3:Nat):Int)) O O Z (L6 (a:=i+1) (b:=3))) ?_))))))))))
 refine Aj (v:=(pP bc.b ((i+1)%3))) O (AD (j:=(i+1)%3) O O underlying105 sizeOf3 O Z Z) (Aj O (AK (q:=some ⟨bc.b,0,none⟩) (v:=vN (CJ C ((i+1)%3))) (off:=(i+1)%3) (i:=2) (by show _=some (pP _ (0+_));rw [Nat.zero_add];rfl) O (λe=>by cases e) BN (Vj Z)) (Aj (v:=(pP (pB x.p) (pO x.p+(CJ C ((i+1)%3))*10))) O (AF (j:=CJ C ((i+1)%3)) O O x.ok underlying28 sizeOf99 O Z) (Aj (v:=(aG (BB (ps.getD (CJ C ((i+1)%3)) (⟨0,0⟩:Pt))))) O (AQ (vs:=BB (ps.getD (CJ C ((i+1)%3)) (⟨0,0⟩:Pt))) (i:=0) O O (An.ne x.ok Z) HI (Al Bs _ _ _ Z) (Bs _)) (Aj (v:=(pP bo.b 0)) O (AA O underlying30 O sizeOf28 O) (Aj O (AK (q:=some ⟨bo.b,0,none⟩) (v:=(qw x.p ps.length x.c)) (off:=0) (i:=1) O O (λe=>by cases e) GG O) (BT O (Aj O (AW (c:=((i+2:Nat):Int)) O O (AU (a:=i) (b:=2) Z)) (Aj O (Dh (c:=(((i+2)%3:Nat):Int)) O O Z (L6 (a:=i+2) (b:=3))) (Aj (v:=(pP bc.b ((i+2)%3))) O (AD (j:=(i+2)%3) O O underlying105 sizeOf3 O Z Z) (Aj O (AK (q:=some ⟨bc.b,0,none⟩) (v:=vN (CJ C ((i+2)%3))) (off:=(i+2)%3) (i:=2) (by show _=some (pP _ (0+_));rw [Nat.zero_add];rfl) O (λe=>by cases e) BN (Vj Z)) (Aj (v:=(pP (pB x.p) (pO x.p+(CJ C ((i+2)%3))*10))) O (AF (j:=CJ C ((i+2)%3)) O O x.ok underlying28 sizeOf99 O Z) ?_)))))))))))
 refine Aj (v:=(aG (BB (ps.getD (CJ C ((i+2)%3)) (⟨0,0⟩:Pt))))) O (AQ (vs:=BB (ps.getD (CJ C ((i+2)%3)) (⟨0,0⟩:Pt))) (i:=0) O O (An.ne x.ok Z) HI (Al Bs _ _ _ Z) (Bs _)) (zK O ?_)
 have hz1:=FK (ps.getD (CJ C ((i+2)%3)) (⟨0,0⟩:Pt)) (ps.getD (CJ C ((i+1)%3)) (⟨0,0⟩:Pt))
 have hz2:=IT ((ps.getD (CJ C ((i+2)%3)) (⟨0,0⟩:Pt))-(ps.getD (CJ C ((i+1)%3)) (⟨0,0⟩:Pt))) ((ps.getD (CJ C ((i+2)%3)) (⟨0,0⟩:Pt))-(ps.getD (CJ C ((i+1)%3)) (⟨0,0⟩:Pt)))
 exact ck' call71 (Qt (ps.getD (CJ C ((i+1)%3)) (⟨0,0⟩:Pt)) (ps.getD (CJ C ((i+2)%3)) (⟨0,0⟩:Pt)) Z) O (zD (sl sr) (zK O (Ax O sizeOf77 O (zD (sl sr) (zT (zB (sL [4] O) (zA (zF (ret_one O (Ai (i:=0) (cs:=AY (Cz ((ps.getD (CJ C ((i+2)%3)) (⟨0,0⟩:Pt))-(ps.getD (CJ C ((i+1)%3)) (⟨0,0⟩:Pt))) ((ps.getD (CJ C ((i+2)%3)) (⟨0,0⟩:Pt))-(ps.getD (CJ C ((i+1)%3)) (⟨0,0⟩:Pt))))) O O isAgg77 sizeOf77 O) (λw hw=>⟨rfl,hw.out⟩))))))))))
end
section
structure cg (ps:List Pt) (ts:List T3) (ss:List Z3) where
  a:OX 99 10 (rowsL BB ps) ps.length
  b:OX 105 3 (rowsL Ac ts) ts.length
  c:OX 110 3 (rowsL AS ss) ss.length
def eA {ps:List Pt} {ts:List T3} {ss:List Z3} (x:cg ps ts ss):List Value:=[Qu x.a,Qu x.b,Qu x.c]
@[reducible] def ec {ps:List Pt} {ts:List T3} {ss:List Z3} (x:cg ps ts ss):List As:=[rowW x.c.p 110 3 ss.length x.c.c (rowsL AS ss),rowW x.b.p 105 3 ts.length x.b.c (rowsL Ac ts),rowW x.a.p 99 10 ps.length x.a.c (rowsL BB ps)]
theorem CS.toCpN {S:Nat->Prop} {W w:World} {e:Ending} {ps:List Pt} {ts:List T3} {ss:List Z3} (h:CS (λa:bU ps (ts.map Ba) ss=>aG (eB a)) dz S W e w):CS (λa:cg ps ts ss=>aG (eA a)) ec S W e w:=by
  obtain ⟨⟨aa,⟨bp,bc,bok⟩,ac⟩,h1,h2,h3⟩:=h
  have e1:(ts.map Ba).length=ts.length:=xI _
  refine ⟨⟨aa,⟨bp,bc,e1▸bok⟩,ac⟩,?_,h2,?_⟩
  · rw [h1]
    show Ending.returned (aG [Qu aa,.slice bp (ts.map Ba).length (ts.map Ba).length,Qu ac])=.returned (aG [Qu aa,.slice bp ts.length ts.length,Qu ac])
    rw [e1]
  · have h3:V2 S W w [rowW ac.p 110 3 ss.length ac.c (rowsL AS ss),rowW bp 105 3 (ts.map Ba).length bc (rowsL AS (ts.map Ba)),rowW aa.p 99 10 ps.length aa.c (rowsL BB ps)]:=h3
    rw [<-CR,e1] at h3
    exact h3
structure bT (rs:List RP) (zt ss:List Z3) where
  a:OX 121 6 (rowsL BK rs) rs.length
  b:OX 105 3 (rowsL AS zt) zt.length
  c:OX 119 3 (rowsL AS ss) ss.length
def eL {rs:List RP} {zt ss:List Z3} (x:bT rs zt ss):List Value:=[MO x.a,MO x.b,MO x.c]
@[reducible] def di {rs:List RP} {zt ss:List Z3} (x:bT rs zt ss):List As:=[rowW x.c.p 119 3 ss.length x.c.c (rowsL AS ss),rowW x.b.p 105 3 zt.length x.b.c (rowsL AS zt),rowW x.a.p 121 6 rs.length x.a.c (rowsL BK rs)]
structure bw (rs:List RP) (ts:List T3) (ss:List Z3) where
  a:OX 121 6 (rowsL BK rs) rs.length
  b:OX 105 3 (rowsL Ac ts) ts.length
  c:OX 119 3 (rowsL AS ss) ss.length
def eN {rs:List RP} {ts:List T3} {ss:List Z3} (x:bw rs ts ss):List Value:=[MO x.a,MO x.b,MO x.c]
@[reducible] def dm {rs:List RP} {ts:List T3} {ss:List Z3} (x:bw rs ts ss):List As:=[rowW x.c.p 119 3 ss.length x.c.c (rowsL AS ss),rowW x.b.p 105 3 ts.length x.b.c (rowsL Ac ts),rowW x.a.p 121 6 rs.length x.a.c (rowsL BK rs)]
theorem CS.toCpQ {S:Nat->Prop} {W w:World} {e:Ending} {rs:List RP} {ts:List T3} {ss:List Z3} (h:CS (λa:bT rs (ts.map Ba) ss=>aG (eL a)) di S W e w):CS (λa:bw rs ts ss=>aG (eN a)) dm S W e w:=by
  obtain ⟨⟨aa,⟨bp,bc,bok⟩,ac⟩,h1,h2,h3⟩:=h
  have e1:(ts.map Ba).length=ts.length:=xI _
  refine ⟨⟨aa,⟨bp,bc,e1▸bok⟩,ac⟩,?_,h2,?_⟩
  · rw [h1]
    show Ending.returned (aG [MO aa,.slice bp (ts.map Ba).length bc,MO ac])=.returned (aG [MO aa,.slice bp ts.length bc,MO ac])
    rw [e1]
  · have h3:V2 S W w [rowW ac.p 119 3 ss.length ac.c (rowsL AS ss),rowW bp 105 3 (ts.map Ba).length bc (rowsL AS (ts.map Ba)),rowW aa.p 121 6 rs.length aa.c (rowsL BK rs)]:=h3
    rw [<-CR,e1] at h3
    exact h3
section
variable {S:Nat->Prop} {w W:World} {L:List As} {ps:List Pt} {ts:List T3} {zt ss:List Z3}
theorem ah (hw:Own ⟨W,none⟩ w L) (i j k:Nat) {p1 p2 p3:Option Addr} {T1 T2 T3 n1 n2 n3 c1 c2 c3:Nat} (h1:L[i]?=some (rowW p1 T1 10 n1 c1 (rowsL BB ps))) (h2:L[j]?=some (rowW p2 T2 3 n2 c2 (rowsL AS zt))) (h3:L[k]?=some (rowW p3 T3 3 n3 c3 (rowsL AS ss)))
    (o1:OwnOk p1 n1 c1) (o2:OwnOk p2 n2 c2) (o3:OwnOk p3 n3 c3) (e1:n1=ps.length) (e2:n2=zt.length) (e3:n3=ss.length)
    {v:Value} (hv:v=aG [.slice p1 n1 n1,.slice p2 n2 n2,.slice p3 n3 n3]):Ad (MZ ps zt ss) S W (.returned v) w:=by
  subst e1;subst e2;subst e3
  refine ⟨⟨⟨p1,ps.length,o1.clip⟩,⟨p2,zt.length,o2.clip⟩,⟨p3,ss.length,o3.clip⟩⟩,by rw [hv];rfl,hw.out,λy hy=>?_⟩
  have hy:y∈[AB p1 (rowsL BB ps),AB p2 (rowsL AS zt),AB p3 (rowsL AS ss)]:=hy
  simp only [xL,List.not_mem_nil,or_false] at hy
  rcases hy with rfl|rfl|rfl
  · exact C9 hw i h1 o1 (AV Bs _)
  · exact C9 hw j h2 o2 (AV A7 _)
  · exact C9 hw k h3 o3 (AV A7 _)
theorem dF {x:MZ ps zt ss} (h1:Ro S w x.a) (h2:Ro S w x.b) (h3:Ro S w x.c):Ro S w x:=λy hy=>by
  have hy:y∈[x.a.row,x.b.row,x.c.row]:=hy
  simp only [xL,List.not_mem_nil,or_false] at hy
  rcases hy with rfl|rfl|rfl
  · exact h1 _ (xM.2 O)
  · exact h2 _ (xM.2 O)
  · exact h3 _ (xM.2 O)
theorem cf {x:MN ps ts ss} (h1:Ro S w x.a) (h2:Ro S w x.b) (h3:Ro S w x.c):Ro S w x:=λy hy=>by
  have hy:y∈[x.a.row,x.b.row,x.c.row]:=hy
  simp only [xL,List.not_mem_nil,or_false] at hy
  rcases hy with rfl|rfl|rfl
  · exact h1 _ (xM.2 O)
  · exact h2 _ (xM.2 O)
  · exact h3 _ (xM.2 O)
theorem At.mn {w0:BC} {x:MN ps ts ss} (h1:At w0 S x.a) (h2:At w0 S x.b) (h3:At w0 S x.c):At w0 S x:=λy hy b e=>by
  have hy:y∈[x.a.row,x.b.row,x.c.row]:=hy
  simp only [xL,List.not_mem_nil,or_false] at hy
  rcases hy with rfl|rfl|rfl
  · exact h1 _ List.mem_cons_self b e
  · exact h2 _ List.mem_cons_self b e
  · exact h3 _ List.mem_cons_self b e
theorem At.rnt {w0:BC} {x:NP ps ts ss} (h:At w0 S x):∀y∈Bi x.rs,∀b,y.foot=some b->Nw w0 S b:=λy hy=>h y (xG [x.a.row,x.b.row,x.c.row] hy)
end
theorem JL {a b:Rat}:0<=EW a b↔b<=a:=by
  unfold EW
  split
  · exact ⟨λh=>absurd h jY,λh=>by grind⟩
  · split
    · exact ⟨λ_=>by grind,λ_=>by decide⟩
    · exact ⟨λ_=>by grind,λ_=>by decide⟩
theorem Qb (p q:Pt):Cz (p-q) (p-q)=Cz (q-p) (q-p):=by
  obtain ⟨a,b⟩:=p
  obtain ⟨c,d⟩:=q
  show (a-c)*(a-c)+(b-d)*(b-d)=(c-a)*(c-a)+(d-b)*(d-b)
  grind
section
variable {ps:List Pt} {c:T3} {ts:List T3} {f:Nat->Nat} {k:Nat}
theorem Kk:JF ps c 2=if ED ps c 0<ED ps c 1 then 1 else 0:=by
  have e1:JF ps c 1=0:=by rw [FV];split<;>rfl
  rw [FV,e1]
  simp only [MI]
theorem c7 (h1:ED ps c 1<=ED ps c 0) (h2:ED ps c 2<=ED ps c 0):JF ps c 3=0:=by
  have e:JF ps c 2=0:=by rw [Kk,if_neg (by grind)]
  rw [FV,e,if_neg (by rw [MI];grind)]
theorem dJ (h:¬(ED ps c 1<=ED ps c 0/\ED ps c 2<=ED ps c 0)) (h2:ED ps c 2<=ED ps c 1):JF ps c 3=1:=by
  have e:JF ps c 2=1:=by rw [Kk,if_pos (by grind)]
  rw [FV,e,if_neg (by rw [MI];grind)]
theorem ct (h:¬(ED ps c 1<=ED ps c 0/\ED ps c 2<=ED ps c 0)) (h2:¬ED ps c 2<=ED ps c 1):JF ps c 3=2:=by
  by_cases h3:ED ps c 0<ED ps c 1
  · have e:JF ps c 2=1:=by rw [Kk,if_pos h3]
    rw [FV,e,if_pos (by rw [MI];grind)]
  · have e:JF ps c 2=0:=by rw [Kk,if_neg h3]
    rw [FV,e,if_pos (by rw [MI];grind)]
theorem Te (hk:k<ts.length) (h0:f k=0):CL ts f (k+1)=CL ts f k:=by
  have hg:=G6 f k k Z hk
  rw [if_neg (Nat.lt_irrefl _)] at hg
  show (CL ts f k).set k (Tk (ts.getD k (0,0,0)) (f k))=_
  rw [h0,T9,<-hg,List.getD,xN (by rw [Dm];exact hk)]
  exact List.set_getElem_self _
theorem Oz {i:Nat} {T:T3} (hk:k<ts.length) (hT:T=ts.getD k (0,0,0)) (hi:f k=i) (h3:i<3):(CL ts f k).set k (CJ T i,CJ T ((i+1)%3),CJ T ((i+2)%3))=CL ts f (k+1):=Ms hk (by rw [G6 f k k Z hk,if_neg (Nat.lt_irrefl _),hT]) hi.symm h3
end
def Mz (ps:List Pt) (zt:List Z3):List Z3:=if DG ps.length zt=true then (CL (zt.map DN) (Fk ps (zt.map DN)) zt.length).map Ba else zt
theorem SH {ps:List Pt} {zt:List Z3}:(Mz ps zt).length=zt.length:=by
  unfold Mz
  split
  · rw [xI,Dm,xI]
  · rfl
end
end Go.Proofs.YtpolhpjiahbidaaGreatDoor
