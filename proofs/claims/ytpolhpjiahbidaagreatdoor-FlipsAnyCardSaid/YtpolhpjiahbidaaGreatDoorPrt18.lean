import Derived.Test.YtpolhpjiahbidaaGreatDoorPrt17
namespace Go.Proofs.YtpolhpjiahbidaaGreatDoor
open Go Go.RowKit Go.Proofs.Tryz
open Go.Value renaming slice→qz,bool→qa
set_option linter.unusedVariables false
set_option linter.unusedSimpArgs false
section
section
variable {N:Nat} {ts:List T3} {zs ss:List Z3} {ps:List Pt}
theorem GM (ts:List T3):(ts.map CH).map HD=ts:=by
  rw [List.map_map]
  conv=>rhs;rw [<-List.map_id ts]
  exact List.map_congr_left λt _=>rfl
theorem ZK (t:T3):NA N (CH t)=MV N t:=by
  obtain ⟨a,b,c⟩:=t
  unfold NA MV CH BL
  rw [Bool.eq_iff_iff]
  simp only [xZ,xV,xT,xS]
  omega
theorem JP:DA N (ts.map CH)=Bn N ts:=by
  unfold DA Bn
  rw [List.all_map]
  congr 1
  funext t
  exact ZK t
theorem Tq {z:Z3} (h:NA N z=true):CH (HD z)=z:=by
  obtain ⟨a,b,c⟩:=z
  unfold NA BL at h
  simp only [xZ,xV,xT,xS] at h
  obtain ⟨⟨⟨⟨⟨⟨h1,h2⟩,h3,h4⟩,h5,h6⟩,h7⟩,h8⟩,h9⟩:=h
  exact Prod.ext (Int.toNat_of_nonneg h1) (Prod.ext (Int.toNat_of_nonneg h3) (Int.toNat_of_nonneg h5))
theorem GO (h:DA N zs=true):∃ts:List T3,zs=ts.map CH/\Bn N ts=true:=by
  refine ⟨zs.map HD,?_,(Wq h).1⟩
  rw [List.map_map]
  conv=>lhs;rw [<-List.map_id zs]
  exact List.map_congr_left λz hz=>(Tq (List.all_eq_true.1 h z hz)).symm
end
structure MN (ps:List Pt) (ts:List T3) (ss:List Z3) where
  a:RX (rowsL Ad ps) ps.length
  b:RX (rowsL Am ts) ts.length
  c:RX (rowsL Af ss) ss.length
def Ca {ps:List Pt} {ts:List T3} {ss:List Z3} (x:MN ps ts ss):List Value:=[x.a.val,x.b.val,x.c.val]
theorem Wb {ps:List Pt} {ts:List T3} {ss:List Z3} {x:MN ps ts ss} {y:As} (hy:y∈[x.a.row,x.b.row,x.c.row]):y.ro=true:=by
  simp only [xy,List.not_mem_nil,or_false] at hy
  rcases hy with rfl|rfl|rfl<;>rfl
instance {ps:List Pt} {ts:List T3} {ss:List Z3}:Cl (MN ps ts ss):=⟨λx=>aG (Ca x),λx=>[x.a.row,x.b.row,x.c.row],λx y hy=>Wb hy⟩
section
variable {N:Nat} {ts:List T3} {zs ss:List Z3} {ps:List Pt}
theorem aR (x:MN ps ts ss):∃y:RM ps.length ts (List.replicate ss.length (0,0,0)),GC y=Ca x/\∀{S:Nat->Prop} {w:World},Ro S w x->Ro S w y:=by
  obtain ⟨a,b,⟨cp,cc,cok⟩⟩:=x
  have hk:ss.length=(List.replicate ss.length jJ).length:=(List.length_replicate).symm
  refine ⟨⟨rowsL Ad ps,rowsL Af ss,a,b,⟨cp,cc,hk▸cok⟩⟩,?_,λ{S w} hx y hy=>hx y hy⟩
  show [a.val,b.val,.slice cp (List.replicate ss.length jJ).length cc]=[a.val,b.val,.slice cp ss.length cc]
  rw [<-hk]
theorem PY (x:MN ps ts ss):∃y:MZ ps (ts.map CH) ss,Cv y=Ca x/\∀{S:Nat->Prop} {w:World},Ro S w x->Ro S w y:=by
  obtain ⟨a,⟨bp,bc,bok⟩,c⟩:=x
  have hk:ts.length=(ts.map CH).length:=(xv _).symm
  refine ⟨⟨a,⟨bp,bc,hk▸bok⟩,c⟩,?_,λ{S w} hx y hy=>?_⟩
  · show [a.val,.slice bp (ts.map CH).length bc,c.val]=[a.val,.slice bp ts.length bc,c.val]
    rw [<-hk]
  · have hy:y∈[a.row,AC bp (rowsL Af (ts.map CH)),c.row]:=hy
    rw [<-C6] at hy
    exact hx y hy
theorem Wh (x:MZ ps (ts.map CH) ss):∃y:MN ps ts ss,Ca y=Cv x/\∀{S:Nat->Prop} {w:World},Ro S w x->Ro S w y:=by
  obtain ⟨a,⟨bp,bc,bok⟩,c⟩:=x
  have hk:(ts.map CH).length=ts.length:=xv _
  refine ⟨⟨a,⟨bp,bc,hk▸bok⟩,c⟩,?_,λ{S w} hx y hy=>?_⟩
  · show [a.val,.slice bp ts.length bc,c.val]=[a.val,.slice bp (ts.map CH).length bc,c.val]
    rw [hk]
  · have hy:y∈[a.row,AC bp (rowsL Am ts),c.row]:=hy
    rw [C6] at hy
    exact hx y hy
end
structure I5 (ps:List Pt) (ts:List T3) (ss:List Z3) where
  rs:List RP
  e:rs.map (·.p)=ps
  a:RX (rowsL CW rs) rs.length
  b:RX (rowsL Am ts) ts.length
  c:RX (rowsL Af ss) ss.length
def Dj {ps:List Pt} {ts:List T3} {ss:List Z3} (x:I5 ps ts ss):List Value:=[x.a.val,x.b.val,x.c.val]
theorem d_ {ps:List Pt} {ts:List T3} {ss:List Z3} {x:I5 ps ts ss} {y:As} (hy:y∈[x.a.row,x.b.row,x.c.row]++B5 x.rs):y.ro=true:=by
  rcases List.mem_append.1 hy with hy|hy
  · simp only [xy,List.not_mem_nil,or_false] at hy
    rcases hy with rfl|rfl|rfl<;>rfl
  · exact OF hy
instance {ps:List Pt} {ts:List T3} {ss:List Z3}:Cl (I5 ps ts ss):=⟨λx=>aG (Dj x),λx=>[x.a.row,x.b.row,x.c.row]++B5 x.rs,λx y hy=>d_ hy⟩
section
variable {N:Nat} {ts:List T3} {zs ss:List Z3} {ps:List Pt}
theorem I5.len (x:I5 ps ts ss):x.rs.length=ps.length:=by
  have h:=congrArg List.length x.e
  rwa [xv] at h
theorem I5.at (x:I5 ps ts ss) {i:Nat} (h:i<x.rs.length):(x.rs.getD i Cn).p=ps.getD i ⟨0,0⟩:=by
  have h1:(x.rs.map (·.p)).getD i ⟨0,0⟩=ps.getD i ⟨0,0⟩:=congrArg (λl=>l.getD i ⟨0,0⟩) x.e
  rw [<-h1]
  simp [h]
theorem So (x:I5 ps ts ss):∃y:RM x.rs.length ts (List.replicate ss.length (0,0,0)),GC y=Dj x/\∀{S:Nat->Prop} {w:World},Ro S w x->Ro S w y:=by
  obtain ⟨rs,e,a,b,⟨cp,cc,cok⟩⟩:=x
  have hk:ss.length=(List.replicate ss.length jJ).length:=(List.length_replicate).symm
  refine ⟨⟨rowsL CW rs,rowsL Af ss,a,b,⟨cp,cc,hk▸cok⟩⟩,?_,λ{S w} hx y hy=>hx y (List.mem_append_left (B5 rs) hy)⟩
  show [a.val,b.val,.slice cp (List.replicate ss.length jJ).length cc]=[a.val,b.val,.slice cp ss.length cc]
  rw [<-hk]
theorem XL (x:I5 ps ts ss):∃y:Hy ps (ts.map CH) ss,HN y=Dj x/\y.rs=x.rs/\∀{S:Nat->Prop} {w:World},Ro S w x->Ro S w y:=by
  obtain ⟨rs,e,a,⟨bp,bc,bok⟩,c⟩:=x
  have hk:ts.length=(ts.map CH).length:=(xv _).symm
  refine ⟨⟨rs,e,a,⟨bp,bc,hk▸bok⟩,c⟩,?_,rfl,λ{S w} hx y hy=>?_⟩
  · show [a.val,.slice bp (ts.map CH).length bc,c.val]=[a.val,.slice bp ts.length bc,c.val]
    rw [<-hk]
  · have hy:y∈[a.row,AC bp (rowsL Af (ts.map CH)),c.row]++B5 rs:=hy
    rw [<-C6] at hy
    exact hx y hy
theorem XQ (x:Hy ps (ts.map CH) ss):∃y:I5 ps ts ss,Dj y=HN x/\y.rs=x.rs/\∀{S:Nat->Prop} {w:World},Ro S w x->Ro S w y:=by
  obtain ⟨rs,e,a,⟨bp,bc,bok⟩,c⟩:=x
  have hk:(ts.map CH).length=ts.length:=xv _
  refine ⟨⟨rs,e,a,⟨bp,bc,hk▸bok⟩,c⟩,?_,rfl,λ{S w} hx y hy=>?_⟩
  · show [a.val,.slice bp ts.length bc,c.val]=[a.val,.slice bp (ts.map CH).length bc,c.val]
    rw [hk]
  · have hy:y∈[a.row,AC bp (rowsL Am ts),c.row]++B5 rs:=hy
    rw [C6] at hy
    exact hx y hy
end
theorem fb {w0:BA} {S:Nat->Prop} {L:List As} {w:World} {ps:List Pt} {ts:List T3} {ss:List Z3} {x:I5 ps ts ss} (hw:BE w0 w L) (i:Nat) (hi:(L.drop i).take 3=[x.a.row,x.b.row,x.c.row]) (hs:∀y∈B5 x.rs,y∈L) (ha:At w0 S x):Ro (SL w0 S L) w x:=λy hy=>by
  have hy':y∈[x.a.row,x.b.row,x.c.row]++B5 x.rs:=hy
  have hm:y∈L:=by
    rcases List.mem_append.1 hy' with hy|hy
    · exact List.mem_of_mem_drop (List.mem_of_mem_take (hi▸hy))
    · exact hs y hy
  exact ⟨λb e=>(hw.2.1 y hm b e).2,λb e=>⟨⟨y,hm,Cl.ro x y hy,e⟩,ha y hy b e⟩⟩
def gY (e:E4):EZ:=((e.a:Int),(e.b:Int),e.l,e.r)
structure gO (ps:List Pt) (ts ss:List Z3) where
  m:MZ ps ts ss
  ha:m.a.c=ps.length
  hb:m.b.c=ts.length
instance {ps:List Pt} {ts ss:List Z3}:Cl (gO ps ts ss):=⟨λx=>aG (Cv x.m),λx=>[x.m.a.row,x.m.b.row,x.m.c.row],λx y hy=>Sd hy⟩
structure gP (ps:List Pt) (ts ss:List Z3) (l:List Nat) (e:Nat) where
  x:gO ps ts ss
  q:CX (dj l) l.length
instance {ps:List Pt} {ts ss:List Z3} {l:List Nat} {e:Nat}:Cl (gP ps ts ss l e):=⟨λr=>.tuple #[aG (Cv r.x.m),.slice r.q.p l.length l.length,vN e],λr=>[r.x.m.a.row,r.x.m.b.row,r.x.m.c.row,AC r.q.p (dj l)],λr y hy=>by
  rcases List.mem_append.1 (show y∈[r.x.m.a.row,r.x.m.b.row,r.x.m.c.row]++[AC r.q.p (dj l)] from hy) with hy|hy
  · exact Sd hy
  · rcases xz.1 hy with rfl;rfl⟩
structure gn (ps:List Pt) (ts ss:List Z3) (l:List Nat) (e:Nat) where
  x:Hy ps ts ss
  q:RX (dj l) l.length
instance {ps:List Pt} {ts ss:List Z3} {l:List Nat} {e:Nat}:Cl (gn ps ts ss l e):=⟨λr=>.tuple #[aG (HN r.x),r.q.val,vN e],λr=>r.q.row::([r.x.a.row,r.x.b.row,r.x.c.row]++B5 r.x.rs),λr y hy=>by
  rcases xy.1 hy with rfl|hy
  · rfl
  · exact XR hy⟩
section
variable {N M i j a b:Nat} {ts:List T3}
end
end
section
section
variable {n j:Nat} {ms:List Int}
end
section
variable {es:List E4} {x y j i N a b:Nat} {ts:List T3} {ms:List Int} {bs:List Bool}
end
def gS (N:Nat) (l:List E4):List P2:=iP N (l.map gY) (l.map gY).length
def gR (N:Nat) (l:List E4) (ts:List T3):List Z3:=(fa (Tm N l l.length) ts).map CH
structure gj (ps:List Pt) (ts:List T3) (ss:List Z3) (ms:List Int) where
  l:List E4
  cut:e_ ts ms l
  x:gP (iG ps (gS ps.length l)) (gR ps.length l ts) (fX ps.length ss (gS ps.length l) (gR ps.length l ts)) (fZ (Tm ps.length l l.length) ts ts.length) 0
instance {ps:List Pt} {ts:List T3} {ss:List Z3} {ms:List Int}:Cl (gj ps ts ss ms):=⟨λb=>Cl.val b.x,λb=>Cl.rows b.x,λb y hy=>Cl.ro b.x y hy⟩
end
section
structure aB (ps:List Pt) (ts:List T3) (ss:List Z3) where
  a:OX 99 10 (rowsL Ad ps) ps.length
  b:OX 105 3 (rowsL Am ts) ts.length
  c:OX 110 3 (rowsL Af ss) ss.length
def c9 {ps:List Pt} {ts:List T3} {ss:List Z3} (x:aB ps ts ss):List Value:=[Ul x.a,Ul x.b,Ul x.c]
@[reducible] def c_ {ps:List Pt} {ts:List T3} {ss:List Z3} (x:aB ps ts ss):List As:=[rowW x.c.p 110 3 ss.length x.c.c (rowsL Af ss),rowW x.b.p 105 3 ts.length x.b.c (rowsL Am ts),rowW x.a.p 99 10 ps.length x.a.c (rowsL Ad ps)]
theorem DC.toCpN {S:Nat->Prop} {W w:World} {e:Ending} {ps:List Pt} {ts:List T3} {ss:List Z3} (h:DC (λa:dF ps (ts.map CH) ss=>aG (gV a)) gW S W e w):DC (λa:aB ps ts ss=>aG (c9 a)) c_ S W e w:=by
  obtain ⟨⟨aa,⟨bp,bc,bok⟩,ac⟩,h1,h2,h3⟩:=h
  have e1:(ts.map CH).length=ts.length:=xv _
  refine ⟨⟨aa,⟨bp,bc,e1▸bok⟩,ac⟩,?_,h2,?_⟩
  · rw [h1]
    show Ending.returned (aG [Ul aa,.slice bp (ts.map CH).length (ts.map CH).length,Ul ac])=.returned (aG [Ul aa,.slice bp ts.length ts.length,Ul ac])
    rw [e1]
  · have h3:U5 S W w [rowW ac.p 110 3 ss.length ac.c (rowsL Af ss),rowW bp 105 3 (ts.map CH).length bc (rowsL Af (ts.map CH)),rowW aa.p 99 10 ps.length aa.c (rowsL Ad ps)]:=h3
    rw [<-C6,e1] at h3
    exact h3
structure dE (rs:List RP) (zt ss:List Z3) where
  a:OX 121 6 (rowsL CW rs) rs.length
  b:OX 105 3 (rowsL Af zt) zt.length
  c:OX 119 3 (rowsL Af ss) ss.length
def gT {rs:List RP} {zt ss:List Z3} (x:dE rs zt ss):List Value:=[Pc x.a,Pc x.b,Pc x.c]
@[reducible] def gU {rs:List RP} {zt ss:List Z3} (x:dE rs zt ss):List As:=[rowW x.c.p 119 3 ss.length x.c.c (rowsL Af ss),rowW x.b.p 105 3 zt.length x.b.c (rowsL Af zt),rowW x.a.p 121 6 rs.length x.a.c (rowsL CW rs)]
structure dD (rs:List RP) (ts:List T3) (ss:List Z3) where
  a:OX 121 6 (rowsL CW rs) rs.length
  b:OX 105 3 (rowsL Am ts) ts.length
  c:OX 119 3 (rowsL Af ss) ss.length
def fR {rs:List RP} {ts:List T3} {ss:List Z3} (x:dD rs ts ss):List Value:=[Pc x.a,Pc x.b,Pc x.c]
@[reducible] def fS {rs:List RP} {ts:List T3} {ss:List Z3} (x:dD rs ts ss):List As:=[rowW x.c.p 119 3 ss.length x.c.c (rowsL Af ss),rowW x.b.p 105 3 ts.length x.b.c (rowsL Am ts),rowW x.a.p 121 6 rs.length x.a.c (rowsL CW rs)]
theorem DC.toCpQ {S:Nat->Prop} {W w:World} {e:Ending} {rs:List RP} {ts:List T3} {ss:List Z3} (h:DC (λa:dE rs (ts.map CH) ss=>aG (gT a)) gU S W e w):DC (λa:dD rs ts ss=>aG (fR a)) fS S W e w:=by
  obtain ⟨⟨aa,⟨bp,bc,bok⟩,ac⟩,h1,h2,h3⟩:=h
  have e1:(ts.map CH).length=ts.length:=xv _
  refine ⟨⟨aa,⟨bp,bc,e1▸bok⟩,ac⟩,?_,h2,?_⟩
  · rw [h1]
    show Ending.returned (aG [Pc aa,.slice bp (ts.map CH).length bc,Pc ac])=.returned (aG [Pc aa,.slice bp ts.length bc,Pc ac])
    rw [e1]
  · have h3:U5 S W w [rowW ac.p 119 3 ss.length ac.c (rowsL Af ss),rowW bp 105 3 (ts.map CH).length bc (rowsL Af (ts.map CH)),rowW aa.p 121 6 rs.length aa.c (rowsL CW rs)]:=h3
    rw [<-C6,e1] at h3
    exact h3
section
variable {S:Nat->Prop} {w W:World} {L:List As} {ps:List Pt} {ts:List T3} {zt ss:List Z3}
theorem Wa {x:MN ps ts ss} (h1:Ro S w x.a) (h2:Ro S w x.b) (h3:Ro S w x.c):Ro S w x:=λy hy=>by
  have hy:y∈[x.a.row,x.b.row,x.c.row]:=hy
  simp only [xy,List.not_mem_nil,or_false] at hy
  rcases hy with rfl|rfl|rfl
  · exact h1 _ (xz.2 O)
  · exact h2 _ (xz.2 O)
  · exact h3 _ (xz.2 O)
theorem At.mn {w0:BA} {x:MN ps ts ss} (h1:At w0 S x.a) (h2:At w0 S x.b) (h3:At w0 S x.c):At w0 S x:=λy hy b e=>by
  have hy:y∈[x.a.row,x.b.row,x.c.row]:=hy
  simp only [xy,List.not_mem_nil,or_false] at hy
  rcases hy with rfl|rfl|rfl
  · exact h1 _ List.mem_cons_self b e
  · exact h2 _ List.mem_cons_self b e
  · exact h3 _ List.mem_cons_self b e
theorem At.rnt {w0:BA} {x:I5 ps ts ss} (h:At w0 S x):∀y∈B5 x.rs,∀b,y.foot=some b->Nw w0 S b:=λy hy=>h y (xt [x.a.row,x.b.row,x.c.row] hy)
end
theorem Rb (p q:Pt):Av (p-q) (p-q)=Av (q-p) (q-p):=by
  obtain ⟨a,b⟩:=p
  obtain ⟨c,d⟩:=q
  show (a-c)*(a-c)+(b-d)*(b-d)=(c-a)*(c-a)+(d-b)*(d-b)
  grind
section
variable {ps:List Pt} {c:T3} {ts:List T3} {f:Nat->Nat} {k:Nat}
end
end
section
def inG:List E4->Int->Int->Nat->Int
  | [],_,_,_ => -1
  | e::r,x,y,i=>if (e.a:Int)=x/\(e.b:Int)=y then (i:Int) else inG r x y (i+1)
section
variable {es:List E4} {x y:Int} {j i N a b c:Nat} {ts:List T3}
theorem PO (hj:j<es.length) (h:¬(((es.getD j E0).a:Int)=x/\((es.getD j E0).b:Int)=y)):inG (es.drop j) x y j=inG (es.drop (j+1)) x y (j+1):=by
  rw [Ft (d:=E0) hj];exact if_neg h
theorem ST (hj:j<es.length) (h:((es.getD j E0).a:Int)=x/\((es.getD j E0).b:Int)=y):inG (es.drop j) x y j=(j:Int):=by
  rw [Ft (d:=E0) hj];exact if_pos h
theorem SS (hj:¬j<es.length):inG (es.drop j) x y j = -1:=by
  rw [List.drop_eq_nil_of_le Z];rfl
theorem PM:∀(es:List E4) (i:Nat),(inG es x y i = -1/\∀e∈es,¬((e.a:Int)=x/\(e.b:Int)=y))\/∃j,j<es.length/\inG es x y i=((i+j:Nat):Int)/\((es.getD j E0).a:Int)=x/\((es.getD j E0).b:Int)=y
  | [],i=>.inl ⟨rfl,λe h=>by cases h⟩
  | e::r,i=>by
    by_cases h:(e.a:Int)=x/\(e.b:Int)=y
    · exact .inr ⟨0,Nat.succ_pos _,if_pos h,h.1,h.2⟩
    · have e1:inG (e::r) x y i=inG r x y (i+1):=if_neg h
      rcases PM r (i+1) with ⟨h1,h2⟩|⟨j,h1,h2,h3,h4⟩
      · exact .inl ⟨by rw [e1,h1],λd hd=>by rcases xy.1 hd with rfl|hd;exact h;exact h2 d hd⟩
      · exact .inr ⟨j+1,Nat.succ_lt_succ h1,by rw [e1,h2];congr 1;omega,h3,h4⟩
def FC (ts:List T3) (x y:Int):Int:=inG (BI ts) (min x y) (max x y) 0
theorem HZ (ts:List T3) (x y:Int):FC ts x y = -1\/∃j,j<(BI ts).length/\FC ts x y=(j:Int):=by
  rcases PM (x:=min x y) (y:=max x y) (BI ts) 0 with ⟨h,_⟩|⟨j,h1,h2,_⟩
  · exact .inl h
  · exact .inr ⟨j,h1,by unfold FC;rw [h2,Nat.zero_add]⟩
def Jy (t:T3) (a b:Nat):Nat:=t.1+t.2.1+t.2.2-a-b
def farR (t:T3) (a b:Nat):Int:=if t.1≠a/\t.1≠b then (t.1:Int) else if t.2.1≠a/\t.2.1≠b then (t.2.1:Int) else if t.2.2≠a/\t.2.2≠b then (t.2.2:Int) else -1
structure VA (N:Nat) (t:T3) (a b c:Nat):Prop where
  w:(t.1=a/\t.2.1=b/\t.2.2=c)\/(t.2.1=a/\t.2.2=b/\t.1=c)\/(t.2.2=a/\t.1=b/\t.2.1=c)
  ab:a≠b
  bc:b≠c
  ca:c≠a
  a:a<N
  b:b<N
  c:c<N
theorem VA.far {t:T3} (h:VA N t a b c):Jy t a b=c/\Jy t b a=c/\a+b<=t.1+t.2.1+t.2.2:=by
  have:=h.w;unfold Jy;omega
theorem VA.farR {t:T3} (h:VA N t a b c):farR t a b=(c:Int)/\farR t b a=(c:Int):=by
  have h1:=h.ab;have h2:=h.bc;have h3:=h.ca
  unfold Go.Proofs.YtpolhpjiahbidaaGreatDoor.farR
  rcases h.w with ⟨e1,e2,e3⟩|⟨e1,e2,e3⟩|⟨e1,e2,e3⟩<;>rw [e1,e2,e3]<;>constructor<;>(repeat' split)<;>omega
theorem Xa (hn:Bn N ts=true) {z:Int} (h:HX ts (3*ts.length) a b z) (hz:0<=z):∃t,t<ts.length/\z=(t:Int)/\∃c,VA N (ts.getD t (0,0,0)) a b c:=by
  rcases h with ⟨h1,_⟩|⟨u,h1,h2,h3,_⟩
  · omega
  · refine ⟨u/3,Z,h2,?_⟩
    have hk:=Cs hn (show u/3<ts.length by omega)
    unfold CT at h3
    generalize ts.getD (u/3) (0,0,0)=T at h3 hk
    obtain ⟨p,q,r⟩:=T
    simp only [MV,xZ,xV,xT,xS] at hk
    obtain ⟨⟨⟨⟨⟨g1,g2⟩,g3⟩,g4⟩,g5⟩,g6⟩:=hk
    have h4:u%3<3:=Nat.mod_lt _ jY
    generalize u%3=s at h3 h4
    injection h3 with e1 e2
    rcases (by omega:s=0\/s=1\/s=2) with rfl|rfl|rfl<;>simp [FH] at e1 e2<;>subst e1 e2
    · exact ⟨r,⟨.inl ⟨rfl,rfl,rfl⟩,g4,g5,g6,g1,g2,g3⟩⟩
    · exact ⟨p,⟨.inr (.inl ⟨rfl,rfl,rfl⟩),g5,g6,g4,g2,g3,g1⟩⟩
    · exact ⟨q,⟨.inr (.inr ⟨rfl,rfl,rfl⟩),g6,g4,g5,g3,g1,g2⟩⟩
end
structure PR where
  e:E4
  c:Nat
  d:Nat
def Jp (p:PR):List Value:=[vN p.e.a,vN p.e.b,.int .i64 p.e.l,.int .i64 p.e.r,vN p.c,vN p.d]
structure Uf (N:Nat) (ts:List T3) (e:E4) (p q c d:Nat):Prop where
  l:e.l=(p:Int)
  r:e.r=(q:Int)
  pl:p<ts.length
  ql:q<ts.length
  sc:VA N (ts.getD p (0,0,0)) e.a e.b c
  sd:VA N (ts.getD q (0,0,0)) e.b e.a d
theorem JZ {N:Nat} {ts:List T3} (hn:Bn N ts=true) (hN:N<=4611686018427387904) {e:E4} (he:e∈BI ts) (hl:0<=e.l) (hr:0<=e.r):∃p q c d,Uf N ts e p q c d:=by
  have h:=(Ig hn hN).1 he
  obtain ⟨p,h1,h2,c,h3⟩:=Xa hn h.l hl
  obtain ⟨q,h4,h5,d,h6⟩:=Xa hn h.r hr
  exact ⟨p,q,c,d,⟨h2,h5,h1,h4,h3,h6⟩⟩
theorem Uf.far {N:Nat} {ts:List T3} {e:E4} {p q c d:Nat} (h:Uf N ts e p q c d):c=Jy (ts.getD e.l.toNat (0,0,0)) e.a e.b/\d=Jy (ts.getD e.r.toNat (0,0,0)) e.a e.b:=by
  rw [h.l,h.r];exact ⟨h.sc.far.1.symm,h.sd.far.2.1.symm⟩
def Es (a b c d:Pt):Int:=(Av (a-d) (a-d)*Ar (b-d) (c-d)+Av (b-d) (b-d)*Ar (c-d) (a-d)+Av (c-d) (c-d)*Ar (a-d) (b-d)).num.sign*(Aa a b c).num.sign
def Kn (a b c d:Pt):Int:=if Aa a b c=0 then 0 else E5 (Av (a-Ey a b c) (a-Ey a b c)) (Av (d-Ey a b c) (d-Ey a b c))
theorem VY (a b c d:Pt):Kn a b c d=Es a b c d:=by
  unfold Kn Es
  by_cases h:Aa a b c=0
  · rw [if_pos h,h];show _=_*(0:Int);omega
  · rw [if_neg h,Qc h]
theorem eI (z:Int):z.sign = -1\/z.sign=0\/z.sign=1:=by
  rcases Int.lt_trichotomy z 0 with h|h|h
  · exact .inl (Int.sign_eq_neg_one_of_neg h)
  · exact .inr (.inl (by rw [h];rfl))
  · exact .inr (.inr (Int.sign_eq_one_of_pos h))
theorem VX (a b c d:Pt):Es a b c d<=0↔Es a b c d≠1:=by
  unfold Es
  rcases eI (Av (a-d) (a-d)*Ar (b-d) (c-d)+Av (b-d) (b-d)*Ar (c-d) (a-d)+Av (c-d) (c-d)*Ar (a-d) (b-d)).num with h|h|h<;>rcases eI (Aa a b c).num with g|g|g<;>rw [h,g]<;>decide
def Ew (ps:List Pt) (ts:List T3) (e:E4):Bool:=if 0<=e.l/\0<=e.r then decide (Es (BQ ps e.a) (BQ ps e.b) (BQ ps (Jy (ts.getD e.l.toNat (0,0,0)) e.a e.b)) (BQ ps (Jy (ts.getD e.r.toNat (0,0,0)) e.a e.b))≠1) else true
theorem SU {ps:List Pt} {ts:List T3} {e:E4} (h:¬(0<=e.l/\0<=e.r)):Ew ps ts e=true:=if_neg h
theorem PS {ps:List Pt} {ts:List T3} {e:E4} {p q c d:Nat} (h:Uf ps.length ts e p q c d):Ew ps ts e=decide (Es (BQ ps e.a) (BQ ps e.b) (BQ ps c) (BQ ps d)≠1):=by
  unfold Ew
  rw [if_pos ⟨by rw [h.l];omega,by rw [h.r];omega⟩,<-h.far.1,<-h.far.2]
def Y9 (ps:List Pt) (ts:List T3) (x y:Int):Bool:=if FC ts x y<0 then false else Ew ps ts ((BI ts).getD (FC ts x y).toNat E0)
def Y_ (ts:List T3) (x y:Int):Nat:=if FC ts x y<0 then 1 else 0
theorem KS {ps:List Pt} {ts:List T3} {x y:Int} (h:FC ts x y<0):Y9 ps ts x y=false/\Y_ ts x y=1:=⟨if_pos h,if_pos h⟩
theorem N4 {ps:List Pt} {ts:List T3} {x y:Int} {j:Nat} (h:FC ts x y=(j:Int)):Y9 ps ts x y=Ew ps ts ((BI ts).getD j E0)/\Y_ ts x y=0:=by
  unfold Y9 Y_
  rw [h,if_neg Z,if_neg Z];exact ⟨rfl,rfl⟩
def F_ (ps:List Pt) (a b c d:Nat):Bool:=decide ((Aa (BQ ps a) (BQ ps d) (BQ ps c)).num.sign=1)&&decide ((Aa (BQ ps d) (BQ ps b) (BQ ps c)).num.sign=1)
theorem PF {ps:List Pt} {a b c d:Nat} (h:(Aa (BQ ps a) (BQ ps d) (BQ ps c)).num.sign≠1):F_ ps a b c d=false:=by unfold F_;rw [xq h];rfl
theorem PG {ps:List Pt} {a b c d:Nat} (h:(Aa (BQ ps d) (BQ ps b) (BQ ps c)).num.sign≠1):F_ ps a b c d=false:=by unfold F_;rw [xq h,Bool.and_false]
theorem PH {ps:List Pt} {a b c d:Nat} (h1:(Aa (BQ ps a) (BQ ps d) (BQ ps c)).num.sign=1) (h2:(Aa (BQ ps d) (BQ ps b) (BQ ps c)).num.sign=1):F_ ps a b c d=true:=by unfold F_;rw [xr h1,xr h2];rfl
def Ia (ts:List T3) (a b p q c d:Nat):List T3:=(ts.set p (a,d,c)).set q (d,b,c)
def MT (ps:List Pt) (ts:List T3) (a b p q c d:Nat):List T3:=if F_ ps a b c d=true then Ia ts a b p q c d else ts
theorem V0 {ps:List Pt} {ts:List T3} {a b p q c d:Nat}:(MT ps ts a b p q c d).length=ts.length:=by
  unfold MT Ia;split
  · rw [List.length_set,List.length_set]
  · rfl
theorem KO {ps:List Pt} {ts:List T3} {a b p q c d:Nat} (h:F_ ps a b c d=false):MT ps ts a b p q c d=ts:=if_neg (by rw [h];decide)
theorem PI {ps:List Pt} {ts:List T3} {a b p q c d:Nat} (h:F_ ps a b c d=true):MT ps ts a b p q c d=Ia ts a b p q c d:=if_pos h
def Dr (ts:List T3) (x y:Int):E4:=if FC ts x y<0 then E0 else (BI ts).getD (FC ts x y).toNat E0
theorem Kv {ts:List T3} {x y:Int} {j:Nat} (h:FC ts x y=(j:Int)):Dr ts x y=(BI ts).getD j E0/\decide (0<=FC ts x y)=true:=by
  unfold Dr;rw [h,if_neg Z];exact ⟨rfl,xr Z⟩
theorem Vp {ts:List T3} {x y:Int} (h:FC ts x y = -1):Dr ts x y=E0/\decide (0<=FC ts x y)=false:=by
  unfold Dr;rw [h,if_pos Z];exact ⟨rfl,rfl⟩
theorem Ga {ts:List T3} {x y:Int} (h:0<=FC ts x y):Dr ts x y∈BI ts:=by
  rcases HZ ts x y with h1|⟨j,h1,h2⟩
  · omega
  · rw [(Kv h2).1,List.getD,xN h1];exact List.getElem_mem h1
def Cm (e:E4):Bool:=decide (0<=e.l)&&decide (0<=e.r)
theorem EA {e:E4}:Cm e=true↔0<=e.l/\0<=e.r:=by unfold Cm;rw [xZ,xT,xT]
def CB (ts:List T3) (e:E4):PR:=if 0<=e.l/\0<=e.r then ⟨e,Jy (ts.getD e.l.toNat (0,0,0)) e.a e.b,Jy (ts.getD e.r.toNat (0,0,0)) e.a e.b⟩ else ⟨e,0,0⟩
theorem C5 {N:Nat} {ts:List T3} {e:E4} {p q c d:Nat} (h:Uf N ts e p q c d):CB ts e=⟨e,c,d⟩/\Cm e=true:=by
  unfold CB
  rw [if_pos ⟨by rw [h.l];omega,by rw [h.r];omega⟩,<-h.far.1,<-h.far.2]
  exact ⟨rfl,EA.2 ⟨by rw [h.l];omega,by rw [h.r];omega⟩⟩
theorem Pf {ts:List T3} {e:E4} (h:¬(0<=e.l/\0<=e.r)):CB ts e=⟨e,0,0⟩/\Cm e=false:=by
  unfold CB
  rw [if_neg h]
  exact ⟨rfl,by rw [Bool.eq_false_iff];exact λh9=>h (EA.1 h9)⟩
theorem WU {ps:List Pt} {ts:List T3} {x y:Int} (h:0<=FC ts x y):Y9 ps ts x y=Ew ps ts (Dr ts x y)/\Y_ ts x y=0:=by
  rcases HZ ts x y with h1|⟨j,h1,h2⟩
  · omega
  · rw [(Kv h2).1];exact N4 h2
theorem SV (ps:List Pt) (ts:List T3) (e:E4):((!Cm e)||Ew ps ts e)=Ew ps ts e:=by
  cases h:Cm e with
  | true=>rfl
  | false=>rw [SU (ps:=ps) (ts:=ts) (λh9=>by rw [EA.2 h9] at h;cases h)];rfl
theorem Uf.mk4 {N:Nat} {ts:List T3} {e:E4} {p q c d:Nat} (h:Uf N ts e p q c d):e=⟨e.a,e.b,(p:Int),(q:Int)⟩:=by
  obtain ⟨a,b,l,r⟩:=e
  rw [<-h.l,<-h.r]
theorem G6 {ts:List T3} {a b p q c d:Nat}:(Ia ts a b p q c d).length=ts.length:=by unfold Ia;rw [List.length_set,List.length_set]
structure S7 (ps:List Pt) (ts:List T3) (ss:List Z3) (e:Nat) where
  x:MN ps ts ss
instance {ps:List Pt} {ts:List T3} {ss:List Z3} {e:Nat}:Cl (S7 ps ts ss e):=⟨λr=>.tuple #[aG (Ca r.x),vN e],λr=>[r.x.a.row,r.x.b.row,r.x.c.row],λr y hy=>Wb hy⟩
theorem OD {S:Nat->Prop} {W w:World} {L:List As} (hw:BE ⟨W,none⟩ w L) (e:Nat) {v:Value} (hv:v=.tuple #[aG [.slice none 0 0,.slice none 0 0,.slice none 0 0],vN e]):Ai (S7 [] [] [] e) S W (.returned v) w:=by
  refine ⟨⟨⟨⟨none,0,OwnOk.none.row⟩,⟨none,0,OwnOk.none.row⟩,⟨none,0,OwnOk.none.row⟩⟩⟩,by rw [hv];rfl,hw.out,λy hy=>?_⟩
  have hy:y∈[AC none (rowsL Ad []),AC none (rowsL Am []),AC none (rowsL Af [])]:=hy
  simp only [xy,List.not_mem_nil,or_false] at hy
  rcases hy with rfl|rfl|rfl<;>exact ⟨(λb e=>by cases e),(λb e=>by cases e)⟩
def SM (ps:List Pt) (ts:List T3) (x y:Int):Bool:=decide (0<=FC ts x y)&&(Cm (Dr ts x y)&&F_ ps (Dr ts x y).a (Dr ts x y).b (CB ts (Dr ts x y)).c (CB ts (Dr ts x y)).d)
def Ug (ps:List Pt) (ts:List T3) (x y:Int):Nat:=if FC ts x y<0 then 1 else if SM ps ts x y=true then 0 else 7
def de (ts:List T3) (x y:Int):List T3:=Ia ts (Dr ts x y).a (Dr ts x y).b (Dr ts x y).l.toNat (Dr ts x y).r.toNat (CB ts (Dr ts x y)).c (CB ts (Dr ts x y)).d
def Uh (ps:List Pt) (ts:List T3) (x y:Int):List Pt:=if SM ps ts x y=true then ps else []
def Uj (ps:List Pt) (ts:List T3) (x y:Int):List T3:=if SM ps ts x y=true then de ts x y else []
def Ui (ps:List Pt) (ts:List T3) (ss:List Z3) (x y:Int):List Z3:=if SM ps ts x y=true then ss else []
section
variable {ps:List Pt} {ts:List T3} {ss:List Z3} {x y:Int}
theorem EX (h:SM ps ts x y=false):Uh ps ts x y=[]/\Uj ps ts x y=[]/\Ui ps ts ss x y=[]:=by
  unfold Uh Uj Ui;rw [h];exact ⟨rfl,rfl,rfl⟩
theorem JF (h:SM ps ts x y=true):Uh ps ts x y=ps/\Uj ps ts x y=de ts x y/\Ui ps ts ss x y=ss:=by
  unfold Uh Uj Ui;rw [h];exact ⟨rfl,rfl,rfl⟩
theorem PC (h:FC ts x y<0):SM ps ts x y=false/\Ug ps ts x y=1:=by
  unfold SM Ug;rw [xq Z,if_pos h];exact ⟨rfl,rfl⟩
theorem SN (h:0<=FC ts x y) (h2:Cm (Dr ts x y)=false):SM ps ts x y=false/\Ug ps ts x y=7:=by
  have h3:SM ps ts x y=false:=by unfold SM;rw [h2,Bool.false_and,Bool.and_false]
  unfold Ug;rw [h3,if_neg Z];exact ⟨rfl,rfl⟩
theorem SO (h:0<=FC ts x y) {p q c d:Nat} (h2:Uf ps.length ts (Dr ts x y) p q c d):SM ps ts x y=F_ ps (Dr ts x y).a (Dr ts x y).b c d/\de ts x y=Ia ts (Dr ts x y).a (Dr ts x y).b p q c d:=by
  unfold SM de
  rw [(C5 h2).1,(C5 h2).2,xr h,Bool.true_and,Bool.true_and,h2.l,h2.r];exact ⟨rfl,rfl⟩
theorem Nu (h:0<=FC ts x y):Ug ps ts x y=if SM ps ts x y=true then 0 else 7:=if_neg Z
end
def nexI (ps:List Pt) (ts:List T3):List E4->Nat->Int
  | [],_ => -1
  | e::r,i=>if Ew ps ts e=true then nexI ps ts r (i+1) else (i:Int)
section
variable {ps:List Pt} {ts:List T3} {es:List E4} {j:Nat}
theorem Ts (hj:j<es.length) (h:Ew ps ts (es.getD j E0)=true):nexI ps ts (es.drop j) j=nexI ps ts (es.drop (j+1)) (j+1):=by
  rw [Ft (d:=E0) hj];exact if_pos h
theorem Wm (hj:j<es.length) (h:Ew ps ts (es.getD j E0)=false):nexI ps ts (es.drop j) j=(j:Int):=by
  rw [Ft (d:=E0) hj];exact if_neg (by rw [h];decide)
theorem Wl (hj:¬j<es.length):nexI ps ts (es.drop j) j = -1:=by
  rw [List.drop_eq_nil_of_le Z];rfl
def Tr (ps:List Pt) (ts:List T3):Int:=nexI ps ts (BI ts) 0
def J2 (ps:List Pt) (ts:List T3):E4:=(BI ts).getD (Tr ps ts).toNat E0
def ID (ps:List Pt) (ts:List T3):Bool:=if Tr ps ts<0 then false else F_ ps (J2 ps ts).a (J2 ps ts).b (CB ts (J2 ps ts)).c (CB ts (J2 ps ts)).d
def Fl (ps:List Pt) (ts:List T3):List T3:=if Tr ps ts<0 then ts else MT ps ts (J2 ps ts).a (J2 ps ts).b (J2 ps ts).l.toNat (J2 ps ts).r.toNat (CB ts (J2 ps ts)).c (CB ts (J2 ps ts)).d
theorem aT (h:Tr ps ts = -1):ID ps ts=false/\Fl ps ts=ts:=by
  unfold ID Fl;rw [h];exact ⟨rfl,rfl⟩
theorem aS (h:Tr ps ts=(j:Int)) {e:E4} (he:e=(BI ts).getD j E0) {p q c d:Nat} (h2:Uf ps.length ts e p q c d):ID ps ts=F_ ps e.a e.b c d/\Fl ps ts=MT ps ts e.a e.b p q c d:=by
  have e1:J2 ps ts=e:=by unfold J2;rw [h,he];rfl
  unfold ID Fl
  rw [e1,(C5 h2).1,if_neg Z,if_neg Z,h2.l,h2.r];exact ⟨rfl,rfl⟩
theorem Ij:(Fl ps ts).length=ts.length:=by
  unfold Fl;split
  · rfl
  · exact V0
end
theorem BE.thaw1 {w0:BA} {w:World} {A:List As} {p:Option Addr} {T z m cp:Nat} {cs:List Value} (h:BE w0 w (A++[JV p T z m cp cs])) (hnew:∀b,p.map (·.block)=some b->w0.w.heap.size<=b) (hap:∀y∈A,y.ro=false\/∀b,p.map (·.block)=some b->y.foot≠some b):BE w0 w (A++[rowW p T z m cp cs]):=by
  obtain ⟨h1,h2,h3⟩:=h
  obtain ⟨p1,p2,p3⟩:=List.pairwise_append.1 h3
  refine ⟨h1,λx hx b e=>?_,List.pairwise_append.2 ⟨p1,List.pairwise_singleton _ _,λx hx y hy=>?_⟩⟩
  · rcases List.mem_append.1 hx with hx|hx
    · exact h2 x (List.mem_append_left _ hx) b e
    · rw [xz] at hx
      subst hx
      obtain ⟨_,o,ho,hp⟩:=h2 (JV p T z m cp cs) (xt _ (xz.2 rfl)) b e
      exact ⟨.inr (.inl (hnew b e)),o,ho,hp⟩
  · rw [xz] at hy
    subst hy
    refine .inr λb e1 e2=>?_
    rcases hap x hx with h|h
    · rcases p3 x hx (JV p T z m cp cs) (xz.2 rfl) with k|k
      · rw [h] at k;cases k.1
      · exact k b e1 e2
    · exact h b e2 e1
theorem xJ {P:Program} {c:Code} {Q:Exit->Act->World->Prop} {n:Nat} {F:List (Nat×Value)} {w0:BA} {L A B:List As} {p:Option Addr} {T z m cp:Nat} {cs:List Value} (hs:(A++JV p T z m cp cs::B).Sublist L) (hnew:∀b,p.map (·.block)=some b->w0.w.heap.size<=b)
    (hA:∀y∈A,y.ro=false\/∀b,p.map (·.block)=some b->y.foot≠some b) (hB:∀y∈B,y.ro=false\/∀b,p.map (·.block)=some b->y.foot≠some b) (next:OkC P c Q n F w0 (A++rowW p T z m cp cs::B)):OkC P c Q n F w0 L:=by
  have hp:∀X:As,(A++X::B).Perm (A++B++[X]):=λX=>by
    rw [List.append_assoc];exact List.Perm.append_left A (List.perm_append_comm (l₁:=[X]) (l₂:=B))
  exact λa w ha hW=>next a w ha ((((hW.weak hs).perm (hp _)).thaw1 hnew (λy hy=>(List.mem_append.1 hy).elim (hA y) (hB y))).perm (hp _).symm)
theorem BE.frz2 {w0:BA} {w:World} {L:List As} {p:Option Addr} {T z m c:Nat} {cs:List Value} (h:BE w0 w (rowW p T z m c cs::L)) (ho:OwnOk p m c) (hl:cs.length=m*z) (he:w0.ex=none) :
    BE w0 w (AC p cs::JV p T z m c cs::L)/\(∀b,p.map (·.block)=some b->w0.w.heap.size<=b)/\∀y∈L,∀b,p.map (·.block)=some b->y.foot≠some b:=by
  have h5:BE w0 w (JV p T z m c cs::L):=h.freeze (i:=0) rfl rfl (λo h=>h) (λe=>by cases e)
  obtain ⟨h1,h2,h3⟩:=h
  have h4:=(List.pairwise_cons.1 h3).1
  have hd:∀y∈L,∀b,p.map (·.block)=some b->y.foot≠some b:=λy hy b e=>by
    rcases h4 y hy with k|k
    · cases k.1
    · exact k b e
  refine ⟨⟨h1,λx hx b e=>?_,List.pairwise_cons.2 ⟨λy hy=>?_,h5.2.2⟩⟩,λb e=>?_,hd⟩
  · rcases xy.1 hx with rfl|hx
    · obtain ⟨_,o,h6,h7⟩:=h5.2.1 _ List.mem_cons_self b e
      exact ⟨.inl O,o,h6,CV ho hl h7⟩
    · exact h5.2.1 x hx b e
  · rcases xy.1 hy with rfl|hy
    · exact .inl ⟨rfl,rfl⟩
    · exact .inr (hd y hy)
  · rcases (h2 _ List.mem_cons_self b e).1 with k|k|k
    · cases k
    · exact k
    · rw [he] at k;cases k
end
section
section
variable {P:Program} {ops:Array Oper} {Q:Exit->Act->World->Prop} {n:Nat} {w0:BA} {LA LB L L':List As} {F F':List (Nat×Value)} {l:List Oper} {e2:List (Nat×Bool)} {k q:Nat}
theorem Kj {listed:Array Bool} (hcl:HW l.toArray listed):∀(f k i:Nat),CS l f k i=true->listed.getD k false=true->listed.getD i false=true
  | 0,_,_,h,_=>by cases h
  | f+1,k,i,h,hk=>by
    unfold CS at h
    cases ho:l[k]? with
    | none=>rw [ho] at h;cases h
    | some o =>
      rw [ho] at h
      simp only [xY,List.any_eq_true,xZ] at h
      have st:∀m,En o m=true->listed.getD m false=true:=λm hm=>by
        obtain ⟨e,he,hb,rfl⟩:=Dl hm
        exact hcl k o hk (by simpa using ho) e he hb
      rcases h with h|⟨m,_,h1,h2⟩
      · exact st i h
      · exact Kj hcl f m i h2 (st m h1)
variable {r:List (Nat×Bool)} {i d:Nat} {v:Value} {o oq:Oper} {K:List (Nat×Value)->List As->Prop}
end
end
section
def CZ (P:Program) (l:List Oper) (k:Nat) (Q:Exit->Act->World->Prop) (n:Nat) (w0:BA) (LA LB:List As) (K:List (Nat×Value)->List As->Prop):List (Nat×Bool)->List (Nat×Value)->List As->Prop
  | [],F,L=>K F L
  | (i,true)::r,F,L=>∃o d v,l.toArray[i]?=some o/\o.dst=some d/\d<n/\dO P l.toArray n w0 (if CS l 8 k i=true then LA else LB) F o v/\CZ P l k Q n w0 LA LB K r ((d,v)::F) L
  | (i,false)::r,F,L=>∃o,l.toArray[i]?=some o/\AQ P l.toArray [o] (PE Q n w0 LA λF' L'=>CZ P l k Q n w0 LA LB K r F' L') n F w0 L
def Nh (l:List Oper) (e1:List (Nat×Bool)) (k:Nat) (e2:List (Nat×Bool)):Bool :=
  EB l [] none (e1++(k,false)::e2)&&Ng l [] (e1++(k,false)::e2)&&Nat.beq (e1.length+e2.length+1) l.length&&Region.noSelect l.toArray&&(l[k]?).isSome
section
variable {P:Program} {ops:Array Oper} {Q:Exit->Act->World->Prop} {n:Nat} {w0:BA} {LA LB L L':List As} {F F':List (Nat×Value)} {l:List Oper} {e2:List (Nat×Bool)} {k:Nat}
theorem Ua (hsel:Region.noSelect l.toArray=true) (hQ:∀c a d v w,Q (.panic c) (a.put d v) w->Q (.panic c) a w) (hAB:LB.Sublist LA) {ok:Oper} (hok:l[k]?=some ok) :
    ∀(es:List (Nat×Bool)) (D:List Nat) (p:Option Nat) (listed:Array Bool) (a:Act) (w:World) (F:List (Nat×Value)) (L:List As),
      k ∉ D->EB l D p (es++(k,false)::e2)=true->NZ l D listed->(∀i,i<l.length->i∈D\/(es++(k,false)::e2).any (λe=>e.1 == i)=true)->Wk LA L->C8 n a F->BE w0 w L->CZ P l k Q n w0 LA LB (Jg P l.toArray Q n w0 LB k e2) es F L ->
      IQ P l.toArray Q (λlisted w=>BE w0 w (if listed.getD k false=true then LB else LA)) (es.length+e2.length+1) listed a w:=by
  have only:∀(i:Nat) (r:List (Nat×Bool)) (D:List Nat) (p:Option Nat) (listed:Array Bool),EB l D p ((i,false)::r)=true->NZ l D listed->(∀j,j<l.length->j∈D\/((i,false)::r).any (λe=>e.1 == j)=true)->∀j,j∈Region.ready .any l.toArray listed->j=i:=λi r D p listed hc hL hall j hj=>by
    obtain ⟨o,hg⟩:=DV hc
    obtain ⟨h0,oj,hoj,_⟩:=mem_ready.1 hj
    have hjl:j<l.length:=by simpa using (Array.getElem?_eq_some_iff.1 hoj).1
    rw [Cr (by rw [hL.size];exact hjl)] at h0
    rcases hall j hjl with h1|h1
    · rw [(hL.mem j).1 h1] at h0;cases h0
    · obtain ⟨e,he,rfl⟩:=IU h1
      rcases xy.1 he with rfl|he
      · rfl
      · exact absurd hj (E1 hL.cl hg.tl (hL.no hg.nin) (λe he=>hL.no λhd=>(EC hg.tl e he).1 (List.mem_cons_of_mem _ hd)) e he)
  have nxt:∀(i:Nat) (b:Bool) (r:List (Nat×Bool)) (D:List Nat),(∀j,j<l.length->j∈D\/((i,b)::r).any (λe=>e.1 == j)=true)->∀j,j<l.length->j∈i::D\/r.any (λe=>e.1 == j)=true:=λi b r D hall j hj=>by
    rcases hall j hj with h1|h1
    · exact .inl (List.mem_cons_of_mem _ h1)
    · simp only [List.any_cons,xY,beq_iff_eq] at h1
      rcases h1 with h1|h1
      · exact .inl (h1▸List.mem_cons_self)
      · exact .inr h1
  intro es
  induction es with
  | nil =>
    intro D p listed a w F L hkD hc hL hall hro ha hw h
    obtain ⟨o',ho',h⟩:=h
    simp only [List.nil_append,List.length_nil,Nat.zero_add] at hc hall ⊢
    obtain ⟨o,hg⟩:=DV hc
    have hat:l.toArray[k]?=some o:=by simpa using hg.at_
    rw [hat] at ho';injection ho' with ho';subst ho'
    have hkl:k<l.length:=(List.getElem?_eq_some_iff.1 hg.at_).1
    have hp:∀e∈o.after,Region.binds .any e=true->listed.getD e.on false=true:=λe he hb=>(hL.mem _).1 (hg.pre e he hb)
    have hrd:k∈Region.ready .any l.toArray listed:=mem_ready.2 ⟨by rw [Cr (by rw [hL.size];exact hkl)];exact hL.no hg.nin,o,hat,hp⟩
    refine ⟨λh0=>absurd hrd (by rw [h0];exact List.not_mem_nil),λj hj=>?_⟩
    have hjk:=only k e2 D p listed hc hL hall j hj
    subst hjk
    have hlk:(listed.setIfInBounds j true).getD j false=true:=by rw [Ic _ _ _ _ (by rw [hL.size];exact hkl)];simp
    refine I3 hat (h a w ha hw) λF' L' a' w' h1 h2 h3 h4=>⟨by show BE _ _ (ite _ _ _);rw [if_pos hlk];exact h3 _ _ h2,?_⟩
    exact HU (T:=λw=>BE w0 w LB) _ _ _ _ (λl' hl w hw=>by show BE _ _ (ite _ _ _);rw [if_pos (hl j hlk)];exact hw) (Ja hsel hQ e2 (j::D) (some j) _ a' w' F' L' hg.tl (hL.add hg.at_ hp) (nxt j false e2 D hall) h3 h1 h2 h4)
  | cons e r ih =>
    intro D p listed a w F L hkD hc hL hall hro ha hw h
    obtain ⟨i,b⟩:=e
    rw [List.cons_append] at hc hall
    obtain ⟨o,hg⟩:=DV hc
    have hat:l.toArray[i]?=some o:=by simpa using hg.at_
    have hil:i<l.length:=(List.getElem?_eq_some_iff.1 hg.at_).1
    have hp:∀e∈o.after,Region.binds .any e=true->listed.getD e.on false=true:=λe he hb=>(hL.mem _).1 (hg.pre e he hb)
    have hrd:i∈Region.ready .any l.toArray listed:=mem_ready.2 ⟨by rw [Cr (by rw [hL.size];exact hil)];exact hL.no hg.nin,o,hat,hp⟩
    have hki:k≠i:=λe=>(EC hg.tl (k,false) (xt _ List.mem_cons_self)).1 (e▸List.mem_cons_self)
    have hkD':k ∉ i::D:=λh=>(xy.1 h).elim hki hkD
    have hnk:listed.getD k false=false:=hL.no hkD
    have hnk':(listed.setIfInBounds i true).getD k false=false:=(hL.add hg.at_ hp).no hkD'
    rw [show ((i,b)::r).length+e2.length+1=r.length+e2.length+1+1 by simp only [List.length_cons];omega]
    cases b with
    | true =>
      obtain ⟨o',d,v,ho',hd,hdn,hy,hn⟩:=h
      rw [hat] at ho';injection ho' with ho';subst ho'
      by_cases hedge:CS l 8 k i=true
      · rw [if_pos hedge] at hy
        have hyield:YieldsIf P l.toArray (λw=>BE w0 w LA) o v a:=by
          rcases hy with ⟨h1,h2⟩|⟨h1,h2⟩
          · exact .inl ⟨h1 a ha,λw hW=>h2 a w ha hW⟩
          · exact .inr ⟨h1 a ha,h2⟩
        refine FF hat (Region.noSelect_spec hsel) (λc a w=>dA hQ c a o.dst v w) (T:=λw=>BE w0 w LA) (λl' w hcl hr hS=>?_) (λl' w=>?_) _ listed a w (GK hL hg.at_ (hg.fr O) hp) hrd hyield ?_ (λj oj hj ho e he hb=>hL.cl j oj hj (by simpa using ho) e he hb) ?_
        · have hkf:¬l'.getD k false=true:=λhk=>by
            have h1:=Kj hcl 8 k i hedge hk
            obtain ⟨h0,_⟩:=mem_ready.1 hr
            rcases Nat.lt_or_ge i l'.size with h5|h5
            · rw [Cr h5] at h0;rw [h0] at h1;cases h1
            · simp [Array.getElem?_eq_none h5] at h1
          have hS:BE w0 w (if l'.getD k false=true then LB else LA):=hS
          rw [if_neg hkf] at hS;exact hS
        · show BE _ _ (ite _ _ _)↔BE _ _ (ite _ _ _);rw [getD_set_ne false (Ne.symm hki)]
        · show BE _ _ (ite _ _ _);rw [if_neg (by rw [hnk];exact Bool.false_ne_true)];exact hro _ _ hw
        · exact ih (i::D) p _ _ w ((d,v)::F) L hkD' hg.tl (hL.add hg.at_ hp) (nxt i true _ D hall) hro (by rw [hd];exact ha.put hdn) hw hn
      · rw [if_neg hedge] at hy
        have hyield:YieldsIf P l.toArray (λw=>BE w0 w LB) o v a:=by
          rcases hy with ⟨h1,h2⟩|⟨h1,h2⟩
          · exact .inl ⟨h1 a ha,λw hW=>h2 a w ha hW⟩
          · exact .inr ⟨h1 a ha,h2⟩
        refine FF hat (Region.noSelect_spec hsel) (λc a w=>dA hQ c a o.dst v w) (T:=λw=>BE w0 w LB) (λl' w hcl hr hS=>?_) (λl' w=>?_) _ listed a w (GK hL hg.at_ (hg.fr O) hp) hrd hyield ?_ (λj oj hj ho e he hb=>hL.cl j oj hj (by simpa using ho) e he hb) ?_
        · have hS:BE w0 w (if l'.getD k false=true then LB else LA):=hS
          by_cases hk:l'.getD k false=true
          · rw [if_pos hk] at hS;exact hS
          · rw [if_neg hk] at hS;exact hS.weak hAB
        · show BE _ _ (ite _ _ _)↔BE _ _ (ite _ _ _);rw [getD_set_ne false (Ne.symm hki)]
        · show BE _ _ (ite _ _ _);rw [if_neg (by rw [hnk];exact Bool.false_ne_true)];exact hro _ _ hw
        · exact ih (i::D) p _ _ w ((d,v)::F) L hkD' hg.tl (hL.add hg.at_ hp) (nxt i true _ D hall) hro (by rw [hd];exact ha.put hdn) hw hn
    | false =>
      obtain ⟨o',ho',h⟩:=h
      rw [hat] at ho';injection ho' with ho';subst ho'
      refine ⟨λh0=>absurd hrd (by rw [h0];exact List.not_mem_nil),λj hj=>?_⟩
      have hji:=only i (r++(k,false)::e2) D p listed hc hL hall j hj
      subst hji
      refine I3 hat (h a w ha hw) λF' L' a' w' h1 h2 h3 h4=>⟨by show BE _ _ (ite _ _ _);rw [if_neg (by rw [hnk'];exact Bool.false_ne_true)];exact h3 _ _ h2,?_⟩
      exact ih (j::D) (some j) _ a' w' F' L' hkD' hg.tl (hL.add hg.at_ hp) (nxt j false _ D hall) h3 h1 h2 h4
theorem ft {id:Nat} (e1:List (Nat×Bool)) (k:Nat) (e2:List (Nat×Bool)) (hA:Wk LA L) (hAB:LB.Sublist LA) (hc:Nh l e1 k e2=true) (hQ:∀c a d v w,Q (.panic c) (a.put d v) w->Q (.panic c) a w)
    (h:CZ prog l k Q n w0 LA LB (Jg prog l.toArray Q n w0 LB k e2) e1 F L):OkC prog (.region id l.toArray true) Q n F w0 L:=λa w ha hw=>by
  simp only [Nh,xZ] at hc
  obtain ⟨⟨⟨⟨h1,h2⟩,h3⟩,h4⟩,h5⟩:=hc
  have hlen:=Nat.eq_of_beq_eq_true h3
  cases hok:l[k]? with
  | none=>simp [hok] at h5
  | some ok =>
    refine wp_region_any Em (IR (S:=λlisted w=>BE w0 w (if listed.getD k false=true then LB else LA)) _ _ _ _ ?_)
    rw [show l.toArray.size=e1.length+e2.length+1 by rw [hlen];simp]
    have hst:=Hi (l:=l)
    rw [<-hlen] at hst
    refine Ua h4 hQ hAB hok e1 [] none _ a w.drew F L jX h1 hst (λi hi=>?_) hA ha hw.drew h
    have:=List.all_eq_true.1 h2 i (List.mem_range.2 hi)
    simpa using this
theorem iI {id:Nat} (e1:List (Nat×Bool)) (k:Nat) (e2:List (Nat×Bool)) (hA:LA.Sublist L) (hAB:LB.Sublist LA) (hc:Nh l e1 k e2=true) (hQ:∀c a d v w,Q (.panic c) (a.put d v) w->Q (.panic c) a w)
    (h:CZ prog l k Q n w0 LA LB (Jg prog l.toArray Q n w0 LB k e2) e1 F L):OkC prog (.region id l.toArray true) Q n F w0 L  :=ft e1 k e2 (Wk.of hA) hAB hc hQ h
theorem CZ.pasA {K:List (Nat×Value)->List As->Prop} {r:List (Nat×Bool)} {i d:Nat} {o:Oper} {v:Value} (ho:l.toArray[i]?=some o) (hb:CS l 8 k i=true) (hw:Wt l.toArray n F o) (he:Ex P n F w0 LA o v) (hd:o.dst=some d) (hn:Nat.ble (d+1) n=true) (next:CZ P l k Q n w0 LA LB K r ((d,v)::F) L):CZ P l k Q n w0 LA LB K ((i,true)::r) F L:=⟨o,d,v,ho,hd,Nat.le_of_ble_eq_true hn,.inl ⟨hw,by rw [if_pos hb];exact he⟩,next⟩
theorem CZ.back {K:List (Nat×Value)->List As->Prop} {r:List (Nat×Bool)} (hro:LA.Sublist L') (h:CZ P l k Q n w0 LA LB K r F' L'):AQ P ops [] (PE Q n w0 LA λF' L'=>CZ P l k Q n w0 LA LB K r F' L') n F' w0 L':=AQ.nil λa w ha hw=>⟨F',L',ha,hw,Wk.of hro,h⟩
theorem CZ.imp {K:List (Nat×Value)->List As->Prop} {r:List (Nat×Bool)} {i:Nat} {o:Oper} (ho:l.toArray[i]?=some o) (h:AQ P l.toArray [o] (PE Q n w0 LA λF' L'=>CZ P l k Q n w0 LA LB K r F' L') n F w0 L):CZ P l k Q n w0 LA LB K ((i,false)::r) F L:=⟨o,ho,h⟩
theorem CZ.cut {o:Oper} (ho:l.toArray[k]?=some o) (h:AQ P l.toArray [o] (PE Q n w0 LB λF' L'=>OkE P l.toArray Q n w0 LB e2 F' L') n F w0 L):CZ P l k Q n w0 LA LB (Jg P l.toArray Q n w0 LB k e2) [] F L:=⟨o,ho,h⟩
end
end
end Go.Proofs.YtpolhpjiahbidaaGreatDoor
