import Derived.Test.YtbfdamnfcmefmaaGreatDoorPend29
namespace Go.Proofs.YtbfdamnfcmefmaaGreatDoor
open Go Go.RowKit Go.Proofs.Tryz
open Go.Value renaming slice→qz,bool→qa
set_option linter.unusedVariables false
set_option linter.unusedSimpArgs false
section
abbrev EZ:=Int×Int×Int×Int
abbrev KI:=List (P2×Int)
def fN (a b:Int):P2:=B5 a.toNat b.toNat
def av (N:Nat) (ss:List Z3):Nat->KI
  | 0=>[]
  | k+1=>if Bx N (ss.getD (ss.length-1-k) (0,0,0)).1=true/\Bx N (ss.getD (ss.length-1-k) (0,0,0)).2.1=true then Bj (av N ss k) (fN (ss.getD (ss.length-1-k) (0,0,0)).1 (ss.getD (ss.length-1-k) (0,0,0)).2.1) (ss.getD (ss.length-1-k) (0,0,0)).2.2 else av N ss k
def aO (m:KI) (a b:Nat):Int:=(BR m (B5 a b)).getD 0
def de (N:Nat) (st:KI×Nat) (v:P2):KI×Nat:=(Bj (Bj st.1 (B5 v.1 (N+st.2)) (aO st.1 v.1 v.2)) (B5 v.2 (N+st.2)) (aO st.1 v.1 v.2),st.2+1)
def dh (N:Nat) (ss:List Z3) (vs:List P2):KI:=(vs.foldl (de N) (av N ss ss.length,0)).1
def eB (N:Nat) (e:EZ):Bool:=Bx N e.1&&Bx N e.2.1
def d8 (e:EZ):P2:=(e.1.toNat,e.2.1.toNat)
def ff (N:Nat) (es:List EZ) (i:Nat):List P2:=((es.take i).filter (eB N)).map d8
def cC (ps:List Pt) (v:P2):Pt:=G0 (ps.getD v.1 ⟨0,0⟩+ps.getD v.2 ⟨0,0⟩) (1/2)
def fW (ps:List Pt) (vs:List P2):List Pt:=vs.foldl (λl v=>l++[cC ps v]) ps
def D7 (s:Tq3):Z3:=((s.1:Int),(s.2.1:Int),(s.2.2:Int))
def eE (n:Nat) (us:List Z3):List T3:=if JA n us=true then Ea (us.map d9) else []
section
variable {N:Nat} {ss:List Z3} {vs:List P2} {v:P2} {es:List EZ} {i j k a b:Nat} {m:KI} {rs:List T3} {ps:List Pt}
theorem E6 (rs:List T3):rowsL Af rs=rowsL BU (rs.map D7):=by unfold rowsL;rw [List.flatMap_map];rfl
end
def dj (N:Nat) (ss:List Z3) (vs:List P2) (us:List Z3):List Z3:=(eE (N+vs.length) us).map λs=>((s.1:Int),(s.2.1:Int),aO (dh N ss vs) s.1 s.2.1)
structure dO (N M:Nat) (ss:List Z3) where
  cs:List Value
  es:List Value
  a:RX cs N
  b:RX es M
  c:RX (rowsL BU ss) ss.length
def fa {N M:Nat} {ss:List Z3} (x:dO N M ss):List Value:=[x.a.val,x.b.val,x.c.val]
theorem cU {N M:Nat} {ss:List Z3} {x:dO N M ss} {y:As} (hy:y∈[x.a.row,x.b.row,x.c.row]):y.ro=true:=by
  simp only [xN,List.not_mem_nil,or_false] at hy
  rcases hy with rfl|rfl|rfl<;>rfl
instance {N M:Nat} {ss:List Z3}:Cy (dO N M ss):=⟨λx=>aG (fa x),λx=>[x.a.row,x.b.row,x.c.row],λx y hy=>cU hy⟩
section
variable {S:Nat->Prop} {w:World} {N M:Nat} {zs ss:List Z3} {ps:List Pt} {a b:Int} {i:Nat}
end
section
variable {f:Nat->Nat->Int} {rs:List T3} {i:Nat}
end
section
variable {rs qs:List RP} {q:RP} {N i k:Nat} {es:List EZ}
end
section
variable {N i:Nat} {es:List EZ}
end
end
section
section
variable {N:Nat} {ts:List T3} {zs ss:List Z3} {ps:List Pt}
theorem Yk (t:T3):XH N (D7 t)=Ig N t:=by
  obtain ⟨a,b,c⟩:=t
  unfold XH Ig D7 Bx
  rw [Bool.eq_iff_iff]
  simp only [yz,xX,xV,xU]
  omega
theorem S2:JA N (ts.map D7)=Ba N ts:=by
  unfold JA Ba
  rw [List.all_map]
  congr 1
  funext t
  exact Yk t
end
structure MN (ps:List Pt) (ts:List T3) (ss:List Z3) where
  a:RX (rowsL Aa ps) ps.length
  b:RX (rowsL Af ts) ts.length
  c:RX (rowsL BU ss) ss.length
def CG {ps:List Pt} {ts:List T3} {ss:List Z3} (x:MN ps ts ss):List Value:=[x.a.val,x.b.val,x.c.val]
theorem Vl {ps:List Pt} {ts:List T3} {ss:List Z3} {x:MN ps ts ss} {y:As} (hy:y∈[x.a.row,x.b.row,x.c.row]):y.ro=true:=by
  simp only [xN,List.not_mem_nil,or_false] at hy
  rcases hy with rfl|rfl|rfl<;>rfl
instance {ps:List Pt} {ts:List T3} {ss:List Z3}:Cy (MN ps ts ss):=⟨λx=>aG (CG x),λx=>[x.a.row,x.b.row,x.c.row],λx y hy=>Vl hy⟩
section
variable {N:Nat} {ts:List T3} {zs ss:List Z3} {ps:List Pt}
theorem ZT (x:MN ps ts ss):∃y:RM ps.length ts (List.replicate ss.length (0,0,0)),XK y=CG x/\∀{S:Nat->Prop} {w:World},Ro S w x->Ro S w y:=by
  obtain ⟨a,b,⟨cp,cc,cok⟩⟩:=x
  have hk:ss.length=(List.replicate ss.length jJ).length:=(List.length_replicate).symm
  refine ⟨⟨rowsL Aa ps,rowsL BU ss,a,b,⟨cp,cc,hk▸cok⟩⟩,?_,λ{S w} hx y hy=>hx y hy⟩
  show [a.val,b.val,.slice cp (List.replicate ss.length jJ).length cc]=[a.val,b.val,.slice cp ss.length cc]
  rw [<-hk]
theorem Rp (x:MN ps ts ss):∃y:MZ ps (ts.map D7) ss,PJ y=CG x/\∀{S:Nat->Prop} {w:World},Ro S w x->Ro S w y:=by
  obtain ⟨a,⟨bp,bc,bok⟩,c⟩:=x
  have hk:ts.length=(ts.map D7).length:=(xK _).symm
  refine ⟨⟨a,⟨bp,bc,hk▸bok⟩,c⟩,?_,λ{S w} hx y hy=>?_⟩
  · show [a.val,.slice bp (ts.map D7).length bc,c.val]=[a.val,.slice bp ts.length bc,c.val]
    rw [<-hk]
  · have hy:y∈[a.row,AN bp (rowsL BU (ts.map D7)),c.row]:=hy
    rw [<-E6] at hy
    exact hx y hy
end
structure dN (ps:List Pt) (ts:List T3) (ss:List Z3) where
  rs:List RP
  e:rs.map (·.p)=ps
  a:RX (rowsL bT rs) rs.length
  b:RX (rowsL Af ts) ts.length
  c:RX (rowsL BU ss) ss.length
def fY {ps:List Pt} {ts:List T3} {ss:List Z3} (x:dN ps ts ss):List Value:=[x.a.val,x.b.val,x.c.val]
theorem cN {ps:List Pt} {ts:List T3} {ss:List Z3} {x:dN ps ts ss} {y:As} (hy:y∈[x.a.row,x.b.row,x.c.row]++bU x.rs):y.ro=true:=by
  rcases List.mem_append.1 hy with hy|hy
  · simp only [xN,List.not_mem_nil,or_false] at hy
    rcases hy with rfl|rfl|rfl<;>rfl
  · exact WP hy
instance {ps:List Pt} {ts:List T3} {ss:List Z3}:Cy (dN ps ts ss):=⟨λx=>aG (fY x),λx=>[x.a.row,x.b.row,x.c.row]++bU x.rs,λx y hy=>cN hy⟩
section
variable {N:Nat} {ts:List T3} {zs ss:List Z3} {ps:List Pt}
end
def ep (e:E4):EZ:=((e.a:Int),(e.b:Int),e.l,e.r)
structure eY (ps:List Pt) (ts ss:List Z3) where
  m:MZ ps ts ss
  ha:m.a.c=ps.length
  hb:m.b.c=ts.length
instance {ps:List Pt} {ts ss:List Z3}:Cy (eY ps ts ss):=⟨λx=>aG (PJ x.m),λx=>[x.m.a.row,x.m.b.row,x.m.c.row],λx y hy=>Vt hy⟩
structure eZ (ps:List Pt) (ts ss:List Z3) (l:List Nat) (e:Nat) where
  x:eY ps ts ss
  q:CX (bu l) l.length
instance {ps:List Pt} {ts ss:List Z3} {l:List Nat} {e:Nat}:Cy (eZ ps ts ss l e):=⟨λr=>.tuple #[aG (PJ r.x.m),.slice r.q.p l.length l.length,vN e],λr=>[r.x.m.a.row,r.x.m.b.row,r.x.m.c.row,AN r.q.p (bu l)],λr y hy=>by
  rcases List.mem_append.1 (show y∈[r.x.m.a.row,r.x.m.b.row,r.x.m.c.row]++[AN r.q.p (bu l)] from hy) with hy|hy
  · exact Vt hy
  · rcases xO.1 hy with rfl;rfl⟩
structure fG (ps:List Pt) (ts ss:List Z3) (l:List Nat) (e:Nat) where
  x:dB ps ts ss
  q:RX (bu l) l.length
instance {ps:List Pt} {ts ss:List Z3} {l:List Nat} {e:Nat}:Cy (fG ps ts ss l e):=⟨λr=>.tuple #[aG (ew r.x),r.q.val,vN e],λr=>r.q.row::([r.x.a.row,r.x.b.row,r.x.c.row]++bU r.x.rs),λr y hy=>by
  rcases xN.1 hy with rfl|hy
  · rfl
  · exact ZW hy⟩
section
variable {N M i j a b:Nat} {ts:List T3}
end
end
section
section
variable {n j:Nat} {ms:List Int}
end
section
variable {es:List E4} {x y j i N a b:Nat} {ts:List T3} {ms:List Int} {bs:List Bool}
end
def ee (N:Nat) (l:List E4):List P2:=ff N (l.map ep) (l.map ep).length
def ec (N:Nat) (l:List E4) (ts:List T3):List Z3:=(dv (Sv N l l.length) ts).map D7
structure e_ (ps:List Pt) (ts:List T3) (ss:List Z3) (ms:List Int) where
  l:List E4
  cut:dJ ts ms l
  x:eZ (fW ps (ee ps.length l)) (ec ps.length l ts) (dj ps.length ss (ee ps.length l) (ec ps.length l ts)) (du (Sv ps.length l l.length) ts ts.length) 0
instance {ps:List Pt} {ts:List T3} {ss:List Z3} {ms:List Int}:Cy (e_ ps ts ss ms):=⟨λb=>Cy.val b.x,λb=>Cy.rows b.x,λb y hy=>Cy.ro b.x y hy⟩
end
section
structure XN (ps:List Pt) (ts:List T3) (ss:List Z3) where
  a:OX 78 10 (rowsL Aa ps) ps.length
  b:OX 71 3 (rowsL Af ts) ts.length
  c:OX 80 3 (rowsL BU ss) ss.length
def Zw {ps:List Pt} {ts:List T3} {ss:List Z3} (x:XN ps ts ss):List Value:=[Ti x.a,Ti x.b,Ti x.c]
@[reducible] def Zx {ps:List Pt} {ts:List T3} {ss:List Z3} (x:XN ps ts ss):List As:=[rowW x.c.p 80 3 ss.length x.c.c (rowsL BU ss),rowW x.b.p 71 3 ts.length x.b.c (rowsL Af ts),rowW x.a.p 78 10 ps.length x.a.c (rowsL Aa ps)]
theorem E9.toCpN {S:Nat->Prop} {W w:World} {e:Ending} {ps:List Pt} {ts:List T3} {ss:List Z3} (h:E9 (λa:bV ps (ts.map D7) ss=>aG (ef a)) eg S W e w):E9 (λa:XN ps ts ss=>aG (Zw a)) Zx S W e w:=by
  obtain ⟨⟨aa,⟨bp,bc,bok⟩,ac⟩,h1,h2,h3⟩:=h
  have e1:(ts.map D7).length=ts.length:=xK _
  refine ⟨⟨aa,⟨bp,bc,e1▸bok⟩,ac⟩,?_,h2,?_⟩
  · rw [h1]
    show Ending.returned (aG [Ti aa,.slice bp (ts.map D7).length (ts.map D7).length,Ti ac])=.returned (aG [Ti aa,.slice bp ts.length ts.length,Ti ac])
    rw [e1]
  · have h3:XS S W w [rowW ac.p 80 3 ss.length ac.c (rowsL BU ss),rowW bp 71 3 (ts.map D7).length bc (rowsL BU (ts.map D7)),rowW aa.p 78 10 ps.length aa.c (rowsL Aa ps)]:=h3
    rw [<-E6,e1] at h3
    exact h3
structure fC (rs:List RP) (zt ss:List Z3) where
  a:OX 109 6 (rowsL bT rs) rs.length
  b:OX 71 3 (rowsL BU zt) zt.length
  c:OX 111 3 (rowsL BU ss) ss.length
@[reducible] def fq {rs:List RP} {zt ss:List Z3} (x:fC rs zt ss):List As:=[rowW x.c.p 111 3 ss.length x.c.c (rowsL BU ss),rowW x.b.p 71 3 zt.length x.b.c (rowsL BU zt),rowW x.a.p 109 6 rs.length x.a.c (rowsL bT rs)]
structure fB (rs:List RP) (ts:List T3) (ss:List Z3) where
  a:OX 109 6 (rowsL bT rs) rs.length
  b:OX 71 3 (rowsL Af ts) ts.length
  c:OX 111 3 (rowsL BU ss) ss.length
@[reducible] def fp {rs:List RP} {ts:List T3} {ss:List Z3} (x:fB rs ts ss):List As:=[rowW x.c.p 111 3 ss.length x.c.c (rowsL BU ss),rowW x.b.p 71 3 ts.length x.b.c (rowsL Af ts),rowW x.a.p 109 6 rs.length x.a.c (rowsL bT rs)]
section
variable {S:Nat->Prop} {w W:World} {L:List As} {ps:List Pt} {ts:List T3} {zt ss:List Z3}
theorem Vk {x:MN ps ts ss} (h1:Ro S w x.a) (h2:Ro S w x.b) (h3:Ro S w x.c):Ro S w x:=λy hy=>by
  have hy:y∈[x.a.row,x.b.row,x.c.row]:=hy
  simp only [xN,List.not_mem_nil,or_false] at hy
  rcases hy with rfl|rfl|rfl
  · exact h1 _ (xO.2 O)
  · exact h2 _ (xO.2 O)
  · exact h3 _ (xO.2 O)
theorem At.mn {w0:BD} {x:MN ps ts ss} (h1:At w0 S x.a) (h2:At w0 S x.b) (h3:At w0 S x.c):At w0 S x:=λy hy b e=>by
  have hy:y∈[x.a.row,x.b.row,x.c.row]:=hy
  simp only [xN,List.not_mem_nil,or_false] at hy
  rcases hy with rfl|rfl|rfl
  · exact h1 _ List.mem_cons_self b e
  · exact h2 _ List.mem_cons_self b e
  · exact h3 _ List.mem_cons_self b e
end
section
variable {ps:List Pt} {c:T3} {ts:List T3} {f:Nat->Nat} {k:Nat}
end
end
section
def inG:List E4->Int->Int->Nat->Int
  | [],_,_,_ => -1
  | e::r,x,y,i=>if (e.a:Int)=x/\(e.b:Int)=y then (i:Int) else inG r x y (i+1)
section
variable {es:List E4} {x y:Int} {j i N a b c:Nat} {ts:List T3}
theorem VN (hj:j<es.length) (h:¬(((es.getD j E0).a:Int)=x/\((es.getD j E0).b:Int)=y)):inG (es.drop j) x y j=inG (es.drop (j+1)) x y (j+1):=by
  rw [Fb (d:=E0) hj];exact if_neg h
theorem YI (hj:j<es.length) (h:((es.getD j E0).a:Int)=x/\((es.getD j E0).b:Int)=y):inG (es.drop j) x y j=(j:Int):=by
  rw [Fb (d:=E0) hj];exact if_pos h
theorem YH (hj:¬j<es.length):inG (es.drop j) x y j = -1:=by
  rw [List.drop_eq_nil_of_le Z];rfl
theorem LN:∀(es:List E4) (i:Nat),(inG es x y i = -1/\∀e∈es,¬((e.a:Int)=x/\(e.b:Int)=y))\/∃j,j<es.length/\inG es x y i=((i+j:Nat):Int)/\((es.getD j E0).a:Int)=x/\((es.getD j E0).b:Int)=y
  | [],i=>.inl ⟨rfl,λe h=>by cases h⟩
  | e::r,i=>by
    by_cases h:(e.a:Int)=x/\(e.b:Int)=y
    · exact .inr ⟨0,Nat.succ_pos _,if_pos h,h.1,h.2⟩
    · have e1:inG (e::r) x y i=inG r x y (i+1):=if_neg h
      rcases LN r (i+1) with ⟨h1,h2⟩|⟨j,h1,h2,h3,h4⟩
      · exact .inl ⟨by rw [e1,h1],λd hd=>by rcases xN.1 hd with rfl|hd;exact h;exact h2 d hd⟩
      · exact .inr ⟨j+1,Nat.succ_lt_succ h1,by rw [e1,h2];congr 1;omega,h3,h4⟩
def GF (ts:List T3) (x y:Int):Int:=inG (BK ts) (min x y) (max x y) 0
theorem Mv (ts:List T3) (x y:Int):GF ts x y = -1\/∃j,j<(BK ts).length/\GF ts x y=(j:Int):=by
  rcases LN (x:=min x y) (y:=max x y) (BK ts) 0 with ⟨h,_⟩|⟨j,h1,h2,_⟩
  · exact .inl h
  · exact .inr ⟨j,h1,by unfold GF;rw [h2,Nat.zero_add]⟩
def Jt (t:T3) (a b:Nat):Nat:=t.1+t.2.1+t.2.2-a-b
structure Mj (N:Nat) (t:T3) (a b c:Nat):Prop where
  w:(t.1=a/\t.2.1=b/\t.2.2=c)\/(t.2.1=a/\t.2.2=b/\t.1=c)\/(t.2.2=a/\t.1=b/\t.2.1=c)
  ab:a≠b
  bc:b≠c
  ca:c≠a
  a:a<N
  b:b<N
  c:c<N
theorem Mj.far {t:T3} (h:Mj N t a b c):Jt t a b=c/\Jt t b a=c/\a+b<=t.1+t.2.1+t.2.2:=by
  have:=h.w;unfold Jt;omega
theorem WZ (hn:Ba N ts=true) {z:Int} (h:MI ts (3*ts.length) a b z) (hz:0<=z):∃t,t<ts.length/\z=(t:Int)/\∃c,Mj N (ts.getD t (0,0,0)) a b c:=by
  rcases h with ⟨h1,_⟩|⟨u,h1,h2,h3,_⟩
  · omega
  · refine ⟨u/3,Z,h2,?_⟩
    have hk:=Bw hn (show u/3<ts.length by omega)
    unfold CC at h3
    generalize ts.getD (u/3) (0,0,0)=T at h3 hk
    obtain ⟨p,q,r⟩:=T
    simp only [Ig,yz,xX,xV,xU] at hk
    obtain ⟨⟨⟨⟨⟨g1,g2⟩,g3⟩,g4⟩,g5⟩,g6⟩:=hk
    have h4:u%3<3:=Nat.mod_lt _ jY
    generalize u%3=s at h3 h4
    injection h3 with e1 e2
    rcases (by omega:s=0\/s=1\/s=2) with rfl|rfl|rfl<;>simp [FW] at e1 e2<;>subst e1 e2
    · exact ⟨r,⟨.inl ⟨rfl,rfl,rfl⟩,g4,g5,g6,g1,g2,g3⟩⟩
    · exact ⟨p,⟨.inr (.inl ⟨rfl,rfl,rfl⟩),g5,g6,g4,g2,g3,g1⟩⟩
    · exact ⟨q,⟨.inr (.inr ⟨rfl,rfl,rfl⟩),g6,g4,g5,g3,g1,g2⟩⟩
end
structure PR where
  e:E4
  c:Nat
  d:Nat
def Jk (p:PR):List Value:=[vN p.e.a,vN p.e.b,.int .i64 p.e.l,.int .i64 p.e.r,vN p.c,vN p.d]
structure IJ (N:Nat) (ts:List T3) (e:E4) (p q c d:Nat):Prop where
  l:e.l=(p:Int)
  r:e.r=(q:Int)
  pl:p<ts.length
  ql:q<ts.length
  sc:Mj N (ts.getD p (0,0,0)) e.a e.b c
  sd:Mj N (ts.getD q (0,0,0)) e.b e.a d
theorem JP {N:Nat} {ts:List T3} (hn:Ba N ts=true) (hN:N<=4611686018427387904) {e:E4} (he:e∈BK ts) (hl:0<=e.l) (hr:0<=e.r):∃p q c d,IJ N ts e p q c d:=by
  have h:=(OA hn hN).1 he
  obtain ⟨p,h1,h2,c,h3⟩:=WZ hn h.l hl
  obtain ⟨q,h4,h5,d,h6⟩:=WZ hn h.r hr
  exact ⟨p,q,c,d,⟨h2,h5,h1,h4,h3,h6⟩⟩
theorem IJ.far {N:Nat} {ts:List T3} {e:E4} {p q c d:Nat} (h:IJ N ts e p q c d):c=Jt (ts.getD e.l.toNat (0,0,0)) e.a e.b/\d=Jt (ts.getD e.r.toNat (0,0,0)) e.a e.b:=by
  rw [h.l,h.r];exact ⟨h.sc.far.1.symm,h.sd.far.2.1.symm⟩
def Ko (a b c d:Pt):Int:=(B0 (a-d) (a-d)*BL (b-d) (c-d)+B0 (b-d) (b-d)*BL (c-d) (a-d)+B0 (c-d) (c-d)*BL (a-d) (b-d)).num.sign*(AC a b c).num.sign
def Dx (ps:List Pt) (ts:List T3) (e:E4):Bool:=if 0<=e.l/\0<=e.r then decide (Ko (cor ps e.a) (cor ps e.b) (cor ps (Jt (ts.getD e.l.toNat (0,0,0)) e.a e.b)) (cor ps (Jt (ts.getD e.r.toNat (0,0,0)) e.a e.b))≠1) else true
theorem N5 {ps:List Pt} {ts:List T3} {e:E4} (h:¬(0<=e.l/\0<=e.r)):Dx ps ts e=true:=if_neg h
theorem LU {ps:List Pt} {ts:List T3} {e:E4} {p q c d:Nat} (h:IJ ps.length ts e p q c d):Dx ps ts e=decide (Ko (cor ps e.a) (cor ps e.b) (cor ps c) (cor ps d)≠1):=by
  unfold Dx
  rw [if_pos ⟨by rw [h.l];omega,by rw [h.r];omega⟩,<-h.far.1,<-h.far.2]
def XE (ps:List Pt) (ts:List T3) (x y:Int):Bool:=if GF ts x y<0 then false else Dx ps ts ((BK ts).getD (GF ts x y).toNat E0)
def XF (ts:List T3) (x y:Int):Nat:=if GF ts x y<0 then 1 else 0
theorem Rl {ps:List Pt} {ts:List T3} {x y:Int} (h:GF ts x y<0):XE ps ts x y=false/\XF ts x y=1:=⟨if_pos h,if_pos h⟩
theorem YX {ps:List Pt} {ts:List T3} {x y:Int} {j:Nat} (h:GF ts x y=(j:Int)):XE ps ts x y=Dx ps ts ((BK ts).getD j E0)/\XF ts x y=0:=by
  unfold XE XF
  rw [h,if_neg Z,if_neg Z];exact ⟨rfl,rfl⟩
def Db (ps:List Pt) (a b c d:Nat):Bool:=decide ((AC (cor ps a) (cor ps d) (cor ps c)).num.sign=1)&&decide ((AC (cor ps d) (cor ps b) (cor ps c)).num.sign=1)
theorem U8 {ps:List Pt} {a b c d:Nat} (h:(AC (cor ps a) (cor ps d) (cor ps c)).num.sign≠1):Db ps a b c d=false:=by unfold Db;rw [xH h];rfl
theorem U9 {ps:List Pt} {a b c d:Nat} (h:(AC (cor ps d) (cor ps b) (cor ps c)).num.sign≠1):Db ps a b c d=false:=by unfold Db;rw [xH h,Bool.and_false]
theorem O9 {ps:List Pt} {a b c d:Nat} (h1:(AC (cor ps a) (cor ps d) (cor ps c)).num.sign=1) (h2:(AC (cor ps d) (cor ps b) (cor ps c)).num.sign=1):Db ps a b c d=true:=by unfold Db;rw [xI h1,xI h2];rfl
def CF (ts:List T3) (a b p q c d:Nat):List T3:=(ts.set p (a,d,c)).set q (d,b,c)
def MY (ps:List Pt) (ts:List T3) (a b p q c d:Nat):List T3:=if Db ps a b c d=true then CF ts a b p q c d else ts
theorem U_ {ps:List Pt} {ts:List T3} {a b p q c d:Nat}:(MY ps ts a b p q c d).length=ts.length:=by
  unfold MY CF;split
  · rw [List.length_set,List.length_set]
  · rfl
theorem KE {ps:List Pt} {ts:List T3} {a b p q c d:Nat} (h:Db ps a b c d=false):MY ps ts a b p q c d=ts:=if_neg (by rw [h];decide)
theorem LC {ps:List Pt} {ts:List T3} {a b p q c d:Nat} (h:Db ps a b c d=true):MY ps ts a b p q c d=CF ts a b p q c d:=if_pos h
def Dh (ts:List T3) (x y:Int):E4:=if GF ts x y<0 then E0 else (BK ts).getD (GF ts x y).toNat E0
theorem Kv {ts:List T3} {x y:Int} {j:Nat} (h:GF ts x y=(j:Int)):Dh ts x y=(BK ts).getD j E0/\decide (0<=GF ts x y)=true:=by
  unfold Dh;rw [h,if_neg Z];exact ⟨rfl,xI Z⟩
theorem Ur {ts:List T3} {x y:Int} (h:GF ts x y = -1):Dh ts x y=E0/\decide (0<=GF ts x y)=false:=by
  unfold Dh;rw [h,if_pos Z];exact ⟨rfl,rfl⟩
theorem HK {ts:List T3} {x y:Int} (h:0<=GF ts x y):Dh ts x y∈BK ts:=by
  rcases Mv ts x y with h1|⟨j,h1,h2⟩
  · omega
  · rw [(Kv h2).1,List.getD,xP h1];exact List.getElem_mem h1
def CZ (e:E4):Bool:=decide (0<=e.l)&&decide (0<=e.r)
theorem Ez {e:E4}:CZ e=true↔0<=e.l/\0<=e.r:=by unfold CZ;rw [yz,xV,xV]
def B9 (ts:List T3) (e:E4):PR:=if 0<=e.l/\0<=e.r then ⟨e,Jt (ts.getD e.l.toNat (0,0,0)) e.a e.b,Jt (ts.getD e.r.toNat (0,0,0)) e.a e.b⟩ else ⟨e,0,0⟩
theorem Cu {N:Nat} {ts:List T3} {e:E4} {p q c d:Nat} (h:IJ N ts e p q c d):B9 ts e=⟨e,c,d⟩/\CZ e=true:=by
  unfold B9
  rw [if_pos ⟨by rw [h.l];omega,by rw [h.r];omega⟩,<-h.far.1,<-h.far.2]
  exact ⟨rfl,Ez.2 ⟨by rw [h.l];omega,by rw [h.r];omega⟩⟩
theorem PO {ts:List T3} {e:E4} (h:¬(0<=e.l/\0<=e.r)):B9 ts e=⟨e,0,0⟩/\CZ e=false:=by
  unfold B9
  rw [if_neg h]
  exact ⟨rfl,by rw [Bool.eq_false_iff];exact λh9=>h (Ez.1 h9)⟩
theorem QV {ps:List Pt} {ts:List T3} {x y:Int} (h:0<=GF ts x y):XE ps ts x y=Dx ps ts (Dh ts x y)/\XF ts x y=0:=by
  rcases Mv ts x y with h1|⟨j,h1,h2⟩
  · omega
  · rw [(Kv h2).1];exact YX h2
theorem Rj (ps:List Pt) (ts:List T3) (e:E4):((!CZ e)||Dx ps ts e)=Dx ps ts e:=by
  cases h:CZ e with
  | true=>rfl
  | false=>rw [N5 (ps:=ps) (ts:=ts) (λh9=>by rw [Ez.2 h9] at h;cases h)];rfl
theorem IJ.mk4 {N:Nat} {ts:List T3} {e:E4} {p q c d:Nat} (h:IJ N ts e p q c d):e=⟨e.a,e.b,(p:Int),(q:Int)⟩:=by
  obtain ⟨a,b,l,r⟩:=e
  rw [<-h.l,<-h.r]
theorem Ca {ts:List T3} {a b p q c d:Nat}:(CF ts a b p q c d).length=ts.length:=by unfold CF;rw [List.length_set,List.length_set]
structure Tf (ps:List Pt) (ts:List T3) (ss:List Z3) (e:Nat) where
  x:MN ps ts ss
instance {ps:List Pt} {ts:List T3} {ss:List Z3} {e:Nat}:Cy (Tf ps ts ss e):=⟨λr=>.tuple #[aG (CG r.x),vN e],λr=>[r.x.a.row,r.x.b.row,r.x.c.row],λr y hy=>Vl hy⟩
theorem Qq {S:Nat->Prop} {W w:World} {L:List As} (hw:BH ⟨W,none⟩ w L) (e:Nat) {v:Value} (hv:v=.tuple #[aG [.slice none 0 0,.slice none 0 0,.slice none 0 0],vN e]):BP (Tf [] [] [] e) S W (.returned v) w:=by
  refine ⟨⟨⟨⟨none,0,OwnOk.none.row⟩,⟨none,0,OwnOk.none.row⟩,⟨none,0,OwnOk.none.row⟩⟩⟩,by rw [hv];rfl,hw.out,λy hy=>?_⟩
  have hy:y∈[AN none (rowsL Aa []),AN none (rowsL Af []),AN none (rowsL BU [])]:=hy
  simp only [xN,List.not_mem_nil,or_false] at hy
  rcases hy with rfl|rfl|rfl<;>exact ⟨(λb e=>by cases e),(λb e=>by cases e)⟩
def Ra (ps:List Pt) (ts:List T3) (x y:Int):Bool:=decide (0<=GF ts x y)&&(CZ (Dh ts x y)&&Db ps (Dh ts x y).a (Dh ts x y).b (B9 ts (Dh ts x y)).c (B9 ts (Dh ts x y)).d)
def XA (ps:List Pt) (ts:List T3) (x y:Int):Nat:=if GF ts x y<0 then 1 else if Ra ps ts x y=true then 0 else 7
def dD (ts:List T3) (x y:Int):List T3:=CF ts (Dh ts x y).a (Dh ts x y).b (Dh ts x y).l.toNat (Dh ts x y).r.toNat (B9 ts (Dh ts x y)).c (B9 ts (Dh ts x y)).d
def X2 (ps:List Pt) (ts:List T3) (x y:Int):List Pt:=if Ra ps ts x y=true then ps else []
def X4 (ps:List Pt) (ts:List T3) (x y:Int):List T3:=if Ra ps ts x y=true then dD ts x y else []
def X3 (ps:List Pt) (ts:List T3) (ss:List Z3) (x y:Int):List Z3:=if Ra ps ts x y=true then ss else []
section
variable {ps:List Pt} {ts:List T3} {ss:List Z3} {x y:Int}
theorem IV (h:Ra ps ts x y=false):X2 ps ts x y=[]/\X4 ps ts x y=[]/\X3 ps ts ss x y=[]:=by
  unfold X2 X4 X3;rw [h];exact ⟨rfl,rfl,rfl⟩
theorem QH (h:Ra ps ts x y=true):X2 ps ts x y=ps/\X4 ps ts x y=dD ts x y/\X3 ps ts ss x y=ss:=by
  unfold X2 X4 X3;rw [h];exact ⟨rfl,rfl,rfl⟩
theorem U6 (h:GF ts x y<0):Ra ps ts x y=false/\XA ps ts x y=1:=by
  unfold Ra XA;rw [xH Z,if_pos h];exact ⟨rfl,rfl⟩
theorem X0 (h:0<=GF ts x y) (h2:CZ (Dh ts x y)=false):Ra ps ts x y=false/\XA ps ts x y=7:=by
  have h3:Ra ps ts x y=false:=by unfold Ra;rw [h2,Bool.false_and,Bool.and_false]
  unfold XA;rw [h3,if_neg Z];exact ⟨rfl,rfl⟩
theorem X1 (h:0<=GF ts x y) {p q c d:Nat} (h2:IJ ps.length ts (Dh ts x y) p q c d):Ra ps ts x y=Db ps (Dh ts x y).a (Dh ts x y).b c d/\dD ts x y=CF ts (Dh ts x y).a (Dh ts x y).b p q c d:=by
  unfold Ra dD
  rw [(Cu h2).1,(Cu h2).2,xI h,Bool.true_and,Bool.true_and,h2.l,h2.r];exact ⟨rfl,rfl⟩
theorem U7 (h:0<=GF ts x y):XA ps ts x y=if Ra ps ts x y=true then 0 else 7:=if_neg Z
end
def nexI (ps:List Pt) (ts:List T3):List E4->Nat->Int
  | [],_ => -1
  | e::r,i=>if Dx ps ts e=true then nexI ps ts r (i+1) else (i:Int)
section
variable {ps:List Pt} {ts:List T3} {es:List E4} {j:Nat}
theorem Sy (hj:j<es.length) (h:Dx ps ts (es.getD j E0)=true):nexI ps ts (es.drop j) j=nexI ps ts (es.drop (j+1)) (j+1):=by
  rw [Fb (d:=E0) hj];exact if_pos h
theorem Vx (hj:j<es.length) (h:Dx ps ts (es.getD j E0)=false):nexI ps ts (es.drop j) j=(j:Int):=by
  rw [Fb (d:=E0) hj];exact if_neg (by rw [h];decide)
theorem Vw (hj:¬j<es.length):nexI ps ts (es.drop j) j = -1:=by
  rw [List.drop_eq_nil_of_le Z];rfl
def Mb (ps:List Pt) (ts:List T3):Int:=nexI ps ts (BK ts) 0
def Jw (ps:List Pt) (ts:List T3):E4:=(BK ts).getD (Mb ps ts).toNat E0
def nexV (ps:List Pt) (ts:List T3):Bool:=if Mb ps ts<0 then false else Db ps (Jw ps ts).a (Jw ps ts).b (B9 ts (Jw ps ts)).c (B9 ts (Jw ps ts)).d
def Cj (ps:List Pt) (ts:List T3):List T3:=if Mb ps ts<0 then ts else MY ps ts (Jw ps ts).a (Jw ps ts).b (Jw ps ts).l.toNat (Jw ps ts).r.toNat (B9 ts (Jw ps ts)).c (B9 ts (Jw ps ts)).d
theorem V3 (h:Mb ps ts = -1):nexV ps ts=false/\Cj ps ts=ts:=by
  unfold nexV Cj;rw [h];exact ⟨rfl,rfl⟩
theorem Rv (h:Mb ps ts=(j:Int)) {e:E4} (he:e=(BK ts).getD j E0) {p q c d:Nat} (h2:IJ ps.length ts e p q c d):nexV ps ts=Db ps e.a e.b c d/\Cj ps ts=MY ps ts e.a e.b p q c d:=by
  have e1:Jw ps ts=e:=by unfold Jw;rw [h,he];rfl
  unfold nexV Cj
  rw [e1,(Cu h2).1,if_neg Z,if_neg Z,h2.l,h2.r];exact ⟨rfl,rfl⟩
theorem FN:(Cj ps ts).length=ts.length:=by
  unfold Cj;split
  · rfl
  · exact U_
end
theorem BH.thaw1 {w0:BD} {w:World} {A:List As} {p:Option Addr} {T z m cp:Nat} {cs:List Value} (h:BH w0 w (A++[JJ p T z m cp cs])) (hnew:∀b,p.map (·.block)=some b->w0.w.heap.size<=b) (hap:∀y∈A,y.ro=false\/∀b,p.map (·.block)=some b->y.foot≠some b):BH w0 w (A++[rowW p T z m cp cs]):=by
  obtain ⟨h1,h2,h3⟩:=h
  obtain ⟨p1,p2,p3⟩:=List.pairwise_append.1 h3
  refine ⟨h1,λx hx b e=>?_,List.pairwise_append.2 ⟨p1,List.pairwise_singleton _ _,λx hx y hy=>?_⟩⟩
  · rcases List.mem_append.1 hx with hx|hx
    · exact h2 x (List.mem_append_left _ hx) b e
    · rw [xO] at hx
      subst hx
      obtain ⟨_,o,ho,hp⟩:=h2 (JJ p T z m cp cs) (List.mem_append_right _ (xO.2 rfl)) b e
      exact ⟨.inr (.inl (hnew b e)),o,ho,hp⟩
  · rw [xO] at hy
    subst hy
    refine .inr λb e1 e2=>?_
    rcases hap x hx with h|h
    · rcases p3 x hx (JJ p T z m cp cs) (xO.2 rfl) with k|k
      · rw [h] at k;cases k.1
      · exact k b e1 e2
    · exact h b e2 e1
theorem yu {P:Program} {c:Code} {Q:Exit->Act->World->Prop} {n:Nat} {F:List (Nat×Value)} {w0:BD} {L A B:List As} {p:Option Addr} {T z m cp:Nat} {cs:List Value} (hs:(A++JJ p T z m cp cs::B).Sublist L) (hnew:∀b,p.map (·.block)=some b->w0.w.heap.size<=b)
    (hA:∀y∈A,y.ro=false\/∀b,p.map (·.block)=some b->y.foot≠some b) (hB:∀y∈B,y.ro=false\/∀b,p.map (·.block)=some b->y.foot≠some b) (next:OkC P c Q n F w0 (A++rowW p T z m cp cs::B)):OkC P c Q n F w0 L:=by
  have hp:∀X:As,(A++X::B).Perm (A++B++[X]):=λX=>by
    rw [List.append_assoc];exact List.Perm.append_left A (List.perm_append_comm (l₁:=[X]) (l₂:=B))
  exact λa w ha hW=>next a w ha ((((hW.weak hs).perm (hp _)).thaw1 hnew (λy hy=>(List.mem_append.1 hy).elim (hA y) (hB y))).perm (hp _).symm)
theorem BH.frz2 {w0:BD} {w:World} {L:List As} {p:Option Addr} {T z m c:Nat} {cs:List Value} (h:BH w0 w (rowW p T z m c cs::L)) (ho:OwnOk p m c) (hl:cs.length=m*z) (he:w0.ex=none) :
    BH w0 w (AN p cs::JJ p T z m c cs::L)/\(∀b,p.map (·.block)=some b->w0.w.heap.size<=b)/\∀y∈L,∀b,p.map (·.block)=some b->y.foot≠some b:=by
  have h5:BH w0 w (JJ p T z m c cs::L):=h.freeze (i:=0) rfl rfl (λo h=>h) (λe=>by cases e)
  obtain ⟨h1,h2,h3⟩:=h
  have h4:=(List.pairwise_cons.1 h3).1
  have hd:∀y∈L,∀b,p.map (·.block)=some b->y.foot≠some b:=λy hy b e=>by
    rcases h4 y hy with k|k
    · cases k.1
    · exact k b e
  refine ⟨⟨h1,λx hx b e=>?_,List.pairwise_cons.2 ⟨λy hy=>?_,h5.2.2⟩⟩,λb e=>?_,hd⟩
  · rcases xN.1 hx with rfl|hx
    · obtain ⟨_,o,h6,h7⟩:=h5.2.1 _ List.mem_cons_self b e
      exact ⟨.inl O,o,h6,DY ho hl h7⟩
    · exact h5.2.1 x hx b e
  · rcases xN.1 hy with rfl|hy
    · exact .inl ⟨rfl,rfl⟩
    · exact .inr (hd y hy)
  · rcases (h2 _ List.mem_cons_self b e).1 with k|k|k
    · cases k
    · exact k
    · rw [he] at k;cases k
end
section
section
variable {P:Program} {ops:Array Oper} {Q:Exit->Act->World->Prop} {n:Nat} {w0:BD} {LA LB L L':List As} {F F':List (Nat×Value)} {l:List Oper} {e2:List (Nat×Bool)} {k q:Nat}
theorem Kk {listed:Array Bool} (hcl:HG l.toArray listed):∀(f k i:Nat),CJ l f k i=true->listed.getD k false=true->listed.getD i false=true
  | 0,_,_,h,_=>by cases h
  | f+1,k,i,h,hk=>by
    unfold CJ at h
    cases ho:l[k]? with
    | none=>rw [ho] at h;cases h
    | some o =>
      rw [ho] at h
      simp only [yy,List.any_eq_true,yz] at h
      have st:∀m,EQ o m=true->listed.getD m false=true:=λm hm=>by
        obtain ⟨e,he,hb,rfl⟩:=DW hm
        exact hcl k o hk (by simpa using ho) e he hb
      rcases h with h|⟨m,_,h1,h2⟩
      · exact st i h
      · exact Kk hcl f m i h2 (st m h1)
variable {r:List (Nat×Bool)} {i d:Nat} {v:Value} {o oq:Oper} {K:List (Nat×Value)->List As->Prop}
end
end
section
def CN (P:Program) (l:List Oper) (k:Nat) (Q:Exit->Act->World->Prop) (n:Nat) (w0:BD) (LA LB:List As) (K:List (Nat×Value)->List As->Prop):List (Nat×Bool)->List (Nat×Value)->List As->Prop
  | [],F,L=>K F L
  | (i,true)::r,F,L=>∃o d v,l.toArray[i]?=some o/\o.dst=some d/\d<n/\dA P l.toArray n w0 (if CJ l 8 k i=true then LA else LB) F o v/\CN P l k Q n w0 LA LB K r ((d,v)::F) L
  | (i,false)::r,F,L=>∃o,l.toArray[i]?=some o/\AR P l.toArray [o] (PE Q n w0 LA λF' L'=>CN P l k Q n w0 LA LB K r F' L') n F w0 L
def NY (l:List Oper) (e1:List (Nat×Bool)) (k:Nat) (e2:List (Nat×Bool)):Bool :=
  Dr l [] none (e1++(k,false)::e2)&&NW l [] (e1++(k,false)::e2)&&Nat.beq (e1.length+e2.length+1) l.length&&Region.noSelect l.toArray&&(l[k]?).isSome
section
variable {P:Program} {ops:Array Oper} {Q:Exit->Act->World->Prop} {n:Nat} {w0:BD} {LA LB L L':List As} {F F':List (Nat×Value)} {l:List Oper} {e2:List (Nat×Bool)} {k:Nat}
theorem TW (hsel:Region.noSelect l.toArray=true) (hQ:∀c a d v w,Q (.panic c) (a.put d v) w->Q (.panic c) a w) (hAB:LB.Sublist LA) {ok:Oper} (hok:l[k]?=some ok) :
    ∀(es:List (Nat×Bool)) (D:List Nat) (p:Option Nat) (listed:Array Bool) (a:Act) (w:World) (F:List (Nat×Value)) (L:List As),
      k ∉ D->Dr l D p (es++(k,false)::e2)=true->NQ l D listed->(∀i,i<l.length->i∈D\/(es++(k,false)::e2).any (λe=>e.1 == i)=true)->Wk LA L->Cx n a F->BH w0 w L->CN P l k Q n w0 LA LB (JU P l.toArray Q n w0 LB k e2) es F L ->
      IH P l.toArray Q (λlisted w=>BH w0 w (if listed.getD k false=true then LB else LA)) (es.length+e2.length+1) listed a w:=by
  have only:∀(i:Nat) (r:List (Nat×Bool)) (D:List Nat) (p:Option Nat) (listed:Array Bool),Dr l D p ((i,false)::r)=true->NQ l D listed->(∀j,j<l.length->j∈D\/((i,false)::r).any (λe=>e.1 == j)=true)->∀j,j∈Region.ready .any l.toArray listed->j=i:=λi r D p listed hc hL hall j hj=>by
    obtain ⟨o,hg⟩:=DG hc
    obtain ⟨h0,oj,hoj,_⟩:=mem_ready.1 hj
    have hjl:j<l.length:=by simpa using (Array.getElem?_eq_some_iff.1 hoj).1
    rw [Cb (by rw [hL.size];exact hjl)] at h0
    rcases hall j hjl with h1|h1
    · rw [(hL.mem j).1 h1] at h0;cases h0
    · obtain ⟨e,he,rfl⟩:=IP h1
      rcases xN.1 he with rfl|he
      · rfl
      · exact absurd hj (EY hL.cl hg.tl (hL.no hg.nin) (λe he=>hL.no λhd=>(Ds hg.tl e he).1 (List.mem_cons_of_mem _ hd)) e he)
  have nxt:∀(i:Nat) (b:Bool) (r:List (Nat×Bool)) (D:List Nat),(∀j,j<l.length->j∈D\/((i,b)::r).any (λe=>e.1 == j)=true)->∀j,j<l.length->j∈i::D\/r.any (λe=>e.1 == j)=true:=λi b r D hall j hj=>by
    rcases hall j hj with h1|h1
    · exact .inl (List.mem_cons_of_mem _ h1)
    · simp only [List.any_cons,yy,beq_iff_eq] at h1
      rcases h1 with h1|h1
      · exact .inl (h1▸List.mem_cons_self)
      · exact .inr h1
  intro es
  induction es with
  | nil =>
    intro D p listed a w F L hkD hc hL hall hro ha hw h
    obtain ⟨o',ho',h⟩:=h
    simp only [List.nil_append,List.length_nil,Nat.zero_add] at hc hall ⊢
    obtain ⟨o,hg⟩:=DG hc
    have hat:l.toArray[k]?=some o:=by simpa using hg.at_
    rw [hat] at ho';injection ho' with ho';subst ho'
    have hkl:k<l.length:=(List.getElem?_eq_some_iff.1 hg.at_).1
    have hp:∀e∈o.after,Region.binds .any e=true->listed.getD e.on false=true:=λe he hb=>(hL.mem _).1 (hg.pre e he hb)
    have hrd:k∈Region.ready .any l.toArray listed:=mem_ready.2 ⟨by rw [Cb (by rw [hL.size];exact hkl)];exact hL.no hg.nin,o,hat,hp⟩
    refine ⟨λh0=>absurd hrd (by rw [h0];exact List.not_mem_nil),λj hj=>?_⟩
    have hjk:=only k e2 D p listed hc hL hall j hj
    subst hjk
    have hlk:(listed.setIfInBounds j true).getD j false=true:=by rw [IW _ _ _ _ (by rw [hL.size];exact hkl)];simp
    refine Is hat (h a w ha hw) λF' L' a' w' h1 h2 h3 h4=>⟨by show BH _ _ (ite _ _ _);rw [if_pos hlk];exact h3 _ _ h2,?_⟩
    exact HE (T:=λw=>BH w0 w LB) _ _ _ _ (λl' hl w hw=>by show BH _ _ (ite _ _ _);rw [if_pos (hl j hlk)];exact hw) (JQ hsel hQ e2 (j::D) (some j) _ a' w' F' L' hg.tl (hL.add hg.at_ hp) (nxt j false e2 D hall) h3 h1 h2 h4)
  | cons e r ih =>
    intro D p listed a w F L hkD hc hL hall hro ha hw h
    obtain ⟨i,b⟩:=e
    rw [List.cons_append] at hc hall
    obtain ⟨o,hg⟩:=DG hc
    have hat:l.toArray[i]?=some o:=by simpa using hg.at_
    have hil:i<l.length:=(List.getElem?_eq_some_iff.1 hg.at_).1
    have hp:∀e∈o.after,Region.binds .any e=true->listed.getD e.on false=true:=λe he hb=>(hL.mem _).1 (hg.pre e he hb)
    have hrd:i∈Region.ready .any l.toArray listed:=mem_ready.2 ⟨by rw [Cb (by rw [hL.size];exact hil)];exact hL.no hg.nin,o,hat,hp⟩
    have hki:k≠i:=λe=>(Ds hg.tl (k,false) (List.mem_append_right _ List.mem_cons_self)).1 (e▸List.mem_cons_self)
    have hkD':k ∉ i::D:=λh=>(xN.1 h).elim hki hkD
    have hnk:listed.getD k false=false:=hL.no hkD
    have hnk':(listed.setIfInBounds i true).getD k false=false:=(hL.add hg.at_ hp).no hkD'
    rw [show ((i,b)::r).length+e2.length+1=r.length+e2.length+1+1 by simp only [List.length_cons];omega]
    cases b with
    | true =>
      obtain ⟨o',d,v,ho',hd,hdn,hy,hn⟩:=h
      rw [hat] at ho';injection ho' with ho';subst ho'
      by_cases hedge:CJ l 8 k i=true
      · rw [if_pos hedge] at hy
        have hyield:YieldsIf P l.toArray (λw=>BH w0 w LA) o v a:=by
          rcases hy with ⟨h1,h2⟩|⟨h1,h2⟩
          · exact .inl ⟨h1 a ha,λw hW=>h2 a w ha hW⟩
          · exact .inr ⟨h1 a ha,h2⟩
        refine Ey hat (Region.noSelect_spec hsel) (λc a w=>bP hQ c a o.dst v w) (T:=λw=>BH w0 w LA) (λl' w hcl hr hS=>?_) (λl' w=>?_) _ listed a w (F0 hL hg.at_ (hg.fr O) hp) hrd hyield ?_ (λj oj hj ho e he hb=>hL.cl j oj hj (by simpa using ho) e he hb) ?_
        · have hkf:¬l'.getD k false=true:=λhk=>by
            have h1:=Kk hcl 8 k i hedge hk
            obtain ⟨h0,_⟩:=mem_ready.1 hr
            rcases Nat.lt_or_ge i l'.size with h5|h5
            · rw [Cb h5] at h0;rw [h0] at h1;cases h1
            · simp [Array.getElem?_eq_none h5] at h1
          have hS:BH w0 w (if l'.getD k false=true then LB else LA):=hS
          rw [if_neg hkf] at hS;exact hS
        · show BH _ _ (ite _ _ _)↔BH _ _ (ite _ _ _);rw [getD_set_ne false (Ne.symm hki)]
        · show BH _ _ (ite _ _ _);rw [if_neg (by rw [hnk];exact Bool.false_ne_true)];exact hro _ _ hw
        · exact ih (i::D) p _ _ w ((d,v)::F) L hkD' hg.tl (hL.add hg.at_ hp) (nxt i true _ D hall) hro (by rw [hd];exact ha.put hdn) hw hn
      · rw [if_neg hedge] at hy
        have hyield:YieldsIf P l.toArray (λw=>BH w0 w LB) o v a:=by
          rcases hy with ⟨h1,h2⟩|⟨h1,h2⟩
          · exact .inl ⟨h1 a ha,λw hW=>h2 a w ha hW⟩
          · exact .inr ⟨h1 a ha,h2⟩
        refine Ey hat (Region.noSelect_spec hsel) (λc a w=>bP hQ c a o.dst v w) (T:=λw=>BH w0 w LB) (λl' w hcl hr hS=>?_) (λl' w=>?_) _ listed a w (F0 hL hg.at_ (hg.fr O) hp) hrd hyield ?_ (λj oj hj ho e he hb=>hL.cl j oj hj (by simpa using ho) e he hb) ?_
        · have hS:BH w0 w (if l'.getD k false=true then LB else LA):=hS
          by_cases hk:l'.getD k false=true
          · rw [if_pos hk] at hS;exact hS
          · rw [if_neg hk] at hS;exact hS.weak hAB
        · show BH _ _ (ite _ _ _)↔BH _ _ (ite _ _ _);rw [getD_set_ne false (Ne.symm hki)]
        · show BH _ _ (ite _ _ _);rw [if_neg (by rw [hnk];exact Bool.false_ne_true)];exact hro _ _ hw
        · exact ih (i::D) p _ _ w ((d,v)::F) L hkD' hg.tl (hL.add hg.at_ hp) (nxt i true _ D hall) hro (by rw [hd];exact ha.put hdn) hw hn
    | false =>
      obtain ⟨o',ho',h⟩:=h
      rw [hat] at ho';injection ho' with ho';subst ho'
      refine ⟨λh0=>absurd hrd (by rw [h0];exact List.not_mem_nil),λj hj=>?_⟩
      have hji:=only i (r++(k,false)::e2) D p listed hc hL hall j hj
      subst hji
      refine Is hat (h a w ha hw) λF' L' a' w' h1 h2 h3 h4=>⟨by show BH _ _ (ite _ _ _);rw [if_neg (by rw [hnk'];exact Bool.false_ne_true)];exact h3 _ _ h2,?_⟩
      exact ih (j::D) (some j) _ a' w' F' L' hkD' hg.tl (hL.add hg.at_ hp) (nxt j false _ D hall) h3 h1 h2 h4
theorem eC {id:Nat} (e1:List (Nat×Bool)) (k:Nat) (e2:List (Nat×Bool)) (hA:Wk LA L) (hAB:LB.Sublist LA) (hc:NY l e1 k e2=true) (hQ:∀c a d v w,Q (.panic c) (a.put d v) w->Q (.panic c) a w)
    (h:CN prog l k Q n w0 LA LB (JU prog l.toArray Q n w0 LB k e2) e1 F L):OkC prog (.region id l.toArray true) Q n F w0 L:=λa w ha hw=>by
  simp only [NY,yz] at hc
  obtain ⟨⟨⟨⟨h1,h2⟩,h3⟩,h4⟩,h5⟩:=hc
  have hlen:=Nat.eq_of_beq_eq_true h3
  cases hok:l[k]? with
  | none=>simp [hok] at h5
  | some ok =>
    refine wp_region_any EP (II (S:=λlisted w=>BH w0 w (if listed.getD k false=true then LB else LA)) _ _ _ _ ?_)
    rw [show l.toArray.size=e1.length+e2.length+1 by rw [hlen];simp]
    have hst:=HV (l:=l)
    rw [<-hlen] at hst
    refine TW h4 hQ hAB hok e1 [] none _ a w.drew F L jX h1 hst (λi hi=>?_) hA ha hw.drew h
    have:=List.all_eq_true.1 h2 i (List.mem_range.2 hi)
    simpa using this
theorem fX {id:Nat} (e1:List (Nat×Bool)) (k:Nat) (e2:List (Nat×Bool)) (hA:LA.Sublist L) (hAB:LB.Sublist LA) (hc:NY l e1 k e2=true) (hQ:∀c a d v w,Q (.panic c) (a.put d v) w->Q (.panic c) a w)
    (h:CN prog l k Q n w0 LA LB (JU prog l.toArray Q n w0 LB k e2) e1 F L):OkC prog (.region id l.toArray true) Q n F w0 L  :=eC e1 k e2 (Wk.of hA) hAB hc hQ h
theorem CN.pasA {K:List (Nat×Value)->List As->Prop} {r:List (Nat×Bool)} {i d:Nat} {o:Oper} {v:Value} (ho:l.toArray[i]?=some o) (hb:CJ l 8 k i=true) (hw:Wt l.toArray n F o) (he:Ex P n F w0 LA o v) (hd:o.dst=some d) (hn:Nat.ble (d+1) n=true) (next:CN P l k Q n w0 LA LB K r ((d,v)::F) L):CN P l k Q n w0 LA LB K ((i,true)::r) F L:=⟨o,d,v,ho,hd,Nat.le_of_ble_eq_true hn,.inl ⟨hw,by rw [if_pos hb];exact he⟩,next⟩
theorem CN.back {K:List (Nat×Value)->List As->Prop} {r:List (Nat×Bool)} (hro:LA.Sublist L') (h:CN P l k Q n w0 LA LB K r F' L'):AR P ops [] (PE Q n w0 LA λF' L'=>CN P l k Q n w0 LA LB K r F' L') n F' w0 L':=AR.nil λa w ha hw=>⟨F',L',ha,hw,Wk.of hro,h⟩
theorem CN.imp {K:List (Nat×Value)->List As->Prop} {r:List (Nat×Bool)} {i:Nat} {o:Oper} (ho:l.toArray[i]?=some o) (h:AR P l.toArray [o] (PE Q n w0 LA λF' L'=>CN P l k Q n w0 LA LB K r F' L') n F w0 L):CN P l k Q n w0 LA LB K ((i,false)::r) F L:=⟨o,ho,h⟩
theorem CN.cut {o:Oper} (ho:l.toArray[k]?=some o) (h:AR P l.toArray [o] (PE Q n w0 LB λF' L'=>OkE P l.toArray Q n w0 LB e2 F' L') n F w0 L):CN P l k Q n w0 LA LB (JU P l.toArray Q n w0 LB k e2) [] F L:=⟨o,ho,h⟩
end
end
end Go.Proofs.YtbfdamnfcmefmaaGreatDoor
