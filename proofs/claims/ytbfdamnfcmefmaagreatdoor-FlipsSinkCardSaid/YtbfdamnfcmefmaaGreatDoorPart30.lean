import Derived.Test.YtbfdamnfcmefmaaGreatDoorPart29
namespace Go.Proofs.YtbfdamnfcmefmaaGreatDoor
open Go Go.RowKit Go.Proofs.Tryz
open Go.Value renaming slice→qz,bool→qa
set_option linter.unusedVariables false
set_option linter.unusedSimpArgs false
section
abbrev EZ:=Int×Int×Int×Int
abbrev KI:=List (P2×Int)
def e8 (a b:Int):P2:=CB a.toNat b.toNat
def aY (N:Nat) (ss:List Z3):Nat->KI
  | 0=>[]
  | k+1=>if B3 N (ss.getD (ss.length-1-k) (0,0,0)).1=true/\B3 N (ss.getD (ss.length-1-k) (0,0,0)).2.1=true then Bl (aY N ss k) (e8 (ss.getD (ss.length-1-k) (0,0,0)).1 (ss.getD (ss.length-1-k) (0,0,0)).2.1) (ss.getD (ss.length-1-k) (0,0,0)).2.2 else aY N ss k
def Z_ (m:KI) (a b:Nat):Int:=(BU m (CB a b)).getD 0
def dO (N:Nat) (st:KI×Nat) (v:P2):KI×Nat:=(Bl (Bl st.1 (CB v.1 (N+st.2)) (Z_ st.1 v.1 v.2)) (CB v.2 (N+st.2)) (Z_ st.1 v.1 v.2),st.2+1)
def dP (N:Nat) (ss:List Z3) (vs:List P2):KI:=(vs.foldl (dO N) (aY N ss ss.length,0)).1
def dl (N:Nat) (e:EZ):Bool:=B3 N e.1&&B3 N e.2.1
def de (e:EZ):P2:=(e.1.toNat,e.2.1.toNat)
def fQ (N:Nat) (es:List EZ) (i:Nat):List P2:=((es.take i).filter (dl N)).map de
def bh (ps:List Pt) (v:P2):Pt:=G4 (ps.getD v.1 ⟨0,0⟩+ps.getD v.2 ⟨0,0⟩) (1/2)
def fH (ps:List Pt) (vs:List P2):List Pt:=vs.foldl (λl v=>l++[bh ps v]) ps
def C8 (s:Tq3):Z3:=((s.1:Int),(s.2.1:Int),(s.2.2:Int))
def du (n:Nat) (us:List Z3):List T3:=if JJ n us=true then Eh (us.map dh) else []
section
variable {N:Nat} {ss:List Z3} {vs:List P2} {v:P2} {es:List EZ} {i j k a b:Nat} {m:KI} {rs:List T3} {ps:List Pt}
theorem E6 (rs:List T3):rowsL Ad rs=rowsL Bb (rs.map C8):=by unfold rowsL;rw [List.flatMap_map];rfl
end
def dR (N:Nat) (ss:List Z3) (vs:List P2) (us:List Z3):List Z3:=(du (N+vs.length) us).map λs=>((s.1:Int),(s.2.1:Int),Z_ (dP N ss vs) s.1 s.2.1)
structure dC (N M:Nat) (ss:List Z3) where
  cs:List Value
  es:List Value
  a:RX cs N
  b:RX es M
  c:RX (rowsL Bb ss) ss.length
def fL {N M:Nat} {ss:List Z3} (x:dC N M ss):List Value:=[x.a.val,x.b.val,x.c.val]
theorem cI {N M:Nat} {ss:List Z3} {x:dC N M ss} {y:As} (hy:y∈[x.a.row,x.b.row,x.c.row]):y.ro=true:=by
  simp only [xO,List.not_mem_nil,or_false] at hy
  rcases hy with rfl|rfl|rfl<;>rfl
instance {N M:Nat} {ss:List Z3}:C6 (dC N M ss):=⟨λx=>aG (fL x),λx=>[x.a.row,x.b.row,x.c.row],λx y hy=>cI hy⟩
section
variable {S:Nat->Prop} {w:World} {N M:Nat} {zs ss:List Z3} {ps:List Pt} {a b:Int} {i:Nat}
end
section
variable {f:Nat->Nat->Int} {rs:List T3} {i:Nat}
end
section
variable {rs qs:List RP} {q:RP} {N i k:Nat} {es:List EZ}
end
section
variable {N i:Nat} {es:List EZ}
end
end
section
section
variable {N:Nat} {ts:List T3} {zs ss:List Z3} {ps:List Pt}
theorem YY (t:T3):XD N (C8 t)=JM N t:=by
  obtain ⟨a,b,c⟩:=t
  unfold XD JM C8 B3
  rw [Bool.eq_iff_iff]
  simp only [yz,xY,xW,xV]
  omega
theorem S4:JJ N (ts.map C8)=BV N ts:=by
  unfold JJ BV
  rw [List.all_map]
  congr 1
  funext t
  exact YY t
end
structure MN (ps:List Pt) (ts:List T3) (ss:List Z3) where
  a:RX (rowsL AZ ps) ps.length
  b:RX (rowsL Ad ts) ts.length
  c:RX (rowsL Bb ss) ss.length
def Cb {ps:List Pt} {ts:List T3} {ss:List Z3} (x:MN ps ts ss):List Value:=[x.a.val,x.b.val,x.c.val]
theorem Vh {ps:List Pt} {ts:List T3} {ss:List Z3} {x:MN ps ts ss} {y:As} (hy:y∈[x.a.row,x.b.row,x.c.row]):y.ro=true:=by
  simp only [xO,List.not_mem_nil,or_false] at hy
  rcases hy with rfl|rfl|rfl<;>rfl
instance {ps:List Pt} {ts:List T3} {ss:List Z3}:C6 (MN ps ts ss):=⟨λx=>aG (Cb x),λx=>[x.a.row,x.b.row,x.c.row],λx y hy=>Vh hy⟩
section
variable {N:Nat} {ts:List T3} {zs ss:List Z3} {ps:List Pt}
theorem ZL (x:MN ps ts ss):∃y:RM ps.length ts (List.replicate ss.length (0,0,0)),XG y=Cb x/\∀{S:Nat->Prop} {w:World},Ro S w x->Ro S w y:=by
  obtain ⟨a,b,⟨cp,cc,cok⟩⟩:=x
  have hk:ss.length=(List.replicate ss.length jJ).length:=(List.length_replicate).symm
  refine ⟨⟨rowsL AZ ps,rowsL Bb ss,a,b,⟨cp,cc,hk▸cok⟩⟩,?_,λ{S w} hx y hy=>hx y hy⟩
  show [a.val,b.val,.slice cp (List.replicate ss.length jJ).length cc]=[a.val,b.val,.slice cp ss.length cc]
  rw [<-hk]
theorem Rq (x:MN ps ts ss):∃y:MZ ps (ts.map C8) ss,PJ y=Cb x/\∀{S:Nat->Prop} {w:World},Ro S w x->Ro S w y:=by
  obtain ⟨a,⟨bp,bc,bok⟩,c⟩:=x
  have hk:ts.length=(ts.map C8).length:=(xL _).symm
  refine ⟨⟨a,⟨bp,bc,hk▸bok⟩,c⟩,?_,λ{S w} hx y hy=>?_⟩
  · show [a.val,.slice bp (ts.map C8).length bc,c.val]=[a.val,.slice bp ts.length bc,c.val]
    rw [<-hk]
  · have hy:y∈[a.row,AP bp (rowsL Bb (ts.map C8)),c.row]:=hy
    rw [<-E6] at hy
    exact hx y hy
end
structure dB (ps:List Pt) (ts:List T3) (ss:List Z3) where
  rs:List RP
  e:rs.map (·.p)=ps
  a:RX (rowsL bI rs) rs.length
  b:RX (rowsL Ad ts) ts.length
  c:RX (rowsL Bb ss) ss.length
def fJ {ps:List Pt} {ts:List T3} {ss:List Z3} (x:dB ps ts ss):List Value:=[x.a.val,x.b.val,x.c.val]
theorem cD {ps:List Pt} {ts:List T3} {ss:List Z3} {x:dB ps ts ss} {y:As} (hy:y∈[x.a.row,x.b.row,x.c.row]++bJ x.rs):y.ro=true:=by
  rcases List.mem_append.1 hy with hy|hy
  · simp only [xO,List.not_mem_nil,or_false] at hy
    rcases hy with rfl|rfl|rfl<;>rfl
  · exact WL hy
instance {ps:List Pt} {ts:List T3} {ss:List Z3}:C6 (dB ps ts ss):=⟨λx=>aG (fJ x),λx=>[x.a.row,x.b.row,x.c.row]++bJ x.rs,λx y hy=>cD hy⟩
section
variable {N:Nat} {ts:List T3} {zs ss:List Z3} {ps:List Pt}
end
def eU (e:E4):EZ:=((e.a:Int),(e.b:Int),e.l,e.r)
structure eM (ps:List Pt) (ts ss:List Z3) where
  m:MZ ps ts ss
  ha:m.a.c=ps.length
  hb:m.b.c=ts.length
instance {ps:List Pt} {ts ss:List Z3}:C6 (eM ps ts ss):=⟨λx=>aG (PJ x.m),λx=>[x.m.a.row,x.m.b.row,x.m.c.row],λx y hy=>Vo hy⟩
structure eN (ps:List Pt) (ts ss:List Z3) (l:List Nat) (e:Nat) where
  x:eM ps ts ss
  q:CX (ba l) l.length
instance {ps:List Pt} {ts ss:List Z3} {l:List Nat} {e:Nat}:C6 (eN ps ts ss l e):=⟨λr=>.tuple #[aG (PJ r.x.m),.slice r.q.p l.length l.length,vN e],λr=>[r.x.m.a.row,r.x.m.b.row,r.x.m.c.row,AP r.q.p (ba l)],λr y hy=>by
  rcases List.mem_append.1 (show y∈[r.x.m.a.row,r.x.m.b.row,r.x.m.c.row]++[AP r.q.p (ba l)] from hy) with hy|hy
  · exact Vo hy
  · rcases xP.1 hy with rfl;rfl⟩
structure en (ps:List Pt) (ts ss:List Z3) (l:List Nat) (e:Nat) where
  x:cq ps ts ss
  q:RX (ba l) l.length
instance {ps:List Pt} {ts ss:List Z3} {l:List Nat} {e:Nat}:C6 (en ps ts ss l e):=⟨λr=>.tuple #[aG (eX r.x),r.q.val,vN e],λr=>r.q.row::([r.x.a.row,r.x.b.row,r.x.c.row]++bJ r.x.rs),λr y hy=>by
  rcases xO.1 hy with rfl|hy
  · rfl
  · exact ZQ hy⟩
section
variable {N M i j a b:Nat} {ts:List T3}
end
end
section
section
variable {n j:Nat} {ms:List Int}
end
section
variable {es:List E4} {x y j i N a b:Nat} {ts:List T3} {ms:List Int} {bs:List Bool}
end
def eP (N:Nat) (l:List E4):List P2:=fQ N (l.map eU) (l.map eU).length
def eO (N:Nat) (l:List E4) (ts:List T3):List Z3:=(dV (Sw N l l.length) ts).map C8
structure ec (ps:List Pt) (ts:List T3) (ss:List Z3) (ms:List Int) where
  l:List E4
  cut:cz ts ms l
  x:eN (fH ps (eP ps.length l)) (eO ps.length l ts) (dR ps.length ss (eP ps.length l) (eO ps.length l ts)) (dU (Sw ps.length l l.length) ts ts.length) 0
instance {ps:List Pt} {ts:List T3} {ss:List Z3} {ms:List Int}:C6 (ec ps ts ss ms):=⟨λb=>C6.val b.x,λb=>C6.rows b.x,λb y hy=>C6.ro b.x y hy⟩
end
section
structure ZC (ps:List Pt) (ts:List T3) (ss:List Z3) where
  a:OX 78 10 (rowsL AZ ps) ps.length
  b:OX 71 3 (rowsL Ad ts) ts.length
  c:OX 80 3 (rowsL Bb ss) ss.length
def bC {ps:List Pt} {ts:List T3} {ss:List Z3} (x:ZC ps ts ss):List Value:=[Ti x.a,Ti x.b,Ti x.c]
@[reducible] def bD {ps:List Pt} {ts:List T3} {ss:List Z3} (x:ZC ps ts ss):List As:=[rowW x.c.p 80 3 ss.length x.c.c (rowsL Bb ss),rowW x.b.p 71 3 ts.length x.b.c (rowsL Ad ts),rowW x.a.p 78 10 ps.length x.a.c (rowsL AZ ps)]
theorem E9.toCpN {S:Nat->Prop} {W w:World} {e:Ending} {ps:List Pt} {ts:List T3} {ss:List Z3} (h:E9 (λa:bK ps (ts.map C8) ss=>aG (eQ a)) eR S W e w):E9 (λa:ZC ps ts ss=>aG (bC a)) bD S W e w:=by
  obtain ⟨⟨aa,⟨bp,bc,bok⟩,ac⟩,h1,h2,h3⟩:=h
  have e1:(ts.map C8).length=ts.length:=xL _
  refine ⟨⟨aa,⟨bp,bc,e1▸bok⟩,ac⟩,?_,h2,?_⟩
  · rw [h1]
    show Ending.returned (aG [Ti aa,.slice bp (ts.map C8).length (ts.map C8).length,Ti ac])=.returned (aG [Ti aa,.slice bp ts.length ts.length,Ti ac])
    rw [e1]
  · have h3:XN S W w [rowW ac.p 80 3 ss.length ac.c (rowsL Bb ss),rowW bp 71 3 (ts.map C8).length bc (rowsL Bb (ts.map C8)),rowW aa.p 78 10 ps.length aa.c (rowsL AZ ps)]:=h3
    rw [<-E6,e1] at h3
    exact h3
structure eg (rs:List RP) (zt ss:List Z3) where
  a:OX 109 6 (rowsL bI rs) rs.length
  b:OX 71 3 (rowsL Bb zt) zt.length
  c:OX 111 3 (rowsL Bb ss) ss.length
@[reducible] def fX {rs:List RP} {zt ss:List Z3} (x:eg rs zt ss):List As:=[rowW x.c.p 111 3 ss.length x.c.c (rowsL Bb ss),rowW x.b.p 71 3 zt.length x.b.c (rowsL Bb zt),rowW x.a.p 109 6 rs.length x.a.c (rowsL bI rs)]
structure ef (rs:List RP) (ts:List T3) (ss:List Z3) where
  a:OX 109 6 (rowsL bI rs) rs.length
  b:OX 71 3 (rowsL Ad ts) ts.length
  c:OX 111 3 (rowsL Bb ss) ss.length
@[reducible] def fW {rs:List RP} {ts:List T3} {ss:List Z3} (x:ef rs ts ss):List As:=[rowW x.c.p 111 3 ss.length x.c.c (rowsL Bb ss),rowW x.b.p 71 3 ts.length x.b.c (rowsL Ad ts),rowW x.a.p 109 6 rs.length x.a.c (rowsL bI rs)]
section
variable {S:Nat->Prop} {w W:World} {L:List As} {ps:List Pt} {ts:List T3} {zt ss:List Z3}
theorem Vg {x:MN ps ts ss} (h1:Ro S w x.a) (h2:Ro S w x.b) (h3:Ro S w x.c):Ro S w x:=λy hy=>by
  have hy:y∈[x.a.row,x.b.row,x.c.row]:=hy
  simp only [xO,List.not_mem_nil,or_false] at hy
  rcases hy with rfl|rfl|rfl
  · exact h1 _ (xP.2 O)
  · exact h2 _ (xP.2 O)
  · exact h3 _ (xP.2 O)
theorem At.mn {w0:BF} {x:MN ps ts ss} (h1:At w0 S x.a) (h2:At w0 S x.b) (h3:At w0 S x.c):At w0 S x:=λy hy b e=>by
  have hy:y∈[x.a.row,x.b.row,x.c.row]:=hy
  simp only [xO,List.not_mem_nil,or_false] at hy
  rcases hy with rfl|rfl|rfl
  · exact h1 _ List.mem_cons_self b e
  · exact h2 _ List.mem_cons_self b e
  · exact h3 _ List.mem_cons_self b e
end
section
variable {ps:List Pt} {c:T3} {ts:List T3} {f:Nat->Nat} {k:Nat}
end
end
section
def inG:List E4->Int->Int->Nat->Int
  | [],_,_,_ => -1
  | e::r,x,y,i=>if (e.a:Int)=x/\(e.b:Int)=y then (i:Int) else inG r x y (i+1)
section
variable {es:List E4} {x y:Int} {j i N a b c:Nat} {ts:List T3}
theorem VJ (hj:j<es.length) (h:¬(((es.getD j E0).a:Int)=x/\((es.getD j E0).b:Int)=y)):inG (es.drop j) x y j=inG (es.drop (j+1)) x y (j+1):=by
  rw [FZ (d:=E0) hj];exact if_neg h
theorem X7 (hj:j<es.length) (h:((es.getD j E0).a:Int)=x/\((es.getD j E0).b:Int)=y):inG (es.drop j) x y j=(j:Int):=by
  rw [FZ (d:=E0) hj];exact if_pos h
theorem X6 (hj:¬j<es.length):inG (es.drop j) x y j = -1:=by
  rw [List.drop_eq_nil_of_le Z];rfl
theorem LV:∀(es:List E4) (i:Nat),(inG es x y i = -1/\∀e∈es,¬((e.a:Int)=x/\(e.b:Int)=y))\/∃j,j<es.length/\inG es x y i=((i+j:Nat):Int)/\((es.getD j E0).a:Int)=x/\((es.getD j E0).b:Int)=y
  | [],i=>.inl ⟨rfl,λe h=>by cases h⟩
  | e::r,i=>by
    by_cases h:(e.a:Int)=x/\(e.b:Int)=y
    · exact .inr ⟨0,Nat.succ_pos _,if_pos h,h.1,h.2⟩
    · have e1:inG (e::r) x y i=inG r x y (i+1):=if_neg h
      rcases LV r (i+1) with ⟨h1,h2⟩|⟨j,h1,h2,h3,h4⟩
      · exact .inl ⟨by rw [e1,h1],λd hd=>by rcases xO.1 hd with rfl|hd;exact h;exact h2 d hd⟩
      · exact .inr ⟨j+1,Nat.succ_lt_succ h1,by rw [e1,h2];congr 1;omega,h3,h4⟩
def GJ (ts:List T3) (x y:Int):Int:=inG (BJ ts) (min x y) (max x y) 0
theorem Mv (ts:List T3) (x y:Int):GJ ts x y = -1\/∃j,j<(BJ ts).length/\GJ ts x y=(j:Int):=by
  rcases LV (x:=min x y) (y:=max x y) (BJ ts) 0 with ⟨h,_⟩|⟨j,h1,h2,_⟩
  · exact .inl h
  · exact .inr ⟨j,h1,by unfold GJ;rw [h2,Nat.zero_add]⟩
def J1 (t:T3) (a b:Nat):Nat:=t.1+t.2.1+t.2.2-a-b
structure I5 (N:Nat) (t:T3) (a b c:Nat):Prop where
  w:(t.1=a/\t.2.1=b/\t.2.2=c)\/(t.2.1=a/\t.2.2=b/\t.1=c)\/(t.2.2=a/\t.1=b/\t.2.1=c)
  ab:a≠b
  bc:b≠c
  ca:c≠a
  a:a<N
  b:b<N
  c:c<N
theorem I5.far {t:T3} (h:I5 N t a b c):J1 t a b=c/\J1 t b a=c/\a+b<=t.1+t.2.1+t.2.2:=by
  have:=h.w;unfold J1;omega
theorem Qv (hn:BV N ts=true) {z:Int} (h:KB ts (3*ts.length) a b z) (hz:0<=z):∃t,t<ts.length/\z=(t:Int)/\∃c,I5 N (ts.getD t (0,0,0)) a b c:=by
  rcases h with ⟨h1,_⟩|⟨u,h1,h2,h3,_⟩
  · omega
  · refine ⟨u/3,Z,h2,?_⟩
    have hk:=CQ hn (show u/3<ts.length by omega)
    unfold Br at h3
    generalize ts.getD (u/3) (0,0,0)=T at h3 hk
    obtain ⟨p,q,r⟩:=T
    simp only [JM,yz,xY,xW,xV] at hk
    obtain ⟨⟨⟨⟨⟨g1,g2⟩,g3⟩,g4⟩,g5⟩,g6⟩:=hk
    have h4:u%3<3:=Nat.mod_lt _ jY
    generalize u%3=s at h3 h4
    injection h3 with e1 e2
    rcases (by omega:s=0\/s=1\/s=2) with rfl|rfl|rfl<;>simp [FB] at e1 e2<;>subst e1 e2
    · exact ⟨r,⟨.inl ⟨rfl,rfl,rfl⟩,g4,g5,g6,g1,g2,g3⟩⟩
    · exact ⟨p,⟨.inr (.inl ⟨rfl,rfl,rfl⟩),g5,g6,g4,g2,g3,g1⟩⟩
    · exact ⟨q,⟨.inr (.inr ⟨rfl,rfl,rfl⟩),g6,g4,g5,g3,g1,g2⟩⟩
end
structure PR where
  e:E4
  c:Nat
  d:Nat
def Js (p:PR):List Value:=[vN p.e.a,vN p.e.b,.int .i64 p.e.l,.int .i64 p.e.r,vN p.c,vN p.d]
structure Hi (N:Nat) (ts:List T3) (e:E4) (p q c d:Nat):Prop where
  l:e.l=(p:Int)
  r:e.r=(q:Int)
  pl:p<ts.length
  ql:q<ts.length
  sc:I5 N (ts.getD p (0,0,0)) e.a e.b c
  sd:I5 N (ts.getD q (0,0,0)) e.b e.a d
theorem JX {N:Nat} {ts:List T3} (hn:BV N ts=true) (hN:N<=4611686018427387904) {e:E4} (he:e∈BJ ts) (hl:0<=e.l) (hr:0<=e.r):∃p q c d,Hi N ts e p q c d:=by
  have h:=(KT hn hN).1 he
  obtain ⟨p,h1,h2,c,h3⟩:=Qv hn h.l hl
  obtain ⟨q,h4,h5,d,h6⟩:=Qv hn h.r hr
  exact ⟨p,q,c,d,⟨h2,h5,h1,h4,h3,h6⟩⟩
theorem Hi.far {N:Nat} {ts:List T3} {e:E4} {p q c d:Nat} (h:Hi N ts e p q c d):c=J1 (ts.getD e.l.toNat (0,0,0)) e.a e.b/\d=J1 (ts.getD e.r.toNat (0,0,0)) e.a e.b:=by
  rw [h.l,h.r];exact ⟨h.sc.far.1.symm,h.sd.far.2.1.symm⟩
def Mr (a b c d:Pt):Int:=(B6 (a-d) (a-d)*BN (b-d) (c-d)+B6 (b-d) (b-d)*BN (c-d) (a-d)+B6 (c-d) (c-d)*BN (a-d) (b-d)).num.sign*(AF a b c).num.sign
def EN (ps:List Pt) (ts:List T3) (e:E4):Bool:=if 0<=e.l/\0<=e.r then decide (Mr (cor ps e.a) (cor ps e.b) (cor ps (J1 (ts.getD e.l.toNat (0,0,0)) e.a e.b)) (cor ps (J1 (ts.getD e.r.toNat (0,0,0)) e.a e.b))≠1) else true
theorem Rk {ps:List Pt} {ts:List T3} {e:E4} (h:¬(0<=e.l/\0<=e.r)):EN ps ts e=true:=if_neg h
theorem La {ps:List Pt} {ts:List T3} {e:E4} {p q c d:Nat} (h:Hi ps.length ts e p q c d):EN ps ts e=decide (Mr (cor ps e.a) (cor ps e.b) (cor ps c) (cor ps d)≠1):=by
  unfold EN
  rw [if_pos ⟨by rw [h.l];omega,by rw [h.r];omega⟩,<-h.far.1,<-h.far.2]
def XA (ps:List Pt) (ts:List T3) (x y:Int):Bool:=if GJ ts x y<0 then false else EN ps ts ((BJ ts).getD (GJ ts x y).toNat E0)
def XB (ts:List T3) (x y:Int):Nat:=if GJ ts x y<0 then 1 else 0
theorem Rn {ps:List Pt} {ts:List T3} {x y:Int} (h:GJ ts x y<0):XA ps ts x y=false/\XB ts x y=1:=⟨if_pos h,if_pos h⟩
theorem YL {ps:List Pt} {ts:List T3} {x y:Int} {j:Nat} (h:GJ ts x y=(j:Int)):XA ps ts x y=EN ps ts ((BJ ts).getD j E0)/\XB ts x y=0:=by
  unfold XA XB
  rw [h,if_neg Z,if_neg Z];exact ⟨rfl,rfl⟩
def Dg (ps:List Pt) (a b c d:Nat):Bool:=decide ((AF (cor ps a) (cor ps d) (cor ps c)).num.sign=1)&&decide ((AF (cor ps d) (cor ps b) (cor ps c)).num.sign=1)
theorem U4 {ps:List Pt} {a b c d:Nat} (h:(AF (cor ps a) (cor ps d) (cor ps c)).num.sign≠1):Dg ps a b c d=false:=by unfold Dg;rw [xI h];rfl
theorem U5 {ps:List Pt} {a b c d:Nat} (h:(AF (cor ps d) (cor ps b) (cor ps c)).num.sign≠1):Dg ps a b c d=false:=by unfold Dg;rw [xI h,Bool.and_false]
theorem Ih {ps:List Pt} {a b c d:Nat} (h1:(AF (cor ps a) (cor ps d) (cor ps c)).num.sign=1) (h2:(AF (cor ps d) (cor ps b) (cor ps c)).num.sign=1):Dg ps a b c d=true:=by unfold Dg;rw [xJ h1,xJ h2];rfl
def B8 (ts:List T3) (a b p q c d:Nat):List T3:=(ts.set p (a,d,c)).set q (d,b,c)
def Ma (ps:List Pt) (ts:List T3) (a b p q c d:Nat):List T3:=if Dg ps a b c d=true then B8 ts a b p q c d else ts
theorem U6 {ps:List Pt} {ts:List T3} {a b p q c d:Nat}:(Ma ps ts a b p q c d).length=ts.length:=by
  unfold Ma B8;split
  · rw [List.length_set,List.length_set]
  · rfl
theorem KM {ps:List Pt} {ts:List T3} {a b p q c d:Nat} (h:Dg ps a b c d=false):Ma ps ts a b p q c d=ts:=if_neg (by rw [h];decide)
theorem O_ {ps:List Pt} {ts:List T3} {a b p q c d:Nat} (h:Dg ps a b c d=true):Ma ps ts a b p q c d=B8 ts a b p q c d:=if_pos h
def Di (ts:List T3) (x y:Int):E4:=if GJ ts x y<0 then E0 else (BJ ts).getD (GJ ts x y).toNat E0
theorem Ky {ts:List T3} {x y:Int} {j:Nat} (h:GJ ts x y=(j:Int)):Di ts x y=(BJ ts).getD j E0/\decide (0<=GJ ts x y)=true:=by
  unfold Di;rw [h,if_neg Z];exact ⟨rfl,xJ Z⟩
theorem Uo {ts:List T3} {x y:Int} (h:GJ ts x y = -1):Di ts x y=E0/\decide (0<=GJ ts x y)=false:=by
  unfold Di;rw [h,if_pos Z];exact ⟨rfl,rfl⟩
theorem HM {ts:List T3} {x y:Int} (h:0<=GJ ts x y):Di ts x y∈BJ ts:=by
  rcases Mv ts x y with h1|⟨j,h1,h2⟩
  · omega
  · rw [(Ky h2).1,List.getD,xQ h1];exact List.getElem_mem h1
def Ci (e:E4):Bool:=decide (0<=e.l)&&decide (0<=e.r)
theorem EG {e:E4}:Ci e=true↔0<=e.l/\0<=e.r:=by unfold Ci;rw [yz,xW,xW]
def CG (ts:List T3) (e:E4):PR:=if 0<=e.l/\0<=e.r then ⟨e,J1 (ts.getD e.l.toNat (0,0,0)) e.a e.b,J1 (ts.getD e.r.toNat (0,0,0)) e.a e.b⟩ else ⟨e,0,0⟩
theorem Cy {N:Nat} {ts:List T3} {e:E4} {p q c d:Nat} (h:Hi N ts e p q c d):CG ts e=⟨e,c,d⟩/\Ci e=true:=by
  unfold CG
  rw [if_pos ⟨by rw [h.l];omega,by rw [h.r];omega⟩,<-h.far.1,<-h.far.2]
  exact ⟨rfl,EG.2 ⟨by rw [h.l];omega,by rw [h.r];omega⟩⟩
theorem PO {ts:List T3} {e:E4} (h:¬(0<=e.l/\0<=e.r)):CG ts e=⟨e,0,0⟩/\Ci e=false:=by
  unfold CG
  rw [if_neg h]
  exact ⟨rfl,by rw [Bool.eq_false_iff];exact λh9=>h (EG.1 h9)⟩
theorem QV {ps:List Pt} {ts:List T3} {x y:Int} (h:0<=GJ ts x y):XA ps ts x y=EN ps ts (Di ts x y)/\XB ts x y=0:=by
  rcases Mv ts x y with h1|⟨j,h1,h2⟩
  · omega
  · rw [(Ky h2).1];exact YL h2
theorem Rl (ps:List Pt) (ts:List T3) (e:E4):((!Ci e)||EN ps ts e)=EN ps ts e:=by
  cases h:Ci e with
  | true=>rfl
  | false=>rw [Rk (ps:=ps) (ts:=ts) (λh9=>by rw [EG.2 h9] at h;cases h)];rfl
theorem Hi.mk4 {N:Nat} {ts:List T3} {e:E4} {p q c d:Nat} (h:Hi N ts e p q c d):e=⟨e.a,e.b,(p:Int),(q:Int)⟩:=by
  obtain ⟨a,b,l,r⟩:=e
  rw [<-h.l,<-h.r]
theorem CL {ts:List T3} {a b p q c d:Nat}:(B8 ts a b p q c d).length=ts.length:=by unfold B8;rw [List.length_set,List.length_set]
structure SF (ps:List Pt) (ts:List T3) (ss:List Z3) (e:Nat) where
  x:MN ps ts ss
instance {ps:List Pt} {ts:List T3} {ss:List Z3} {e:Nat}:C6 (SF ps ts ss e):=⟨λr=>.tuple #[aG (Cb r.x),vN e],λr=>[r.x.a.row,r.x.b.row,r.x.c.row],λr y hy=>Vh hy⟩
theorem Qn {S:Nat->Prop} {W w:World} {L:List As} (hw:BI ⟨W,none⟩ w L) (e:Nat) {v:Value} (hv:v=.tuple #[aG [.slice none 0 0,.slice none 0 0,.slice none 0 0],vN e]):BS (SF [] [] [] e) S W (.returned v) w:=by
  refine ⟨⟨⟨⟨none,0,OwnOk.none.row⟩,⟨none,0,OwnOk.none.row⟩,⟨none,0,OwnOk.none.row⟩⟩⟩,by rw [hv];rfl,hw.out,λy hy=>?_⟩
  have hy:y∈[AP none (rowsL AZ []),AP none (rowsL Ad []),AP none (rowsL Bb [])]:=hy
  simp only [xO,List.not_mem_nil,or_false] at hy
  rcases hy with rfl|rfl|rfl<;>exact ⟨(λb e=>by cases e),(λb e=>by cases e)⟩
def LF (ps:List Pt) (ts:List T3) (x y:Int):Bool:=decide (0<=GJ ts x y)&&(Ci (Di ts x y)&&Dg ps (Di ts x y).a (Di ts x y).b (CG ts (Di ts x y)).c (CG ts (Di ts x y)).d)
def M2 (ps:List Pt) (ts:List T3) (x y:Int):Nat:=if GJ ts x y<0 then 1 else if LF ps ts x y=true then 0 else 7
def bE (ts:List T3) (x y:Int):List T3:=B8 ts (Di ts x y).a (Di ts x y).b (Di ts x y).l.toNat (Di ts x y).r.toNat (CG ts (Di ts x y)).c (CG ts (Di ts x y)).d
def Nt (ps:List Pt) (ts:List T3) (x y:Int):List Pt:=if LF ps ts x y=true then ps else []
def Nv (ps:List Pt) (ts:List T3) (x y:Int):List T3:=if LF ps ts x y=true then bE ts x y else []
def Nu (ps:List Pt) (ts:List T3) (ss:List Z3) (x y:Int):List Z3:=if LF ps ts x y=true then ss else []
section
variable {ps:List Pt} {ts:List T3} {ss:List Z3} {x y:Int}
theorem Hn (h:LF ps ts x y=false):Nt ps ts x y=[]/\Nv ps ts x y=[]/\Nu ps ts ss x y=[]:=by
  unfold Nt Nv Nu;rw [h];exact ⟨rfl,rfl,rfl⟩
theorem Nx (h:LF ps ts x y=true):Nt ps ts x y=ps/\Nv ps ts x y=bE ts x y/\Nu ps ts ss x y=ss:=by
  unfold Nt Nv Nu;rw [h];exact ⟨rfl,rfl,rfl⟩
theorem U0 (h:GJ ts x y<0):LF ps ts x y=false/\M2 ps ts x y=1:=by
  unfold LF M2;rw [xI Z,if_pos h];exact ⟨rfl,rfl⟩
theorem Xt (h:0<=GJ ts x y) (h2:Ci (Di ts x y)=false):LF ps ts x y=false/\M2 ps ts x y=7:=by
  have h3:LF ps ts x y=false:=by unfold LF;rw [h2,Bool.false_and,Bool.and_false]
  unfold M2;rw [h3,if_neg Z];exact ⟨rfl,rfl⟩
theorem Ra (h:0<=GJ ts x y) {p q c d:Nat} (h2:Hi ps.length ts (Di ts x y) p q c d):LF ps ts x y=Dg ps (Di ts x y).a (Di ts x y).b c d/\bE ts x y=B8 ts (Di ts x y).a (Di ts x y).b p q c d:=by
  unfold LF bE
  rw [(Cy h2).1,(Cy h2).2,xJ h,Bool.true_and,Bool.true_and,h2.l,h2.r];exact ⟨rfl,rfl⟩
theorem Ns (h:0<=GJ ts x y):M2 ps ts x y=if LF ps ts x y=true then 0 else 7:=if_neg Z
end
def nexI (ps:List Pt) (ts:List T3):List E4->Nat->Int
  | [],_ => -1
  | e::r,i=>if EN ps ts e=true then nexI ps ts r (i+1) else (i:Int)
section
variable {ps:List Pt} {ts:List T3} {es:List E4} {j:Nat}
theorem S1 (hj:j<es.length) (h:EN ps ts (es.getD j E0)=true):nexI ps ts (es.drop j) j=nexI ps ts (es.drop (j+1)) (j+1):=by
  rw [FZ (d:=E0) hj];exact if_pos h
theorem Vs (hj:j<es.length) (h:EN ps ts (es.getD j E0)=false):nexI ps ts (es.drop j) j=(j:Int):=by
  rw [FZ (d:=E0) hj];exact if_neg (by rw [h];decide)
theorem Vr (hj:¬j<es.length):nexI ps ts (es.drop j) j = -1:=by
  rw [List.drop_eq_nil_of_le Z];rfl
def S0 (ps:List Pt) (ts:List T3):Int:=nexI ps ts (BJ ts) 0
def J5 (ps:List Pt) (ts:List T3):E4:=(BJ ts).getD (S0 ps ts).toNat E0
def H9 (ps:List Pt) (ts:List T3):Bool:=if S0 ps ts<0 then false else Dg ps (J5 ps ts).a (J5 ps ts).b (CG ts (J5 ps ts)).c (CG ts (J5 ps ts)).d
def FU (ps:List Pt) (ts:List T3):List T3:=if S0 ps ts<0 then ts else Ma ps ts (J5 ps ts).a (J5 ps ts).b (J5 ps ts).l.toNat (J5 ps ts).r.toNat (CG ts (J5 ps ts)).c (CG ts (J5 ps ts)).d
theorem ZO (h:S0 ps ts = -1):H9 ps ts=false/\FU ps ts=ts:=by
  unfold H9 FU;rw [h];exact ⟨rfl,rfl⟩
theorem ZN (h:S0 ps ts=(j:Int)) {e:E4} (he:e=(BJ ts).getD j E0) {p q c d:Nat} (h2:Hi ps.length ts e p q c d):H9 ps ts=Dg ps e.a e.b c d/\FU ps ts=Ma ps ts e.a e.b p q c d:=by
  have e1:J5 ps ts=e:=by unfold J5;rw [h,he];rfl
  unfold H9 FU
  rw [e1,(Cy h2).1,if_neg Z,if_neg Z,h2.l,h2.r];exact ⟨rfl,rfl⟩
theorem Ip:(FU ps ts).length=ts.length:=by
  unfold FU;split
  · rfl
  · exact U6
end
theorem BI.thaw1 {w0:BF} {w:World} {A:List As} {p:Option Addr} {T z m cp:Nat} {cs:List Value} (h:BI w0 w (A++[JS p T z m cp cs])) (hnew:∀b,p.map (·.block)=some b->w0.w.heap.size<=b) (hap:∀y∈A,y.ro=false\/∀b,p.map (·.block)=some b->y.foot≠some b):BI w0 w (A++[rowW p T z m cp cs]):=by
  obtain ⟨h1,h2,h3⟩:=h
  obtain ⟨p1,p2,p3⟩:=List.pairwise_append.1 h3
  refine ⟨h1,λx hx b e=>?_,List.pairwise_append.2 ⟨p1,List.pairwise_singleton _ _,λx hx y hy=>?_⟩⟩
  · rcases List.mem_append.1 hx with hx|hx
    · exact h2 x (List.mem_append_left _ hx) b e
    · rw [xP] at hx
      subst hx
      obtain ⟨_,o,ho,hp⟩:=h2 (JS p T z m cp cs) (List.mem_append_right _ (xP.2 rfl)) b e
      exact ⟨.inr (.inl (hnew b e)),o,ho,hp⟩
  · rw [xP] at hy
    subst hy
    refine .inr λb e1 e2=>?_
    rcases hap x hx with h|h
    · rcases p3 x hx (JS p T z m cp cs) (xP.2 rfl) with k|k
      · rw [h] at k;cases k.1
      · exact k b e1 e2
    · exact h b e2 e1
theorem yr {P:Program} {c:Code} {Q:Exit->Act->World->Prop} {n:Nat} {F:List (Nat×Value)} {w0:BF} {L A B:List As} {p:Option Addr} {T z m cp:Nat} {cs:List Value} (hs:(A++JS p T z m cp cs::B).Sublist L) (hnew:∀b,p.map (·.block)=some b->w0.w.heap.size<=b)
    (hA:∀y∈A,y.ro=false\/∀b,p.map (·.block)=some b->y.foot≠some b) (hB:∀y∈B,y.ro=false\/∀b,p.map (·.block)=some b->y.foot≠some b) (next:OkC P c Q n F w0 (A++rowW p T z m cp cs::B)):OkC P c Q n F w0 L:=by
  have hp:∀X:As,(A++X::B).Perm (A++B++[X]):=λX=>by
    rw [List.append_assoc];exact List.Perm.append_left A (List.perm_append_comm (l₁:=[X]) (l₂:=B))
  exact λa w ha hW=>next a w ha ((((hW.weak hs).perm (hp _)).thaw1 hnew (λy hy=>(List.mem_append.1 hy).elim (hA y) (hB y))).perm (hp _).symm)
theorem BI.frz2 {w0:BF} {w:World} {L:List As} {p:Option Addr} {T z m c:Nat} {cs:List Value} (h:BI w0 w (rowW p T z m c cs::L)) (ho:OwnOk p m c) (hl:cs.length=m*z) (he:w0.ex=none) :
    BI w0 w (AP p cs::JS p T z m c cs::L)/\(∀b,p.map (·.block)=some b->w0.w.heap.size<=b)/\∀y∈L,∀b,p.map (·.block)=some b->y.foot≠some b:=by
  have h5:BI w0 w (JS p T z m c cs::L):=h.freeze (i:=0) rfl rfl (λo h=>h) (λe=>by cases e)
  obtain ⟨h1,h2,h3⟩:=h
  have h4:=(List.pairwise_cons.1 h3).1
  have hd:∀y∈L,∀b,p.map (·.block)=some b->y.foot≠some b:=λy hy b e=>by
    rcases h4 y hy with k|k
    · cases k.1
    · exact k b e
  refine ⟨⟨h1,λx hx b e=>?_,List.pairwise_cons.2 ⟨λy hy=>?_,h5.2.2⟩⟩,λb e=>?_,hd⟩
  · rcases xO.1 hx with rfl|hx
    · obtain ⟨_,o,h6,h7⟩:=h5.2.1 _ List.mem_cons_self b e
      exact ⟨.inl O,o,h6,Dd ho hl h7⟩
    · exact h5.2.1 x hx b e
  · rcases xO.1 hy with rfl|hy
    · exact .inl ⟨rfl,rfl⟩
    · exact .inr (hd y hy)
  · rcases (h2 _ List.mem_cons_self b e).1 with k|k|k
    · cases k
    · exact k
    · rw [he] at k;cases k
end
section
section
variable {P:Program} {ops:Array Oper} {Q:Exit->Act->World->Prop} {n:Nat} {w0:BF} {LA LB L L':List As} {F F':List (Nat×Value)} {l:List Oper} {e2:List (Nat×Bool)} {k q:Nat}
theorem Ko {listed:Array Bool} (hcl:HJ l.toArray listed):∀(f k i:Nat),CO l f k i=true->listed.getD k false=true->listed.getD i false=true
  | 0,_,_,h,_=>by cases h
  | f+1,k,i,h,hk=>by
    unfold CO at h
    cases ho:l[k]? with
    | none=>rw [ho] at h;cases h
    | some o =>
      rw [ho] at h
      simp only [yy,List.any_eq_true,yz] at h
      have st:∀m,EY o m=true->listed.getD m false=true:=λm hm=>by
        obtain ⟨e,he,hb,rfl⟩:=Dc hm
        exact hcl k o hk (by simpa using ho) e he hb
      rcases h with h|⟨m,_,h1,h2⟩
      · exact st i h
      · exact Ko hcl f m i h2 (st m h1)
variable {r:List (Nat×Bool)} {i d:Nat} {v:Value} {o oq:Oper} {K:List (Nat×Value)->List As->Prop}
end
end
section
def CT (P:Program) (l:List Oper) (k:Nat) (Q:Exit->Act->World->Prop) (n:Nat) (w0:BF) (LA LB:List As) (K:List (Nat×Value)->List As->Prop):List (Nat×Bool)->List (Nat×Value)->List As->Prop
  | [],F,L=>K F L
  | (i,true)::r,F,L=>∃o d v,l.toArray[i]?=some o/\o.dst=some d/\d<n/\cj P l.toArray n w0 (if CO l 8 k i=true then LA else LB) F o v/\CT P l k Q n w0 LA LB K r ((d,v)::F) L
  | (i,false)::r,F,L=>∃o,l.toArray[i]?=some o/\AU P l.toArray [o] (PE Q n w0 LA λF' L'=>CT P l k Q n w0 LA LB K r F' L') n F w0 L
def Nb (l:List Oper) (e1:List (Nat×Bool)) (k:Nat) (e2:List (Nat×Bool)):Bool :=
  Du l [] none (e1++(k,false)::e2)&&Na l [] (e1++(k,false)::e2)&&Nat.beq (e1.length+e2.length+1) l.length&&Region.noSelect l.toArray&&(l[k]?).isSome
section
variable {P:Program} {ops:Array Oper} {Q:Exit->Act->World->Prop} {n:Nat} {w0:BF} {LA LB L L':List As} {F F':List (Nat×Value)} {l:List Oper} {e2:List (Nat×Bool)} {k:Nat}
theorem Ta (hsel:Region.noSelect l.toArray=true) (hQ:∀c a d v w,Q (.panic c) (a.put d v) w->Q (.panic c) a w) (hAB:LB.Sublist LA) {ok:Oper} (hok:l[k]?=some ok) :
    ∀(es:List (Nat×Bool)) (D:List Nat) (p:Option Nat) (listed:Array Bool) (a:Act) (w:World) (F:List (Nat×Value)) (L:List As),
      k ∉ D->Du l D p (es++(k,false)::e2)=true->NT l D listed->(∀i,i<l.length->i∈D\/(es++(k,false)::e2).any (λe=>e.1 == i)=true)->Wk LA L->C1 n a F->BI w0 w L->CT P l k Q n w0 LA LB (Jc P l.toArray Q n w0 LB k e2) es F L ->
      IQ P l.toArray Q (λlisted w=>BI w0 w (if listed.getD k false=true then LB else LA)) (es.length+e2.length+1) listed a w:=by
  have only:∀(i:Nat) (r:List (Nat×Bool)) (D:List Nat) (p:Option Nat) (listed:Array Bool),Du l D p ((i,false)::r)=true->NT l D listed->(∀j,j<l.length->j∈D\/((i,false)::r).any (λe=>e.1 == j)=true)->∀j,j∈Region.ready .any l.toArray listed->j=i:=λi r D p listed hc hL hall j hj=>by
    obtain ⟨o,hg⟩:=DJ hc
    obtain ⟨h0,oj,hoj,_⟩:=mem_ready.1 hj
    have hjl:j<l.length:=by simpa using (Array.getElem?_eq_some_iff.1 hoj).1
    rw [Cj (by rw [hL.size];exact hjl)] at h0
    rcases hall j hjl with h1|h1
    · rw [(hL.mem j).1 h1] at h0;cases h0
    · obtain ⟨e,he,rfl⟩:=IZ h1
      rcases xO.1 he with rfl|he
      · rfl
      · exact absurd hj (Eg hL.cl hg.tl (hL.no hg.nin) (λe he=>hL.no λhd=>(Dv hg.tl e he).1 (List.mem_cons_of_mem _ hd)) e he)
  have nxt:∀(i:Nat) (b:Bool) (r:List (Nat×Bool)) (D:List Nat),(∀j,j<l.length->j∈D\/((i,b)::r).any (λe=>e.1 == j)=true)->∀j,j<l.length->j∈i::D\/r.any (λe=>e.1 == j)=true:=λi b r D hall j hj=>by
    rcases hall j hj with h1|h1
    · exact .inl (List.mem_cons_of_mem _ h1)
    · simp only [List.any_cons,yy,beq_iff_eq] at h1
      rcases h1 with h1|h1
      · exact .inl (h1▸List.mem_cons_self)
      · exact .inr h1
  intro es
  induction es with
  | nil =>
    intro D p listed a w F L hkD hc hL hall hro ha hw h
    obtain ⟨o',ho',h⟩:=h
    simp only [List.nil_append,List.length_nil,Nat.zero_add] at hc hall ⊢
    obtain ⟨o,hg⟩:=DJ hc
    have hat:l.toArray[k]?=some o:=by simpa using hg.at_
    rw [hat] at ho';injection ho' with ho';subst ho'
    have hkl:k<l.length:=(List.getElem?_eq_some_iff.1 hg.at_).1
    have hp:∀e∈o.after,Region.binds .any e=true->listed.getD e.on false=true:=λe he hb=>(hL.mem _).1 (hg.pre e he hb)
    have hrd:k∈Region.ready .any l.toArray listed:=mem_ready.2 ⟨by rw [Cj (by rw [hL.size];exact hkl)];exact hL.no hg.nin,o,hat,hp⟩
    refine ⟨λh0=>absurd hrd (by rw [h0];exact List.not_mem_nil),λj hj=>?_⟩
    have hjk:=only k e2 D p listed hc hL hall j hj
    subst hjk
    have hlk:(listed.setIfInBounds j true).getD j false=true:=by rw [Ii _ _ _ _ (by rw [hL.size];exact hkl)];simp
    refine I2 hat (h a w ha hw) λF' L' a' w' h1 h2 h3 h4=>⟨by show BI _ _ (ite _ _ _);rw [if_pos hlk];exact h3 _ _ h2,?_⟩
    exact HH (T:=λw=>BI w0 w LB) _ _ _ _ (λl' hl w hw=>by show BI _ _ (ite _ _ _);rw [if_pos (hl j hlk)];exact hw) (JY hsel hQ e2 (j::D) (some j) _ a' w' F' L' hg.tl (hL.add hg.at_ hp) (nxt j false e2 D hall) h3 h1 h2 h4)
  | cons e r ih =>
    intro D p listed a w F L hkD hc hL hall hro ha hw h
    obtain ⟨i,b⟩:=e
    rw [List.cons_append] at hc hall
    obtain ⟨o,hg⟩:=DJ hc
    have hat:l.toArray[i]?=some o:=by simpa using hg.at_
    have hil:i<l.length:=(List.getElem?_eq_some_iff.1 hg.at_).1
    have hp:∀e∈o.after,Region.binds .any e=true->listed.getD e.on false=true:=λe he hb=>(hL.mem _).1 (hg.pre e he hb)
    have hrd:i∈Region.ready .any l.toArray listed:=mem_ready.2 ⟨by rw [Cj (by rw [hL.size];exact hil)];exact hL.no hg.nin,o,hat,hp⟩
    have hki:k≠i:=λe=>(Dv hg.tl (k,false) (List.mem_append_right _ List.mem_cons_self)).1 (e▸List.mem_cons_self)
    have hkD':k ∉ i::D:=λh=>(xO.1 h).elim hki hkD
    have hnk:listed.getD k false=false:=hL.no hkD
    have hnk':(listed.setIfInBounds i true).getD k false=false:=(hL.add hg.at_ hp).no hkD'
    rw [show ((i,b)::r).length+e2.length+1=r.length+e2.length+1+1 by simp only [List.length_cons];omega]
    cases b with
    | true =>
      obtain ⟨o',d,v,ho',hd,hdn,hy,hn⟩:=h
      rw [hat] at ho';injection ho' with ho';subst ho'
      by_cases hedge:CO l 8 k i=true
      · rw [if_pos hedge] at hy
        have hyield:YieldsIf P l.toArray (λw=>BI w0 w LA) o v a:=by
          rcases hy with ⟨h1,h2⟩|⟨h1,h2⟩
          · exact .inl ⟨h1 a ha,λw hW=>h2 a w ha hW⟩
          · exact .inr ⟨h1 a ha,h2⟩
        refine E1 hat (Region.noSelect_spec hsel) (λc a w=>bF hQ c a o.dst v w) (T:=λw=>BI w0 w LA) (λl' w hcl hr hS=>?_) (λl' w=>?_) _ listed a w (F1 hL hg.at_ (hg.fr O) hp) hrd hyield ?_ (λj oj hj ho e he hb=>hL.cl j oj hj (by simpa using ho) e he hb) ?_
        · have hkf:¬l'.getD k false=true:=λhk=>by
            have h1:=Ko hcl 8 k i hedge hk
            obtain ⟨h0,_⟩:=mem_ready.1 hr
            rcases Nat.lt_or_ge i l'.size with h5|h5
            · rw [Cj h5] at h0;rw [h0] at h1;cases h1
            · simp [Array.getElem?_eq_none h5] at h1
          have hS:BI w0 w (if l'.getD k false=true then LB else LA):=hS
          rw [if_neg hkf] at hS;exact hS
        · show BI _ _ (ite _ _ _)↔BI _ _ (ite _ _ _);rw [getD_set_ne false (Ne.symm hki)]
        · show BI _ _ (ite _ _ _);rw [if_neg (by rw [hnk];exact Bool.false_ne_true)];exact hro _ _ hw
        · exact ih (i::D) p _ _ w ((d,v)::F) L hkD' hg.tl (hL.add hg.at_ hp) (nxt i true _ D hall) hro (by rw [hd];exact ha.put hdn) hw hn
      · rw [if_neg hedge] at hy
        have hyield:YieldsIf P l.toArray (λw=>BI w0 w LB) o v a:=by
          rcases hy with ⟨h1,h2⟩|⟨h1,h2⟩
          · exact .inl ⟨h1 a ha,λw hW=>h2 a w ha hW⟩
          · exact .inr ⟨h1 a ha,h2⟩
        refine E1 hat (Region.noSelect_spec hsel) (λc a w=>bF hQ c a o.dst v w) (T:=λw=>BI w0 w LB) (λl' w hcl hr hS=>?_) (λl' w=>?_) _ listed a w (F1 hL hg.at_ (hg.fr O) hp) hrd hyield ?_ (λj oj hj ho e he hb=>hL.cl j oj hj (by simpa using ho) e he hb) ?_
        · have hS:BI w0 w (if l'.getD k false=true then LB else LA):=hS
          by_cases hk:l'.getD k false=true
          · rw [if_pos hk] at hS;exact hS
          · rw [if_neg hk] at hS;exact hS.weak hAB
        · show BI _ _ (ite _ _ _)↔BI _ _ (ite _ _ _);rw [getD_set_ne false (Ne.symm hki)]
        · show BI _ _ (ite _ _ _);rw [if_neg (by rw [hnk];exact Bool.false_ne_true)];exact hro _ _ hw
        · exact ih (i::D) p _ _ w ((d,v)::F) L hkD' hg.tl (hL.add hg.at_ hp) (nxt i true _ D hall) hro (by rw [hd];exact ha.put hdn) hw hn
    | false =>
      obtain ⟨o',ho',h⟩:=h
      rw [hat] at ho';injection ho' with ho';subst ho'
      refine ⟨λh0=>absurd hrd (by rw [h0];exact List.not_mem_nil),λj hj=>?_⟩
      have hji:=only i (r++(k,false)::e2) D p listed hc hL hall j hj
      subst hji
      refine I2 hat (h a w ha hw) λF' L' a' w' h1 h2 h3 h4=>⟨by show BI _ _ (ite _ _ _);rw [if_neg (by rw [hnk'];exact Bool.false_ne_true)];exact h3 _ _ h2,?_⟩
      exact ih (j::D) (some j) _ a' w' F' L' hkD' hg.tl (hL.add hg.at_ hp) (nxt j false _ D hall) h3 h1 h2 h4
theorem dm {id:Nat} (e1:List (Nat×Bool)) (k:Nat) (e2:List (Nat×Bool)) (hA:Wk LA L) (hAB:LB.Sublist LA) (hc:Nb l e1 k e2=true) (hQ:∀c a d v w,Q (.panic c) (a.put d v) w->Q (.panic c) a w)
    (h:CT prog l k Q n w0 LA LB (Jc prog l.toArray Q n w0 LB k e2) e1 F L):OkC prog (.region id l.toArray true) Q n F w0 L:=λa w ha hw=>by
  simp only [Nb,yz] at hc
  obtain ⟨⟨⟨⟨h1,h2⟩,h3⟩,h4⟩,h5⟩:=hc
  have hlen:=Nat.eq_of_beq_eq_true h3
  cases hok:l[k]? with
  | none=>simp [hok] at h5
  | some ok =>
    refine wp_region_any EX (IR (S:=λlisted w=>BI w0 w (if listed.getD k false=true then LB else LA)) _ _ _ _ ?_)
    rw [show l.toArray.size=e1.length+e2.length+1 by rw [hlen];simp]
    have hst:=HX (l:=l)
    rw [<-hlen] at hst
    refine Ta h4 hQ hAB hok e1 [] none _ a w.drew F L jX h1 hst (λi hi=>?_) hA ha hw.drew h
    have:=List.all_eq_true.1 h2 i (List.mem_range.2 hi)
    simpa using this
theorem fI {id:Nat} (e1:List (Nat×Bool)) (k:Nat) (e2:List (Nat×Bool)) (hA:LA.Sublist L) (hAB:LB.Sublist LA) (hc:Nb l e1 k e2=true) (hQ:∀c a d v w,Q (.panic c) (a.put d v) w->Q (.panic c) a w)
    (h:CT prog l k Q n w0 LA LB (Jc prog l.toArray Q n w0 LB k e2) e1 F L):OkC prog (.region id l.toArray true) Q n F w0 L  :=dm e1 k e2 (Wk.of hA) hAB hc hQ h
theorem CT.pasA {K:List (Nat×Value)->List As->Prop} {r:List (Nat×Bool)} {i d:Nat} {o:Oper} {v:Value} (ho:l.toArray[i]?=some o) (hb:CO l 8 k i=true) (hw:Wt l.toArray n F o) (he:Ex P n F w0 LA o v) (hd:o.dst=some d) (hn:Nat.ble (d+1) n=true) (next:CT P l k Q n w0 LA LB K r ((d,v)::F) L):CT P l k Q n w0 LA LB K ((i,true)::r) F L:=⟨o,d,v,ho,hd,Nat.le_of_ble_eq_true hn,.inl ⟨hw,by rw [if_pos hb];exact he⟩,next⟩
theorem CT.back {K:List (Nat×Value)->List As->Prop} {r:List (Nat×Bool)} (hro:LA.Sublist L') (h:CT P l k Q n w0 LA LB K r F' L'):AU P ops [] (PE Q n w0 LA λF' L'=>CT P l k Q n w0 LA LB K r F' L') n F' w0 L':=AU.nil λa w ha hw=>⟨F',L',ha,hw,Wk.of hro,h⟩
theorem CT.imp {K:List (Nat×Value)->List As->Prop} {r:List (Nat×Bool)} {i:Nat} {o:Oper} (ho:l.toArray[i]?=some o) (h:AU P l.toArray [o] (PE Q n w0 LA λF' L'=>CT P l k Q n w0 LA LB K r F' L') n F w0 L):CT P l k Q n w0 LA LB K ((i,false)::r) F L:=⟨o,ho,h⟩
theorem CT.cut {o:Oper} (ho:l.toArray[k]?=some o) (h:AU P l.toArray [o] (PE Q n w0 LB λF' L'=>OkE P l.toArray Q n w0 LB e2 F' L') n F w0 L):CT P l k Q n w0 LA LB (Jc P l.toArray Q n w0 LB k e2) [] F L:=⟨o,ho,h⟩
end
end
end Go.Proofs.YtbfdamnfcmefmaaGreatDoor
