import Derived.Test.YtpolhpjiahbidaaGreatDoorPart14
import Derived.Test.YtpolhpjiahbidaaGreatDoorPart17
namespace Go.Proofs.YtpolhpjiahbidaaGreatDoor
open Go Go.RowKit Go.Proofs.Tryz
open Go.Value renaming slice→qw,bool→qa
set_option linter.unusedVariables false
set_option linter.unusedSimpArgs false
section
abbrev Z3:=Int×Int×Int
def AS (t:Z3):List Value:=[vI t.1,vI t.2.1,vI t.2.2]
theorem A7 (t:Z3):(AS t).length=3:=rfl
theorem Fm (t:Z3):((AS t).all λu=>u.oneCell')=true:=rfl
structure MZ (ps:List Pt) (ts ss:List Z3) where
  a:RX (rowsL BB ps) ps.length
  b:RX (rowsL AS ts) ts.length
  c:RX (rowsL AS ss) ss.length
def B9 {ps:List Pt} {ts ss:List Z3} (x:MZ ps ts ss):List Value:=[x.a.val,x.b.val,x.c.val]
theorem U_ {ps:List Pt} {ts ss:List Z3} {x:MZ ps ts ss} {y:As} (hy:y∈[x.a.row,x.b.row,x.c.row]):y.ro=true:=by
  simp only [xL,List.not_mem_nil,or_false] at hy
  rcases hy with rfl|rfl|rfl<;>rfl
instance {ps:List Pt} {ts ss:List Z3}:C8 (MZ ps ts ss):=⟨λx=>aG (B9 x),λx=>[x.a.row,x.b.row,x.c.row],λx y hy=>U_ hy⟩
structure RW where
  ds:List PD
  ts:List Z3
  ss:List Z3
  a:RX (rowsL En ds) ds.length
  b:RX (rowsL AS ts) ts.length
  c:RX (rowsL AS ss) ss.length
  hd:∀d∈ds,d.ok
def Ed (x:RW):List Value:=[x.a.val,x.b.val,x.c.val]
theorem dO {x:RW} {y:As} (hy:y∈[x.a.row,x.b.row,x.c.row]):y.ro=true:=by
  simp only [xL,List.not_mem_nil,or_false] at hy
  rcases hy with rfl|rfl|rfl<;>rfl
instance:C8 RW:=⟨λx=>aG (Ed x),λx=>[x.a.row,x.b.row,x.c.row],λx y hy=>dO hy⟩
def RW.ps (x:RW):List Pt:=x.ds.map G4
theorem Gk (d:PD):(En d).length=4:=rfl
def E2:PD:=⟨⟨0,0⟩,⟨0,0⟩⟩
section
variable {S:Nat->Prop} {w:World} {ps:List Pt} {ts ss:List Z3} {x:MZ ps ts ss} {r:RW}
theorem cj (h:Ro S w x):Ro S w x.a:=λy hy=>by rcases xM.1 hy with rfl;exact h _ List.mem_cons_self
theorem e8 (h:Ro S w x):Ro S w x.b:=λy hy=>by rcases xM.1 hy with rfl;exact h _ (List.mem_cons_of_mem _ List.mem_cons_self)
theorem eu (h:Ro S w x):Ro S w x.c:=λy hy=>by rcases xM.1 hy with rfl;exact h _ (List.mem_cons_of_mem _ (List.mem_cons_of_mem _ List.mem_cons_self))
end
structure RP where
  p:Pt
  x:PX p
def BU:RP:=⟨⟨0,0⟩,⟨FX.zero,FX.zero⟩⟩
@[reducible] def BK (r:RP):List Value:=C2 r.x
theorem B0 (r:RP):(BK r).length=6:=rfl
theorem S4 (r:RP):((BK r).all λu=>u.oneCell')=true:=rfl
def Bi (rs:List RP):List As:=rs.flatMap λr=>C8.rows r.x
theorem Qz {rs:List RP} {y:As} (h:y∈Bi rs):y.ro=true:=by
  obtain ⟨r,_,h⟩:=List.mem_flatMap.1 h
  exact C8.ro r.x y h
theorem O1 (rs:List RP) (r:RP):Bi (rs++[r])=Bi rs++C8.rows r.x:=by simp [Bi]
theorem VO (r:RP) (A:List As) (rs:List RP):(C8.rows r.x++(A++Bi rs)).Perm (A++Bi (rs++[r])):=by
  rw [O1,<-xw A]
  exact List.perm_append_comm
theorem IJ (A T L:List As):(A++(T++L)).Perm (A++(L++T)):=(List.Perm.refl A).append List.perm_append_comm
structure GK (ps:List Pt) (ts ss:List Z3) where
  rs:List RP
  e:rs.map (·.p)=ps
  a:RX (rowsL BK rs) rs.length
  b:RX (rowsL AS ts) ts.length
  c:RX (rowsL AS ss) ss.length
def Cn {ps:List Pt} {ts ss:List Z3} (x:GK ps ts ss):List Value:=[x.a.val,x.b.val,x.c.val]
theorem ZR {ps:List Pt} {ts ss:List Z3} {x:GK ps ts ss} {y:As} (hy:y∈[x.a.row,x.b.row,x.c.row]++Bi x.rs):y.ro=true:=by
  rcases List.mem_append.1 hy with hy|hy
  · simp only [xL,List.not_mem_nil,or_false] at hy
    rcases hy with rfl|rfl|rfl<;>rfl
  · exact Qz hy
instance {ps:List Pt} {ts ss:List Z3}:C8 (GK ps ts ss):=⟨λx=>aG (Cn x),λx=>[x.a.row,x.b.row,x.c.row]++Bi x.rs,λx y hy=>ZR hy⟩
theorem GK.at {ps:List Pt} {ts ss:List Z3} (x:GK ps ts ss) {i:Nat} (h:i<x.rs.length):(x.rs.getD i BU).p=ps.getD i ⟨0,0⟩:=by
  have h1:(x.rs.map (·.p)).getD i ⟨0,0⟩=ps.getD i ⟨0,0⟩:=congrArg (λl=>l.getD i ⟨0,0⟩) x.e
  rw [<-h1]
  simp [h]
theorem GK.len {ps:List Pt} {ts ss:List Z3} (x:GK ps ts ss):x.rs.length=ps.length:=by
  have h:=congrArg List.length x.e
  rwa [xI] at h
section
variable {P:Program} {ops:Array Oper} {rest:List Oper} {Q:Exit->Act->World->Prop} {n:Nat} {F:List (Nat×Value)} {w0:BC} {S:Nat->Prop} {L L2 A:List As} {w W:World} {rs:List RP} {i:Nat} {ps:List Pt} {ts ss:List Z3}
theorem yM (hp:L.Perm L2) (next:AL P ops rest Q n F w0 L2):AL P ops rest Q n F w0 L:=λa w ha hW=>next a w ha (hW.perm hp)
theorem Oi (hw:Own w0 w L) (hs:∀y∈Bi rs,y∈L) (hi:i<rs.length) (ha:∀y∈Bi rs,∀b,y.foot=some b->Nw w0 S b):Ro (SL w0 S L) w (rs.getD i BU).x:=λy hy=>by
  have hm:y∈Bi rs:=List.mem_flatMap.2 ⟨rs[i],List.getElem_mem hi,by rw [List.getD,xN hi] at hy;exact hy⟩
  exact ⟨λb e=>(hw.2.1 y (hs y hm) b e).2,λb e=>⟨⟨y,hs y hm,Qz hm,e⟩,ha y hm b e⟩⟩
theorem At.snoc {r:RP} (h:∀y∈Bi rs,∀b,y.foot=some b->Nw w0 S b) (k:At w0 S r.x):∀y∈Bi (rs++[r]),∀b,y.foot=some b->Nw w0 S b:=λy hy=>by
  rw [O1] at hy
  rcases List.mem_append.1 hy with hy|hy
  · exact h y hy
  · exact k y hy
theorem At.rpt {x:GK ps ts ss} (h:At w0 S x):∀y∈Bi x.rs,∀b,y.foot=some b->Nw w0 S b:=λy hy=>h y (xG [x.a.row,x.b.row,x.c.row] hy)
theorem N3 (hw:Own ⟨W,none⟩ w (A++Bi rs)) (i j k:Nat) {p1 p2 p3:Option Addr} {T1 T2 T3 n1 n2 n3 c1 c2 c3:Nat} (h1:A[i]?=some (rowW p1 T1 6 n1 c1 (rowsL BK rs))) (h2:A[j]?=some (rowW p2 T2 3 n2 c2 (rowsL AS ts))) (h3:A[k]?=some (rowW p3 T3 3 n3 c3 (rowsL AS ss)))
    (o1:OwnOk p1 n1 c1) (o2:OwnOk p2 n2 c2) (o3:OwnOk p3 n3 c3) (e1:n1=rs.length) (e2:n2=ts.length) (e3:n3=ss.length) (he:rs.map (·.p)=ps) (hat:∀y∈Bi rs,∀b,y.foot=some b->Nw ⟨W,none⟩ S b)
    {v:Value} (hv:v=aG [.slice p1 n1 c1,.slice p2 n2 c2,.slice p3 n3 c3]):Ad (GK ps ts ss) S W (.returned v) w:=by
  subst e1;subst e2;subst e3
  have up:∀{i:Nat} {x:As},A[i]?=some x->(A++Bi rs)[i]?=some x:=λ{i x} h=>by rw [List.getElem?_append_left (List.getElem?_eq_some_iff.1 h).1];exact h
  refine ⟨⟨rs,he,⟨p1,c1,o1.row⟩,⟨p2,c2,o2.row⟩,⟨p3,c3,o3.row⟩⟩,by rw [hv];rfl,hw.out,λy hy=>?_⟩
  have hy:y∈[AB p1 (rowsL BK rs),AB p2 (rowsL AS ts),AB p3 (rowsL AS ss)]++Bi rs:=hy
  rcases List.mem_append.1 hy with hy|hy
  · simp only [xL,List.not_mem_nil,or_false] at hy
    rcases hy with rfl|rfl|rfl
    · exact C9 hw i (up h1) o1 (AV B0 _)
    · exact C9 hw j (up h2) o2 (AV A7 _)
    · exact C9 hw k (up h3) o3 (AV A7 _)
  · exact ⟨λb e=>(hw.2.1 _ (xG _ hy) b e).2,hat y hy⟩
theorem dB (hw:Own ⟨W,none⟩ w L) (i j k:Nat) {p1 p2 p3:Option Addr} {T1 T2 T3 n1 n2 n3 c1 c2 c3:Nat} (h1:L[i]?=some (rowW p1 T1 10 n1 c1 (rowsL BB ps))) (h2:L[j]?=some (rowW p2 T2 3 n2 c2 (rowsL AS ts))) (h3:L[k]?=some (rowW p3 T3 3 n3 c3 (rowsL AS ss)))
    (o1:OwnOk p1 n1 c1) (o2:OwnOk p2 n2 c2) (o3:OwnOk p3 n3 c3) (e1:n1=ps.length) (e2:n2=ts.length) (e3:n3=ss.length)
    {v:Value} (hv:v=aG [.slice p1 n1 c1,.slice p2 n2 c2,.slice p3 n3 c3]):Ad (MZ ps ts ss) S W (.returned v) w:=by
  subst e1;subst e2;subst e3
  refine ⟨⟨⟨p1,c1,o1.row⟩,⟨p2,c2,o2.row⟩,⟨p3,c3,o3.row⟩⟩,by rw [hv];rfl,hw.out,λy hy=>?_⟩
  have hy:y∈[AB p1 (rowsL BB ps),AB p2 (rowsL AS ts),AB p3 (rowsL AS ss)]:=hy
  simp only [xL,List.not_mem_nil,or_false] at hy
  rcases hy with rfl|rfl|rfl
  · exact C9 hw i h1 o1 (AV Bs _)
  · exact C9 hw j h2 o2 (AV A7 _)
  · exact C9 hw k h3 o3 (AV A7 _)
end
theorem bP (a b:Z3):((a.1 == b.1)&&((a.2.1 == b.2.1)&&((a.2.2 == b.2.2)&&true)))=decide (a=b):=by
  obtain ⟨a1,a2,a3⟩:=a
  obtain ⟨b1,b2,b3⟩:=b
  rw [Bool.eq_iff_iff]
  simp
theorem bC (D:Nat) (a b:Z3):H0 prog (D+2) 105 (.agg (AS a).toArray) (.agg (AS b).toArray) (decide (a=b)):=by
  rw [<-bP]
  exact H0.array underlying105 QU NI (S2.one isAgg3 O O (H0.int underlying3) (S2.one isAgg3 O O (H0.int underlying3) (S2.one isAgg3 O O (H0.int underlying3) S2.nil)))
theorem LX {α:Type} {d:α} {xs ys:List α} (hl:xs.length=ys.length) (h:∀i,i<xs.length->xs.getD i d=ys.getD i d):xs=ys:=by
  refine List.ext_getElem hl λi h1 h2=>?_
  have:=h i h1
  rwa [List.getD,List.getD,xN h1,xN h2] at this
theorem JD {α:Type} {d:α} {xs ys:List α} {i:Nat} (h:xs.getD i d≠ys.getD i d):xs≠ys:=λe=>h (by rw [e])
theorem Pp (r:RW) {i:Nat} (h:i<r.ds.length):r.ps.getD i ⟨0,0⟩=G4 (r.ds.getD i E2):=by
  unfold RW.ps
  simp [h]
theorem RW.pl (r:RW):r.ps.length=r.ds.length:=by unfold RW.ps;rw [xI]
theorem RW.ok (r:RW) {i:Nat} (h:i<r.ds.length):(r.ds.getD i E2).ok:=by
  rw [List.getD,xN h]
  exact r.hd _ (List.getElem_mem h)
theorem RW.sz (r:RW) (i:Nat) (h:i<r.ps.length):DU (r.ps.getD i ⟨0,0⟩)<=4:=by
  rw [r.pl] at h
  rw [Pp r h]
  exact V_ (r.ok h)
structure bU (ps:List Pt) (ts ss:List Z3) where
  a:OX 99 10 (rowsL BB ps) ps.length
  b:OX 105 3 (rowsL AS ts) ts.length
  c:OX 110 3 (rowsL AS ss) ss.length
def eB {ps:List Pt} {ts ss:List Z3} (x:bU ps ts ss):List Value:=[Qu x.a,Qu x.b,Qu x.c]
@[reducible] def dz {ps:List Pt} {ts ss:List Z3} (x:bU ps ts ss):List As:=[rowW x.c.p 110 3 ss.length x.c.c (rowsL AS ss),rowW x.b.p 105 3 ts.length x.b.c (rowsL AS ts),rowW x.a.p 99 10 ps.length x.a.c (rowsL BB ps)]
section
variable {S:Nat->Prop} {w:World} {w0:BC} {L:List As} {ps:List Pt} {ts ss:List Z3}
theorem bW {α:Type} [C8 α] {a:α} (h:Ro S w a):∀y∈C8.rows a,y.ro=true/\Holds w y:=λy k=>⟨C8.ro a y k,(h y k).1⟩
abbrev UH (_:Nat):Prop:=True
theorem Zt {α:Type} [C8 α] {a:α} (h:Ro S w a):Ro UH w a:=h.mono λ_ _=>trivial
theorem Ze (hw:Own w0 w L) (i:Nat) {p:Option Addr} {T:TypeId} {z n n' c c':Nat} {cs:List Value} {ok:An p n' c'} (hi:L[i]?=some (rowW p T z n c cs)) (ho:OwnOk p n c) (hl:cs.length=n*z):Ro UH w (⟨p,c',ok⟩:RX cs n'):=λy hy=>by
  rcases xM.1 hy with rfl
  refine ⟨λd e=>?_,λ_ _=>trivial⟩
  obtain ⟨_,o,ho2,hp⟩:=hw.2.1 _ (List.mem_of_getElem? hi) d e
  exact ⟨o,ho2,Cd ho hl hp⟩
theorem QR {x:GK ps ts ss} (hw:Own w0 w L) (i:Nat) (hi:(L.drop i).take 3=[x.a.row,x.b.row,x.c.row]) (hs:∀y∈Bi x.rs,y∈L):Ro UH w x:=λy hy=>by
  have hy:y∈[x.a.row,x.b.row,x.c.row]++Bi x.rs:=hy
  have hm:y∈L:=by
    rcases List.mem_append.1 hy with hy|hy
    · exact List.mem_of_mem_drop (List.mem_of_mem_take (hi▸hy))
    · exact hs y hy
  exact ⟨λb e=>(hw.2.1 y hm b e).2,λ_ _=>trivial⟩
end
theorem PM (r:RW) {i:Nat} (h:i<r.ds.length):r.ps.take (i+1)=r.ps.take i++[G4 (r.ds.getD i E2)]:=by
  rw [<-Pp r h,List.take_add_one,List.getD,xN (by rw [r.pl];exact h)]
  rfl
end
section
set_option maxRecDepth 100000
theorem MK (ts:List Z3) (x:RX (rowsL AS ts) ts.length) (hl:ts.length<=1000000000) (w:World) {S:Nat->Prop} (hx:Ro S w x):Calls prog 53 #[(qw x.p ts.length x.c)] w (CS MO (Oy (T:=105) (z:=3) (cs:=rowsL AS ts) (n:=ts.length)) S w):=by
 have lx:=Bx (W:=w) hx
 refine AX (args:=[(qw x.p ts.length x.c)]) (L:=[AB x.p (rowsL AS ts)]) func53 O O (Av O) (DF hx Ah) (zN (sL [0] O) (q4 (asg' O (zf 105 3 (oNl' (q1 (q4 (AM O (AG (v:=(qa x.p.isNone)) (IL O O underlying23) O (oNl' (zB (sL [0,2,4] O) ?_)))))))))))
 refine zA ?_
 refine zM O (λhc0=>?_) (λhc0=>?_)
 ·have hts:ts=[]:=List.eq_nil_of_length_eq_zero (x.ok.nil (Option.isNone_iff_eq_none.1 hc0)).1
  exact q4 (asg' O (zf 105 3 (oNl' (zA (zF (zO (ret_one O (rd_tmp (v:=jj) O) (λw hw=>(by subst hts;exact J6 hw (OX.mk none 0 OwnOk.none) (by exact (sk (sl (sl sr)))) (GL.own O GL.nil) (by show qw none 0 0=_;rfl))))))))))
 ·exact zG (q2 (zZ (V:=λb1=>(qw (jk b1) 0 0)) (T:=105) (cs:=[]) (AJ O) (Hg underlying23 sizeOf105) O (Av O) λb1=>yJ (z:=3) 0 O Z λho_b1=>AM O (zy I3 O ho_b1 O (JV (k:=2) O x.ok) (AV A7 _) (Cu Fm _) (FD Z) Z O λp_1 c_1 ho_1=>asg' O (oNl' (zB (sL [0,2] O) (zA (zF (ret_one O (rd_tmp (v:=(qw p_1 ts.length c_1)) O) (λw hw=>(J6 hw (OX.mk p_1 c_1 ho_1) (sk (sl (sl sr))) (GL.own O GL.nil) O))))))))))
theorem Ql (ts:List Z3) (x:RX (rowsL AS ts) ts.length) (hl:ts.length<=1000000000) (w:World) {S:Nat->Prop} (hx:Ro S w x):Calls prog 103 #[(qw x.p ts.length x.c)] w (CS MO (Oy (T:=110) (z:=3) (cs:=rowsL AS ts) (n:=ts.length)) S w):=by
 have lx:=Bx (W:=w) hx
 refine AX (args:=[(qw x.p ts.length x.c)]) (L:=[AB x.p (rowsL AS ts)]) func103 O O (Av O) (DF hx Ah) (zN (sL [0] O) (q4 (asg' O (zf 110 3 (oNl' (q1 (q4 (AM O (AG (v:=(qa x.p.isNone)) (IL O O underlying24) O (oNl' (zB (sL [0,2,4] O) ?_)))))))))))
 refine zA ?_
 refine zM O (λhc0=>?_) (λhc0=>?_)
 ·have hts:ts=[]:=List.eq_nil_of_length_eq_zero (x.ok.nil (Option.isNone_iff_eq_none.1 hc0)).1
  exact q4 (asg' O (zf 110 3 (oNl' (zA (zF (zO (ret_one O (rd_tmp (v:=jj) O) (λw hw=>(by subst hts;exact J6 hw (OX.mk none 0 OwnOk.none) (by exact (sk (sl (sl sr)))) (GL.own O GL.nil) (by show qw none 0 0=_;rfl))))))))))
 ·exact zG (q2 (zZ (V:=λb1=>(qw (jk b1) 0 0)) (T:=110) (cs:=[]) (AJ O) (Hg underlying24 sizeOf110) O (Av O) λb1=>yJ (z:=3) 0 O Z λho_b1=>AM O (zy ap O ho_b1 O (JV (k:=2) O x.ok) (AV A7 _) (Cu Fm _) (FD Z) Z O λp_1 c_1 ho_1=>asg' O (oNl' (zB (sL [0,2] O) (zA (zF (ret_one O (rd_tmp (v:=(qw p_1 ts.length c_1)) O) (λw hw=>(J6 hw (OX.mk p_1 c_1 ho_1) (sk (sl (sl sr))) (GL.own O GL.nil) O))))))))))
theorem QT {ps:List Pt} {ts ss:List Z3} (x:MZ ps ts ss) (hp:ps.length<=1000000000) (ht:ts.length<=1000000000) (hs:ss.length<=1000000000) (w:World) {S:Nat->Prop} (hx:Ro S w x):Calls prog 35 #[(aG (B9 x))] w (CS (λa:bU ps ts ss=>aG (eB a)) dz S w):=by
 have lx:=Bx (W:=w) hx
 refine AX (args:=[(aG (B9 x))]) (L:=[AB x.a.p (rowsL BB ps),AB x.b.p (rowsL AS ts),AB x.c.p (rowsL AS ss)]) func35 O O (Av O) (DF hx Ah) (zN (sL [0] O) (q4 (Bb (cs:=B9 x) O λb1=>al IM O λb2=>q6 (sL [1,2] O) (CQ [(0,true),(1,true),(4,true),(5,true),(8,true),(9,true),(2,false),(3,false),(6,false),(7,false),(10,false),(11,false),(12,true),(13,false)] (sl sr) (Aj (v:=(pP b1 0)) O (AA O underlying30 O sizeOf28 O) (Be 0 (qw x.a.p ps.length x.a.c) GG O (Aj (v:=(pP b1 1)) O (AA O underlying30 O sizeOf23 O) (Be 0 (qw x.b.p ts.length x.b.c) B1 O (Aj (v:=(pP b1 2)) O (AA O underlying30 O sizeOf24 O) ?_)))))))))
 refine Be 0 (qw x.c.p ss.length x.c.c) Gh O (zK O (yH (S:=S) (V:=MO) (LW:=Oy (T:=99) (z:=10) (cs:=rowsL BB ps) (n:=ps.length)) (args:=[(qw x.a.p ps.length x.a.c)]) call51 (λw hw=>Mw ps x.a Z w (cj (inS hw 2 O lx))) O λcl1 hcl1=>zD (sl (sl sr)) (zK O (ck' call55 (QP cl1.p ps.length cl1.c cl1.ok.row.le) O (zD (sl (sl sr)) (zK O (yH (S:=S) (V:=MO) (LW:=Oy (T:=105) (z:=3) (cs:=rowsL AS ts) (n:=ts.length)) (args:=[(qw x.b.p ts.length x.b.c)]) call53 (λw hw=>MK ts x.b Z w (e8 (inS hw 3 O lx))) O λcl2 hcl2=>zD (sl (sl (sl sr))) (zK O (ck' call52 (O3 cl2.p ts.length cl2.c cl2.ok.row.le) O ?_)))))))))
 refine zD (sl (sl (sl sr))) (zK O (yH (S:=S) (V:=MO) (LW:=Oy (T:=110) (z:=3) (cs:=rowsL AS ss) (n:=ss.length)) (args:=[(qw x.c.p ss.length x.c.c)]) call103 (λw hw=>Ql ss x.c Z w (eu (inS hw 4 O lx))) O λcl3 hcl3=>zD (sl (sl (sl (sl sr)))) (zK O (ck' call102 (Pg cl3.p ss.length cl3.c cl3.ok.row.le) O (zD (sl (sl (sl (sl sr)))) (Aj (v:=(aG ([(qw cl1.p ps.length ps.length),(qw cl2.p ts.length ts.length),(qw cl3.p ss.length ss.length)]))) O (AT (zs:=[jj,jj,jj]) (vs:=[(qw cl1.p ps.length ps.length),(qw cl2.p ts.length ts.length),(qw cl3.p ss.length ss.length)]) (pv:=[(0,(qw cl1.p ps.length ps.length)),(1,(qw cl2.p ts.length ts.length)),(2,(qw cl3.p ss.length ss.length))]) (places:=[(0,1),(1,1),(2,1)]) zeroValue30 underlying30 (λw=>by simp [sizeOf23,sizeOf24,sizeOf28]) O O) (zK O (I2 O sizeOf30 O (zD (sl (sl (sl (sl sr)))) (zT ?_))))))))))
 exact zB (sL [2] O) (zA (zF (ret_one O (Ai (i:=3) (cs:=[(qw cl1.p ps.length ps.length),(qw cl2.p ts.length ts.length),(qw cl3.p ss.length ss.length)]) O O isAgg30 sizeOf30 O) (λw hw=>(J6 hw (bU.mk (OX.mk cl1.p cl1.c cl1.ok) (OX.mk cl2.p cl2.c cl2.ok) (OX.mk cl3.p cl3.c cl3.ok)) (sk (sk (sk (sl (sl (sl (sl (sl sr)))))))) (GL.own O (GL.own O (GL.own O GL.nil))) O)))))
end
def fH (p q:Pt):Prop:=p.x<q.x\/(p.x=q.x/\p.y<q.y)
instance (p q:Pt):Decidable (fH p q):=by unfold fH;infer_instance
abbrev T2:=P2×P2×P2
section
def cv (t:Tq3) (p:Nat):Bool:=t.1 == p||t.2.1 == p||t.2.2 == p
section
variable {ps:List Pt} {ts:List (Tq3)}
end
end
section
abbrev Q3:=Pt×Pt×Pt
def YW (ps:List Pt) (t:T3):Q3:=(IR ps t.1,IR ps t.2.1,IR ps t.2.2)
def dw (p q r:Pt):Bool:=decide (0<(Jt p q r).num.sign)
def bI (p q:Pt) (B:Q3):Bool:=dw p q B.1||dw p q B.2.1||dw p q B.2.2
def cw (A B:Q3):Bool:=!bI A.1 A.2.1 B||(!bI A.2.1 A.2.2 B||!bI A.2.2 A.1 B)
def bL (us:List Bool):List Value:=us.map qa
theorem JY (us:List Bool):(bL us).length=us.length:=xI _
theorem W4 (us:List Bool) (j:Nat) (v:Bool):(bL us).set j (.bool v)=bL (us.set j v):=by unfold bL;rw [List.map_set]
theorem OY {us:List Bool} {j:Nat} (h:j<us.length):(bL us)[j*1]?=some (.bool (us.getD j false)):=by simp [bL,h]
section
variable {P:Program} {ops:Array Oper} {rest:List Oper} {Q:Exit->Act->World->Prop} {n d i z m c:Nat} {F:List (Nat×Value)} {w0:BC} {L L':List As} {t ty T:TypeId} {p:String} {af:Array Edge} {x y:Operand} {cs vs:List Value} {q:Option Addr} {v:Value}
theorem AL.makeBool {ki kj:IntKind} {bytes:Nat} (ht:Ou P t T (.bool false) bytes) (hx:evF F x=some (.int ki (m:Nat))) (hy:evF F y=some (.int kj (m:Nat))) (hm:m<=1099511627776) (hb:Nat.ble bytes 16=true) (hd:Nat.ble (d+1) n=true)
    (next:∀b,OwnOk (jk b) m m->AL P ops rest Q n ((d,.slice (jk b) m m)::F) w0 (rowW (jk b) T 1 m m (bL (List.replicate m false))::L)) :
    AL P ops (⟨some d,.makeSlice t x y,ty,p,af,none⟩::rest) Q n F w0 L:=yz ht hx hy hm hb hd λb ho=>by
  have h:=next b ho
  unfold bL at h
  rw [List.map_replicate] at h
  exact h
end
section
variable {P:Program} {n:Nat} {F:List (Nat×Value)} {w0:BC} {L:List As} {x:Operand} {d:Option Tmp} {t:TypeId} {p:String} {af:Array Edge} {g:Option (Nat×Bool)}
end
end

section
section
variable {ts:List T3} {ps:List Pt} {p:Int} {i:Nat}
end
end
section
def dt (a b:Pt):Rat:=a.x*b.y-a.y*b.x
section
variable {p q r s u w:Pt}
end
section
variable {a b c d e f u:Pt}
def dx (u:Pt) (k:Rat) (a b c d e f:Pt):Prop:=(k<=dt u a/\k<=dt u b/\k<=dt u c)/\dt u d<=k/\dt u e<=k/\dt u f<=k
end
end
section
def RD (ts:List T3):Nat->List (P2×Nat)
  | 0=>[]
  | s+1=>BZ (RD ts s) (Ch ts s) (s/3)
section
variable {ts:List T3} {N t r s:Nat}
end
structure SX (ts:List T3) (o:Bool) where
  b:Nat
  kvs:List (P2×Nat)
  ok:H3 KD kvs
  fin:o=true->kvs=RD ts (3*ts.length)
instance {ts:List T3} {o:Bool}:C8 (SX ts o):=⟨λx=>.tuple #[.map (some x.b),.bool o],λx=>[OE x.b ER vN x.kvs],λx y hy=>by rcases xM.1 hy with rfl;rfl⟩
end
section
section
variable {P:Program} {Q:Exit->Act->World->Prop} {n:Nat} {F:List (Nat×Value)} {w0:BC} {L:List As} {c x y:Code}
def YC {α β γ δ ε ζ η:Type} (n:Nat) (w0:BC) (J:α->β->γ->δ->ε->ζ->η->Prop) (FI:α->β->γ->δ->ε->ζ->η->List (Nat×Value)) (LI:α->β->γ->δ->ε->ζ->η->List As) (m:α->β->γ->δ->ε->ζ->η->Nat) (i:α) (j:β) (k:γ) (l:δ) (o:ε) (q:ζ) (r:η) (Q:Exit->Act->World->Prop):Exit->Act->World->Prop :=
  Exit.then (λa w=>∃i' j' k' l' o' q' r',J i' j' k' l' o' q' r'/\m i' j' k' l' o' q' r'<m i j k l o q r/\Frm n a (FI i' j' k' l' o' q' r')/\Own w0 w (LI i' j' k' l' o' q' r')) Q
theorem OkC.loop7 {α β γ δ ε ζ η:Type} (J:α->β->γ->δ->ε->ζ->η->Prop) (FI:α->β->γ->δ->ε->ζ->η->List (Nat×Value)) (LI:α->β->γ->δ->ε->ζ->η->List As) (m:α->β->γ->δ->ε->ζ->η->Nat) (round:∀i j k l o q r,J i j k l o q r->OkC P c (YC n w0 J FI LI m i j k l o q r Q) n (FI i j k l o q r) w0 (LI i j k l o q r))
    (i:α) (j:β) (k:γ) (l:δ) (o:ε) (q:ζ) (r:η) (h:J i j k l o q r):OkC P (.loop c) Q n (FI i j k l o q r) w0 (LI i j k l o q r) :=
  yi (σ:=α×β×γ×δ×ε×ζ×η) (λs=>J s.1 s.2.1 s.2.2.1 s.2.2.2.1 s.2.2.2.2.1 s.2.2.2.2.2.1 s.2.2.2.2.2.2) (λs=>FI s.1 s.2.1 s.2.2.1 s.2.2.2.1 s.2.2.2.2.1 s.2.2.2.2.2.1 s.2.2.2.2.2.2) (λs=>LI s.1 s.2.1 s.2.2.1 s.2.2.2.1 s.2.2.2.2.1 s.2.2.2.2.2.1 s.2.2.2.2.2.2) (λs=>m s.1 s.2.1 s.2.2.1 s.2.2.2.1 s.2.2.2.2.1 s.2.2.2.2.2.1 s.2.2.2.2.2.2) (λs hs a w ha hw=>by
    refine Code.wp_mono (λe a' w' hq=>?_) (round s.1 s.2.1 s.2.2.1 s.2.2.2.1 s.2.2.2.2.1 s.2.2.2.2.2.1 s.2.2.2.2.2.2 hs a w ha hw)
    cases e<;>first
      | (obtain ⟨i',j',k',l',o',q',r',h1,h2,h3,h4⟩:=hq;exact ⟨(i',j',k',l',o',q',r'),h1,h2,h3,h4⟩)
      | exact hq) (i,j,k,l,o,q,r) h
theorem OkC.lp7 {α β γ δ ε ζ η:Type} {J:α->β->γ->δ->ε->ζ->η->Prop} {FI:α->β->γ->δ->ε->ζ->η->List (Nat×Value)} {LI:α->β->γ->δ->ε->ζ->η->List As} {m:α->β->γ->δ->ε->ζ->η->Nat} (_:Tg J) (_:Tg FI) (_:Tg LI) (_:Tg m) (i:α) (j:β) (k:γ) (l:δ) (o:ε) (q:ζ) (r:η) (h:J i j k l o q r) (hs:Ca (FI i j k l o q r) F) (hl:(LI i j k l o q r).Sublist L)
    (round:∀i j k l o q r,J i j k l o q r->OkC P c (YC n w0 J FI LI m i j k l o q r Q) n (FI i j k l o q r) w0 (LI i j k l o q r)):OkC P (.loop c) Q n F w0 L:=yh hs hl (OkC.loop7 J FI LI m round i j k l o q r h)
theorem y7 {α β γ δ ε ζ η:Type} {J:α->β->γ->δ->ε->ζ->η->Prop} {FI:α->β->γ->δ->ε->ζ->η->List (Nat×Value)} {LI:α->β->γ->δ->ε->ζ->η->List As} {m:α->β->γ->δ->ε->ζ->η->Nat} {i:α} {j:β} {k:γ} {l:δ} {o:ε} {q:ζ} {r:η} (i':α) (j':β) (k':γ) (l':δ) (o':ε) (q':ζ) (r':η) (hJ:J i' j' k' l' o' q' r') (hm:m i' j' k' l' o' q' r'<m i j k l o q r) (hs:Ca (FI i' j' k' l' o' q' r') F) (hl:(LI i' j' k' l' o' q' r').Sublist L):OkQ (YC n w0 J FI LI m i j k l o q r Q) .normal n F w0 L:=λ_ _ ha hw=>⟨i',j',k',l',o',q',r',hJ,hm,ha.sub hs,hw.weak hl⟩
theorem OkQ.round7_exit {α β γ δ ε ζ η:Type} {J:α->β->γ->δ->ε->ζ->η->Prop} {FI:α->β->γ->δ->ε->ζ->η->List (Nat×Value)} {LI:α->β->γ->δ->ε->ζ->η->List As} {m:α->β->γ->δ->ε->ζ->η->Nat} {i:α} {j:β} {k:γ} {l:δ} {o:ε} {q:ζ} {r:η} {id:Nat} (h:OkQ Q (.exit id) n F w0 L):OkQ (YC n w0 J FI LI m i j k l o q r Q) (.exit id) n F w0 L:=h
end
end
section
abbrev fZ (ts:List T3):List (P2×Nat):=RD ts (3*ts.length)
def fW (k:P2):P2:=(k.2,k.1)
def dY (ts:List T3) (k:P2):Prop:=(Ap (fZ ts) k).isSome=true
def fY (ts:List T3) (k:P2):Prop:=dY ts k/\¬dY ts (fW k)
section
variable {ts:List T3} {N:Nat} {k k0:P2} {i:Nat}
theorem Nf {n:Nat}:∀s,Ap (RD ts s) k=some n->∃u,u<s/\Ch ts u=k/\n=u/3
  | 0,h=>by cases h
  | s+1,h=>by
    have h:Ap (BZ (RD ts s) (Ch ts s) (s/3)) k=some n:=h
    rw [CB] at h
    split at h
    · rename_i e
      injection h with h
      exact ⟨s,Z,e.symm,h.symm⟩
    · obtain ⟨u,h1,h2,h3⟩:=Nf s h
      exact ⟨u,Z,h2,h3⟩
theorem PY {u:Nat}:∀s,u<s->(Ap (RD ts s) (Ch ts u)).isSome=true
  | 0,h=>absurd h (Nat.not_lt_zero _)
  | s+1,h=>by
    show (Ap (BZ (RD ts s) (Ch ts s) (s/3)) (Ch ts u)).isSome=true
    rw [CB]
    split
    · rfl
    · rename_i e
      rcases Nat.lt_or_ge u s with h1|h1
      · exact PY s h1
      · exact absurd (by rw [show u=s by omega]) e
theorem Y9:dY ts k↔∃u,u<3*ts.length/\Ch ts u=k:=by
  constructor
  · intro h
    obtain ⟨n,h⟩:=Option.isSome_iff_exists.1 h
    obtain ⟨u,h1,h2,_⟩:=Nf _ h
    exact ⟨u,h1,h2⟩
  · rintro ⟨u,h1,rfl⟩
    exact PY _ h1
theorem Tw {α:Type} [DecidableEq α] {l m:List α} (hn:l.Nodup) (hs:∀x∈l,x∈m):l.length<=m.length:=by
  induction l generalizing m with
  | nil=>exact xH _
  | cons x r ih =>
    have hx:=hs x List.mem_cons_self
    have hn2:=List.nodup_cons.1 hn
    have h:=ih (m:=m.erase x) hn2.2 λy hy=>by
      have:y≠x:=λe=>hn2.1 (e▸hy)
      exact (List.mem_erase_of_ne this).2 (hs y (List.mem_cons_of_mem _ hy))
    rw [List.length_erase_of_mem hx] at h
    have:=List.length_pos_of_mem hx
    simp only [List.length_cons];omega
def Y6 (ts:List T3):List P2:=(List.range (3*ts.length)).map (Ch ts)
theorem Wy (h:dY ts k):k∈Y6 ts:=by
  obtain ⟨u,hu,rfl⟩:=Y9.1 h
  exact List.mem_map.2 ⟨u,List.mem_range.2 hu,rfl⟩
theorem V5:(Y6 ts).length=3*ts.length:=by simp [Y6]
end
structure fL (ts:List T3) (dn:List (P2×Nat)):Prop where
  ok:H3 KD dn
  bd:∀k n,Ap dn k=some n->fY ts k/\n=1
section
variable {ts:List T3} {N:Nat} {k k0:P2} {i:Nat} {dn dn0:List (P2×Nat)} {l:List Nat}
theorem fL.len (h:fL ts dn):dn.length<=3*ts.length:=by
  have h1:(dn.map (·.1)).Nodup:=List.pairwise_map.2 (h.ok.once.imp λ{a b} h e=>h e)
  have h2:=Tw (m:=Y6 ts) h1 λx hx=>by
    obtain ⟨p,hp,rfl⟩:=List.mem_map.1 hx
    obtain ⟨j,hj,h3⟩:=List.getElem_of_mem hp
    exact Wy (h.bd _ _ (KS (x:=p.1) (v:=p.2) h.ok.once (by rw [xN hj,h3]))).1.1
  rwa [V5,xI] at h2
end
section
variable {ts:List T3} {N i:Nat} {dn dn2:List (P2×Nat)} {wq:T3} {l:List Nat}
end
end
section
section
variable {ps:List Pt} {ts:List T3}
end
end
section
def Ln (ps:List Pt) (s t:T3):Prop:=∃(u:Pt) (k:Rat),u≠⟨0,0⟩/\dx u k (IR ps s.1) (IR ps s.2.1) (IR ps s.2.2) (IR ps t.1) (IR ps t.2.1) (IR ps t.2.2)
theorem Ln.symm {ps:List Pt} {s t:T3} (h:Ln ps s t):Ln ps t s:=by
  obtain ⟨u,k,hu,⟨h1,h2,h3⟩,h4,h5,h6⟩:=h
  have ng:∀a,dt ⟨-u.x,-u.y⟩ a = -dt u a:=λa=>by unfold dt;grind
  refine ⟨⟨-u.x,-u.y⟩,-k,λe=>hu ?_,⟨?_,?_,?_⟩,?_,?_,?_⟩
  · obtain ⟨x,y⟩:=u
    injection e with e1 e2
    simp only at e1 e2
    rw [show x=0 by grind,show y=0 by grind]
  all_goals rw [ng];grind
section
variable {ps:List Pt} {ts:List T3}
end
end
section
section
variable {N:Nat} {es:List E4} {T:T3}
theorem Jf {k:P2} {n:Nat}:∀i,Ap (Aq N es i) k=some n->∃j,j<i/\Br (es.getD j E0).a (es.getD j E0).b=k/\n=N+j
  | 0,h=>by cases h
  | i+1,h=>by
    have h:Ap (BZ (Aq N es i) (Br (es.getD i E0).a (es.getD i E0).b) (N+i)) k=some n:=h
    rw [CB] at h
    split at h
    · rename_i e
      injection h with h
      exact ⟨i,Z,e.symm,h.symm⟩
    · obtain ⟨j,h1,h2,h3⟩:=Jf i h
      exact ⟨j,Z,h2,h3⟩
end
end
section
section
variable {m:MQ} {ts:List T3} {a b N:Nat}
theorem N7 {x y:Nat} (hab:a<b) (hxy:x≠y):Br x y=(a,b)↔(x=a/\y=b)\/(x=b/\y=a):=by
  unfold Br
  rw [Prod.mk.injEq]
  omega
theorem Yl {t:T3} (hab:a<b) (h:t.1≠t.2.1/\t.2.1≠t.2.2/\t.2.2≠t.1):[Br t.1 t.2.1,Br t.2.1 t.2.2,Br t.2.2 t.1].count (a,b)=if Pk t a=true/\Pk t b=true then 1 else 0:=by
  obtain ⟨h1,h2,h3⟩:=h
  simp only [List.count_cons,List.count_nil,beq_iff_eq,N7 hab h1,N7 hab h2,N7 hab h3,Pk,xY,xT]
  split<;>split<;>split<;>split<;>omega
theorem Ps (hn:Bu N ts=true) (hN:N<=4611686018427387904) (h:(a,b)∈FJ ts):a<b/\b<N:=by
  obtain ⟨e,he,rfl,rfl⟩:=(JA hn hN).1 h
  exact GD hn hN he
end
end
section
def Da (md:List (P2×Nat)) (ts:List T3) (i:Nat):List T3:=(ts.take i).flatMap (Cg md 2)
def Gw (md:List (P2×Nat)) (ts:List T3):List T3:=ts.flatMap (Cg md 2)
def CY (md:List (P2×Nat)) (ts:List T3):Nat->List Nat
  | 0=>[]
  | i+1=>CY md ts i++CU (Cg md 2 (ts.getD i (0,0,0))).length i
section
variable {md:List (P2×Nat)} {ts ss:List T3} {i N:Nat} {es:List E4}
theorem HK (h:i<ts.length):Da md ts (i+1)=Da md ts i++Cg md 2 (ts.getD i (0,0,0)):=by
  unfold Da
  rw [Bd (d:=(0,0,0)) h,List.flatMap_append];simp
theorem ON:Da md ts ts.length=Gw md ts:=by unfold Da Gw;rw [List.take_length]
theorem Li:∀i,i<=ts.length->(Da md ts i).length<=4*i
  | 0,_=>by simp [Da]
  | i+1,h=>by
    rw [HK Z,xJ]
    have h1:=Li i Z
    have h2:=Hq md 2 (ts.getD i (0,0,0))
    omega
theorem Zr:(Gw md ts).length<=4*ts.length:=by rw [<-ON];exact Li _ (Nat.le_refl _)
theorem Ka:∀i,i<=ts.length->(CY md ts i).length=(Da md ts i).length
  | 0,_=>by simp [Da,CY]
  | i+1,h=>by
    rw [HK Z,CY,xJ,xJ,Ka i Z]
    simp [CU]
theorem Y2:∀i,i<=es.length->∀k n,Ap (Aq N es i) k=some n->n<N+es.length:=λi hi k n h=>by
  obtain ⟨j,h1,_,h3⟩:=Jf i h
  omega
end
structure fe (ps:List Pt) (ts ss:List T3) (ms:List Int) where
  l:List E4
  p:E4->Bool
  el:l=(BG ts).filter p
  all:∀e,p e=true↔Mn ts (Mi ts ms) (e.a,e.b)
  x:ZY (eM ps l) (Gw (Aq ps.length l l.length) ts) (eD ps.length ss l (Gw (Aq ps.length l l.length) ts)) (CY (Aq ps.length l l.length) ts ts.length) 0
instance {ps:List Pt} {ts ss:List T3} {ms:List Int}:C8 (fe ps ts ss ms):=⟨λb=>C8.val b.x,λb=>C8.rows b.x,λb y hy=>C8.ro b.x y hy⟩
section
variable {ts ss:List T3} {N:Nat} {es:List E4} {ms:List Int}
theorem TP {l:List E4} {p:E4->Bool} (h:l=(BG ts).filter p):l.length<=(BG ts).length:=by rw [h];exact List.length_filter_le _ _
theorem MJ (hn:Bu N ts=true) (hN:N<=4611686018427387904) {l:List E4} {p:E4->Bool} (h:l=(BG ts).filter p):∀e∈l,e.a<N/\e.b<N:=λe he=>by
  rw [h] at he
  exact Ie hn hN e (List.mem_filter.1 he).1
structure Jg (ts:List T3) (ms:List Int) (l:List E4):Prop where
  ex:∃p:E4->Bool,l=(BG ts).filter p/\∀e,p e=true↔Mn ts (Mi ts ms) (e.a,e.b)
theorem DX.cut (u:DX ts ms):Jg ts ms u.l:=⟨u.p,u.el,u.all⟩
end
theorem SM {ts:List T3} {ms:List Int} (K:List P2) (h0:∀z∈ms,0<=z->z<(ts.length:Int)->Cf (ts.getD z.toNat (0,0,0))∈K) (hc:∀t∈ts,Br t.1 t.2.1∈K\/Br t.2.2 t.1∈K->Cf t∈K) (h1:∀k∈K,Mn ts (Mi ts ms) k) {l:List E4} {p:E4->Bool} (h:l=(BG ts).filter p) (ha:∀e,p e=true↔Mn ts (Mi ts ms) (e.a,e.b)):l=(BG ts).filter λe=>decide ((e.a,e.b)∈K):=by
  rw [h]
  have key:∀k,Mn ts (Mi ts ms) k->k∈K:=λk c=>by
    induction c with
    | start hs=>obtain ⟨z,hz,a,b,rfl⟩:=hs;exact h0 z hz a b
    | up ht _ he ih =>
      refine hc _ ht ?_
      rcases he with he|he<;>rw [he] at ih
      · exact .inl ih
      · exact .inr ih
  refine List.filter_congr λe _=>?_
  rw [Bool.eq_iff_iff,ha,xT]
  exact ⟨key _,h1 _⟩
section
variable {P:Program} {ops:Array Oper} {rest:List Oper} {Q:Exit->Act->World->Prop} {n d:Nat} {F:List (Nat×Value)} {w0:BC} {S:Nat->Prop} {L:List As} {t:TypeId} {p:String} {af:Array Edge} {y:Operand} {f:FuncId} {xs:List Operand} {args:List Value} {tys:Array TypeId} {ps:List Pt} {ts ss:List T3} {ms:List Int}
end
end
section
section
variable {md:List (P2×Nat)} {N M n a b c e p:Nat} {k κ:P2} {T:T3} {ts ts':List T3}
end
end
section
def bz (l:Nat):Int×Int×Int:=if l=0 then (2,0,0) else if l=1 then (0,2,0) else if l=2 then (0,0,2) else if l=3 then (1,1,0) else if l=4 then (0,1,1) else (1,0,1)
def D3 (i j k:Nat):Int:=(bz i).1*((bz j).2.1*(bz k).2.2-(bz j).2.2*(bz k).2.1)-(bz i).2.1*((bz j).1*(bz k).2.2-(bz j).2.2*(bz k).1)+(bz i).2.2*((bz j).1*(bz k).2.1-(bz j).2.1*(bz k).1)
def ep (fam:List T3) (l:Nat):Bool:=fam.any λL=>cv L l
def dp (L:T3) (l:Nat):Bool:=decide (0<=D3 l L.2.1 L.2.2)&&decide (0<=D3 L.1 l L.2.2)&&decide (0<=D3 L.1 L.2.1 l)
instance (fam:List T3):Decidable (∀l,l<6->ep fam l=true->∀L∈fam,dp L l=true->cv L l=true):=inferInstance
section
variable {a b c q:Pt} {l i j k:Nat}
end
end
section
section
variable {ps ps':List Pt} {ts ts':List T3} {mv:Nat->Nat->Nat} {fam:T3->List T3} {t s c L:T3} {l k p:Nat}
end
end
section
def ED (ps:List Pt) (c:T3) (i:Nat):Rat:=Cz (IR ps (CJ c ((i+2)%3))-IR ps (CJ c ((i+1)%3))) (IR ps (CJ c ((i+2)%3))-IR ps (CJ c ((i+1)%3)))
def JF (ps:List Pt) (c:T3):Nat->Nat
  | 0=>0
  | r+1=>if 0<EW (ED ps c r) (ED ps c (JF ps c r)) then r else JF ps c r
def Fk (ps:List Pt) (ts:List T3) (j:Nat):Nat:=JF ps (ts.getD j (0,0,0)) 3
theorem MI {a b:Rat}:0<EW a b↔b<a:=by
  unfold EW
  split
  · exact ⟨λh=>absurd h jY,λh=>by grind⟩
  · split
    · exact ⟨λh=>absurd h jY,λh=>by grind⟩
    · exact ⟨λ_=>by grind,λ_=>by decide⟩
section
variable {ps:List Pt} {ts ss:List T3} {c:T3}
theorem FV (r:Nat):JF ps c (r+1)=if 0<EW (ED ps c r) (ED ps c (JF ps c r)) then r else JF ps c r:=rfl
theorem Nq:∀r,r<=3->JF ps c r<3
  | 0,_=>by show 0<3;decide
  | r+1,h=>by
    rw [FV]
    split
    · omega
    · exact Nq r Z
theorem T9 (u:T3):Tk u 0=u:=rfl
theorem Yn {N:Nat} (h1:c.1<N) (h2:c.2.1<N) (h3:c.2.2<N):∀r,r<3->CJ c r<N:=λr hr=>by
  have e:r=0\/r=1\/r=2:=by omega
  rcases e with rfl|rfl|rfl
  · exact h1
  · exact h2
  · exact h3
theorem Ha {r:Nat} (h:0<EW (ED ps c r) (ED ps c (JF ps c r))):JF ps c (r+1)=r:=if_pos h
theorem JN {r:Nat} (h:¬0<EW (ED ps c r) (ED ps c (JF ps c r))):JF ps c (r+1)=JF ps c r:=if_neg h
theorem Gg (hz:∀k,DU (IR ps k)<=1000) (c:T3) (i:Nat):Sz (ED ps c i)<=100000:=by
  have z1:=hz (CJ c ((i+2)%3))
  have z2:=hz (CJ c ((i+1)%3))
  have h1:=FK (IR ps (CJ c ((i+2)%3))) (IR ps (CJ c ((i+1)%3)))
  have h2:=IT (IR ps (CJ c ((i+2)%3))-IR ps (CJ c ((i+1)%3))) (IR ps (CJ c ((i+2)%3))-IR ps (CJ c ((i+1)%3)))
  unfold ED
  omega
theorem E9 {W w:World} {L:List As} (hw:Own ⟨W,none⟩ w L) (i:Nat) {b:Nat} {T:TypeId} {cs:List Value} (hi:L[i]?=some (AR b T cs)):Ro (λ_=>True) w (⟨b⟩:BX cs):=λy hy=>by
  rcases xM.1 hy with rfl
  refine ⟨λd e=>?_,λ_ _=>trivial⟩
  injection e with e
  subst e
  exact ⟨_,hw.get hi,Hl O⟩
theorem FB {W w:World} {L:List As} (hw:Own ⟨W,none⟩ w L) (i:Nat) {p:Option Addr} {T:TypeId} {z n c c':Nat} {cs:List Value} (hi:L[i]?=some (rowW p T z n c cs)) (ho:OwnOk p n c) (hl:cs.length=n*z) (ok:An p n c'):Ro (λ_=>True) w (⟨p,c',ok⟩:RX cs n):=λy hy=>by
  rcases xM.1 hy with rfl
  exact ⟨(C9 (S:=λ_=>True) hw i hi ho hl).1,λ_ _=>trivial⟩
end
end
section
section
variable {ps:List Pt} {ts us ss:List T3} {N:Nat}
def dZ (ps:List Pt) (s t:T3):Prop:=(!cw (YW ps s) (YW ps t)&&!cw (YW ps t) (YW ps s))=false
theorem dZ.symm {s t:T3} (h:dZ ps s t):dZ ps t s:=by unfold dZ at *;rw [Bool.and_comm];exact h
end
end
section
def EP (t:T3) (a b:Nat):Bool:=(decide (t.1=a)&&decide (t.2.1=b))||((decide (t.2.1=a)&&decide (t.2.2=b))||(decide (t.2.2=a)&&decide (t.1=b)))
def IX (ts:List T3) (a b:Nat):Nat->Int
  | 0 => -1
  | n+1=>if IX ts a b n = -1 then (if EP (ts.getD n (0,0,0)) a b=true then (n:Int) else -1) else IX ts a b n
section
variable {ts:List T3} {a b t:Nat}
theorem KZ:∀n,(∀j,j<n->EP (ts.getD j (0,0,0)) a b=false)->IX ts a b n = -1
  | 0,_=>rfl
  | n+1,h=>by
    rw [IX,KZ n λj hj=>h j Z,if_pos rfl,h n Z]
    rfl
theorem Pb:∀n,t<n->EP (ts.getD t (0,0,0)) a b=true->(∀j,j<t->EP (ts.getD j (0,0,0)) a b=false)->IX ts a b n=(t:Int)
  | 0,h,_,_=>absurd h (Nat.not_lt_zero _)
  | n+1,h,h1,h2=>by
    rw [IX]
    rcases Nat.lt_or_ge t n with k|k
    · rw [Pb n k h1 h2,if_neg Z]
    · have e:n=t:=by omega
      subst e
      rw [KZ n h2,if_pos rfl,if_pos h1]
end
def Zb (t:T3) (a b:Nat):Bool:=EP t a b||EP t b a
def Iq (ts:List T3) (a b:Nat):Nat->Nat
  | 0=>0
  | t+1=>if Zb (ts.getD t (0,0,0)) a b=true then Iq ts a b t+1 else Iq ts a b t
def It (ts:List T3) (a:Nat):Nat->List T3
  | 0=>[]
  | j+1=>if Iq ts a (a+1+j) ts.length=1 then It ts a j++[(a,a+1+j,0)] else It ts a j
def RK (ts:List T3) (N:Nat):Nat->List T3
  | 0=>[]
  | a+1=>RK ts N a++It ts a (N-(a+1))
section
variable {ts:List T3} {a b N t:Nat}
theorem WF (h:Zb (ts.getD t (0,0,0)) a b=true):Iq ts a b (t+1)=Iq ts a b t+1:=if_pos h
theorem Yu (h:¬Zb (ts.getD t (0,0,0)) a b=true):Iq ts a b (t+1)=Iq ts a b t:=if_neg h
theorem Va {j:Nat} (hj:a+1<=j) (h:Iq ts a j ts.length=1):It ts a (j+1-(a+1))=It ts a (j-(a+1))++[(a,j,0)]:=by
  rw [show j+1-(a+1)=(j-(a+1))+1 by omega,It,if_pos (by rw [show a+1+(j-(a+1))=j by omega];exact h),show a+1+(j-(a+1))=j by omega]
theorem Xi {j:Nat} (hj:a+1<=j) (h:¬Iq ts a j ts.length=1):It ts a (j+1-(a+1))=It ts a (j-(a+1)):=by
  rw [show j+1-(a+1)=(j-(a+1))+1 by omega,It,if_neg (by rw [show a+1+(j-(a+1))=j by omega];exact h)]
theorem HU {s:T3}:∀j,s∈It ts a j↔s.1=a/\a<s.2.1/\s.2.1<a+1+j/\Iq ts s.1 s.2.1 ts.length=1/\s.2.2=0
  | 0=>⟨λh=>(by cases h),λh=>Z⟩
  | j+1=>by
    rw [It]
    split
    · rename_i hc
      rw [List.mem_append,HU j,xM]
      constructor
      · rintro (h|rfl)
        · exact ⟨h.1,h.2.1,Z,h.2.2.2⟩
        · exact ⟨rfl,(by show a<a+1+j;omega),(by show a+1+j<a+1+(j+1);omega),hc,rfl⟩
      · rintro ⟨h1,h2,h3,h4,h5⟩
        rcases Nat.lt_or_ge s.2.1 (a+1+j) with h6|h6
        · exact .inl ⟨h1,h2,h6,h4,h5⟩
        · exact .inr (Prod.ext h1 (Prod.ext (show s.2.1=a+1+j by omega) h5))
    · rename_i hc
      rw [HU j]
      constructor
      · exact λh=>⟨h.1,h.2.1,Z,h.2.2.2⟩
      · rintro ⟨h1,h2,h3,h4,h5⟩
        rcases Nat.lt_or_ge s.2.1 (a+1+j) with h6|h6
        · exact ⟨h1,h2,h6,h4,h5⟩
        · rw [h1,show s.2.1=a+1+j by omega] at h4;exact absurd h4 hc
theorem Im {s:T3}:∀A,s∈RK ts N A↔s.1<A/\s.1<s.2.1/\s.2.1<N/\Iq ts s.1 s.2.1 ts.length=1/\s.2.2=0
  | 0=>⟨λh=>(by cases h),λh=>Z⟩
  | A+1=>by
    rw [RK,List.mem_append,Im A,HU]
    constructor
    · rintro (h|h)
      · exact ⟨Z,h.2⟩
      · exact ⟨Z,Z,Z,h.2.2.2⟩
    · rintro ⟨h1,h2,h3,h4⟩
      rcases Nat.lt_or_ge s.1 A with h5|h5
      · exact .inl ⟨h5,h2,h3,h4⟩
      · exact .inr ⟨Z,Z,Z,h4⟩
theorem HS:∀j,(It ts a j).Pairwise ZT
  | 0=>List.Pairwise.nil
  | j+1=>by
    rw [It]
    split
    · refine List.pairwise_append.2 ⟨HS j,List.pairwise_singleton _ _,λx hx y hy=>?_⟩
      rw [xM] at hy
      subst hy
      have h:=(HU j).1 hx
      exact .inr ⟨h.1,(by show x.2.1<a+1+j;exact h.2.2.1)⟩
    · exact HS j
theorem Jo:∀A,(RK ts N A).Pairwise ZT
  | 0=>List.Pairwise.nil
  | A+1=>List.pairwise_append.2 ⟨Jo A,HS _,λx hx y hy=>.inl (by
      have h1:=(Im A).1 hx
      have h2:=(HU _).1 hy
      omega)⟩
theorem Xf {T:T3} (hab:a<b) (h:T.1≠T.2.1/\T.2.1≠T.2.2/\T.2.2≠T.1):[Br T.1 T.2.1,Br T.2.1 T.2.2,Br T.2.2 T.1].count (a,b)=if Zb T a b=true then 1 else 0:=by
  rw [Yl hab h]
  have e:(Pk T a=true/\Pk T b=true)↔Zb T a b=true:=by
    obtain ⟨x,y,z⟩:=T
    unfold Pk Zb EP
    simp only [xY,xZ,xT,beq_iff_eq] at h ⊢
    omega
  simp only [e]
theorem Nz (hn:Bu N ts=true) (hab:a<b):∀i,i<=ts.length->Iq ts a b i=(FJ (ts.take i)).count (a,b)
  | 0,_=>rfl
  | i+1,h=>by
    have hi:i<ts.length:=by omega
    rw [Bd (d:=(0,0,0)) hi]
    unfold FJ
    rw [List.flatMap_append,List.count_append]
    have ih:=Nz hn hab i Z
    unfold FJ at ih
    rw [<-ih]
    simp only [List.flatMap_cons,List.flatMap_nil,List.append_nil]
    rw [Xf hab (QZ (Dt hn hi)),Iq]
    split<;>rfl
theorem Sw (hn:Bu N ts=true) (hN:N<=4611686018427387904):RK ts N N=GW ts:=by
  refine L_ ZT.asymm (Jo N) (PR hn hN) λs=>?_
  rw [Im,W3 hn hN]
  constructor
  · rintro ⟨_,h2,_,h4,h5⟩
    rw [Nz hn h2 _ (Nat.le_refl _),List.take_length] at h4
    exact ⟨h4,h5⟩
  · rintro ⟨h1,h2⟩
    have hm:(s.1,s.2.1)∈FJ ts:=List.count_pos_iff.1 Z
    obtain ⟨k1,k2⟩:=Ps hn hN hm
    exact ⟨Z,k1,k2,by rw [Nz hn k1 _ (Nat.le_refl _),List.take_length];exact h1,h2⟩
end
section
variable {ts:List T3} {a b N t i:Nat}
end
section
variable {ts:List T3} {p n:Nat}
end
end
section
set_option maxRecDepth 100000
theorem RR {N:Nat} {ts ss:List T3} (x:RM N ts ss) (p:Nat) (w:World) {S:Nat->Prop} (hx:Ro S w x):Calls prog 57 #[(aG (Dk x)),(vN p)] w (Ak w (qa (decide (p<N)))):=by
 have lx:=Bx (W:=w) hx
 refine AX (args:=[(aG (Dk x)),(vN p)]) (L:=[AB x.a.p (x.cs),AB x.b.p (rowsL Ac ts),AB x.c.p (x.ds)]) func57 O O (Av O) (DF hx Ah) (zN (sL [0,1] O) (q4 (Bb (cs:=Dk x) O λb1=>asg' O (q3 (sL [1,2,4] O) (AM O (AG (Bp (c:=(decide (0<=p))) O O (UT (a:=0) (b:=p))) O (AM O ?_)))))))
 refine zX (FM:=[(1,(vN p)),(2,(pP b1 0)),(4,(qa false)),(5,(vN p)),(6,(qa (decide (0<=p)))),(7,(qa (decide (0<=p)))),(13,(qa ((decide (0<=p))&&(decide (p<N)))))]) (LM:=[AR b1 39 (Dk x),AB x.a.p (x.cs),AB x.b.p (rowsL Ac ts),AB x.c.p (x.ds)]) 6 ?_ ?_
 ·rcases xO (decide (0<=p)) with hg1|hg1
  ·refine zC (k:=7) (u:=qa true) O (by rw [hg1]) ?_
   have hg1':=xR hg1
   exact Ds O (Au (v:=(pP b1 0)) O (AA O underlying39 O sizeOf36 O) (Au (v:=(qw x.a.p N x.a.c)) O (AE (i:=0) (v:=(qw x.a.p N x.a.c)) O O Ez.a O) (Au (v:=(vN N)) O (AC O underlying36) (Au (v:=(qa (decide (p<N)))) O (Ae (c:=(decide (p<N))) O O (CM (a:=p) (b:=N))) (AG (v:=(qa (decide (p<N)))) (AN O O) O (oNl' (zR Bg (xP _))))))))
  ·refine zC (k:=7) (u:=qa false) O (by rw [hg1]) ?_
   have hg1':=xQ hg1
   exact Ar O (Ar O (Ar O (Ar O (Ar O (AG (v:=(qa false)) (AI O O) O (oNl' (zR Bg (xP _))))))))
 exact asg' O (oNl' (zB (sL [4] O) (zA (zF (ret_one O (rd_tmp (v:=(qa ((decide (0<=p))&&(decide (p<N))))) O) (λw hw=>⟨by simp,hw.out⟩))))))
theorem KV (t:T3) (a b:Nat) (w:World)  :Calls prog 111 #[(aG (Ac t)),(vN a),(vN b)] w (Ak w (qa (EP t a b))):=by
 refine Ab (args:=[(aG (Ac t)),(vN a),(vN b)]) func111 O O (Av O) (zN (sL [0,1,2] O) (q4 (Bb (cs:=Ac t) O λb1=>asg' O (q3 (sL [1,2,3,6] O) (AG (v:=(pP b1 0)) (AD (j:=0) O O underlying105 sizeOf3 O jY O) O (Az 0 (vN t.1) BN O (AM O (AG (BO (c:=(decide (t.1=a))) O O (Mf (a:=t.1) (b:=a))) O (AM O ?_)))))))))
 refine zX (FM:=[(1,(vN a)),(2,(vN b)),(3,(pP b1 0)),(6,(qa false)),(7,(pP b1 0)),(8,(vN t.1)),(9,(vN a)),(10,(qa (decide (t.1=a)))),(11,(qa (decide (t.1=a)))),(16,(qa ((decide (t.1=a))&&(decide (t.2.1=b)))))]) (LM:=[AR b1 105 (Ac t)]) 5 ?_ ?_
 ·rcases xO (decide (t.1=a)) with hg1|hg1
  ·refine zC (k:=11) (u:=qa true) O (by rw [hg1]) ?_
   have hg1':=xR hg1
   exact Au (v:=(pP b1 1)) O (AD (j:=1) O O underlying105 sizeOf3 O jY O) (Au (v:=(vN t.2.1)) O (AE (i:=0) (v:=(vN t.2.1)) O O BN.a O) (Ds O (Au (v:=(qa (decide (t.2.1=b)))) O (BO (c:=(decide (t.2.1=b))) O O (Mf (a:=t.2.1) (b:=b))) (AG (v:=(qa (decide (t.2.1=b)))) (AN O O) O (oNl' (zR Bg (xP _)))))))
  ·refine zC (k:=11) (u:=qa false) O (by rw [hg1]) ?_
   have hg1':=xQ hg1
   exact Ar O (Ar O (Ar O (Ar O (AG (v:=(qa false)) (AI O O) O (oNl' (zR Bg (xP _)))))))
 refine AM O ?_
 refine zX (FM:=[(1,(vN a)),(2,(vN b)),(3,(pP b1 0)),(6,(qa false)),(7,(pP b1 0)),(8,(vN t.1)),(9,(vN a)),(10,(qa (decide (t.1=a)))),(11,(qa (decide (t.1=a)))),(16,(qa ((decide (t.1=a))&&(decide (t.2.1=b))))),(17,(qa ((decide (t.1=a))&&(decide (t.2.1=b))))),(28,(qa (((decide (t.1=a))&&(decide (t.2.1=b)))||((decide (t.2.1=a))&&(decide (t.2.2=b))))))]) (LM:=[AR b1 105 (Ac t)]) 11 ?_ ?_
 ·rcases xO ((decide (t.1=a))&&(decide (t.2.1=b))) with hg2|hg2
  ·refine zC (k:=17) (u:=qa true) O (by rw [hg2]) ?_
   have hg2':=hg2
   simp only [jK] at hg2'
   exact Ar O (Ar O (Ar O (Ar O (Ar O (zg (BJ O O O) O (Av O) (zg (BJ O O O) O (Av O) (zg (BJ O O O) O (Av O) (zg (BJ O O O) O (Av O) (Ar O (AG (v:=(qa true)) (AN O O) O (oNl' (zR EQ (xP _)))))))))))))
  ·refine zC (k:=17) (u:=qa false) O (by rw [hg2]) ?_
   have hg2':=hg2
   simp only [jK] at hg2'
   refine Au (v:=(pP b1 1)) O (AD (j:=1) O O underlying105 sizeOf3 O jY O) (Au (v:=(vN t.2.1)) O (AE (i:=0) (v:=(vN t.2.1)) O O BN.a O) (Ds O (Au (v:=(qa (decide (t.2.1=a)))) O (BO (c:=(decide (t.2.1=a))) O O (Mf (a:=t.2.1) (b:=a))) (Ds O ?_))))
   refine zX (FM:=[(1,(vN a)),(2,(vN b)),(3,(pP b1 0)),(6,(qa false)),(7,(pP b1 0)),(8,(vN t.1)),(9,(vN a)),(10,(qa (decide (t.1=a)))),(11,(qa (decide (t.1=a)))),(16,(qa ((decide (t.1=a))&&(decide (t.2.1=b))))),(17,(qa false)),(18,(pP b1 1)),(19,(vN t.2.1)),(20,(vN a)),(21,(qa (decide (t.2.1=a)))),(22,(qa (decide (t.2.1=a)))),(27,(qa ((decide (t.2.1=a))&&(decide (t.2.2=b)))))]) (LM:=[AR b1 105 (Ac t)]) 5 ?_ ?_
   ·rcases xO (decide (t.2.1=a)) with hg3|hg3
    ·refine zC (k:=22) (u:=qa true) O (by rw [hg3]) ?_
     have hg3':=xR hg3
     exact Au (v:=(pP b1 2)) O (AD (j:=2) O O underlying105 sizeOf3 O jY O) (Au (v:=(vN t.2.2)) O (AE (i:=0) (v:=(vN t.2.2)) O O BN.a O) (Ds O (Au (v:=(qa (decide (t.2.2=b)))) O (BO (c:=(decide (t.2.2=b))) O O (Mf (a:=t.2.2) (b:=b))) (Au (v:=(qa (decide (t.2.2=b)))) O (AN O O) (oNl' (zR Hz (xP _)))))))
    ·refine zC (k:=22) (u:=qa false) O (by rw [hg3]) ?_
     have hg3':=xQ hg3
     exact Ar O (Ar O (Ar O (Ar O (Au (v:=(qa false)) O (AI O O) (oNl' (zR Hz (xP _)))))))
   exact AG (v:=(qa ((decide (t.2.1=a))&&(decide (t.2.2=b))))) (AI O O) O (oNl' (zR EQ (xP _)))
 refine AM O ?_
 refine zX (FM:=[(1,(vN a)),(2,(vN b)),(3,(pP b1 0)),(6,(qa false)),(7,(pP b1 0)),(8,(vN t.1)),(9,(vN a)),(10,(qa (decide (t.1=a)))),(11,(qa (decide (t.1=a)))),(16,(qa ((decide (t.1=a))&&(decide (t.2.1=b))))),(17,(qa ((decide (t.1=a))&&(decide (t.2.1=b))))),(28,(qa (((decide (t.1=a))&&(decide (t.2.1=b)))||((decide (t.2.1=a))&&(decide (t.2.2=b)))))),(29,(qa (((decide (t.1=a))&&(decide (t.2.1=b)))||((decide (t.2.1=a))&&(decide (t.2.2=b)))))),(40,(qa ((((decide (t.1=a))&&(decide (t.2.1=b)))||((decide (t.2.1=a))&&(decide (t.2.2=b))))||((decide (t.2.2=a))&&(decide (t.1=b))))))]) (LM:=[AR b1 105 (Ac t)]) 11 ?_ ?_
 ·rcases xO (((decide (t.1=a))&&(decide (t.2.1=b)))||((decide (t.2.1=a))&&(decide (t.2.2=b)))) with hg4|hg4
  ·refine zC (k:=29) (u:=qa true) O (by rw [hg4]) ?_
   have hg4':=hg4
   simp only [jK] at hg4'
   exact Ar O (Ar O (Ar O (Ar O (Ar O (zg (BJ O O O) O (Av O) (zg (BJ O O O) O (Av O) (zg (BJ O O O) O (Av O) (zg (BJ O O O) O (Av O) (Ar O (AG (v:=(qa true)) (AN O O) O (oNl' (zR KN (xP _)))))))))))))
  ·refine zC (k:=29) (u:=qa false) O (by rw [hg4]) ?_
   have hg4':=hg4
   simp only [jK] at hg4'
   refine Au (v:=(pP b1 2)) O (AD (j:=2) O O underlying105 sizeOf3 O jY O) (Au (v:=(vN t.2.2)) O (AE (i:=0) (v:=(vN t.2.2)) O O BN.a O) (Ds O (Au (v:=(qa (decide (t.2.2=a)))) O (BO (c:=(decide (t.2.2=a))) O O (Mf (a:=t.2.2) (b:=a))) (Ds O ?_))))
   refine zX (FM:=[(1,(vN a)),(2,(vN b)),(3,(pP b1 0)),(6,(qa false)),(7,(pP b1 0)),(8,(vN t.1)),(9,(vN a)),(10,(qa (decide (t.1=a)))),(11,(qa (decide (t.1=a)))),(16,(qa ((decide (t.1=a))&&(decide (t.2.1=b))))),(17,(qa ((decide (t.1=a))&&(decide (t.2.1=b))))),(28,(qa (((decide (t.1=a))&&(decide (t.2.1=b)))||((decide (t.2.1=a))&&(decide (t.2.2=b)))))),(29,(qa false)),(30,(pP b1 2)),(31,(vN t.2.2)),(32,(vN a)),(33,(qa (decide (t.2.2=a)))),(34,(qa (decide (t.2.2=a)))),(39,(qa ((decide (t.2.2=a))&&(decide (t.1=b)))))]) (LM:=[AR b1 105 (Ac t)]) 5 ?_ ?_
   ·rcases xO (decide (t.2.2=a)) with hg5|hg5
    ·refine zC (k:=34) (u:=qa true) O (by rw [hg5]) ?_
     have hg5':=xR hg5
     exact Au (v:=(pP b1 0)) O (AD (j:=0) O O underlying105 sizeOf3 O jY O) (Au (v:=(vN t.1)) O (AE (i:=0) (v:=(vN t.1)) O O BN.a O) (Ds O (Au (v:=(qa (decide (t.1=b)))) O (BO (c:=(decide (t.1=b))) O O (Mf (a:=t.1) (b:=b))) (Au (v:=(qa (decide (t.1=b)))) O (AN O O) (oNl' (zR J5 (xP _)))))))
    ·refine zC (k:=34) (u:=qa false) O (by rw [hg5]) ?_
     have hg5':=xQ hg5
     exact Ar O (Ar O (Ar O (Ar O (Au (v:=(qa false)) O (AI O O) (oNl' (zR J5 (xP _)))))))
   exact AG (v:=(qa ((decide (t.2.2=a))&&(decide (t.1=b))))) (AI O O) O (oNl' (zR KN (xP _)))
 exact asg' O (oNl' (zB (sL [6] O) (zA (zF (ret_one O (rd_tmp (v:=(qa ((((decide (t.1=a))&&(decide (t.2.1=b)))||((decide (t.2.1=a))&&(decide (t.2.2=b))))||((decide (t.2.2=a))&&(decide (t.1=b)))))) O) (λw hw=>⟨by first|rfl|simp [EP,Bool.or_assoc],hw.out⟩))))))
theorem OS {N:Nat} {ts ss:List T3} (x:RM N ts ss) (hnb:Bu N ts=true) (hl:ts.length<=1000000) (hN:N<=1000000) (w:World) {S:Nat->Prop} (hx:Ro S w x):Calls prog 45 #[(aG (Dk x))] w (Ak w (qa true)):=by
 have lx:=Bx (W:=w) hx
 refine AX (args:=[(aG (Dk x))]) (L:=[AB x.a.p (x.cs),AB x.b.p (rowsL Ac ts),AB x.c.p (x.ds)]) func45 O O (Av O) (DF hx Ah) (zN (sL [0] O) (q4 (Bb (cs:=Dk x) O λb1=>asg' O (q6 (sL [1,2] O) (q4 (asg' O (oNl' (zA (zI ?_)))))))))
 refine zo (tg λ(i:Nat)=>i<=ts.length) (tg λ(i:Nat)=>[(1,(pP b1 0)),(3,(vN i))]) (tg λ(i:Nat)=>[AR b1 39 (Dk x),AB x.a.p (x.cs),AB x.b.p (rowsL Ac ts),AB x.c.p (x.ds)]) (tg λ(i:Nat)=>ts.length-i) 0 (xH _) (sF O) sr (λi hJ=>?_)
 have hi:=hJ
 refine zV (q4 (AM O (AG (v:=(pP b1 1)) (AA O underlying39 O sizeOf23 O) O (Az 0 (qw x.b.p ts.length x.b.c) B1 O (AG (v:=(vN ts.length)) (AC O underlying23) O (AG (Ae (c:=(decide (i<ts.length))) O O (CM (a:=i) (b:=ts.length))) O (oNl' (zB (sL [1,3,9] O) (zA ?_)))))))))
 refine zM O (λhc0=>?_) (λhc0=>?_)
 ·replace hc0:=xR hc0
  obtain ⟨T,hT⟩:∃q,q=ts.getD i (0,0,0):=⟨_,rfl⟩
  obtain ⟨g1,g2,g3⟩:=Ee (Dt hnb hc0)
  obtain ⟨n1,n2,n3⟩:=QZ (Dt hnb hc0)
  rw [<-hT] at g1 g2 g3 n1 n2 n3
  refine zG (q1 (zI (q4 (AG (v:=(pP b1 1)) (AA O underlying39 O sizeOf23 O) O (Az 0 (qw x.b.p ts.length x.b.c) B1 O (AM O (AG (v:=(pP (pB x.b.p) (pO x.b.p+i*3))) (AF (j:=i) O O x.b.ok underlying23 sizeOf105 O Z) O (AG (v:=(aG (Ac (ts.getD i jJ)))) (AQ (vs:=Ac (ts.getD i jJ)) (i:=2) O O (An.ne x.b.ok Z) B_ (Al Am _ _ _ Z) (Am _)) O (zC (k:=16) (u:=(aG (Ac T))) O (by rw [hT]) (al Id O λb2=>Ax O sizeOf105 O ?_))))))))))
  refine q3 (sL [1,3,4] O) (BD 1 Cp O (AG (v:=(pP b2 0)) (AD (j:=0) O O underlying105 sizeOf3 O jY O) O (Az 0 (vN T.1) BN O (Ct (args:=[(aG (Dk x)),(vN T.1)]) (v:=(qa true)) call57 (λw hw=>(by have h9:=RR x T.1 w (inS hw 2 O lx);rw [xy Z] at h9;exact h9)) O (AG (BQ (c:=false) O O) O (AM O (Au (v:=(aG (Dk x))) O (A_ (i:=1) (vs:=Dk x) O O Cp.a Cp.s O O) (Au (v:=(pP b2 1)) O (AD (j:=1) O O underlying105 sizeOf3 O jY O) (Au (v:=(vN T.2.1)) O (AE (i:=0) (v:=(vN T.2.1)) O O BN.a O) (zd (v:=(qa true)) (AH O) (Aw (args:=[(aG (Dk x)),(vN T.2.1)]) O O call57) (λw hw=>(by have h9:=RR x T.2.1 w (inS hw 2 O lx);rw [xy Z] at h9;exact h9)) O (Av O) (Au (v:=(qa false)) O (BQ (c:=false) O O) ?_)))))))))))
  refine AG (v:=(qa false)) (AI O O) O (AM O (Au (v:=(aG (Dk x))) O (A_ (i:=1) (vs:=Dk x) O O Cp.a Cp.s O O) (Au (v:=(pP b2 2)) O (AD (j:=2) O O underlying105 sizeOf3 O jY O) (Au (v:=(vN T.2.2)) O (AE (i:=0) (v:=(vN T.2.2)) O O BN.a O) (zd (v:=(qa true)) (AH O) (Aw (args:=[(aG (Dk x)),(vN T.2.2)]) O O call57) (λw hw=>(by have h9:=RR x T.2.2 w (inS hw 2 O lx);rw [xy Z] at h9;exact h9)) O (Av O) (Au (v:=(qa false)) O (BQ (c:=false) O O) (AG (v:=(qa false)) (AI O O) O (AM O (Au (v:=(pP b2 0)) O (AD (j:=0) O O underlying105 sizeOf3 O jY O) (Au (v:=(vN T.1)) O (AE (i:=0) (v:=(vN T.1)) O O BN.a O) (Au (v:=(pP b2 1)) O (AD (j:=1) O O underlying105 sizeOf3 O jY O) ?_)))))))))))
  refine Au (v:=(vN T.2.1)) O (AE (i:=0) (v:=(vN T.2.1)) O O BN.a O) (Au (v:=(qa false)) O (BO (c:=false) O O (xx Z)) (AG (v:=(qa false)) (AI O O) O (AM O (Au (v:=(pP b2 0)) O (AD (j:=0) O O underlying105 sizeOf3 O jY O) (Au (v:=(vN T.1)) O (AE (i:=0) (v:=(vN T.1)) O O BN.a O) (Au (v:=(pP b2 2)) O (AD (j:=2) O O underlying105 sizeOf3 O jY O) (Au (v:=(vN T.2.2)) O (AE (i:=0) (v:=(vN T.2.2)) O O BN.a O) (Au (v:=(qa false)) O (BO (c:=false) O O (xx Z)) (AG (v:=(qa false)) (AI O O) O (AM O (Au (v:=(pP b2 1)) O (AD (j:=1) O O underlying105 sizeOf3 O jY O) ?_)))))))))))
  refine Au (v:=(vN T.2.1)) O (AE (i:=0) (v:=(vN T.2.1)) O O BN.a O) (Au (v:=(pP b2 2)) O (AD (j:=2) O O underlying105 sizeOf3 O jY O) (Au (v:=(vN T.2.2)) O (AE (i:=0) (v:=(vN T.2.2)) O O BN.a O) (Au (v:=(qa false)) O (BO (c:=false) O O (xx Z)) (AG (v:=(qa false)) (AI O O) O (oNl' (zB (sL [1,3,4,56] O) (zA (zb O (zG (zJ (zA ?_)))))))))))
  exact zH (AM O (AG (AW (c:=((i+1:Nat):Int)) O O (AU (a:=i) (b:=1) Z)) O (asg' O (oNl' (zB (sL [1,3,4] O) (zc (i+1) Z Z (sF O) (sl sr)))))))
 ·replace hc0:=xQ hc0
  exact zU (zP (za (zS (q2 (asg' O (oNl' (zA (zF (ret_one O (rd_tmp (v:=(qa true)) O) (λw hw=>⟨rfl,hw.out⟩))))))))))
end
end Go.Proofs.YtpolhpjiahbidaaGreatDoor
