import Derived.Test.YtpolhpjiahbidaaGreatDoorPart19
namespace Go.Proofs.YtpolhpjiahbidaaGreatDoor
open Go Go.RowKit Go.Proofs.Tryz
open Go.Value renaming slice→qw,bool→qa
set_option linter.unusedVariables false
set_option linter.unusedSimpArgs false
section
section
variable {N:Nat} {ts:List T3} {zs ss:List Z3} {ps:List Pt}
theorem F_ (ts:List T3):(ts.map Ba).map DN=ts:=by
  rw [List.map_map]
  conv=>rhs;rw [<-List.map_id ts]
  exact List.map_congr_left λt _=>rfl
theorem YX (t:T3):NY N (Ba t)=On N t:=by
  obtain ⟨a,b,c⟩:=t
  unfold NY On Ba Ay
  rw [Bool.eq_iff_iff]
  simp only [xZ,xV,xT,xS]
  omega
theorem Hm:DG N (ts.map Ba)=Bu N ts:=by
  unfold DG Bu
  rw [List.all_map]
  congr 1
  funext t
  exact YX t
theorem Th {z:Z3} (h:NY N z=true):Ba (DN z)=z:=by
  obtain ⟨a,b,c⟩:=z
  unfold NY Ay at h
  simp only [xZ,xV,xT,xS] at h
  obtain ⟨⟨⟨⟨⟨⟨h1,h2⟩,h3,h4⟩,h5,h6⟩,h7⟩,h8⟩,h9⟩:=h
  exact Prod.ext (Int.toNat_of_nonneg h1) (Prod.ext (Int.toNat_of_nonneg h3) (Int.toNat_of_nonneg h5))
theorem GE (h:DG N zs=true):∃ts:List T3,zs=ts.map Ba/\Bu N ts=true:=by
  refine ⟨zs.map DN,?_,(G5 h).1⟩
  rw [List.map_map]
  conv=>lhs;rw [<-List.map_id zs]
  exact List.map_congr_left λz hz=>(Th (List.all_eq_true.1 h z hz)).symm
end
structure MN (ps:List Pt) (ts:List T3) (ss:List Z3) where
  a:RX (rowsL BB ps) ps.length
  b:RX (rowsL Ac ts) ts.length
  c:RX (rowsL AS ss) ss.length
def Hi {ps:List Pt} {ts:List T3} {ss:List Z3} (x:MN ps ts ss):List Value:=[x.a.val,x.b.val,x.c.val]
theorem cz {ps:List Pt} {ts:List T3} {ss:List Z3} {x:MN ps ts ss} {y:As} (hy:y∈[x.a.row,x.b.row,x.c.row]):y.ro=true:=by
  simp only [xL,List.not_mem_nil,or_false] at hy
  rcases hy with rfl|rfl|rfl<;>rfl
instance {ps:List Pt} {ts:List T3} {ss:List Z3}:C8 (MN ps ts ss):=⟨λx=>aG (Hi x),λx=>[x.a.row,x.b.row,x.c.row],λx y hy=>cz hy⟩
section
variable {N:Nat} {ts:List T3} {zs ss:List Z3} {ps:List Pt}
theorem WN (x:MN ps ts ss):∃y:RM ps.length ts (List.replicate ss.length (0,0,0)),Dk y=Hi x/\∀{S:Nat->Prop} {w:World},Ro S w x->Ro S w y:=by
  obtain ⟨a,b,⟨cp,cc,cok⟩⟩:=x
  have hk:ss.length=(List.replicate ss.length jJ).length:=(List.length_replicate).symm
  refine ⟨⟨rowsL BB ps,rowsL AS ss,a,b,⟨cp,cc,hk▸cok⟩⟩,?_,λ{S w} hx y hy=>hx y hy⟩
  show [a.val,b.val,.slice cp (List.replicate ss.length jJ).length cc]=[a.val,b.val,.slice cp ss.length cc]
  rw [<-hk]
theorem Pc (x:MN ps ts ss):∃y:MZ ps (ts.map Ba) ss,B9 y=Hi x/\∀{S:Nat->Prop} {w:World},Ro S w x->Ro S w y:=by
  obtain ⟨a,⟨bp,bc,bok⟩,c⟩:=x
  have hk:ts.length=(ts.map Ba).length:=(xI _).symm
  refine ⟨⟨a,⟨bp,bc,hk▸bok⟩,c⟩,?_,λ{S w} hx y hy=>?_⟩
  · show [a.val,.slice bp (ts.map Ba).length bc,c.val]=[a.val,.slice bp ts.length bc,c.val]
    rw [<-hk]
  · have hy:y∈[a.row,AB bp (rowsL AS (ts.map Ba)),c.row]:=hy
    rw [<-CR] at hy
    exact hx y hy
theorem Wm (x:MZ ps (ts.map Ba) ss):∃y:MN ps ts ss,Hi y=B9 x/\∀{S:Nat->Prop} {w:World},Ro S w x->Ro S w y:=by
  obtain ⟨a,⟨bp,bc,bok⟩,c⟩:=x
  have hk:(ts.map Ba).length=ts.length:=xI _
  refine ⟨⟨a,⟨bp,bc,hk▸bok⟩,c⟩,?_,λ{S w} hx y hy=>?_⟩
  · show [a.val,.slice bp ts.length bc,c.val]=[a.val,.slice bp (ts.map Ba).length bc,c.val]
    rw [hk]
  · have hy:y∈[a.row,AB bp (rowsL Ac ts),c.row]:=hy
    rw [CR] at hy
    exact hx y hy
end
structure NP (ps:List Pt) (ts:List T3) (ss:List Z3) where
  rs:List RP
  e:rs.map (·.p)=ps
  a:RX (rowsL BK rs) rs.length
  b:RX (rowsL Ac ts) ts.length
  c:RX (rowsL AS ss) ss.length
def Eh {ps:List Pt} {ts:List T3} {ss:List Z3} (x:NP ps ts ss):List Value:=[x.a.val,x.b.val,x.c.val]
theorem cM {ps:List Pt} {ts:List T3} {ss:List Z3} {x:NP ps ts ss} {y:As} (hy:y∈[x.a.row,x.b.row,x.c.row]++Bi x.rs):y.ro=true:=by
  rcases List.mem_append.1 hy with hy|hy
  · simp only [xL,List.not_mem_nil,or_false] at hy
    rcases hy with rfl|rfl|rfl<;>rfl
  · exact Qz hy
instance {ps:List Pt} {ts:List T3} {ss:List Z3}:C8 (NP ps ts ss):=⟨λx=>aG (Eh x),λx=>[x.a.row,x.b.row,x.c.row]++Bi x.rs,λx y hy=>cM hy⟩
section
variable {N:Nat} {ts:List T3} {zs ss:List Z3} {ps:List Pt}
theorem NP.len (x:NP ps ts ss):x.rs.length=ps.length:=by
  have h:=congrArg List.length x.e
  rwa [xI] at h
theorem NP.at (x:NP ps ts ss) {i:Nat} (h:i<x.rs.length):(x.rs.getD i BU).p=ps.getD i ⟨0,0⟩:=by
  have h1:(x.rs.map (·.p)).getD i ⟨0,0⟩=ps.getD i ⟨0,0⟩:=congrArg (λl=>l.getD i ⟨0,0⟩) x.e
  rw [<-h1]
  simp [h]
theorem Zd (x:NP ps ts ss):∃y:RM x.rs.length ts (List.replicate ss.length (0,0,0)),Dk y=Eh x/\∀{S:Nat->Prop} {w:World},Ro S w x->Ro S w y:=by
  obtain ⟨rs,e,a,b,⟨cp,cc,cok⟩⟩:=x
  have hk:ss.length=(List.replicate ss.length jJ).length:=(List.length_replicate).symm
  refine ⟨⟨rowsL BK rs,rowsL AS ss,a,b,⟨cp,cc,hk▸cok⟩⟩,?_,λ{S w} hx y hy=>hx y (xz (Bi rs) hy)⟩
  show [a.val,b.val,.slice cp (List.replicate ss.length jJ).length cc]=[a.val,b.val,.slice cp ss.length cc]
  rw [<-hk]
theorem SD (x:NP ps ts ss):∃y:GK ps (ts.map Ba) ss,Cn y=Eh x/\y.rs=x.rs/\∀{S:Nat->Prop} {w:World},Ro S w x->Ro S w y:=by
  obtain ⟨rs,e,a,⟨bp,bc,bok⟩,c⟩:=x
  have hk:ts.length=(ts.map Ba).length:=(xI _).symm
  refine ⟨⟨rs,e,a,⟨bp,bc,hk▸bok⟩,c⟩,?_,rfl,λ{S w} hx y hy=>?_⟩
  · show [a.val,.slice bp (ts.map Ba).length bc,c.val]=[a.val,.slice bp ts.length bc,c.val]
    rw [<-hk]
  · have hy:y∈[a.row,AB bp (rowsL AS (ts.map Ba)),c.row]++Bi rs:=hy
    rw [<-CR] at hy
    exact hx y hy
theorem Vo (x:GK ps (ts.map Ba) ss):∃y:NP ps ts ss,Eh y=Cn x/\y.rs=x.rs/\∀{S:Nat->Prop} {w:World},Ro S w x->Ro S w y:=by
  obtain ⟨rs,e,a,⟨bp,bc,bok⟩,c⟩:=x
  have hk:(ts.map Ba).length=ts.length:=xI _
  refine ⟨⟨rs,e,a,⟨bp,bc,hk▸bok⟩,c⟩,?_,rfl,λ{S w} hx y hy=>?_⟩
  · show [a.val,.slice bp ts.length bc,c.val]=[a.val,.slice bp (ts.map Ba).length bc,c.val]
    rw [hk]
  · have hy:y∈[a.row,AB bp (rowsL Ac ts),c.row]++Bi rs:=hy
    rw [CR] at hy
    exact hx y hy
end
theorem PV {w0:BC} {S:Nat->Prop} {L:List As} {w:World} {ps:List Pt} {ts:List T3} {ss:List Z3} {x:NP ps ts ss} (hw:Own w0 w L) (i:Nat) (hi:(L.drop i).take 3=[x.a.row,x.b.row,x.c.row]) (hs:∀y∈Bi x.rs,y∈L) (ha:At w0 S x):Ro (SL w0 S L) w x:=λy hy=>by
  have hy':y∈[x.a.row,x.b.row,x.c.row]++Bi x.rs:=hy
  have hm:y∈L:=by
    rcases List.mem_append.1 hy' with hy|hy
    · exact List.mem_of_mem_drop (List.mem_of_mem_take (hi▸hy))
    · exact hs y hy
  exact ⟨λb e=>(hw.2.1 y hm b e).2,λb e=>⟨⟨y,hm,C8.ro x y hy,e⟩,ha y hy b e⟩⟩
def NP.ru {ps:List Pt} {ts:List T3} {ss:List Z3} (x:NP ps ts ss):RU x.rs.length ts.length ss.length:=⟨rowsL BK x.rs,rowsL Ac ts,rowsL AS ss,x.a,x.b,x.c⟩
theorem eF {S:Nat->Prop} {w:World} {ps:List Pt} {ts:List T3} {ss:List Z3} {x:NP ps ts ss} (h:Ro S w x):Ro S w x.ru:=λy hy=>h y (xz (Bi x.rs) hy)
def O2 (e:E4):EZ:=((e.a:Int),(e.b:Int),e.l,e.r)
theorem Py (es:List E4):rowsL BL es=rowsL De (es.map O2):=by unfold rowsL;rw [List.flatMap_map];rfl
structure an (ps:List Pt) (ts ss:List Z3) where
  m:MZ ps ts ss
  ha:m.a.c=ps.length
  hb:m.b.c=ts.length
instance {ps:List Pt} {ts ss:List Z3}:C8 (an ps ts ss):=⟨λx=>aG (B9 x.m),λx=>[x.m.a.row,x.m.b.row,x.m.c.row],λx y hy=>U_ hy⟩
theorem aq {S:Nat->Prop} {W w:World} {L:List As} {ps:List Pt} {ts ss:List Z3} (hw:Own ⟨W,none⟩ w L) (i j k:Nat) {p1 p2 p3:Option Addr} {T1 T3 n1 n2 n3 c1 c3:Nat}
    (h1:L[i]?=some (rowW p1 T1 10 n1 c1 (rowsL BB ps))) (h2:L[j]?=some (AB p2 (rowsL AS ts))) (h3:L[k]?=some (rowW p3 T3 3 n3 c3 (rowsL AS ss))) (o1:OwnOk p1 n1 c1) (o2:An p2 n2 n2) (b2:∀b,p2.map (·.block)=some b->W.heap.size<=b) (o3:OwnOk p3 n3 c3) (e1:n1=ps.length) (e2:n2=ts.length) (e3:n3=ss.length)
    {v:Value} (hv:v=aG [.slice p1 n1 n1,.slice p2 n2 n2,.slice p3 n3 n3]):Ad (an ps ts ss) S W (.returned v) w:=by
  subst e1;subst e2;subst e3
  refine ⟨⟨⟨⟨p1,ps.length,o1.clip⟩,⟨p2,ts.length,o2⟩,⟨p3,ss.length,o3.clip⟩⟩,rfl,rfl⟩,by rw [hv];rfl,hw.out,λy hy=>?_⟩
  have hy:y∈[AB p1 (rowsL BB ps),AB p2 (rowsL AS ts),AB p3 (rowsL AS ss)]:=hy
  simp only [xL,List.not_mem_nil,or_false] at hy
  rcases hy with rfl|rfl|rfl
  · exact C9 hw i h1 o1 (AV Bs _)
  · exact ⟨hw.holds h2,λb e=>.inl (b2 b e)⟩
  · exact C9 hw k h3 o3 (AV A7 _)
structure S8 (ps:List Pt) (ts ss:List Z3) (l:List Nat) (e:Nat) where
  x:an ps ts ss
  q:CX (inL l) l.length
instance {ps:List Pt} {ts ss:List Z3} {l:List Nat} {e:Nat}:C8 (S8 ps ts ss l e):=⟨λr=>.tuple #[aG (B9 r.x.m),.slice r.q.p l.length l.length,vN e],λr=>[r.x.m.a.row,r.x.m.b.row,r.x.m.c.row,AB r.q.p (inL l)],λr y hy=>by
  rcases List.mem_append.1 (show y∈[r.x.m.a.row,r.x.m.b.row,r.x.m.c.row]++[AB r.q.p (inL l)] from hy) with hy|hy
  · exact U_ hy
  · rcases xM.1 hy with rfl;rfl⟩
theorem Sr {S:Nat->Prop} {W w:World} {L:List As} (hw:Own ⟨W,none⟩ w L) (e:Nat) {v:Value} (hv:v=.tuple #[aG [.slice none 0 0,.slice none 0 0,.slice none 0 0],.slice none 0 0,vN e]):Ad (S8 [] [] [] [] e) S W (.returned v) w:=by
  refine ⟨⟨⟨⟨⟨none,0,OwnOk.none.row⟩,⟨none,0,OwnOk.none.row⟩,⟨none,0,OwnOk.none.row⟩⟩,rfl,rfl⟩,⟨none,OwnOk.none.row⟩⟩,by rw [hv];rfl,hw.out,λy hy=>?_⟩
  have hy:y∈[AB none (rowsL BB []),AB none (rowsL AS []),AB none (rowsL AS []),AB none (inL [])]:=hy
  simp only [xL,List.not_mem_nil,or_false] at hy
  rcases hy with rfl|rfl|rfl|rfl<;>exact ⟨(λb e=>by cases e),(λb e=>by cases e)⟩
structure Zf (ps:List Pt) (ts ss:List Z3) (l:List Nat) (e:Nat) where
  x:GK ps ts ss
  q:RX (inL l) l.length
instance {ps:List Pt} {ts ss:List Z3} {l:List Nat} {e:Nat}:C8 (Zf ps ts ss l e):=⟨λr=>.tuple #[aG (Cn r.x),r.q.val,vN e],λr=>r.q.row::([r.x.a.row,r.x.b.row,r.x.c.row]++Bi r.x.rs),λr y hy=>by
  rcases xL.1 hy with rfl|hy
  · rfl
  · exact ZR hy⟩
theorem aR {S:Nat->Prop} {W w:World} {L:List As} {ps:List Pt} {ts ss:List Z3} {l:List Nat} {e:Nat} (hw:Own ⟨W,none⟩ w L) {x:GK ps ts ss} (h:Ro (SL ⟨W,none⟩ S L) w x) (i:Nat) {q:Option Addr} {T n c:Nat} (hi:L[i]?=some (rowW q T 1 n c (inL l))) (ho:OwnOk q n c) (hl:n=l.length) {v:Value} (hv:v=.tuple #[aG (Cn x),.slice q n c,vN e]):Ad (Zf ps ts ss l e) S W (.returned v) w:=by
  subst hl
  refine ⟨⟨x,⟨q,c,ho.row⟩⟩,by rw [hv];rfl,hw.out,λy hy=>?_⟩
  rcases xL.1 (show y∈AB q (inL l)::([x.a.row,x.b.row,x.c.row]++Bi x.rs) from hy) with rfl|hy
  · exact C9 hw i hi ho (by rw [Cl,Nat.mul_one])
  · have h1:=h y hy
    exact ⟨h1.1,λb e=>(h1.2 b e).2⟩
theorem Oh {S:Nat->Prop} {W w:World} {L:List As} (hw:Own ⟨W,none⟩ w L) (e:Nat) {v:Value} (hv:v=.tuple #[aG [.slice none 0 0,.slice none 0 0,.slice none 0 0],.slice none 0 0,vN e]):Ad (Zf [] [] [] [] e) S W (.returned v) w:=by
  refine ⟨⟨⟨[],rfl,⟨none,0,OwnOk.none.row⟩,⟨none,0,OwnOk.none.row⟩,⟨none,0,OwnOk.none.row⟩⟩,⟨none,0,OwnOk.none.row⟩⟩,by rw [hv];rfl,hw.out,λy hy=>?_⟩
  have hy:y∈[AB none (inL []),AB none (rowsL BK []),AB none (rowsL AS []),AB none (rowsL AS [])]:=hy
  simp only [xL,List.not_mem_nil,or_false] at hy
  rcases hy with rfl|rfl|rfl|rfl<;>exact ⟨(λb e=>by cases e),(λb e=>by cases e)⟩
section
variable {N M i j a b:Nat} {ts:List T3}
theorem YM (hn:Bu N ts=true) (hN:N<=4611686018427387904) (hk:Br a b∈FJ ts) (hi:i<(BG ts).length) (h1:((BG ts).getD i E0).a=min a b) (h2:((BG ts).getD i E0).b=max a b):M+i=Xu M (BG ts) a b:=by
  obtain ⟨j,hj,j1,j2,j3⟩:=NJ (M:=M) hn hN hk
  rw [j3]
  have hs:=List.pairwise_iff_getElem.1 (Fi hn hN)
  have hd:∀k (h:k<(BG ts).length),(BG ts).getD k E0=(BG ts)[k]:=λk h=>by rw [List.getD,xN h];rfl
  rw [hd i hi] at h1 h2
  rw [hd j hj] at j1 j2
  rcases Nat.lt_trichotomy i j with h|h|h
  · have:=hs i j hi hj h
    unfold M6 at this
    omega
  · rw [h]
  · have:=hs j i hj hi h
    unfold M6 at this
    omega
end
end
section
set_option maxRecDepth 100000
theorem Ga {ps:List Pt} {zt ss:List Z3} (x:MZ ps zt ss) (p:Int) (w:World) {S:Nat->Prop} (hx:Ro S w x):Calls prog 50 #[(aG (B9 x)),(vI p)] w (Ak w (qa (Ay ps.length p))):=by
 have lx:=Bx (W:=w) hx
 refine AX (args:=[(aG (B9 x)),(vI p)]) (L:=[AB x.a.p (rowsL BB ps),AB x.b.p (rowsL AS zt),AB x.c.p (rowsL AS ss)]) func50 O O (Av O) (DF hx Ah) (zN (sL [0,1] O) (q4 (Bb (cs:=B9 x) O λb1=>asg' O (q3 (sL [1,2,4] O) (AM O (AG (Bp (c:=(decide ((0:Int)<=p))) O O O) O (AM O ?_)))))))
 refine zX (FM:=[(1,(vI p)),(2,(pP b1 0)),(4,(qa false)),(5,(vI p)),(6,(qa (decide ((0:Int)<=p)))),(7,(qa (decide ((0:Int)<=p)))),(13,(qa ((decide ((0:Int)<=p))&&(decide (p<((ps.length:Nat):Int))))))]) (LM:=[AR b1 30 (B9 x),AB x.a.p (rowsL BB ps),AB x.b.p (rowsL AS zt),AB x.c.p (rowsL AS ss)]) 6 ?_ ?_
 ·rcases xO (decide ((0:Int)<=p)) with hg1|hg1
  ·refine zC (k:=7) (u:=qa true) O (by rw [hg1]) ?_
   have hg1':=xR hg1
   exact Ds O (Au (v:=(pP b1 0)) O (AA O underlying30 O sizeOf28 O) (Au (v:=(qw x.a.p ps.length x.a.c)) O (AE (i:=0) (v:=(qw x.a.p ps.length x.a.c)) O O GG.a O) (Au (v:=(vN ps.length)) O (AC O underlying28) (Au (v:=(qa (decide (p<((ps.length:Nat):Int))))) O (Ae (c:=(decide (p<((ps.length:Nat):Int)))) O O O) (AG (v:=(qa (decide (p<((ps.length:Nat):Int))))) (AN O O) O (oNl' (zR Bg (xP _))))))))
  ·refine zC (k:=7) (u:=qa false) O (by rw [hg1]) ?_
   have hg1':=xQ hg1
   exact Ar O (Ar O (Ar O (Ar O (Ar O (AG (v:=(qa false)) (AI O O) O (oNl' (zR Bg (xP _))))))))
 exact asg' O (oNl' (zB (sL [4] O) (zA (zF (ret_one O (rd_tmp (v:=(qa ((decide ((0:Int)<=p))&&(decide (p<((ps.length:Nat):Int)))))) O) (λw hw=>⟨by unfold Ay;first|rfl|simp,hw.out⟩))))))
theorem Wp (us:List Z3) (y:RX (rowsL AS us) us.length) (pp:Option Addr) (n pc:Nat) (hu:DG n us=false) (hl:us.length<=1000000000) (w:World) {S:Nat->Prop} (hy:Ro S w y):Calls prog 56 #[(qw pp n pc),(qw y.p us.length y.c)] w (CS Qu (Oy (T:=110) (z:=3) (cs:=rowsL AS ([]:List Z3)) (n:=0)) S w):=by
 have ly:=Bx (W:=w) hy
 refine AX (args:=[(qw pp n pc),(qw y.p us.length y.c)]) (L:=[AB y.p (rowsL AS us)]) func56 O O (Av O) (DF hy Ah) (zN (sL [0,1] O) (q4 (asg' O (zf 110 3 (oNl' (q1 (q4 (AM O (AM O (AG (v:=(vN n)) (AC O underlying28) O (Ct (args:=[(qw y.p us.length y.c),(vN n)]) (v:=(qa false)) call110 (λw hw=>(by have h9:=PG n us y Z w (inS hw 1 O ly);rw [hu] at h9;exact h9)) O ?_)))))))))))
 refine AG (BQ (c:=true) O O) O (oNl' (zB (sL [1,4,18] O) (zA (ze O (q4 (asg' O (zf 110 3 (oNl' (zB (sL [1,4] O) (zA (zF ?_)))))))))))
 exact zO (ret_one O (rd_tmp (v:=jj) O) (λw hw=>(J6 hw (OX.mk none 0 OwnOk.none) (sk (sl (sl sr))) (GL.own O GL.nil) O)))
theorem Yw (us:List Z3) (y:RX (rowsL AS us) us.length) (pp:Option Addr) (n pc:Nat) (hN:n<=4611686018427387904) (hl:us.length<=1000000000) (w:World) {S:Nat->Prop} (hy:Ro S w y):Calls prog 56 #[(qw pp n pc),(qw y.p us.length y.c)] w (CS Qu (Oy (T:=110) (z:=3) (cs:=rowsL AS ((BM n us).map Ba)) (n:=(BM n us).length)) S w):=by
 obtain ⟨yp,yc,yok⟩:=y
 cases h:DG n us with
 | true =>
  obtain ⟨h1,h2⟩:=G5 h
  have hl2:us.length=(us.map DN).length:=(xI _).symm
  have k:Calls prog 56 #[(qw pp n pc),(qw yp (us.map DN).length yc)] w (CS Qu (Oy (T:=110) (z:=3) (cs:=rowsL Ac (GW (us.map DN))) (n:=(GW (us.map DN)).length)) S w):=bJ (us.map DN) ⟨yp,yc,hl2▸yok⟩ pp n pc h1 hN Z w (S:=S) (λz hz=>hy z (by rcases xM.1 hz with rfl;rw [<-h2];exact xM.2 rfl))
  rw [<-hl2] at k
  unfold BM
  rw [if_pos h,<-CR]
  exact k
 | false =>
  have k:=Wp us ⟨yp,yc,yok⟩ pp n pc h hl w hy
  unfold BM
  rw [h]
  exact k
theorem Kt (x0:Pt):Instr.fill (λi=>some (i*10,10)) ((Array.range (1*10)).map ((Value.agg (BB (⟨0,0⟩:Pt)).toArray).cells[·%(Value.agg (BB (⟨0,0⟩:Pt)).toArray).cells.size]!)) [(0,.agg (BB x0).toArray)]=some (BB x0).toArray:=by kernel_rfl
set_option maxHeartbeats 8000000 in
theorem PB {ps:List Pt} {zt ss:List Z3} (x:MZ ps zt ss) (es:List EZ) (o:RX (rowsL De es) es.length) (us:List Z3) (y:RX (rowsL AS us) us.length) (hz:∀i,DU (ps.getD i ⟨0,0⟩)<=1000000) (hp:ps.length<=1000000) (hel:es.length<=1000000) (hul:us.length<=1000000) (hsl:ss.length<=1000000) (w:World) {S:Nat->Prop} (hx:Ro S w x) (ho:Ro S w o) (hy:Ro S w y):Calls prog 16 #[(aG (B9 x)),(qw o.p es.length o.c),(qw y.p us.length y.c)] w (Ad (an (IP ps (E6 ps.length es es.length)) us (Fj ps.length ss (E6 ps.length es es.length) us)) S w):=by
 have lx:=Bx (W:=w) hx
 have lo:=Bx (W:=w) ho
 have ly:=Bx (W:=w) hy
 refine AX (args:=[(aG (B9 x)),(qw o.p es.length o.c),(qw y.p us.length y.c)]) (L:=[AB x.a.p (rowsL BB ps),AB x.b.p (rowsL AS zt),AB x.c.p (rowsL AS ss),AB o.p (rowsL De es),AB y.p (rowsL AS us)]) func16 O O (Av O) (DF hx (DF ho (DF hy Ah))) (zN (sL [0,1,2] O) (q4 (Bb (cs:=B9 x) O λb1=>al IM O λb2=>q3 (sL [1,2,3,6] O) (yV ER vI (AJ O) O λb3=>?_))))
 rw [show ([]:List (P2×Int))=FU ps.length ss 0 from rfl]
 refine asg' O (q6 (sL [1,2,3,6,7] O) (q4 (AG (v:=(pP b1 2)) (AA O underlying30 O sizeOf24 O) O (Az 2 (qw x.c.p ss.length x.c.c) Gh O (AG (v:=(vN ss.length)) (AC O underlying24) O (AG (BY (c:=(((ss.length:Nat):Int)-1-((0:Nat):Int))) O O (by rw [BP Z Z];omega)) O (asg' O (oNl' (zB (sL [1,2,3,6,7,8] O) (zA (zI ?_)))))))))))
 refine zo (tg λ(k:Nat)=>k<=ss.length) (tg λ(k:Nat)=>[(1,(qw o.p es.length o.c)),(2,(qw y.p us.length y.c)),(3,(pP b1 0)),(6,(pP b2 0)),(7,(Value.map (some b3))),(8,(vI (((ss.length:Nat):Int)-1-((k:Nat):Int))))]) (tg λ(k:Nat)=>[CC b3 ER vI (FU ps.length ss k),AR b2 30 ([jj,jj,jj]),AR b1 30 (B9 x),AB x.a.p (rowsL BB ps),AB x.b.p (rowsL AS zt),AB x.c.p (rowsL AS ss),AB o.p (rowsL De es),AB y.p (rowsL AS us)]) (tg λ(k:Nat)=>ss.length-k) 0 (xH _) (sF O) sr (λk hJ=>?_)
 have hk:=hJ
 refine zV (q4 (AM O (AG (Bp (c:=(decide ((0:Int)<=(((ss.length:Nat):Int)-1-((k:Nat):Int))))) O O O) O (oNl' (zB (sL [1,2,3,6,7,8,23] O) (zA ?_))))))
 refine zM O (λhc0=>?_) (λhc0=>?_)
 ·replace hc0:=xR hc0
  obtain ⟨sd,hsd⟩:∃q,q=ss.getD (ss.length-1-k) (0,0,0):=⟨_,rfl⟩
  refine zG (q1 (zI (q4 (AG (v:=(pP b1 2)) (AA O underlying30 O sizeOf24 O) O (Az 2 (qw x.c.p ss.length x.c.c) Gh O (AM O (zC (k:=28) (u:=(vN (ss.length-1-k))) O (by show Value.int _ _=Value.int _ _;congr 1;omega) (AG (v:=(pP (pB x.c.p) (pO x.c.p+(ss.length-1-k)*3))) (AF (j:=ss.length-1-k) O O x.c.ok underlying24 sizeOf110 O Z) O (AG (v:=(aG (AS (ss.getD (ss.length-1-k) ((0,0,0):Z3))))) (AQ (vs:=AS (ss.getD (ss.length-1-k) ((0,0,0):Z3))) (i:=5) O O (An.ne x.c.ok Z) Zg (Al A7 _ _ _ Z) (A7 _)) O (zC (k:=30) (u:=(aG (AS sd))) O (by rw [hsd]) (al ZU O λb4=>?_)))))))))))
  refine Ax O sizeOf110 O (q3 (sL [1,2,3,6,7,8,9] O) (BD 3 Do O (AG (v:=(pP b4 0)) (AA O underlying110 O sizeOf3 O) O (Az 0 (vI sd.1) BN O (Ct call50 (λw hw=>Ga x sd.1 w (inS hw 4 O lx)) O (AM O ?_))))))
  refine zX (FM:=[(1,(qw o.p es.length o.c)),(2,(qw y.p us.length y.c)),(3,(pP b1 0)),(6,(pP b2 0)),(7,(Value.map (some b3))),(8,(vI (((ss.length:Nat):Int)-1-((k:Nat):Int)))),(9,(pP b4 0)),(31,(aG (B9 x))),(32,(pP b4 0)),(33,(vI sd.1)),(34,(qa (Ay ps.length sd.1))),(35,(qa (Ay ps.length sd.1))),(40,(qa ((Ay ps.length sd.1)&&(Ay ps.length sd.2.1))))]) (LM:=[AR b4 110 (AS sd),CC b3 ER vI (FU ps.length ss k),AR b2 30 ([jj,jj,jj]),AR b1 30 (B9 x),AB x.a.p (rowsL BB ps),AB x.b.p (rowsL AS zt),AB x.c.p (rowsL AS ss),AB o.p (rowsL De es),AB y.p (rowsL AS us)]) 5 ?_ ?_
  ·rcases xO (Ay ps.length sd.1) with hg1|hg1
   ·refine zC (k:=35) (u:=qa true) O (by rw [hg1]) ?_
    have hg1':=hg1
    skip
    exact Au (v:=(aG (B9 x))) O (A_ (i:=3) (vs:=B9 x) O O Do.a Do.s O O) (Au (v:=(pP b4 1)) O (AA O underlying110 O sizeOf3 O) (Au (v:=(vI sd.2.1)) O (AE (i:=0) (v:=(vI sd.2.1)) O O BN.a O) (zd (v:=(qa (Ay ps.length sd.2.1))) (AH O) (Aw (args:=[(aG (B9 x)),(vI sd.2.1)]) O O call50) (λw hw=>Ga x sd.2.1 w (inS hw 4 O lx)) O (Av O) (AG (v:=(qa (Ay ps.length sd.2.1))) (AN O O) O (oNl' (zR Bg (xP _)))))))
   ·refine zC (k:=35) (u:=qa false) O (by rw [hg1]) ?_
    have hg1':=hg1
    skip
    exact Ar O (Ar O (Ar O (Ar O (AG (v:=(qa false)) (AI O O) O (oNl' (zR Bg (xP _)))))))
  refine oNl' (zB (sL [1,2,3,6,7,8,9,40] O) (zA ?_))
  refine zM O (λhc1=>?_) (λhc1=>?_)
  ·simp only [jK] at hc1
   refine CQ (Db 5++[(6,true),(7,true),(5,false),(8,false)]) (sk (sl sr)) (BT O (Aj (v:=(pP b4 0)) O (AA O underlying110 O sizeOf3 O) (Be 0 (vI sd.1) BN O (Aj (v:=(pP b4 1)) O (AA O underlying110 O sizeOf3 O) (Be 0 (vI sd.2.1) BN O (Aj (v:=(pP b4 2)) O (AA O underlying110 O sizeOf3 O) (Be 0 (vI sd.2.2) BN O (zK O (Ct (args:=[(vI sd.1),(vI sd.2.1)]) (v:=(aG (DC (min sd.1.toNat sd.2.1.toNat,max sd.1.toNat sd.2.1.toNat)))) call44 (λw hw=>(by have h9:=JE sd.1.toNat sd.2.1.toNat w;rw [Pi hc1.1,Pi hc1.2] at h9;exact h9)) O (zD (sk (sl sr)) (zK O ?_)))))))))))
   refine yE H8 1 (kvs:=FU ps.length ss k) (x:=(min sd.1.toNat sd.2.1.toNat,max sd.1.toNat sd.2.1.toNat)) (y:=sd.2.2) (AJ O) O O O underlying112 O (Kb Z _) (Bm (Nat.lt_of_lt_of_le (CI hc1.1).2 Z) (Nat.lt_of_lt_of_le (CI hc1.2).2 Z)) ?_
   rw [show BZ (FU ps.length ss k) (min sd.1.toNat sd.2.1.toNat,max sd.1.toNat sd.2.1.toNat) sd.2.2=FU ps.length ss (k+1) from by rw [hsd];exact XK (by rw [<-hsd];exact hc1)]
   exact zD (sk (sl sr)) (zT (zB (sL [1,2,3,6,7,8,9] O) (zJ (zA (zH (AM O (AG (BY (c:=(((ss.length:Nat):Int)-1-((k+1:Nat):Int))) O O (by rw [BP Z Z];omega)) O (asg' O (oNl' (zB (sL [1,2,3,6,7,8,9] O) (zc (k+1) Z Z (sF O) (sl sr))))))))))))
  ·simp only [jK] at hc1
   have hnk:¬(Ay ps.length sd.1=true/\Ay ps.length sd.2.1=true):=λh9=>by rcases hc1 with h8|h8<;>simp [h9.1,h9.2] at h8
   refine zG (zJ (zA (zH (AM O (AG (BY (c:=(((ss.length:Nat):Int)-1-((k+1:Nat):Int))) O O (by rw [BP Z Z];omega)) O (asg' O (oNl' (zB (sL [1,2,3,6,7,8,9] O) ?_))))))))
   rw [show FU ps.length ss k=FU ps.length ss (k+1) from YL (by rw [<-hsd];exact hnk)]
   exact zc (k+1) Z Z (sF O) (sl sr)
 ·replace hc0:=xQ hc0
  have hk2:k=ss.length:=by omega
  rw [show FU ps.length ss k=DL ps.length ss ([]:List P2) by rw [hk2];rfl]
  refine zU (zP (za (zS (q2 (AG (v:=(pP b1 0)) (AA O underlying30 O sizeOf28 O) O (Az 2 (qw x.a.p ps.length x.a.c) GG O (yH (S:=S) (V:=MO) (LW:=Oy (T:=99) (z:=10) (cs:=rowsL BB ps) (n:=ps.length)) (args:=[(qw x.a.p ps.length x.a.c)]) call51 (λw hw=>Mw ps x.a Z w (cj (inS hw 3 O lx))) O λcl1 hcl1=>AM O (yH (S:=S) (V:=MO) (LW:=Oy (T:=105) (z:=3) (cs:=rowsL AS us) (n:=us.length)) (args:=[(qw y.p us.length y.c)]) call53 (λw hw=>MK us y Z w (inS hw 8 O ly)) O λcl2 hcl2=>ck' call52 (O3 cl2.p us.length cl2.c cl2.ok.row.le) O (AG (v:=(aG ([(qw cl1.p ps.length cl1.c),(qw cl2.p us.length us.length),jj]))) (AT (zs:=[jj,jj,jj]) (vs:=[(qw cl1.p ps.length cl1.c),(qw cl2.p us.length us.length),jj]) (pv:=[(0,(qw cl1.p ps.length cl1.c)),(1,(qw cl2.p us.length us.length))]) (places:=[(0,1),(1,1),(2,1)]) zeroValue30 underlying30 (λw=>by simp [sizeOf23,sizeOf24,sizeOf28]) O O) O ?_)))))))))
  refine al IM O λb4=>Ax O sizeOf30 O (q6 (sL [1,2,3,6,7,8,10] O) (q4 (AM O (AG (v:=(vN es.length)) (AC O underlying46) O (AM O (oNl' (zA (zI ?_))))))))
  refine yO (tg λ(i:Nat) (vs:List P2) (p1:Option Addr) (c1:Nat)=>i<=es.length/\vs=E6 ps.length es i/\OwnOk p1 (ps.length+vs.length) c1) (tg λ(i:Nat) (vs:List P2) (p1:Option Addr) (c1:Nat)=>[(3,(pP b1 0)),(6,(pP b2 0)),(7,(Value.map (some b3))),(10,(pP b4 0)),(56,(qw o.p es.length o.c)),(57,(vN es.length)),(58,(vN i))]) (tg λ(i:Nat) (vs:List P2) (p1:Option Addr) (c1:Nat)=>[AR b4 30 ([(qw p1 (ps.length+vs.length) c1),(qw cl2.p us.length us.length),jj]),rowW cl2.p 105 3 us.length cl2.c (rowsL AS us),rowW p1 99 10 (ps.length+vs.length) c1 (rowsL BB (IP ps vs)),CC b3 ER vI (DL ps.length ss vs),AR b2 30 ([jj,jj,jj]),AR b1 30 (B9 x),AB x.a.p (rowsL BB ps),AB x.b.p (rowsL AS zt),AB x.c.p (rowsL AS ss),AB o.p (rowsL De es),AB y.p (rowsL AS us)]) (tg λ(i:Nat) (vs:List P2) (p1:Option Addr) (c1:Nat)=>es.length-i) 0 ([]:List P2) cl1.p cl1.c (⟨xH _,rfl,cl1.ok⟩) (sF O) sr (λi vs p1 c1 hJ=>?_)
  obtain ⟨hi,hvs,ho⟩:=hJ
  have hvn:=Sm (N:=ps.length) (es:=es) (i:=i)
  rw [<-hvs] at hvn
  have hvl:∀v∈vs,v.1<ps.length/\v.2<ps.length:=λv hv=>Qv (by rw [<-hvs];exact hv)
  have hpn:(IP ps vs).length=ps.length+vs.length:=Hn
  refine q4 (AG (Ae (c:=(decide (i<es.length))) O O (CM (a:=i) (b:=es.length))) O (oNl' (q1 ?_)))
  refine zM O (λhc2=>?_) (λhc2=>?_)
  ·replace hc2:=xR hc2
   obtain ⟨ed,hed⟩:∃q,q=es.getD i Hk:=⟨_,rfl⟩
   refine zG (q1 (zI (q4 (AG (v:=(pP (pB o.p) (pO o.p+i*4))) (AF (j:=i) O O o.ok underlying46 sizeOf49 O Z) O (AG (v:=(aG (De (es.getD i Hk)))) (AQ (vs:=De (es.getD i Hk)) (i:=9) O O (An.ne o.ok Z) OL (Al Fv _ _ _ Z) (Fv _)) O (zC (k:=61) (u:=(aG (De ed))) O (by rw [hed]) (al PJ O λb5=>Ax O sizeOf49 O (q6 (sL [3,6,7,10,56,57,58,12] O) (q4 (BD 6 Do O ?_))))))))))
   refine AG (v:=(pP b5 0)) (AA O underlying49 O sizeOf3 O) O (Az 0 (vI ed.1) BN O (Ct call50 (λw hw=>Ga x ed.1 w (inS hw 7 O lx)) O (AG (BQ (c:=(!(Ay ps.length ed.1))) O O) O (AM O ?_))))
   refine zX (FM:=[(3,(pP b1 0)),(6,(pP b2 0)),(7,(Value.map (some b3))),(10,(pP b4 0)),(56,(qw o.p es.length o.c)),(57,(vN es.length)),(58,(vN i)),(12,(pP b5 0)),(62,(aG (B9 x))),(63,(pP b5 0)),(64,(vI ed.1)),(65,(qa (Ay ps.length ed.1))),(66,(qa (!(Ay ps.length ed.1)))),(67,(qa (!(Ay ps.length ed.1)))),(73,(qa ((!(Ay ps.length ed.1))||(!(Ay ps.length ed.2.1)))))]) (LM:=[AR b5 49 (De ed),AR b4 30 ([(qw p1 (ps.length+vs.length) c1),(qw cl2.p us.length us.length),jj]),rowW cl2.p 105 3 us.length cl2.c (rowsL AS us),rowW p1 99 10 (ps.length+vs.length) c1 (rowsL BB (IP ps vs)),CC b3 ER vI (DL ps.length ss vs),AR b2 30 ([jj,jj,jj]),AR b1 30 (B9 x),AB x.a.p (rowsL BB ps),AB x.b.p (rowsL AS zt),AB x.c.p (rowsL AS ss),AB o.p (rowsL De es),AB y.p (rowsL AS us)]) 6 ?_ ?_
   ·rcases xO (!(Ay ps.length ed.1)) with hg2|hg2
    ·refine zC (k:=67) (u:=qa true) O (by rw [hg2]) ?_
     have hg2':=hg2
     simp only [jK] at hg2'
     exact Ar O (Ar O (Ar O (Ar O (Ar O (AG (v:=(qa true)) (AN O O) O (oNl' (zR EQ (xP _))))))))
    ·refine zC (k:=67) (u:=qa false) O (by rw [hg2]) ?_
     have hg2':=hg2
     simp only [jK] at hg2'
     exact Au (v:=(aG (B9 x))) O (A_ (i:=6) (vs:=B9 x) O O Do.a Do.s O O) (Au (v:=(pP b5 1)) O (AA O underlying49 O sizeOf3 O) (Au (v:=(vI ed.2.1)) O (AE (i:=0) (v:=(vI ed.2.1)) O O BN.a O) (zd (v:=(qa (Ay ps.length ed.2.1))) (AH O) (Aw (args:=[(aG (B9 x)),(vI ed.2.1)]) O O call50) (λw hw=>Ga x ed.2.1 w (inS hw 7 O lx)) O (Av O) (Au (v:=(qa (!(Ay ps.length ed.2.1)))) O (BQ (c:=(!(Ay ps.length ed.2.1))) O O) (AG (v:=(qa (!(Ay ps.length ed.2.1)))) (AI O O) O (oNl' (zR EQ (xP _))))))))
   refine oNl' (zB (sL [3,6,7,10,56,57,58,12,73] O) (zA ?_))
   refine zM O (λhc3=>?_) (λhc3=>?_)
   ·simp only [jK] at hc3
    have hok0:HF ps.length (es.getD i Hk)=false:=by rw [<-hed];unfold HF;rcases hc3 with h8|h8<;>simp [h8]
    exact zU (zP (zS (zA (zH (AG (AW (c:=((i+1:Nat):Int)) O O (AU (a:=i) (b:=1) Z)) O (AM O (oNl' (zB (sL [3,6,7,10,56,57,58,12] O) (zu (i+1) vs p1 c1 (⟨Z,by rw [hvs,Vx Z hok0],ho⟩) Z (sF O) (sl sr))))))))))
   ·simp only [jK] at hc3
    have hok1:HF ps.length (es.getD i Hk)=true:=by rw [<-hed];unfold HF;simp [hc3.1,hc3.2]
    obtain ⟨ea,eb,el,er,hE,hea,heb⟩:∃(ea eb:Nat) (el er:Int),ed=((ea:Int),(eb:Int),el,er)/\ea<ps.length/\eb<ps.length:=⟨ed.1.toNat,ed.2.1.toNat,ed.2.2.1,ed.2.2.2,Prod.ext (CI (by simpa using hc3.1)).1.symm (Prod.ext (CI (by simpa using hc3.2)).1.symm rfl),(CI (by simpa using hc3.1)).2,(CI (by simpa using hc3.2)).2⟩
    have hed2:Tf (es.getD i Hk)=(ea,eb):=by rw [<-hed,hE];rfl
    rw [show De ed=[vN ea,vN eb,vI el,vI er] by rw [hE];rfl]
    refine zG (q2 (AG (v:=(pP b4 0)) (AA O underlying30 O sizeOf28 O) O (Az 1 (qw p1 (ps.length+vs.length) c1) GG O (AG (v:=(vN (ps.length+vs.length))) (AC O underlying28) O (asg' O (q6 (sL [3,6,7,10,56,57,58,12,13] O) (rC [(0,true),(1,true),(2,true),(3,true),(4,true),(5,true),(6,true),(7,true),(8,true),(9,true),(10,true),(11,true),(12,true),(13,true),(14,false),(15,false),(16,false),(17,true)] 18 [] (sk (sk (sk (sl sr)))) (sk (sl sr)) jV (λ_ _ d _ _ h=>by cases d<;>exact h) (vE (v:=(pP b4 0)) O (AA O underlying30 O sizeOf28 O) O (vE O (AE (i:=1) (v:=(qw p1 (ps.length+vs.length) c1)) O O GG.a O) O (vE (v:=(pP b1 0)) O (AA O underlying30 O sizeOf28 O) O (vE O (AE (i:=5) (v:=(qw x.a.p ps.length x.a.c)) O O GG.a O) O ?_)))))))))))
    refine vE (v:=(pP b5 0)) O (AA O underlying49 O sizeOf3 O) O (vE O (AE (i:=0) (v:=(vN ea)) O O BN.a O) O (vE (v:=(pP (pB x.a.p) (pO x.a.p+ea*10))) O (AF (j:=ea) O O x.a.ok underlying28 sizeOf99 O Z) O (vE (v:=(aG (BB (ps.getD ea (⟨0,0⟩:Pt))))) O (AQ (vs:=BB (ps.getD ea (⟨0,0⟩:Pt))) (i:=6) O O (An.ne x.a.ok Z) HI (Al Bs _ _ _ Z) (Bs _)) O ?_)))
    have hz84:DU (ps.getD ea (⟨0,0⟩:Pt))<=1000000:=hz _
    refine vE (v:=(pP b1 0)) O (AA O underlying30 O sizeOf28 O) O (vE O (AE (i:=5) (v:=(qw x.a.p ps.length x.a.c)) O O GG.a O) O (vE (v:=(pP b5 1)) O (AA O underlying49 O sizeOf3 O) O (vE O (AE (i:=0) (v:=(vN eb)) O O BN.a O) O (vE (v:=(pP (pB x.a.p) (pO x.a.p+eb*10))) O (AF (j:=eb) O O x.a.ok underlying28 sizeOf99 O Z) O (vE (v:=(aG (BB (ps.getD eb (⟨0,0⟩:Pt))))) O (AQ (vs:=BB (ps.getD eb (⟨0,0⟩:Pt))) (i:=6) O O (An.ne x.a.ok Z) HI (Al Bs _ _ _ Z) (Bs _)) O ?_)))))
    have hz90:DU (ps.getD eb (⟨0,0⟩:Pt))<=1000000:=hz _
    refine zp O ?_
    have hz1:=Kg (ps.getD ea (⟨0,0⟩:Pt)) (ps.getD eb (⟨0,0⟩:Pt))
    have hz2:=He ((ps.getD ea (⟨0,0⟩:Pt))+(ps.getD eb (⟨0,0⟩:Pt))) (1/2)
    refine ck' call54 (Yi (ps.getD ea (⟨0,0⟩:Pt)) (ps.getD eb (⟨0,0⟩:Pt)) Z) O (zj (sk (sk (sk (sl sr)))) (zp O (zZ (V:=λb6=>(qw (jk b6) 1 1)) (T:=99) (cs:=BB (CE ((ps.getD ea (⟨0,0⟩:Pt))+(ps.getD eb (⟨0,0⟩:Pt))) (1/2))) (AJ O) (Af (z:=.agg (BB (⟨0,0⟩:Pt)).toArray) (cs:=BB (CE ((ps.getD ea (⟨0,0⟩:Pt))+(ps.getD eb (⟨0,0⟩:Pt))) (1/2))) (pv:=[(0,(aG (BB (CE ((ps.getD ea (⟨0,0⟩:Pt))+(ps.getD eb (⟨0,0⟩:Pt))) (1/2)))))]) underlying28 sizeOf99 zeroValue99 jY jY O (Kt (CE ((ps.getD ea (⟨0,0⟩:Pt))+(ps.getD eb (⟨0,0⟩:Pt))) (1/2)))) O (Av O) λb6=>zj (sl (sk (sk (sk (sl sr))))) (zp O (zh 4 (j:=0) (cs2:=rowsL BB ((IP ps vs)++[CE ((ps.getD ea (⟨0,0⟩:Pt))+(ps.getD eb (⟨0,0⟩:Pt))) (1/2)])) bH O ho (by rw [AV Bs,Hn]) O O O O O jY (FD Z) Z (by rw [BI];rfl) O λp_1 c_1 ho_1 hne_1=>zj (sl (sk (sk (sk (sl sr))))) (vE (v:=(pP b4 0)) O (AA O underlying30 O sizeOf28 O) O (yC O (Ek 2 (off:=0) (vs:=[(qw p_1 ((ps.length+vs.length)+1) c_1)]) (cs':=[(qw p_1 ((ps.length+vs.length)+1) c_1),(qw cl2.p us.length us.length),jj]) (AJ O) O sizeOf28 O (zD (sl (sk (sl (sk (sl sr))))) ?_)))))))))
    refine zT (zB (sL [3,6,7,10,56,57,58,12,13] O) (q2 (AM O (AG (v:=(pP b5 0)) (AA O underlying49 O sizeOf3 O) O (Az 1 (vN ea) BN O (AG (v:=(pP b5 1)) (AA O underlying49 O sizeOf3 O) O (Az 1 (vN eb) BN O (ck' call44 (JE ea eb) O (AG (v:=(vI ((Ap (DL ps.length ss vs) (min ea eb,max ea eb)).getD 0))) (Cr H8 5 (eV:=vI) (kvs:=DL ps.length ss vs) (x:=(min ea eb,max ea eb)) (z0:=0) (co:=false) O O underlying112 zeroValue3 O (Ki hvl Z) (Bm Z Z)) O (asg' O (oNl' ?_)))))))))))
    refine zB (sL [3,6,7,10,56,57,58,12,13,14] O) (zA (CQ (Db 4++[(5,true),(6,true),(7,true),(8,true),(10,true),(11,true),(4,false),(9,false),(12,false),(13,true),(14,false),(15,false)]) (sk (sk (sk (sk (sk (sl sr)))))) (BT O (Aj (v:=(pP b5 0)) O (AA O underlying49 O sizeOf3 O) (Be 1 (vN ea) BN O (BT O (BT O (Aj (v:=(pP b5 1)) O (AA O underlying49 O sizeOf3 O) (Be 1 (vN eb) BN O (BT O (BT O ?_)))))))))))
    refine BT O (zK O (ck' call44 (JE ea (ps.length+vs.length)) O (zD (sk (sk (sk (sk (sk (sl sr)))))) (zK O (ck' call44 (JE eb (ps.length+vs.length)) O (zD (sk (sk (sk (sk (sk (sl sr)))))) (zK O (yf H8 5 (kvs:=DL ps.length ss vs) (x:=(min ea (ps.length+vs.length),max ea (ps.length+vs.length))) (z0:=0) (v:=((Ap (DL ps.length ss vs) (min ea (ps.length+vs.length),max ea (ps.length+vs.length))).getD 0)) O O underlying112 zeroValue3 O (Ki hvl Z) (Bm Z Z) O O (zD (sk (sk (sk (sk (sk (sl sr)))))) (Aj O (AZ (v:=(vN (DP (DL ps.length ss vs) (min ea (ps.length+vs.length),max ea (ps.length+vs.length))))) O O) (zK O ?_)))))))))))
    refine yU 5 (kvs:=DL ps.length ss vs) (x:=(min ea (ps.length+vs.length),max ea (ps.length+vs.length))) (u:=((Ap (DL ps.length ss vs) (min ea (ps.length+vs.length),max ea (ps.length+vs.length))).getD 0)) (y:=((Ap (DL ps.length ss vs) (min ea eb,max ea eb)).getD 0)) O O O O (zD (sk (sk (sk (sk (sk (sl sr)))))) (zK O (yE H8 5 (kvs:=BZ (DL ps.length ss vs) (min ea (ps.length+vs.length),max ea (ps.length+vs.length)) ((Ap (DL ps.length ss vs) (min ea eb,max ea eb)).getD 0)) (x:=(min eb (ps.length+vs.length),max eb (ps.length+vs.length))) (y:=((Ap (DL ps.length ss vs) (min ea eb,max ea eb)).getD 0)) (AJ O) O O O underlying112 O ((Ki hvl Z).put (Bm Z Z)) (Bm Z Z) ?_)))
    rw [show BZ (BZ (DL ps.length ss vs) (min ea (ps.length+vs.length),max ea (ps.length+vs.length)) ((Ap (DL ps.length ss vs) (min ea eb,max ea eb)).getD 0)) (min eb (ps.length+vs.length),max eb (ps.length+vs.length)) ((Ap (DL ps.length ss vs) (min ea eb,max ea eb)).getD 0)=DL ps.length ss (vs++[(ea,eb)]) from by rw [NE];rfl]
    refine zD (sk (sk (sk (sk (sk (sl sr)))))) (zT (zB (sL [3,6,7,10,56,57,58,12] O) (zJ (zA (zH (AG (AW (c:=((i+1:Nat):Int)) O O (AU (a:=i) (b:=1) Z)) O (AM O (oNl' (zB (sL [3,6,7,10,56,57,58,12] O) ?_)))))))))
    rw [show IP ps vs++[CE (ps.getD ea (⟨0,0⟩:Pt)+ps.getD eb (⟨0,0⟩:Pt)) (1/2)]=IP ps (vs++[(ea,eb)]) from P9 (v:=(ea,eb)),show ps.length+vs.length+1=ps.length+(vs++[(ea,eb)]).length by rw [xJ];rfl]
    exact zu (i+1) (vs++[(ea,eb)]) p_1 c_1 (⟨Z,by rw [hvs,SA Z hok1,hed2],by rw [xJ];exact ho_1⟩) Z (sF O) (sl (sl sr))
  ·replace hc2:=xQ hc2
   have hie:i=es.length:=by omega
   have hrzl:=LU (n:=ps.length+vs.length) (us:=us)
   refine zU (zP (zr (zS (q2 (AG (v:=(pP b4 0)) (AA O underlying30 O sizeOf28 O) O (Az 0 (qw p1 (ps.length+vs.length) c1) GG O (ck' call55 (QP p1 (ps.length+vs.length) c1 ho.row.le) O (AG (v:=(pP b4 0)) (AA O underlying30 O sizeOf28 O) O (Ek 0 (off:=0) (vs:=[(qw p1 (ps.length+vs.length) (ps.length+vs.length))]) (cs':=[(qw p1 (ps.length+vs.length) (ps.length+vs.length)),(qw cl2.p us.length us.length),jj]) (AJ O) O sizeOf28 O (q3 (sL [3,6,7,10,56,57,58] O) (AG (v:=(pP b4 0)) (AA O underlying30 O sizeOf28 O) O ?_)))))))))))
   refine Az 0 (qw p1 (ps.length+vs.length) (ps.length+vs.length)) GG O (AG (v:=(pP b4 1)) (AA O underlying30 O sizeOf23 O) O (Az 0 (qw cl2.p us.length us.length) B1 O (yL 1 O cl2.ok (AV A7 _) O O λhn_cl2=>yH (S:=S) (V:=Qu) (LW:=Oy (T:=110) (z:=3) (cs:=rowsL AS ((BM (ps.length+vs.length) us).map Ba)) (n:=(BM (ps.length+vs.length) us).length)) (args:=[(qw p1 (ps.length+vs.length) (ps.length+vs.length)),(qw cl2.p us.length us.length)]) call56 (λw hw=>Yw us ⟨cl2.p,us.length,cl2.ok.clip⟩ p1 (ps.length+vs.length) (ps.length+vs.length) Z Z w (inS hw 1 O (At.new hn_cl2))) O λrm hrm=>AG (v:=(pP b4 2)) (AA O underlying30 O sizeOf24 O) O (Ek 1 (off:=2) (vs:=[(qw rm.p ((BM (ps.length+vs.length) us).length) ((BM (ps.length+vs.length) us).length))]) (cs':=[(qw p1 (ps.length+vs.length) (ps.length+vs.length)),(qw cl2.p us.length us.length),(qw rm.p ((BM (ps.length+vs.length) us).length) ((BM (ps.length+vs.length) us).length))]) (AJ O) O sizeOf24 O (q6 (sL [3,6,7,10,56,57,58] O) (q4 (AG (v:=(pP b4 2)) (AA O underlying30 O sizeOf24 O) O (Az 1 (qw rm.p ((BM (ps.length+vs.length) us).length) ((BM (ps.length+vs.length) us).length)) Gh O (AG (v:=(vN ((BM (ps.length+vs.length) us).length))) (AC O underlying24) O ?_)))))))))
   refine AM O (oNl' (zB (sL [3,6,7,10,56,57,58,128,129,130] O) (zA (zI ?_))))
   refine zo (tg λ(j:Nat)=>j<=(BM (ps.length+vs.length) us).length) (tg λ(j:Nat)=>[(6,(pP b2 0)),(7,(Value.map (some b3))),(10,(pP b4 0)),(128,(qw rm.p ((BM (ps.length+vs.length) us).length) ((BM (ps.length+vs.length) us).length))),(129,(vN ((BM (ps.length+vs.length) us).length))),(130,(vN j))]) (tg λ(j:Nat)=>[rowW rm.p 110 3 ((BM (ps.length+vs.length) us).length) rm.c (rowsL AS (Gs (DL ps.length ss vs) (BM (ps.length+vs.length) us) j)),AR b4 30 ([(qw p1 (ps.length+vs.length) (ps.length+vs.length)),(qw cl2.p us.length us.length),(qw rm.p ((BM (ps.length+vs.length) us).length) ((BM (ps.length+vs.length) us).length))]),AB cl2.p (rowsL AS us),rowW p1 99 10 (ps.length+vs.length) c1 (rowsL BB (IP ps vs)),CC b3 ER vI (DL ps.length ss vs),AR b2 30 ([jj,jj,jj]),AR b1 30 (B9 x),AB x.a.p (rowsL BB ps),AB x.b.p (rowsL AS zt),AB x.c.p (rowsL AS ss),AB o.p (rowsL De es),AB y.p (rowsL AS us)]) (tg λ(j:Nat)=>(BM (ps.length+vs.length) us).length-j) 0 (xH _) (sF O) sr (λj hJ=>?_)
   have hj:=hJ
   refine q4 (AG (Ae (c:=(decide (j<((BM (ps.length+vs.length) us).length)))) O O (CM (a:=j) (b:=(BM (ps.length+vs.length) us).length))) O (oNl' (q1 ?_)))
   refine zM O (λhc4=>?_) (λhc4=>?_)
   ·replace hc4:=xR hc4
    obtain ⟨sd2,hsd2⟩:∃q,q=(BM (ps.length+vs.length) us).getD j (0,0,0):=⟨_,rfl⟩
    have hml:(Gs (DL ps.length ss vs) (BM (ps.length+vs.length) us) j).length=(BM (ps.length+vs.length) us).length:=Ip
    obtain ⟨hs1,hs2⟩:=SG (show sd2∈BM (ps.length+vs.length) us from by rw [hsd2,List.getD,xN hc4];exact List.getElem_mem hc4) Z
    refine zG (q1 (zI (q4 (AM O (AG (v:=(pP (pB rm.p) (pO rm.p+j*3))) (AF (j:=j) O O rm.ok.clip underlying24 sizeOf110 O Z) O (AG (v:=(aG (AS ((Gs (DL ps.length ss vs) (BM (ps.length+vs.length) us) j).getD j ((0,0,0):Z3))))) (Es (vs:=AS ((Gs (DL ps.length ss vs) (BM (ps.length+vs.length) us) j).getD j ((0,0,0):Z3))) (i:=0) O O rm.ok (by rw [AV A7,Ip]) (An.ne rm.ok.clip Z) Zg (Al A7 _ _ _ Z) (A7 _)) O (zC (k:=134) (u:=(aG (AS (Ba sd2)))) O (by rw [hsd2,PI Z]) (al ZU O λb5=>asg' O (Ax O sizeOf110 O (oNl' ?_))))))))))
    refine zB (sL [6,7,10,128,129,130,16,15] O) (zA (CQ (Db 8++[(8,false),(9,true),(10,true),(11,true),(12,false)]) (sk (sl sr)) (Aj (v:=(pP b4 2)) O (AA O underlying30 O sizeOf24 O) (Be 1 (qw rm.p ((BM (ps.length+vs.length) us).length) ((BM (ps.length+vs.length) us).length)) Gh O (BT O (BT O (Aj (v:=(pP b5 0)) O (AA O underlying110 O sizeOf3 O) (Be 0 (vI ((Ba sd2).1)) BN O (Aj (v:=(pP b5 1)) O (AA O underlying110 O sizeOf3 O) (Be 0 (vI ((Ba sd2).2.1)) BN O (zK O ?_)))))))))))
    refine ck' call44 (JE sd2.1 sd2.2.1) O (zD (sk (sl sr)) (Aj (v:=(vI ((Ap (DL ps.length ss vs) (min sd2.1 sd2.2.1,max sd2.1 sd2.2.1)).getD 0))) O (Cr H8 4 (eV:=vI) (kvs:=DL ps.length ss vs) (x:=(min sd2.1 sd2.2.1,max sd2.1 sd2.2.1)) (z0:=0) (co:=false) O O underlying112 zeroValue3 O (Ki hvl Z) (Bm Z Z)) (Aj (v:=(pP (pB rm.p) (pO rm.p+j*3))) O (AF (j:=j) O O rm.ok.clip underlying24 sizeOf110 O Z) (Aj (v:=(pP (pB rm.p) (pO rm.p+(j*3+2)))) O (AA O underlying110 O sizeOf3 (Nat.add_assoc _ _ _)) (zK O (yP 1 (enc:=AS) (j:=j) (r:=2) (x':=(((((Gs (DL ps.length ss vs) (BM (ps.length+vs.length) us) j).getD j ((0,0,0):Z3)).1),(((Gs (DL ps.length ss vs) (BM (ps.length+vs.length) us) j).getD j ((0,0,0):Z3)).2.1),((Ap (DL ps.length ss vs) (min sd2.1 sd2.2.1,max sd2.1 sd2.2.1)).getD 0)):Z3)) (vs:=[(vI ((Ap (DL ps.length ss vs) (min sd2.1 sd2.2.1,max sd2.1 sd2.2.1)).getD 0))]) ((0,0,0):Z3) A7 rm.ok Ip O O O (An.ne rm.ok.clip Z) Z O sizeOf3 O O (zD (sk (sl sr)) (zT (zB (sL [6,7,10,128,129,130,16] O) (zJ (zA ?_)))))))))))
    refine zH (AG (AW (c:=((j+1:Nat):Int)) O O (AU (a:=j) (b:=1) Z)) O (AM O (oNl' (zB (sL [6,7,10,128,129,130,16] O) ?_))))
    rw [UO Z (by rw [hsd2];rfl)]
    exact zc (j+1) Z Z (sF O) (sl sr)
   ·replace hc4:=xQ hc4
    exact zU (zP (za (zS (q2 (BD 1 Do O (Ek 5 (off:=0) (vs:=[(qw p1 (ps.length+vs.length) (ps.length+vs.length)),(qw cl2.p us.length us.length),(qw rm.p ((BM (ps.length+vs.length) us).length) ((BM (ps.length+vs.length) us).length))]) (cs':=[(qw p1 (ps.length+vs.length) (ps.length+vs.length)),(qw cl2.p us.length us.length),(qw rm.p ((BM (ps.length+vs.length) us).length) ((BM (ps.length+vs.length) us).length))]) (AJ O) O sizeOf30 O (oNl' (zB (sL [6,7,10,128,129,130] O) (zA (zF (ret_one O (Ai (i:=5) (cs:=[(qw p1 (ps.length+vs.length) (ps.length+vs.length)),(qw cl2.p us.length us.length),(qw rm.p ((BM (ps.length+vs.length) us).length) ((BM (ps.length+vs.length) us).length))]) O O isAgg30 sizeOf30 O) (λw hw=>(by rw [show E6 ps.length es es.length=vs by rw [hvs,hie]];rw [show Fj ps.length ss vs us=Gs (DL ps.length ss vs) (BM (ps.length+vs.length) us) j from by rw [show j=(BM (ps.length+vs.length) us).length by omega,XC];rfl];exact aq hw 3 2 0 O O O ho cl2.ok.clip hn_cl2 rm.ok (by rw [Hn]) O (by rw [Ip]) O)))))))))))))
end
section
open Go Go.RowKit Go.Builtin
section
variable {P:Program} {t:TypeId} {q:Option Addr} {c c2:Nat} {cs news:List Value}
end
section
variable {P:Program} {ops:Array Oper} {rest:List Oper} {Q:Exit->Act->World->Prop} {n d b z m c c2:Nat} {F:List (Nat×Value)} {w0:BC} {L:List As} {t ty T:TypeId} {p:String} {af:Array Edge} {x:Operand} {cs cs2 news:List Value} {q:Option Addr}
end
end
section
set_option maxRecDepth 100000
theorem Q4 {ps:List Pt} {ts:List T3} {ss:List Z3} (x:MN ps ts ss) (es:List E4) (o:RX (rowsL BL es) es.length) (us:List T3) (y:RX (rowsL Ac us) us.length) (hz:∀i,DU (ps.getD i ⟨0,0⟩)<=1000000) (hp:ps.length<=1000000) (hel:es.length<=1000000) (hul:us.length<=1000000) (hsl:ss.length<=1000000) (w:World) {S:Nat->Prop} (hx:Ro S w x) (ho:Ro S w o) (hy:Ro S w y) :
  Calls prog 16 #[(aG (Hi x)),(qw o.p es.length o.c),(qw y.p us.length y.c)] w (Ad (an (IP ps (E6 ps.length (es.map O2) (es.map O2).length)) (us.map Ba) (Fj ps.length ss (E6 ps.length (es.map O2) (es.map O2).length) (us.map Ba))) S w):=by
 obtain ⟨x',h1,h2⟩:=Pc x
 obtain ⟨op,oc,ook⟩:=o
 obtain ⟨yp,yc,yok⟩:=y
 have e1:es.length=(es.map O2).length:=(xI _).symm
 have e2:us.length=(us.map Ba).length:=(xI _).symm
 have k:=PB x' (es.map O2) ⟨op,oc,e1▸ook⟩ (us.map Ba) ⟨yp,yc,e2▸yok⟩ hz hp Z Z hsl w (S:=S) (h2 hx) (λz h=>ho z (by rcases xM.1 h with rfl;rw [<-Py];exact xM.2 rfl)) (λz h=>hy z (by rcases xM.1 h with rfl;rw [<-CR];exact xM.2 rfl))
 dsimp only at k
 rw [h1] at k
 rw [<-e1,<-e2] at k
 rw [<-e1]
 exact k
end
end Go.Proofs.YtpolhpjiahbidaaGreatDoor
