import Derived.Test.YtpolhpjiahbidaaGreatDoorPart13
namespace Go.Proofs.YtpolhpjiahbidaaGreatDoor
open Go Go.RowKit Go.Proofs.Tryz
open Go.Value renaming slice→qz,bool→qa
set_option linter.unusedVariables false
set_option linter.unusedSimpArgs false
theorem EH {α:Type} {enc:α->List Value} {z:Nat} (h:∀x,(enc x).length=z) (d:α) (xs:List α) (j r:Nat) (hj:j<xs.length) (hr:r<z) {v:Value} (hv:(enc (xs.getD j d))[r]?=some v):(rowsL enc xs)[j*z+r]?=some v:=by
  have h1:=Af h d xs j hj
  rw [<-h1,List.getElem?_take_of_lt hr,List.getElem?_drop] at hv
  exact hv
theorem An (p:Pt):(AZ p).length=10:=rfl
structure ag (ps:List Pt) (t:Tq3):Prop where
  a:t.1<ps.length
  b:t.2.1<ps.length
  c:t.2.2<ps.length
  ab:t.1≠t.2.1
  bc:t.2.1≠t.2.2
  ca:t.2.2≠t.1
  pos:0<AN (ps.getD t.1 ⟨0,0⟩) (ps.getD t.2.1 ⟨0,0⟩) (ps.getD t.2.2 ⟨0,0⟩)
def cP (ps:List Pt) (t:Tq3) (q:Pt):Prop:=0<AN q (ps.getD t.2.1 ⟨0,0⟩) (ps.getD t.2.2 ⟨0,0⟩)/\0<AN (ps.getD t.1 ⟨0,0⟩) q (ps.getD t.2.2 ⟨0,0⟩)/\0<AN (ps.getD t.1 ⟨0,0⟩) (ps.getD t.2.1 ⟨0,0⟩) q
def KZ (ps:List Pt) (t:Tq3) (q:Pt):Prop:=0<=AN q (ps.getD t.2.1 ⟨0,0⟩) (ps.getD t.2.2 ⟨0,0⟩)/\0<=AN (ps.getD t.1 ⟨0,0⟩) q (ps.getD t.2.2 ⟨0,0⟩)/\0<=AN (ps.getD t.1 ⟨0,0⟩) (ps.getD t.2.1 ⟨0,0⟩) q
def B7 (m:MQ):Nat:=1+m.den%6
def TC (m:MQ) (z:Int×Int):PD:=⟨⟨z.1,B7 m⟩,⟨z.2,B7 m⟩⟩
def Se (m:MQ) (zs:List (Int×Int)) (i:Nat):List Pt:=(zs.take i).map λz=>CM (TC m z)
theorem KN {m:MQ} {zs:List (Int×Int)} {i:Nat} (h:i<=zs.length):(Se m zs i).length=i:=by simp [Se];omega
theorem Vh {m:MQ} {zs:List (Int×Int)} {i:Nat} (h:i<zs.length):Se m zs (i+1)=Se m zs i++[CM (TC m (zs.getD i (0,0)))]:=by
  unfold Se
  rw [List.take_add_one,xP h,List.map_append,List.getD,xP h]
  rfl
theorem RJ {m:MQ} {zs:List (Int×Int)} {i:Nat} (h:i<zs.length):(Se m zs zs.length).getD i ⟨0,0⟩=CM (TC m (zs.getD i (0,0))):=by
  unfold Se
  rw [List.take_length,List.getD,List.getElem?_map,xP h,List.getD,xP h]
  rfl
def Fp (m:MQ) (pl:List P2):List (Int×Int):=pl.map λp=>(mapM m).at_ p
structure E_ (ps:List Pt) (ts:List (Tq3)):Prop where
  ne:ts≠[]
  tl:ts.length<=36
  pl:ps.length<=108
  sz:∀i,Bc (ps.getD i ⟨0,0⟩)<=4
  tri:∀j,j<ts.length->ag ps (ts.getD j (0,0,0))
  apart:∀i j,i<ts.length->j<ts.length->i≠j->∀q,cP ps (ts.getD i (0,0,0)) q->¬KZ ps (ts.getD j (0,0,0)) q
  lat:∃(m:MQ) (pl:List P2),NA m (Av m).length pl ts/\Wv pl/\ps=Se m (Fp m pl) pl.length
structure MG where
  ps:List Pt
  ts:List (Tq3)
  ss:List (Tq3)
  good:E_ ps ts
  sl:ss.length<=108*108
  sd:∃m:MQ,ss=FO m ts ps.length ps.length
  a:RX (rowsL AZ ps) ps.length
  b:RX (rowsL Ac ts) ts.length
  c:RX (rowsL Ac ss) ss.length
def cE (x:MG):List Value:=[x.a.val,x.b.val,x.c.val]
theorem Y1 {x:MG} {y:As} (hy:y∈[x.a.row,x.b.row,x.c.row]):y.ro=true:=by
  simp only [xN,List.not_mem_nil,or_false] at hy
  rcases hy with rfl|rfl|rfl<;>rfl
instance:C4 MG:=⟨λx=>aG (cE x),λx=>[x.a.row,x.b.row,x.c.row],λx y hy=>Y1 hy⟩
theorem cz {S:Nat->Prop} {W w:World} {L:List As} {m:MQ} {x:WM m} (h:Ro (SL ⟨W,none⟩ S L) w x):Holds w x.b.row/\∀b,x.b.row.foot=some b->W.heap.size<=b\/S b:=by
  have h1:=h x.b.row (List.mem_cons_of_mem _ List.mem_cons_self)
  exact ⟨h1.1,λb e=>(h1.2 b e).2⟩
theorem KR {m:MQ} {pl:List P2} {i:Nat} (h:i<pl.length):(Fp m pl).getD i (0,0)=(mapM m).at_ (pl.getD i (0,0)):=by
  simp [Fp,List.getD,h]
theorem Y_ {m:MQ} {pl:List P2} (hs:∀p∈pl,p.1<=6/\p.2<=6) {i:Nat} (h:i<pl.length):(TC m ((Fp m pl).getD i (0,0))).ok:=by
  rw [KR h]
  have hp:=hs (pl.getD i (0,0)) (by rw [List.getD,xP h];exact List.getElem_mem h)
  obtain ⟨⟨h1,h2⟩,h3,h4⟩:=To (Fb m.a m.b m.c m.d) hp
  have hd:B7 m<4294967296:=by unfold B7;omega
  have e:mapM m=Gl m.a m.b m.c m.d:=rfl
  rw [<-e] at h1 h2 h3 h4
  exact ⟨⟨by show -9223372036854775808<=((mapM m).at_ _).1;omega,by show ((mapM m).at_ _).1<_;omega,hd⟩,⟨by show -9223372036854775808<=((mapM m).at_ _).2;omega,by show ((mapM m).at_ _).2<_;omega,hd⟩⟩
theorem E8 (a b c:P2):Bs b c a=Bs a b c:=by unfold Bs;grind
theorem DW (a b:P2):Bs a a b=0/\Bs a b b=0/\Bs b a b=0:=by unfold Bs;exact ⟨by grind,by grind,by grind⟩
theorem R1 {m:MQ} {t:Nat} (h:t<(Av m).length):0<Bs (Ai m t 0) (Ai m t 1) (Ai m t 2):=by
  have h1:=Fu m ((Av m).getD t ((0,0),(0,0),(0,0))) (by rw [List.getD,xP h];exact List.getElem_mem h)
  unfold Ai G4
  generalize (Av m).getD t ((0,0),(0,0),(0,0))=c at *
  generalize t*(m.fst/3)=q at *
  have h0:=h1.1
  have e:(m.fst+q)%3=0\/(m.fst+q)%3=1\/(m.fst+q)%3=2:=by omega
  rcases e with e|e|e
  · rw [show (0+m.fst+q)%3=0 by omega,show (1+m.fst+q)%3=1 by omega,show (2+m.fst+q)%3=2 by omega]
    exact h0
  · rw [show (0+m.fst+q)%3=1 by omega,show (1+m.fst+q)%3=2 by omega,show (2+m.fst+q)%3=0 by omega]
    show 0<Bs c.2.1 c.2.2 c.1
    rw [E8];exact h0
  · rw [show (0+m.fst+q)%3=2 by omega,show (1+m.fst+q)%3=0 by omega,show (2+m.fst+q)%3=1 by omega]
    show 0<Bs c.2.2 c.1 c.2.1
    rw [E8 c.2.1,E8];exact h0
theorem NG (m:MQ) (t:Nat) (x y:Rat):(0<KF (Ai m t 1) (Ai m t 2) x y->0<KF (Ai m t 2) (Ai m t 0) x y->0<KF (Ai m t 0) (Ai m t 1) x y->Wj ((Av m).getD t ((0,0),(0,0),(0,0))) x y) /\
    (0<=KF (Ai m t 1) (Ai m t 2) x y->0<=KF (Ai m t 2) (Ai m t 0) x y->0<=KF (Ai m t 0) (Ai m t 1) x y->inC ((Av m).getD t ((0,0),(0,0),(0,0))) x y):=by
  unfold Ai G4
  generalize (Av m).getD t ((0,0),(0,0),(0,0))=c at *
  generalize t*(m.fst/3)=q at *
  have e:(m.fst+q)%3=0\/(m.fst+q)%3=1\/(m.fst+q)%3=2:=by omega
  rcases e with e|e|e
  · rw [show (0+m.fst+q)%3=0 by omega,show (1+m.fst+q)%3=1 by omega,show (2+m.fst+q)%3=2 by omega]
    exact ⟨λa b c=>⟨a,b,c⟩,λa b c=>⟨a,b,c⟩⟩
  · rw [show (0+m.fst+q)%3=1 by omega,show (1+m.fst+q)%3=2 by omega,show (2+m.fst+q)%3=0 by omega]
    exact ⟨λa b c=>⟨c,a,b⟩,λa b c=>⟨c,a,b⟩⟩
  · rw [show (0+m.fst+q)%3=2 by omega,show (1+m.fst+q)%3=0 by omega,show (2+m.fst+q)%3=1 by omega]
    exact ⟨λa b c=>⟨b,c,a⟩,λa b c=>⟨b,c,a⟩⟩
theorem QL {c z:Rat} (hc:0<c) (h:0<c*z):0<z:=by
  rcases HX 0 z with h1|h1
  · exact h1
  · have:=Rat.mul_nonneg (show 0<=c by grind) (show 0 <= -z by grind)
    grind
theorem Hm {c z:Rat} (hc:0<c) (h:0<=c*z):0<=z:=by
  rcases HX z 0 with h1|h1
  · have:=Rat.mul_pos hc (show 0 < -z by grind)
    grind
  · exact h1
theorem Xc {m:MQ} (x:WM m) {ps:List Pt} (h:ps=Se m (Fp m x.pl) x.pl.length):E_ ps x.ts:=by
  have hz:(Fp m x.pl).length=x.pl.length:=by simp [Fp]
  rw [<-hz] at h
  have hl:ps.length=x.pl.length:=by rw [h,KN (Nat.le_refl _),hz]
  have hg:∀i,i<x.pl.length->ps.getD i ⟨0,0⟩=CM (Gm (mapM m) (B7 m) (x.pl.getD i (0,0))):=λi hi=>by
    rw [h,RJ (by rw [hz];exact hi),KR hi];rfl
  have hi:=x.inv
  have hcl:=Ht m
  refine ⟨λe=>Rw m (List.eq_nil_of_length_eq_zero (by rw [<-hi.tl,e];rfl)),by rw [hi.tl];exact hcl,by rw [hl];have:=hi.pll;omega,λi=>?_,λj hj=>?_,λi j hi1 hj1 hne q ho hcl2=>?_,⟨m,x.pl,x.inv,x.dst,by rw [h,hz]⟩⟩
  · rcases Nat.lt_or_ge i x.pl.length with h1|h1
    · have hok:=Y_ (m:=m) hi.small h1
      rw [hg i h1]
      have:=OD hok
      rw [KR h1] at this
      exact this
    · rw [List.getD,List.getElem?_eq_none (by rw [hl];exact h1)];decide +kernel
  · rw [hi.tl] at hj
    have ht:=hi.at_ j hj
    have hc:=R1 hj
    have hp:=Yg (Fb m.a m.b m.c m.d) (B7 m) hc
    obtain ⟨⟨a1,a2⟩,⟨b1,b2⟩,⟨c1,c2⟩⟩:=ht
    refine ⟨by rw [hl];exact a1,by rw [hl];exact b1,by rw [hl];exact c1,λe=>?_,λe=>?_,λe=>?_,?_⟩
    · rw [e,b2] at a2;rw [<-a2,(DW _ _).1] at hc;omega
    · rw [e,c2] at b2;rw [<-b2,(DW _ _).2.1] at hc;omega
    · rw [e,a2] at c2;rw [<-c2,(DW _ _).2.2] at hc;omega
    · rw [hg _ a1,hg _ b1,hg _ c1,a2,b2,c2];exact hp
  · rw [hi.tl] at hi1 hj1
    obtain ⟨x',y',c,hc,key⟩:=lattice (Fb m.a m.b m.c m.d) (B7 m) q
    obtain ⟨⟨a1,a2⟩,⟨b1,b2⟩,⟨c1,c2⟩⟩:=hi.at_ i hi1
    obtain ⟨⟨d1,d2⟩,⟨e1,e2⟩,⟨f1,f2⟩⟩:=hi.at_ j hj1
    obtain ⟨o1,o2,o3⟩:=ho
    obtain ⟨k1,k2,k3⟩:=hcl2
    rw [hg _ b1,hg _ c1,b2,c2,<-F_,show mapM m=Gl m.a m.b m.c m.d from rfl,key] at o1
    rw [hg _ a1,hg _ c1,a2,c2,F_,show mapM m=Gl m.a m.b m.c m.d from rfl,key] at o2
    rw [hg _ a1,hg _ b1,a2,b2,show mapM m=Gl m.a m.b m.c m.d from rfl,key] at o3
    rw [hg _ e1,hg _ f1,e2,f2,<-F_,show mapM m=Gl m.a m.b m.c m.d from rfl,key] at k1
    rw [hg _ d1,hg _ f1,d2,f2,F_,show mapM m=Gl m.a m.b m.c m.d from rfl,key] at k2
    rw [hg _ d1,hg _ e1,d2,e2,show mapM m=Gl m.a m.b m.c m.d from rfl,key] at k3
    exact Iy m hi1 hj1 hne _ x' y' ((NG m i x' y').1 (QL hc o1) (QL hc o2) (QL hc o3)) ((NG m j x' y').2 (Hm hc k1) (Hm hc k2) (Hm hc k3))
def aX (m:MQ) (ps:List Pt) (ts:List (Tq3)):Prop:=∃pl:List P2,NA m (Av m).length pl ts/\Wv pl/\ps=Se m (Fp m pl) pl.length
theorem Xu {m:MQ} (x:WM m) {ps:List Pt} (h:ps=Se m (Fp m x.pl) x.pl.length):aX m ps x.ts:=⟨x.pl,x.inv,x.dst,h⟩
structure MF (m:MQ) where
  g:MG
  lat:aX m g.ps g.ts
instance {m:MQ}:C4 (MF m):=⟨λx=>aG (cE x.g),λx=>[x.g.a.row,x.g.b.row,x.g.c.row],λx y hy=>Y1 hy⟩
structure aM (m:MQ) where
  f:MF m
  ob:OwnOk f.g.b.p f.g.ts.length f.g.b.c
  da:∀x,f.g.b.p.map (·.block)=some x->f.g.a.p.map (·.block)≠some x
  dc:∀x,f.g.b.p.map (·.block)=some x->f.g.c.p.map (·.block)≠some x
def VB {m:MQ} (y:aM m):As:=JK y.f.g.b.p 105 3 y.f.g.ts.length y.f.g.b.c (rowsL Ac y.f.g.ts)
instance {m:MQ}:C4 (aM m):=⟨λy=>aG (cE y.f.g),λy=>[y.f.g.a.row,y.f.g.b.row,y.f.g.c.row,VB y],λx y hy=>by
  simp only [xN,List.not_mem_nil,or_false] at hy
  rcases hy with rfl|rfl|rfl|rfl<;>rfl⟩
theorem Zs {m:MQ} {W w:World} {L:List As} (hw:BD ⟨W,none⟩ w L) (x:aM m) (h1:Holds w x.f.g.a.row/\∀b,x.f.g.a.row.foot=some b->W.heap.size<=b\/False) (h2:Holds w x.f.g.b.row/\∀b,x.f.g.b.row.foot=some b->W.heap.size<=b\/False) (h3:Holds w x.f.g.c.row/\∀b,x.f.g.c.row.foot=some b->W.heap.size<=b\/False) (h4:Holds w (VB x)/\∀b,(VB x).foot=some b->W.heap.size<=b\/False) {v:Value} (hv:v=aG (cE x.f.g)):Bf (aM m) (λ_=>False) W (.returned v) w:=by
  refine ⟨x,by rw [hv];rfl,hw.out,λy hy=>?_⟩
  have hy:y∈[x.f.g.a.row,x.f.g.b.row,x.f.g.c.row,VB x]:=hy
  simp only [xN,List.not_mem_nil,or_false] at hy
  rcases hy with rfl|rfl|rfl|rfl
  · exact h1
  · exact h2
  · exact h3
  · exact h4
theorem Bf.ofMGF {m:MQ} {S:Nat->Prop} {W w:World} {e:Ending} (h:Bf (aM m) (λ_=>False) W e w):Bf (MF m) S W e w:=by
  obtain ⟨a,h1,h2,h3⟩:=h
  refine ⟨a.f,h1,h2,λy hy=>?_⟩
  have h4:=h3 y (by
    have hy:y∈[a.f.g.a.row,a.f.g.b.row,a.f.g.c.row]:=hy
    show y∈[a.f.g.a.row,a.f.g.b.row,a.f.g.c.row,VB a]
    simp only [xN,List.not_mem_nil,or_false] at hy ⊢
    rcases hy with rfl|rfl|rfl<;>simp)
  exact ⟨h4.1,λb e=>(h4.2 b e).imp id λk=>k.elim⟩
section
set_option maxRecDepth 100000
theorem TZ (q:QD) (h:q.ok) (w:World)  :Calls prog 105 #[(aG (YM q))] w (Ad w (aG (AC (N_ q)))):=by
 obtain ⟨h1,h2,h3⟩:=h
 refine AY (args:=[(aG (YM q))]) func105 O O (BA O) (zM (sL [0] O) (q4 (BV (cs:=YM q) O λb1=>al Dg O λb2=>q3 (sL [1,2] O) (AD (v:=(pP b1 0)) (AA O underlying94 O sizeOf2 O) O (BF 1 (vI q.n) Ny O (AD (v:=(pP b1 1)) (AA O underlying94 O sizeOf92 O) O (BF 1 (vK .u32 q.d) dG O (AD (GJ (c:=((max q.d 1:Nat):Int)) O O (by split<;>omega)) O (AD (Au (c:=((max q.d 1:Nat):Int)) O underlying92 underlying2 (CJ Z)) O ?_)))))))))
 refine ck' call93 (Pn (q.n:Int) ((max q.d 1:Nat):Int) Z Z Z Z Z) O (AL O (AD (AK (v:=(aG (AC (((q.n:Int):Rat)/(((max q.d 1:Nat):Int):Rat))))) O O) O (AD (AK (v:=(vI 0)) O O) O (al Dg O λb3=>Ag O sizeOf77 O (asg' O (q3 (sL [2,3] O) (Al 0 Ba O (Cd O sizeOf77 O (oNl' (zB (sL [2,3] O) ?_))))))))))
 exact zA (zF (ret_one O (Ao (i:=1) (cs:=AC (((q.n:Int):Rat)/(((max q.d 1:Nat):Int):Rat))) O O isAgg77 sizeOf77 O) (λw hw=>⟨rfl,hw.out⟩)))
theorem Es (x0:Rat) (x1:Rat):Instr.fill ([(0,5),(5,5)].toArray[·]?) (AZ (⟨0,0⟩:Pt)).toArray [(0,.agg (AC x0).toArray),(1,.agg (AC x1).toArray)]=some (AC x0++AC x1).toArray:=by kernel_rfl
theorem TY (p:PD) (h:p.ok) (w:World)  :Calls prog 37 #[(aG (RI p))] w (Ad w (aG (AZ (CM p)))):=by
 have h1:=h.1
 have h2:=h.2
 refine AY (args:=[(aG (RI p))]) func37 O O (BA O) (zM (sL [0] O) (q4 (BV (cs:=RI p) O λb1=>al EU O λb2=>q6 (sL [1,2] O) (DC [(0,true),(1,true),(3,true),(4,true),(2,false),(5,false),(6,true),(7,false)] (sl sr) (Am (v:=(pP b1 0)) O (AA O underlying96 O sizeOf94 O) (GE 0 (YM p.x) bT O (Am (v:=(pP b1 2)) O (AA O underlying96 O sizeOf94 O) (GE 0 (YM p.y) bT O (zN O ?_)))))))))
 refine ck' call105 (TZ p.x (by assumption)) O (zD (sl sr) (zN O (ck' call105 (TZ p.y (by assumption)) O (zD (sl sr) (Am (v:=(aG (AC (N_ p.x)++AC (N_ p.y)))) O (AP (zs:=AZ (⟨0,0⟩:Pt)) (vs:=AC (N_ p.x)++AC (N_ p.y)) (pv:=[(0,(aG (AC (N_ p.x)))),(1,(aG (AC (N_ p.y))))]) (places:=[(0,5),(5,5)]) zeroValue99 underlying99 (λw=>by simp [sizeOf77]) O (Es (N_ p.x) (N_ p.y))) (zN O (Ag O sizeOf99 O (zD (sl sr) (zQ (zB (sL [2] O) (zA ?_)))))))))))
 exact zF (ret_one O (Ao (i:=0) (cs:=AC (N_ p.x)++AC (N_ p.y)) O O isAgg99 sizeOf99 O) (λw hw=>⟨rfl,hw.out⟩))
end
section
set_option maxRecDepth 100000
theorem Yd:ElemT prog 24 110 3 24:=⟨underlying24,FC jV⟩
theorem bU:ElemT prog 28 99 10 112:=⟨underlying28,FC jV⟩
theorem Lk (x0:Pt):Instr.fill (λi=>some (i*10,10)) ((Array.range (1*10)).map ((Value.agg (AZ (⟨0,0⟩:Pt)).toArray).cells[·%(Value.agg (AZ (⟨0,0⟩:Pt)).toArray).cells.size]!)) [(0,.agg (AZ x0).toArray)]=some (AZ x0).toArray:=by kernel_rfl
theorem J0 (x0:Tq3):Instr.fill (λi=>some (i*3,3)) ((Array.range (1*3)).map ((Value.agg (Ac jJ).toArray).cells[·%(Value.agg (Ac jJ).toArray).cells.size]!)) [(0,.agg (Ac x0).toArray)]=some (Ac x0).toArray:=by kernel_rfl
set_option maxHeartbeats 2000000 in
theorem SO (m:MQ) (w:World) {S:Nat->Prop} (hm:Ro S w m):Calls prog 33 #[(aG (Eu m))] w (Bf (aM m) (λ_=>False) w):=by
 have hd:=m.hden
 have hdm:B7 m<256:=by unfold B7;omega
 have lm:=Da (W:=w) hm
 refine Ah (args:=[(aG (Eu m))]) (L:=[AF m.p (C5 m.cs)]) func33 O O (BA O) (Db hm A7) (zM (sL [0] O) (q4 (BV (cs:=Eu m) O λb1=>al Hh O λb2=>q3 (sL [1,2] O) (Al 1 Nx O (yM (S:=λ_=>False) (α:=ZK m) (args:=[(aG (Eu m))]) call100 (λw hw=>(QA m w (Co hw 2 O lm)).mono λe w1 h=>h.weak λb k=>k.elim) O O O λgf lgf=>al WH O λb3=>Ag O sizeOf177 O (q3 (sL [1,2,3] O) (al Hh O λb4=>?_)))))))
 refine zo 99 10 (zo 110 3 (oNl' (q2 (AD (v:=(pP b1 7)) (AA O underlying90 O sizeOf5 O) O (BF 9 (vK .u8 m.den) WG O (AD (CB (c:=((m.den%6:Nat):Int)) O O Z (Ij (a:=m.den) (b:=6))) O (AD (AT (c:=((B7 m:Nat):Int)) O O (W4 (a:=1) (b:=m.den%6) Z)) O (AD (Au (c:=((B7 m:Nat):Int)) O underlying5 underlying92 (Cg Z)) O (asg' O (q6 (sL [1,2,3,4,5] O) (q4 ?_)))))))))))
 refine asg' O (oNl' (zA (zJ ?_)))
 refine yS (tg λ(i:Nat) (p1:Option Addr) (c1:Nat) (ps:List Pt)=>i<=gf.x.pl.length/\OwnOk p1 ps.length c1/\ps=Se m (Fp m gf.x.pl) i) (tg λ(i:Nat) (p1:Option Addr) (c1:Nat) (ps:List Pt)=>[(2,(pP b2 0)),(3,(pP b3 0)),(4,(pP b4 0)),(5,(vK .u32 (B7 m))),(6,(vN i))]) (tg λ(i:Nat) (p1:Option Addr) (c1:Nat) (ps:List Pt)=>[rowW none 110 3 0 0 (rowsL Ac ([])),rowW p1 99 10 ps.length c1 (rowsL AZ ps),AX b4 30 ([(qz p1 ps.length c1),jj,jj]),AX b3 177 ([(qz gf.x.a.p gf.x.pl.length gf.x.a.c),(qz gf.x.b.p gf.x.ts.length gf.x.b.c),(qz gf.x.c.p gf.x.ss.length gf.x.c.c)]),AF gf.x.a.p (rowsL CW (Fp m gf.x.pl)),AF gf.x.b.p (rowsL Ac gf.x.ts),AF gf.x.c.p (rowsL Ac gf.x.ss),N2 gf,AX b2 30 ([jj,jj,jj]),AX b1 90 (Eu m),AF m.p (C5 m.cs)]) (tg λ(i:Nat) (p1:Option Addr) (c1:Nat) (ps:List Pt)=>gf.x.pl.length-i) 0 none 0 ([]:List Pt) (⟨xJ _,OwnOk.none,rfl⟩) (sF O) sr (λi p1 c1 ps hJ=>?_)
 obtain ⟨hi,h1,hps⟩:=hJ
 have hzl:(Fp m gf.x.pl).length=gf.x.pl.length:=by simp [Fp]
 have hll:=gf.x.inv.pll
 have hcl:=Ht m
 have hpl:ps.length<=108:=by rw [hps,KN (by rw [hzl];omega)];omega
 refine zX (q4 (AL O (AD (v:=(pP b3 0)) (AA O underlying177 O sizeOf175 O) O (BF 3 (qz gf.x.a.p gf.x.pl.length gf.x.a.c) M1 O (AD (v:=(vN gf.x.pl.length)) (AE O underlying175) O (AD (Aa (c:=(decide (i<gf.x.pl.length))) O O (DB (a:=i) (b:=gf.x.pl.length))) O (oNl' (zB (sL [2,3,4,5,6,20] O) (zA ?_)))))))))
 refine zL O (λhc0=>?_) (λhc0=>?_)
 ·replace hc0:=xT hc0
  refine zC (q1 (zJ (zX (DC (Er 17++[(17,false),(18,false)]) sr (Am (v:=(pP b3 0)) O (AA O underlying177 O sizeOf175 O) (BU 3 (qz gf.x.a.p gf.x.pl.length gf.x.a.c) M1 O (By O (Am (v:=(pP (pB gf.x.a.p) (pO gf.x.a.p+i*2))) O (AM (j:=i) O O gf.x.a.ok underlying175 sizeOf179 O Z) (Am (v:=(pP (pB gf.x.a.p) (pO gf.x.a.p+(i*2+0)))) O (AB (j:=0) O O underlying179 sizeOf2 O jY (Nat.add_assoc _ _ _)) (Am O (BG (v:=(vI (((Fp m gf.x.pl).getD i ((0,0):Int×Int)).1))) (i:=4) O O (Ay.ne gf.x.a.ok Z) Ny (EH F2 ((0,0):Int×Int) _ _ 0 Z jY O)) (By O ?_)))))))))))
  refine Am (v:=(aG ([(vI (((Fp m gf.x.pl).getD i ((0,0):Int×Int)).1)),(vK .u32 (B7 m))]))) O (AP (zs:=[(vI 0),(Value.int .u32 (0:Int))]) (vs:=[(vI (((Fp m gf.x.pl).getD i ((0,0):Int×Int)).1)),(vK .u32 (B7 m))]) (pv:=[(0,(vI (((Fp m gf.x.pl).getD i ((0,0):Int×Int)).1))),(1,(vK .u32 (B7 m)))]) (places:=[(0,1),(1,1)]) zeroValue94 underlying94 (λw=>by simp [sizeOf2,sizeOf92]) O O) (Am (v:=(pP b3 0)) O (AA O underlying177 O sizeOf175 O) (BU 3 (qz gf.x.a.p gf.x.pl.length gf.x.a.c) M1 O (By O (Am (v:=(pP (pB gf.x.a.p) (pO gf.x.a.p+i*2))) O (AM (j:=i) O O gf.x.a.ok underlying175 sizeOf179 O Z) (Am (v:=(pP (pB gf.x.a.p) (pO gf.x.a.p+(i*2+1)))) O (AB (j:=1) O O underlying179 sizeOf2 O jY (Nat.add_assoc _ _ _)) (Am O (BG (v:=(vI (((Fp m gf.x.pl).getD i ((0,0):Int×Int)).2))) (i:=4) O O (Ay.ne gf.x.a.ok Z) Ny (EH F2 ((0,0):Int×Int) _ _ 1 Z jY O)) (By O (Am (v:=(aG ([(vI (((Fp m gf.x.pl).getD i ((0,0):Int×Int)).2)),(vK .u32 (B7 m))]))) O (AP (zs:=[(vI 0),(Value.int .u32 (0:Int))]) (vs:=[(vI (((Fp m gf.x.pl).getD i ((0,0):Int×Int)).2)),(vK .u32 (B7 m))]) (pv:=[(0,(vI (((Fp m gf.x.pl).getD i ((0,0):Int×Int)).2))),(1,(vK .u32 (B7 m)))]) (places:=[(0,1),(1,1)]) zeroValue94 underlying94 (λw=>by simp [sizeOf2,sizeOf92]) O O) (Am (v:=(aG ([(vI (((Fp m gf.x.pl).getD i ((0,0):Int×Int)).1)),(vK .u32 (B7 m)),(vI (((Fp m gf.x.pl).getD i ((0,0):Int×Int)).2)),(vK .u32 (B7 m))]))) O (AP (zs:=[(vI 0),(Value.int .u32 (0:Int)),(vI 0),(Value.int .u32 (0:Int))]) (vs:=[(vI (((Fp m gf.x.pl).getD i ((0,0):Int×Int)).1)),(vK .u32 (B7 m)),(vI (((Fp m gf.x.pl).getD i ((0,0):Int×Int)).2)),(vK .u32 (B7 m))]) (pv:=[(0,(aG ([(vI (((Fp m gf.x.pl).getD i ((0,0):Int×Int)).1)),(vK .u32 (B7 m))]))),(1,(aG ([(vI (((Fp m gf.x.pl).getD i ((0,0):Int×Int)).2)),(vK .u32 (B7 m))])))]) (places:=[(0,2),(2,2)]) zeroValue96 underlying96 (λw=>by simp [sizeOf94]) O O) (zN O (al dH O λb5=>?_)))))))))))
  refine zD (sl sr) (zN O (Ag O sizeOf96 O (zD (sl sr) (zQ (zB (sL [2,3,4,5,6,7] O) (zA (rC [(0,true),(1,true),(2,true),(3,false),(4,false),(5,false),(6,true)] 7 [] (sk (sk (sl sr))) (sk (sk (sl sr))) jV (λ_ _ d _ _ h=>by cases d<;>exact h) (vE (v:=(pP b4 0)) O (AA O underlying30 O sizeOf28 O) O (vE O (AH (i:=2) (v:=(qz p1 ps.length c1)) O O C0.a O) O (vE (v:=(aG ([(vI (((Fp m gf.x.pl).getD i ((0,0):Int×Int)).1)),(vK .u32 (B7 m)),(vI (((Fp m gf.x.pl).getD i ((0,0):Int×Int)).2)),(vK .u32 (B7 m))]))) O (Aj (i:=0) (vs:=[(vI (((Fp m gf.x.pl).getD i ((0,0):Int×Int)).1)),(vK .u32 (B7 m)),(vI (((Fp m gf.x.pl).getD i ((0,0):Int×Int)).2)),(vK .u32 (B7 m))]) O O aB.a aB.s O O) O (zx O ?_)))))))))))
  refine ck' call37 (TY (TC m ((Fp m gf.x.pl).getD i (0,0))) (Y_ gf.x.inv.small Z)) O (zu (sk (sk (sl sr))) (zx O (zZ (V:=λb6=>(qz (jk b6) 1 1)) (T:=99) (cs:=AZ (CM (TC m ((Fp m gf.x.pl).getD i (0,0))))) (AI O) (Az (z:=.agg (AZ (⟨0,0⟩:Pt)).toArray) (cs:=AZ (CM (TC m ((Fp m gf.x.pl).getD i (0,0))))) (pv:=[(0,(aG (AZ (CM (TC m ((Fp m gf.x.pl).getD i (0,0)))))))]) underlying28 sizeOf99 zeroValue99 jY jY O (Lk (CM (TC m ((Fp m gf.x.pl).getD i (0,0)))))) O (BA O) λb6=>zu (sl (sk (sk (sl sr)))) (zx O (zr 3 (j:=0) (cs2:=rowsL AZ (ps++[CM (TC m ((Fp m gf.x.pl).getD i (0,0)))])) bU O h1 (AS An _) O O O O O jY (LG Z) Z (by rw [Bd];rfl) O λp_1 c_1 ho_1 hne_1=>zu (sl (sk (sk (sl sr)))) (vE (v:=(pP b4 0)) O (AA O underlying30 O sizeOf28 O) O (yJ O (F8 4 (off:=0) (vs:=[(qz p_1 (ps.length+1) c_1)]) (cs':=[(qz p_1 (ps.length+1) c_1),jj,jj]) (AI O) O sizeOf28 O (zD (sl (sk (sk (sl (sl sr))))) ?_)))))))))
  refine zQ (zB (sL [2,3,4,5,6,7] O) (zG (zA (zH (AL O (AD (AT (c:=((i+1:Nat):Int)) O O (AV (a:=i) (b:=1) Z)) O (asg' O (oNl' (zB (sL [2,3,4,5,6,7] O) ?_)))))))))
  rw [show ps.length+1=(ps++[CM (TC m ((Fp m gf.x.pl).getD i (0,0)))]).length by simp]
  exact z7 (i+1) p_1 c_1 (ps++[CM (TC m ((Fp m gf.x.pl).getD i (0,0)))]) (⟨Z,(by simpa using ho_1),by rw [hps,Vh (by rw [hzl];omega)]⟩) Z (sF O) (sl (sl sr))
 ·replace hc0:=xS hc0
  have hps9:ps.length=gf.x.pl.length:=by rw [hps,show i=gf.x.pl.length by omega,KN (by rw [hzl];omega)]
  have hfin:ps=Se m (Fp m gf.x.pl) gf.x.pl.length:=by rw [hps,show i=gf.x.pl.length by omega]
  refine zU (zO (yB (zP (q2 (AD (v:=(pP b3 1)) (AA O underlying177 O sizeOf23 O) O (BF 3 (qz gf.x.b.p gf.x.ts.length gf.x.b.c) C2 O (AD (v:=(pP b4 1)) (AA O underlying30 O sizeOf23 O) O (F8 2 (off:=1) (vs:=[(qz gf.x.b.p gf.x.ts.length gf.x.b.c)]) (cs':=[(qz p1 ps.length c1),(qz gf.x.b.p gf.x.ts.length gf.x.b.c),jj]) (AI O) O sizeOf23 O (q6 (sL [2,3,4,5,6] O) (q4 (asg' O ?_)))))))))))
  refine oNl' (zA (zJ ?_))
  refine yS (tg λ(j:Nat) (p2:Option Addr) (c2:Nat) (ss:List (Tq3))=>j<=gf.x.ss.length/\OwnOk p2 ss.length c2/\ss.length=j/\ss=gf.x.ss.take j) (tg λ(j:Nat) (p2:Option Addr) (c2:Nat) (ss:List (Tq3))=>[(2,(pP b2 0)),(3,(pP b3 0)),(4,(pP b4 0)),(8,(vN j))]) (tg λ(j:Nat) (p2:Option Addr) (c2:Nat) (ss:List (Tq3))=>[rowW p2 110 3 ss.length c2 (rowsL Ac ss),rowW p1 99 10 ps.length c1 (rowsL AZ ps),AX b4 30 ([(qz p1 ps.length c1),(qz gf.x.b.p gf.x.ts.length gf.x.b.c),(qz p2 ss.length c2)]),AX b3 177 ([(qz gf.x.a.p gf.x.pl.length gf.x.a.c),(qz gf.x.b.p gf.x.ts.length gf.x.b.c),(qz gf.x.c.p gf.x.ss.length gf.x.c.c)]),AF gf.x.a.p (rowsL CW (Fp m gf.x.pl)),AF gf.x.b.p (rowsL Ac gf.x.ts),AF gf.x.c.p (rowsL Ac gf.x.ss),N2 gf,AX b2 30 ([jj,jj,jj]),AX b1 90 (Eu m),AF m.p (C5 m.cs)]) (tg λ(j:Nat) (p2:Option Addr) (c2:Nat) (ss:List (Tq3))=>gf.x.ss.length-j) 0 none 0 ([]:List (Tq3)) (⟨xJ _,OwnOk.none,rfl,rfl⟩) (sF O) sr (λj p2 c2 ss hJ=>?_)
  obtain ⟨hj,h2,hsl,hsd⟩:=hJ
  have hgs:=gf.x.sl
  refine zX (q4 (AL O (AD (v:=(pP b3 2)) (AA O underlying177 O sizeOf23 O) O (BF 3 (qz gf.x.c.p gf.x.ss.length gf.x.c.c) C2 O (AD (v:=(vN gf.x.ss.length)) (AE O underlying23) O (AD (Aa (c:=(decide (j<gf.x.ss.length))) O O (DB (a:=j) (b:=gf.x.ss.length))) O (oNl' (zB (sL [2,3,4,8,54] O) (zA ?_)))))))))
  refine zL O (λhc1=>?_) (λhc1=>?_)
  ·replace hc1:=xT hc1
   refine zC (q1 (zJ (rC [(0,true),(1,true),(2,true),(3,true),(4,true),(5,true),(6,true),(7,true),(8,true),(9,true),(10,true),(11,true),(12,true),(13,true),(14,true),(15,true),(16,true),(17,true),(18,true),(19,true),(20,true),(21,false),(22,false),(23,true)] 24 [] (sl sr) (sk (sl sr)) jV (λ_ _ d _ _ h=>by cases d<;>exact h) (vE (v:=(pP b4 2)) O (AA O underlying30 O sizeOf24 O) O (vE O (AH (i:=1) (v:=(qz p2 ss.length c2)) O O O7.a O) O (vE (v:=(pP b3 2)) O (AA O underlying177 O sizeOf23 O) O (vE O (AH (i:=2) (v:=(qz gf.x.c.p gf.x.ss.length gf.x.c.c)) O O C2.a O) O (vM O O O (vE (v:=(pP (pB gf.x.c.p) (pO gf.x.c.p+j*3))) O (AM (j:=j) O O gf.x.c.ok underlying23 sizeOf105 O Z) O (vE (v:=(pP (pB gf.x.c.p) (pO gf.x.c.p+(j*3+0)))) O (AB (j:=0) O O underlying105 sizeOf3 O jY (Nat.add_assoc _ _ _)) O (vE O (BG (v:=(vN ((gf.x.ss.getD j jJ).1))) (i:=5) O O (Ay.ne gf.x.c.ok Z) Bm (EH Aq jJ _ _ 0 Z jY O)) O ?_)))))))))))
   refine vE (v:=(pP b3 2)) O (AA O underlying177 O sizeOf23 O) O (vE O (AH (i:=2) (v:=(qz gf.x.c.p gf.x.ss.length gf.x.c.c)) O O C2.a O) O (vM O O O (vE (v:=(pP (pB gf.x.c.p) (pO gf.x.c.p+j*3))) O (AM (j:=j) O O gf.x.c.ok underlying23 sizeOf105 O Z) O (vE (v:=(pP (pB gf.x.c.p) (pO gf.x.c.p+(j*3+1)))) O (AB (j:=1) O O underlying105 sizeOf3 O jY (Nat.add_assoc _ _ _)) O (vE O (BG (v:=(vN ((gf.x.ss.getD j jJ).2.1))) (i:=5) O O (Ay.ne gf.x.c.ok Z) Bm (EH Aq jJ _ _ 1 Z jY O)) O (vE (v:=(pP b3 2)) O (AA O underlying177 O sizeOf23 O) O (vE O (AH (i:=2) (v:=(qz gf.x.c.p gf.x.ss.length gf.x.c.c)) O O C2.a O) O (vM O O O (vE (v:=(pP (pB gf.x.c.p) (pO gf.x.c.p+j*3))) O (AM (j:=j) O O gf.x.c.ok underlying23 sizeOf105 O Z) O (vE (v:=(pP (pB gf.x.c.p) (pO gf.x.c.p+(j*3+2)))) O (AB (j:=2) O O underlying105 sizeOf3 O jY (Nat.add_assoc _ _ _)) O (vE O (BG (v:=(vN ((gf.x.ss.getD j jJ).2.2))) (i:=5) O O (Ay.ne gf.x.c.ok Z) Bm (EH Aq jJ _ _ 2 Z jY O)) O ?_)))))))))))
   refine vE (v:=(aG ([(vN ((gf.x.ss.getD j jJ).1)),(vN ((gf.x.ss.getD j jJ).2.1)),(vN ((gf.x.ss.getD j jJ).2.2))]))) O (AP (zs:=Ac jJ) (vs:=[(vN ((gf.x.ss.getD j jJ).1)),(vN ((gf.x.ss.getD j jJ).2.1)),(vN ((gf.x.ss.getD j jJ).2.2))]) (pv:=[(0,(vN ((gf.x.ss.getD j jJ).1))),(1,(vN ((gf.x.ss.getD j jJ).2.1))),(2,(vN ((gf.x.ss.getD j jJ).2.2)))]) (places:=[(0,1),(1,1),(2,1)]) zeroValue110 underlying110 (λw=>by simp [sizeOf3]) O O) O (zx O (zZ (V:=λb5=>(qz (jk b5) 1 1)) (T:=110) (cs:=Ac ((gf.x.ss.getD j jJ).1,(gf.x.ss.getD j jJ).2.1,(gf.x.ss.getD j jJ).2.2)) (AI O) (Az (z:=.agg (Ac jJ).toArray) (cs:=Ac ((gf.x.ss.getD j jJ).1,(gf.x.ss.getD j jJ).2.1,(gf.x.ss.getD j jJ).2.2)) (pv:=[(0,(aG ([(vN ((gf.x.ss.getD j jJ).1)),(vN ((gf.x.ss.getD j jJ).2.1)),(vN ((gf.x.ss.getD j jJ).2.2))])))]) underlying24 sizeOf110 zeroValue110 jY jY O (J0 ((gf.x.ss.getD j jJ).1,(gf.x.ss.getD j jJ).2.1,(gf.x.ss.getD j jJ).2.2))) O (BA O) λb5=>zu (sl (sl sr)) (zx O (AR.append1 (j:=0) (cs2:=rowsL Ac (ss++[((gf.x.ss.getD j jJ).1,(gf.x.ss.getD j jJ).2.1,(gf.x.ss.getD j jJ).2.2)])) Yd O h2 (AS Aq _) O O O O jY (LG Z) Z (by rw [Bd];rfl) O λp_2 c_2 ho_2 hne_2=>zu (sl (sl sr)) (vE (v:=(pP b4 2)) O (AA O underlying30 O sizeOf24 O) O (yJ O (F8 3 (off:=2) (vs:=[(qz p_2 (ss.length+1) c_2)]) (cs':=[(qz p1 ps.length c1),(qz gf.x.b.p gf.x.ts.length gf.x.b.c),(qz p_2 (ss.length+1) c_2)]) (AI O) O sizeOf24 O (zD (sl (sl (sk (sl sr)))) (zQ ?_)))))))))
   refine zB (sL [2,3,4,8] O) (zG (zA (zH (AL O (AD (AT (c:=((j+1:Nat):Int)) O O (AV (a:=j) (b:=1) Z)) O (asg' O (oNl' (zB (sL [2,3,4,8] O) ?_))))))))
   rw [show ss.length+1=(ss++[((gf.x.ss.getD j jJ).1,(gf.x.ss.getD j jJ).2.1,(gf.x.ss.getD j jJ).2.2)]).length by simp]
   exact z7 (j+1) p_2 c_2 (ss++[((gf.x.ss.getD j jJ).1,(gf.x.ss.getD j jJ).2.1,(gf.x.ss.getD j jJ).2.2)]) (⟨Z,(by simpa using ho_2),by simp [hsl],by rw [hsd];exact (M4 Z).symm⟩) Z (sF O) (sl sr)
  ·replace hc1:=xS hc1
   exact zU (zO (yB (zP (q2 (Al 2 Bz O (F8 8 (off:=0) (vs:=[(qz p1 ps.length c1),(qz gf.x.b.p gf.x.ts.length gf.x.b.c),(qz p2 ss.length c2)]) (cs':=[(qz p1 ps.length c1),(qz gf.x.b.p gf.x.ts.length gf.x.b.c),(qz p2 ss.length c2)]) (AI O) O sizeOf30 O (oNl' (zB (sL [2,3,4,8] O) (zA (zF (ret_one O (Ao (i:=8) (cs:=[(qz p1 ps.length c1),(qz gf.x.b.p gf.x.ts.length gf.x.b.c),(qz p2 ss.length c2)]) O O isAgg30 sizeOf30 O) (λw hw=>(Zs hw ⟨⟨MG.mk ps gf.x.ts ss (Xc gf.x hfin) (by have h9:=gf.x.sl;omega) ⟨m,by rw [hps9,hsd,show j=gf.x.ss.length by omega,List.take_length];exact gf.x.sd⟩ ⟨p1,c1,h1.row⟩ gf.x.b ⟨p2,c2,h2.row⟩,Xu gf.x hfin⟩,gf.ob,hw.asunder (i:=1) (j:=5) O O jY O,hw.asunder (i:=0) (j:=5) O O jY O⟩ (GS (S:=λ_=>False) hw 1 O h1 (AS An _)) (cz (Co hw 4 O (At.wm lgf))) (GS (S:=λ_=>False) hw 0 O h2 (AS Aq _)) (Yf hw 7 O (At.wmf lgf)) O)))))))))))))
theorem SN (m:MQ) (w:World) {S:Nat->Prop} (hm:Ro S w m):Calls prog 33 #[(aG (Eu m))] w (Bf (MF m) S w):=(SO m w hm).mono λe w1 h=>h.ofMGF
end
section
structure MX (ps:List Pt) (ts ss:List (Tq3)) where
  a:RX (rowsL AZ ps) ps.length
  b:RX (rowsL Ac ts) ts.length
  c:RX (rowsL Ac ss) ss.length
def Dj {ps:List Pt} {ts ss:List (Tq3)} (x:MX ps ts ss):List Value:=[x.a.val,x.b.val,x.c.val]
theorem az {ps:List Pt} {ts ss:List (Tq3)} {x:MX ps ts ss} {y:As} (hy:y∈[x.a.row,x.b.row,x.c.row]):y.ro=true:=by
  simp only [xN,List.not_mem_nil,or_false] at hy
  rcases hy with rfl|rfl|rfl<;>rfl
instance {ps:List Pt} {ts ss:List (Tq3)}:C4 (MX ps ts ss):=⟨λx=>aG (Dj x),λx=>[x.a.row,x.b.row,x.c.row],λx y hy=>az hy⟩
def MG.mx (g:MG):MX g.ps g.ts g.ss:=⟨g.a,g.b,g.c⟩
structure BX (cs:List Value) where
  b:Nat
instance {cs:List Value}:C4 (BX cs):=⟨λx=>pP x.b 0,λx=>[AF (some ⟨x.b,0,none⟩) cs],λx y hy=>by rcases xO.1 hy with rfl;rfl⟩
theorem HU {b:Nat} {T:TypeId} {cs:List Value} {o:Obj} (h:(AX b T cs).P o):(AF (jk b) cs).P o:=⟨cs.toArray,T,(0,0),h,by show (cs.toArray.toList.drop 0).take cs.length=cs;simp⟩
section
variable {S:Nat->Prop} {w W:World} {w0:BC} {L:List As} {ps:List Pt} {ts ss:List (Tq3)} {cs:List Value}
theorem bG {x:MX ps ts ss} (h:Ro S w x):Ro S w x.a:=λy hy=>by rcases xO.1 hy with rfl;exact h _ List.mem_cons_self
theorem Zu {x:MX ps ts ss} (h:Ro S w x):Ro S w x.b:=λy hy=>by rcases xO.1 hy with rfl;exact h _ (List.mem_cons_of_mem _ List.mem_cons_self)
theorem Uo (hw:BD w0 w L) (i:Nat) {x:BX cs} (hi:L[i]?=some (AF (some ⟨x.b,0,none⟩) cs)) (hb:w0.w.heap.size<=x.b):Ro (SL w0 S L) w x:=λy hy=>by
  rcases xO.1 hy with rfl
  exact ⟨hw.holds hi,λc e=>⟨⟨_,List.mem_of_getElem? hi,rfl,e⟩,.inl (by injection e with e;rw [<-e];exact hb)⟩⟩
end
section
variable {P:Program} {ops:Array Oper} {rest:List Oper} {Q:Exit->Act->World->Prop} {n d:Nat} {F:List (Nat×Value)} {w0:BC} {S:Nat->Prop} {L:List As} {t:TypeId} {p:String} {af:Array Edge} {y:Operand} {f:FuncId} {xs:List Operand} {args:List Value} {ts:Array TypeId}
theorem yN (i:Nat) {b:Nat} {T:TypeId} {cs:List Value} (hi:L[i]?=some (AX b T cs)) (hex:w0.ex=none) (next:w0.w.heap.size<=b->AR P ops rest Q n F w0 (L.set i (AF (jk b) cs))):AR P ops rest Q n F w0 L:=λa w ha hw=>by
  refine next ?_ a w ha (hw.freeze hi O (λo hp=>HU hp) (λe=>by cases e))
  rcases (hw.2.1 _ (List.mem_of_getElem? hi) b rfl).1 with h1|h1|h1
  · cases h1
  · exact h1
  · rw [hex] at h1;cases h1
end
def LT (n:Nat) (t:Tq3):Bool:=decide (t.1<n)&&decide (t.2.1<n)&&decide (t.2.2<n)&&!decide (t.1=t.2.1)&&!decide (t.2.1=t.2.2)&&!decide (t.2.2=t.1)
def Be (n:Nat) (ts:List (Tq3)):Bool:=ts.all (LT n)
theorem SY {ps:List Pt} {ts:List (Tq3)} (h:E_ ps ts):Be ps.length ts=true:=List.all_eq_true.2 λt ht=>by
  obtain ⟨j,hj,rfl⟩:=List.getElem_of_mem ht
  have k:=h.tri j hj
  rw [show ts.getD j (0,0,0)=ts[j] by rw [List.getD,xP hj];rfl] at k
  simp [LT,k.a,k.b,k.c,k.ab,k.bc,k.ca]
theorem Cb {n:Nat} {ts:List (Tq3)} (h:Be n ts=true) {j:Nat} (hj:j<ts.length):LT n (ts.getD j (0,0,0))=true:=by
  rw [List.getD,xP hj]
  exact List.all_eq_true.1 h _ (List.getElem_mem hj)
theorem DQ {n:Nat} {t:Tq3} (h:LT n t=true):t.1<n/\t.2.1<n/\t.2.2<n:=by
  simp [LT] at h;omega
theorem SZ {n:Nat} {ts:List (Tq3)} (h:∀q,q<ts.length->LT n (ts.getD q (0,0,0))=true):Be n ts=true:=List.all_eq_true.2 λt ht=>by
  obtain ⟨j,hj,rfl⟩:=List.getElem_of_mem ht
  have k:=h j hj
  rw [List.getD,xP hj] at k
  exact k
def idxB (n:Nat):List (Tq3)->Nat->Int
  | [],_ => -1
  | t::r,i=>if LT n t=true then idxB n r (i+1) else (i:Int)
theorem FW {α:Type} {ts:List α} {d:α} {j:Nat} (hj:j<ts.length):ts.drop j=ts.getD j d::ts.drop (j+1):=by
  rw [List.drop_eq_getElem_cons hj,List.getD,xP hj];rfl
theorem SB {n:Nat} {ts:List (Tq3)} {j:Nat} (hj:j<ts.length) (h:LT n (ts.getD j (0,0,0))=true):idxB n (ts.drop j) j=idxB n (ts.drop (j+1)) (j+1):=by
  rw [FW (d:=(0,0,0)) hj];exact if_pos h
theorem Ul {n:Nat} {ts:List (Tq3)} {j:Nat} (hj:j<ts.length) (h:LT n (ts.getD j (0,0,0))=false):idxB n (ts.drop j) j=(j:Int):=by
  rw [FW (d:=(0,0,0)) hj];exact if_neg (by rw [h];exact Bool.false_ne_true)
theorem Uk {n:Nat} {ts:List (Tq3)} {j:Nat} (hj:¬j<ts.length):idxB n (ts.drop j) j = -1:=by
  rw [List.drop_of_length_le Z];rfl
theorem Mi (n:Nat):∀(ts:List (Tq3)) (i:Nat),decide (0<=idxB n ts i)=!Be n ts
  | [],i=>rfl
  | t::r,i=>by
    unfold idxB Be
    rw [List.all_cons]
    cases h:LT n t with
    | true=>rw [if_pos rfl,Bool.true_and];exact Mi n r (i+1)
    | false=>rw [if_neg Bool.false_ne_true,Bool.false_and];simp
def cor (ps:List Pt) (k:Nat):Pt:=ps.getD k ⟨0,0⟩
def QW (a b c p:Pt):Nat:=if AN a b c=0 then 0 else Gb (AN p b c/AN a b c) (AN a p c/AN a b c) (AN a b p/AN a b c)
def Lv (ps:List Pt) (q:Pt) (t:Tq3):Nat:=QW (cor ps t.1) (cor ps t.2.1) (cor ps t.2.2) q
end
section
structure RM (N:Nat) (ts ss:List (Tq3)) where
  cs:List Value
  ds:List Value
  a:RX cs N
  b:RX (rowsL Ac ts) ts.length
  c:RX ds ss.length
def Wo {N:Nat} {ts ss:List (Tq3)} (x:RM N ts ss):List Value:=[x.a.val,x.b.val,x.c.val]
theorem bE {N:Nat} {ts ss:List (Tq3)} {x:RM N ts ss} {y:As} (hy:y∈[x.a.row,x.b.row,x.c.row]):y.ro=true:=by
  simp only [xN,List.not_mem_nil,or_false] at hy
  rcases hy with rfl|rfl|rfl<;>rfl
instance {N:Nat} {ts ss:List (Tq3)}:C4 (RM N ts ss):=⟨λx=>aG (Wo x),λx=>[x.a.row,x.b.row,x.c.row],λx y hy=>bE hy⟩
section
variable {S:Nat->Prop} {w:World} {N:Nat} {ts ss:List (Tq3)}
theorem bI {x:RM N ts ss} (h:Ro S w x):Ro S w x.b:=λy hy=>by rcases xO.1 hy with rfl;exact h _ (List.mem_cons_of_mem _ List.mem_cons_self)
end
def MX.rm {ps:List Pt} {ts ss:List (Tq3)} (x:MX ps ts ss):RM ps.length ts ss:=⟨rowsL AZ ps,rowsL Ac ss,x.a,x.b,x.c⟩
theorem ci {S:Nat->Prop} {w:World} {ps:List Pt} {ts ss:List (Tq3)} {x:MX ps ts ss} (h:Ro S w x):Ro S w x.rm:=λy hy=>h y hy
structure RU (N M K:Nat) where
  cs:List Value
  es:List Value
  ds:List Value
  a:RX cs N
  b:RX es M
  c:RX ds K
def eL {N M K:Nat} (x:RU N M K):List Value:=[x.a.val,x.b.val,x.c.val]
theorem bO {N M K:Nat} {x:RU N M K} {y:As} (hy:y∈[x.a.row,x.b.row,x.c.row]):y.ro=true:=by
  simp only [xN,List.not_mem_nil,or_false] at hy
  rcases hy with rfl|rfl|rfl<;>rfl
instance {N M K:Nat}:C4 (RU N M K):=⟨λx=>aG (eL x),λx=>[x.a.row,x.b.row,x.c.row],λx y hy=>bO hy⟩
end
section
set_option maxRecDepth 100000
theorem DT (p n:Nat) (w:World)  :Calls prog 148 #[(vN p),(vN n)] w (Ad w (qa (decide (p<n)))):=by
 refine AY (args:=[(vN p),(vN n)]) func148 O O (BA O) (zM (sL [0,1] O) (q4 (asg' O (oNl' (q2 (AL O (AD (ER (c:=(decide (0<=p))) O O (Xx (a:=0) (b:=p))) O (AL O ?_))))))))
 refine ze (FM:=[(0,(vN p)),(1,(vN n)),(4,(qa false)),(5,(vN p)),(6,(qa (decide (0<=p)))),(7,(qa (decide (0<=p)))),(11,(qa ((decide (0<=p))&&(decide (p<n)))))]) (LM:=[]) 4 ?_ ?_
 ·rcases xQ (decide (0<=p)) with hg1|hg1
  ·refine zI (k:=7) (u:=qa true) O (by rw [hg1]) ?_
   have hg1':=xT hg1
   exact Hk O (Hk O (BM (v:=(qa (decide (p<n)))) O (Aa (c:=(decide (p<n))) O O (DB (a:=p) (b:=n))) (AD (v:=(qa (decide (p<n)))) (AW O O) O (oNl' (zR Cc (xR _))))))
  ·refine zI (k:=7) (u:=qa false) O (by rw [hg1]) ?_
   have hg1':=xS hg1
   exact BO O (BO O (BO O (AD (v:=(qa false)) (AQ O O) O (oNl' (zR Cc (xR _))))))
 exact asg' O (oNl' (zB (sL [4] O) (zA (zF (ret_one O (rd_tmp (v:=(qa ((decide (0<=p))&&(decide (p<n))))) O) (λw hw=>⟨by simp,hw.out⟩))))))
theorem VR (t:Tq3) (n:Nat) (bo:BX [vN n]) (w:World) {S:Nat->Prop} (hbo:Ro S w bo):Calls prog 174 #[(aG (Ac t)),(pP bo.b 0)] w (Ad w (qa (!LT n t))):=by
 have lbo:=Da (W:=w) hbo
 refine Ah (args:=[(aG (Ac t)),(pP bo.b 0)]) (L:=[AF (some ⟨bo.b,0,none⟩) ([(vN n)])]) func174 O O (BA O) (Db hbo A7) (zM (sL [0,1] O) (q4 (BV (cs:=Ac t) O λb1=>asg' O (q3 (sL [1,2,3] O) (AD (v:=(pP b1 0)) (AB (j:=0) O O underlying105 sizeOf3 O jY O) O (BF 0 (vN t.1) Bm O (AD (BG (q:=some ⟨bo.b,0,none⟩) (v:=(vN n)) (off:=0) (i:=1) O O (λe=>by cases e) Bm O) O (ck' call148 (DT t.1 n) O (AD (BK (c:=(!(decide (t.1<n)))) O O) O (AL O ?_))))))))))
 refine ze (FM:=[(1,(pP bo.b 0)),(2,(pP b1 0)),(3,(qa false)),(4,(pP b1 0)),(5,(vN t.1)),(6,(vN n)),(7,(qa (decide (t.1<n)))),(8,(qa (!(decide (t.1<n))))),(9,(qa (!(decide (t.1<n))))),(15,(qa ((!(decide (t.1<n)))||(!(decide (t.2.1<n))))))]) (LM:=[AX b1 105 (Ac t),AF (some ⟨bo.b,0,none⟩) ([(vN n)])]) 6 ?_ ?_
 ·rcases xQ (!(decide (t.1<n))) with hg1|hg1
  ·refine zI (k:=9) (u:=qa true) O (by rw [hg1]) ?_
   have hg1':=hg1
   simp only [jK] at hg1'
   exact BO O (BO O (BO O (BO O (BO O (AD (v:=(qa true)) (AW O O) O (oNl' (zR Cc (xR _))))))))
  ·refine zI (k:=9) (u:=qa false) O (by rw [hg1]) ?_
   have hg1':=hg1
   simp only [jK] at hg1'
   exact BM (v:=(pP b1 1)) O (AB (j:=1) O O underlying105 sizeOf3 O jY O) (BM (v:=(vN t.2.1)) O (AH (i:=0) (v:=(vN t.2.1)) O O Bm.a O) (BM (v:=(vN n)) O (BG (q:=some ⟨bo.b,0,none⟩) (v:=(vN n)) (off:=0) (i:=1) O O (λe=>by cases e) Bm O) (zh (v:=(qa (decide (t.2.1<n)))) (Ab O) (Ar (args:=[(vN t.2.1),(vN n)]) O O call148) (λw hw=>DT t.2.1 n w) O (BA O) (BM (v:=(qa (!(decide (t.2.1<n))))) O (BK (c:=(!(decide (t.2.1<n)))) O O) (AD (v:=(qa (!(decide (t.2.1<n))))) (AQ O O) O (oNl' (zR Cc (xR _))))))))
 refine AL O ?_
 refine ze (FM:=[(1,(pP bo.b 0)),(2,(pP b1 0)),(3,(qa false)),(4,(pP b1 0)),(5,(vN t.1)),(6,(vN n)),(7,(qa (decide (t.1<n)))),(8,(qa (!(decide (t.1<n))))),(9,(qa (!(decide (t.1<n))))),(15,(qa ((!(decide (t.1<n)))||(!(decide (t.2.1<n)))))),(16,(qa ((!(decide (t.1<n)))||(!(decide (t.2.1<n)))))),(22,(qa (((!(decide (t.1<n)))||(!(decide (t.2.1<n))))||(!(decide (t.2.2<n))))))]) (LM:=[AX b1 105 (Ac t),AF (some ⟨bo.b,0,none⟩) ([(vN n)])]) 6 ?_ ?_
 ·rcases xQ ((!(decide (t.1<n)))||(!(decide (t.2.1<n)))) with hg2|hg2
  ·refine zI (k:=16) (u:=qa true) O (by rw [hg2]) ?_
   have hg2':=hg2
   simp only [jK] at hg2'
   exact BO O (BO O (BO O (BO O (BO O (AD (v:=(qa true)) (AW O O) O (oNl' (zR Hi (xR _))))))))
  ·refine zI (k:=16) (u:=qa false) O (by rw [hg2]) ?_
   have hg2':=hg2
   simp only [jK] at hg2'
   exact BM (v:=(pP b1 2)) O (AB (j:=2) O O underlying105 sizeOf3 O jY O) (BM (v:=(vN t.2.2)) O (AH (i:=0) (v:=(vN t.2.2)) O O Bm.a O) (BM (v:=(vN n)) O (BG (q:=some ⟨bo.b,0,none⟩) (v:=(vN n)) (off:=0) (i:=1) O O (λe=>by cases e) Bm O) (zh (v:=(qa (decide (t.2.2<n)))) (Ab O) (Ar (args:=[(vN t.2.2),(vN n)]) O O call148) (λw hw=>DT t.2.2 n w) O (BA O) (BM (v:=(qa (!(decide (t.2.2<n))))) O (BK (c:=(!(decide (t.2.2<n)))) O O) (AD (v:=(qa (!(decide (t.2.2<n))))) (AQ O O) O (oNl' (zR Hi (xR _))))))))
 refine AL O ?_
 refine ze (FM:=[(1,(pP bo.b 0)),(2,(pP b1 0)),(3,(qa false)),(4,(pP b1 0)),(5,(vN t.1)),(6,(vN n)),(7,(qa (decide (t.1<n)))),(8,(qa (!(decide (t.1<n))))),(9,(qa (!(decide (t.1<n))))),(15,(qa ((!(decide (t.1<n)))||(!(decide (t.2.1<n)))))),(16,(qa ((!(decide (t.1<n)))||(!(decide (t.2.1<n)))))),(22,(qa (((!(decide (t.1<n)))||(!(decide (t.2.1<n))))||(!(decide (t.2.2<n)))))),(23,(qa (((!(decide (t.1<n)))||(!(decide (t.2.1<n))))||(!(decide (t.2.2<n)))))),(29,(qa ((((!(decide (t.1<n)))||(!(decide (t.2.1<n))))||(!(decide (t.2.2<n))))||(decide (t.1=t.2.1)))))]) (LM:=[AX b1 105 (Ac t),AF (some ⟨bo.b,0,none⟩) ([(vN n)])]) 6 ?_ ?_
 ·rcases xQ (((!(decide (t.1<n)))||(!(decide (t.2.1<n))))||(!(decide (t.2.2<n)))) with hg3|hg3
  ·refine zI (k:=23) (u:=qa true) O (by rw [hg3]) ?_
   have hg3':=hg3
   simp only [jK] at hg3'
   exact BO O (BO O (BO O (BO O (BO O (AD (v:=(qa true)) (AW O O) O (oNl' (zR PJ (xR _))))))))
  ·refine zI (k:=23) (u:=qa false) O (by rw [hg3]) ?_
   have hg3':=hg3
   simp only [jK] at hg3'
   exact BM (v:=(pP b1 0)) O (AB (j:=0) O O underlying105 sizeOf3 O jY O) (BM (v:=(vN t.1)) O (AH (i:=0) (v:=(vN t.1)) O O Bm.a O) (BM (v:=(pP b1 1)) O (AB (j:=1) O O underlying105 sizeOf3 O jY O) (BM (v:=(vN t.2.1)) O (AH (i:=0) (v:=(vN t.2.1)) O O Bm.a O) (BM (v:=(qa (decide (t.1=t.2.1)))) O (BL (c:=(decide (t.1=t.2.1))) O O (N9 (a:=t.1) (b:=t.2.1))) (AD (v:=(qa (decide (t.1=t.2.1)))) (AQ O O) O (oNl' (zR PJ (xR _))))))))
 refine AL O ?_
 refine ze (FM:=[(1,(pP bo.b 0)),(2,(pP b1 0)),(3,(qa false)),(4,(pP b1 0)),(5,(vN t.1)),(6,(vN n)),(7,(qa (decide (t.1<n)))),(8,(qa (!(decide (t.1<n))))),(9,(qa (!(decide (t.1<n))))),(15,(qa ((!(decide (t.1<n)))||(!(decide (t.2.1<n)))))),(16,(qa ((!(decide (t.1<n)))||(!(decide (t.2.1<n)))))),(22,(qa (((!(decide (t.1<n)))||(!(decide (t.2.1<n))))||(!(decide (t.2.2<n)))))),(23,(qa (((!(decide (t.1<n)))||(!(decide (t.2.1<n))))||(!(decide (t.2.2<n)))))),(29,(qa ((((!(decide (t.1<n)))||(!(decide (t.2.1<n))))||(!(decide (t.2.2<n))))||(decide (t.1=t.2.1))))),(30,(qa ((((!(decide (t.1<n)))||(!(decide (t.2.1<n))))||(!(decide (t.2.2<n))))||(decide (t.1=t.2.1))))),(36,(qa (((((!(decide (t.1<n)))||(!(decide (t.2.1<n))))||(!(decide (t.2.2<n))))||(decide (t.1=t.2.1)))||(decide (t.2.1=t.2.2)))))]) (LM:=[AX b1 105 (Ac t),AF (some ⟨bo.b,0,none⟩) ([(vN n)])]) 6 ?_ ?_
 ·rcases xQ ((((!(decide (t.1<n)))||(!(decide (t.2.1<n))))||(!(decide (t.2.2<n))))||(decide (t.1=t.2.1))) with hg4|hg4
  ·refine zI (k:=30) (u:=qa true) O (by rw [hg4]) ?_
   have hg4':=hg4
   simp only [jK] at hg4'
   exact BO O (BO O (BO O (BO O (BO O (AD (v:=(qa true)) (AW O O) O (oNl' (zR PK (xR _))))))))
  ·refine zI (k:=30) (u:=qa false) O (by rw [hg4]) ?_
   have hg4':=hg4
   simp only [jK] at hg4'
   exact BM (v:=(pP b1 1)) O (AB (j:=1) O O underlying105 sizeOf3 O jY O) (BM (v:=(vN t.2.1)) O (AH (i:=0) (v:=(vN t.2.1)) O O Bm.a O) (BM (v:=(pP b1 2)) O (AB (j:=2) O O underlying105 sizeOf3 O jY O) (BM (v:=(vN t.2.2)) O (AH (i:=0) (v:=(vN t.2.2)) O O Bm.a O) (BM (v:=(qa (decide (t.2.1=t.2.2)))) O (BL (c:=(decide (t.2.1=t.2.2))) O O (N9 (a:=t.2.1) (b:=t.2.2))) (AD (v:=(qa (decide (t.2.1=t.2.2)))) (AQ O O) O (oNl' (zR PK (xR _))))))))
 refine AL O ?_
 refine ze (FM:=[(1,(pP bo.b 0)),(2,(pP b1 0)),(3,(qa false)),(4,(pP b1 0)),(5,(vN t.1)),(6,(vN n)),(7,(qa (decide (t.1<n)))),(8,(qa (!(decide (t.1<n))))),(9,(qa (!(decide (t.1<n))))),(15,(qa ((!(decide (t.1<n)))||(!(decide (t.2.1<n)))))),(16,(qa ((!(decide (t.1<n)))||(!(decide (t.2.1<n)))))),(22,(qa (((!(decide (t.1<n)))||(!(decide (t.2.1<n))))||(!(decide (t.2.2<n)))))),(23,(qa (((!(decide (t.1<n)))||(!(decide (t.2.1<n))))||(!(decide (t.2.2<n)))))),(29,(qa ((((!(decide (t.1<n)))||(!(decide (t.2.1<n))))||(!(decide (t.2.2<n))))||(decide (t.1=t.2.1))))),(30,(qa ((((!(decide (t.1<n)))||(!(decide (t.2.1<n))))||(!(decide (t.2.2<n))))||(decide (t.1=t.2.1))))),(36,(qa (((((!(decide (t.1<n)))||(!(decide (t.2.1<n))))||(!(decide (t.2.2<n))))||(decide (t.1=t.2.1)))||(decide (t.2.1=t.2.2))))),(37,(qa (((((!(decide (t.1<n)))||(!(decide (t.2.1<n))))||(!(decide (t.2.2<n))))||(decide (t.1=t.2.1)))||(decide (t.2.1=t.2.2))))),(43,(qa ((((((!(decide (t.1<n)))||(!(decide (t.2.1<n))))||(!(decide (t.2.2<n))))||(decide (t.1=t.2.1)))||(decide (t.2.1=t.2.2)))||(decide (t.2.2=t.1)))))]) (LM:=[AX b1 105 (Ac t),AF (some ⟨bo.b,0,none⟩) ([(vN n)])]) 6 ?_ ?_
 ·rcases xQ (((((!(decide (t.1<n)))||(!(decide (t.2.1<n))))||(!(decide (t.2.2<n))))||(decide (t.1=t.2.1)))||(decide (t.2.1=t.2.2))) with hg5|hg5
  ·refine zI (k:=37) (u:=qa true) O (by rw [hg5]) ?_
   have hg5':=hg5
   simp only [jK] at hg5'
   exact BO O (BO O (BO O (BO O (BO O (AD (v:=(qa true)) (AW O O) O (oNl' (zR PL (xR _))))))))
  ·refine zI (k:=37) (u:=qa false) O (by rw [hg5]) ?_
   have hg5':=hg5
   simp only [jK] at hg5'
   exact BM (v:=(pP b1 2)) O (AB (j:=2) O O underlying105 sizeOf3 O jY O) (BM (v:=(vN t.2.2)) O (AH (i:=0) (v:=(vN t.2.2)) O O Bm.a O) (BM (v:=(pP b1 0)) O (AB (j:=0) O O underlying105 sizeOf3 O jY O) (BM (v:=(vN t.1)) O (AH (i:=0) (v:=(vN t.1)) O O Bm.a O) (BM (v:=(qa (decide (t.2.2=t.1)))) O (BL (c:=(decide (t.2.2=t.1))) O O (N9 (a:=t.2.2) (b:=t.1))) (AD (v:=(qa (decide (t.2.2=t.1)))) (AQ O O) O (oNl' (zR PL (xR _))))))))
 exact asg' O (oNl' (zB (sL [3] O) (zA (zF (ret_one O (rd_tmp (v:=(qa ((((((!(decide (t.1<n)))||(!(decide (t.2.1<n))))||(!(decide (t.2.2<n))))||(decide (t.1=t.2.1)))||(decide (t.2.1=t.2.2)))||(decide (t.2.2=t.1))))) O) (λw hw=>⟨by congr 2;rw [Bool.eq_iff_iff];simp [LT]<;>omega,hw.out⟩))))))
theorem ZZ (n:Nat) (bo:BX [vN n]) (ts:List (Tq3)) (x:RX (rowsL Ac ts) ts.length) (hl:ts.length<4611686018427387904) (w:World) {S:Nat->Prop} (hbo:Ro S w bo) (hx:Ro S w x):Calls prog 218 #[(qz x.p ts.length x.c),(Value.func (.func 174) #[] #[(pP bo.b 0)])] w (Ad w (vI (idxB n ts 0))):=by
 have lbo:=Da (W:=w) hbo
 have lx:=Da (W:=w) hx
 refine Ah (args:=[(qz x.p ts.length x.c),(Value.func (.func 174) #[] #[(pP bo.b 0)])]) (L:=[AF (some ⟨bo.b,0,none⟩) ([(vN n)]),AF x.p (rowsL Ac ts)]) func218 O O (BA O) (Db hbo (Db hx A7)) (zM (sL [0,1] O) (q4 (asg' O (oNl' (q1 (q4 (AL O (AD (v:=(vN ts.length)) (AE O underlying23) O (AL O (oNl' (zB (sL [0,1,4,7,8] O) ?_)))))))))))
 refine zA (zJ ?_)
 refine zw (tg λ(j:Nat)=>j<=ts.length/\idxB n ts 0=idxB n (ts.drop j) j) (tg λ(j:Nat)=>[(0,(qz x.p ts.length x.c)),(1,(Value.func (.func 174) #[] #[(pP bo.b 0)])),(7,(vN ts.length)),(8,(vN j))]) (tg λ(j:Nat)=>[AF (some ⟨bo.b,0,none⟩) ([(vN n)]),AF x.p (rowsL Ac ts)]) (tg λ(j:Nat)=>ts.length-j) 0 (⟨xJ _,rfl⟩) (sF O) sr (λj hJ=>?_)
 obtain ⟨hj,he⟩:=hJ
 refine q4 (AD (Aa (c:=(decide (j<ts.length))) O O (DB (a:=j) (b:=ts.length))) O (oNl' (q1 ?_)))
 refine zL O (λhc0=>?_) (λhc0=>?_)
 ·replace hc0:=xT hc0
  refine zC (q1 (zJ (q4 (AL O (asg' O (q3 (sL [0,1,7,8,5] O) (AL O (AL O (AL O (AD (v:=(pP (pB x.p) (pO x.p+j*3))) (AM (j:=j) O O x.ok underlying23 sizeOf105 O Z) O (AD (v:=(aG (Ac (ts.getD j jJ)))) (AO (vs:=Ac (ts.getD j jJ)) (i:=1) O O (Ay.ne x.ok Z) C8 (Af Aq _ _ _ Z) (Aq _)) O ?_)))))))))))
  refine zh (v:=(qa (!LT n (ts.getD j jJ)))) (AI O) (Df (args:=[(aG (Ac (ts.getD j jJ)))]) (caps:=[(pP bo.b 0)]) (all:=[(aG (Ac (ts.getD j jJ))),(pP bo.b 0)]) O O O call174) (λw hw=>VR (ts.getD j jJ) n bo w (Co hw 0 O lbo)) O (BA O) (oNl' (zB (sL [0,1,7,8,5,16] O) (zA ?_)))
  refine zL O (λhc1=>?_) (λhc1=>?_)
  ·simp only [jK] at hc1
   have hfin:=he.trans (Ul Z (by simpa using hc1))
   exact q4 (AL O (asg' O (oNl' (zB (sL [0,1,7,8,5,4] O) (zA (zF (zS (zK (z6 (zS (zK (ret_one O (rd_tmp (v:=(vN j)) O) (λw hw=>⟨by rw [hfin],hw.out⟩)))))))))))))
  ·simp only [jK] at hc1
   exact zC (zG (zA (zH (AD (AT (c:=((j+1:Nat):Int)) O O (AV (a:=j) (b:=1) Z)) O (AL O (oNl' (zB (sL [0,1,7,8,5] O) (zl (j+1) (⟨Z,he.trans (SB Z (by simpa using hc1))⟩) Z (sF O) sr))))))))
 ·replace hc0:=xS hc0
  have hfin:=he.trans (Uk hc0)
  exact zU (zO (zW (zP (q2 (asg' O (oNl' (zA (zF (ret_one O (rd_tmp (v:=(vI (-1:Int))) O) (λw hw=>⟨by rw [hfin],hw.out⟩))))))))))
theorem XJ (n:Nat) (bo:BX [vN n]) (ts:List (Tq3)) (x:RX (rowsL Ac ts) ts.length) (hl:ts.length<4611686018427387904) (w:World) {S:Nat->Prop} (hbo:Ro S w bo) (hx:Ro S w x):Calls prog 173 #[(qz x.p ts.length x.c),(Value.func (.func 174) #[] #[(pP bo.b 0)])] w (Ad w (qa (!Be n ts))):=by
 have lbo:=Da (W:=w) hbo
 have lx:=Da (W:=w) hx
 refine Ah (args:=[(qz x.p ts.length x.c),(Value.func (.func 174) #[] #[(pP bo.b 0)])]) (L:=[AF (some ⟨bo.b,0,none⟩) ([(vN n)]),AF x.p (rowsL Ac ts)]) func173 O O (BA O) (Db hbo (Db hx A7)) (zM (sL [0,1] O) (q4 (asg' O (oNl' (q2 (AL O (AL O (DH call218 (λw hw=>ZZ n bo ts x hl w (Co hw 0 O lbo) (Co hw 1 O lx)) O (AD (ER (c:=(!Be n ts)) O O (Mi n ts 0)) O (asg' O (oNl' ?_)))))))))))
 exact zB (sL [4] O) (zA (zF (ret_one O (rd_tmp (v:=(qa (!Be n ts))) O) (λw hw=>⟨rfl,hw.out⟩))))
theorem RE (n:Nat) (ts:List (Tq3)) (x:RX (rowsL Ac ts) ts.length) (hl:ts.length<4611686018427387904) (w:World) {S:Nat->Prop} (hx:Ro S w x):Calls prog 110 #[(qz x.p ts.length x.c),(vN n)] w (Ad w (qa (Be n ts))):=by
 have lx:=Da (W:=w) hx
 refine Ah (args:=[(qz x.p ts.length x.c),(vN n)]) (L:=[AF x.p (rowsL Ac ts)]) func110 O O (BA O) (Db hx A7) (zM (sL [0,1] O) (q4 (BV (cs:=[(vN n)]) O λb1=>yN 0 O O λhnb1=>asg' O (q3 (sL [0,3,4] O) (AL O (AD (v:=(Value.func (.func 174) #[] #[(pP b1 0)])) (DL (vs:=[]) (us:=[(pP b1 0)]) O O) O (DH call173 (λw hw=>XJ n ⟨b1⟩ ts x hl w (Uo (x:=(⟨b1⟩:BX [vN n])) hw 0 O hnb1) (Co hw 1 O lx)) O (AD (BK (c:=(!(!Be n ts))) O O) O (asg' O ?_)))))))))
 exact oNl' (zB (sL [4] O) (zA (zF (ret_one O (rd_tmp (v:=(qa (!(!Be n ts)))) O) (λw hw=>⟨by simp,hw.out⟩)))))
theorem Rk {N:Nat} {ts ss:List (Tq3)} (x:RM N ts ss) (hl:ts.length<4611686018427387904) (w:World) {S:Nat->Prop} (hx:Ro S w x):Calls prog 43 #[(aG (Wo x))] w (Ad w (qa (Be N ts))):=by
 have lx:=Da (W:=w) hx
 refine Ah (args:=[(aG (Wo x))]) (L:=[AF x.a.p (x.cs),AF x.b.p (rowsL Ac ts),AF x.c.p (x.ds)]) func43 O O (BA O) (Db hx A7) (zM (sL [0] O) (q4 (BV (cs:=Wo x) O λb1=>asg' O (q3 (sL [1,2] O) (AD (v:=(pP b1 1)) (AA O underlying30 O sizeOf23 O) O (BF 0 (qz x.b.p ts.length x.b.c) C2 O (AD (v:=(pP b1 0)) (AA O underlying30 O sizeOf28 O) O (BF 0 (qz x.a.p N x.a.c) C0 O (AD (v:=(vN N)) (AE O underlying28) O (DH call110 (λw hw=>RE N ts x.b hl w (bI (Co hw 1 O lx))) O ?_))))))))))
 exact asg' O (oNl' (zB (sL [2] O) (zA (zF (ret_one O (rd_tmp (v:=(qa (Be N ts))) O) (λw hw=>⟨rfl,hw.out⟩))))))
end
section
set_option maxRecDepth 100000
theorem VL (a:Nat) (w:World)  :Calls prog 216 #[(vN a)] w (Ad w (qa false)):=by
 refine AY (args:=[(vN a)]) func216 O O (BA O) (zM (sL [0] O) (q4 (asg' O (oNl' (q2 (AL O (AL O (AD (CT (c:=false) O O jX) O (asg' O (oNl' (zB (sL [2] O) ?_)))))))))))
 exact zA (zF (ret_one O (rd_tmp (v:=(qa false)) O) (λw hw=>⟨rfl,hw.out⟩)))
theorem Qr (a b:Nat) (w:World)  :Calls prog 170 #[(vN a),(vN b)] w (Ad w (vI (EP a b))):=by
 refine AY (args:=[(vN a),(vN b)]) func170 O O (BA O) (zM (sL [0,1] O) (q4 (asg' O (oNl' (q2 (AL O (ck' call216 (VL a) O (asg' O (q3 (sL [0,1,4,5] O) (AL O (ck' call216 (VL b) O ?_)))))))))))
 refine asg' O (q6 (sL [0,1,4,5,6] O) (q4 (AL O (oNl' (zB (sL [0,1,4,6,11] O) (zA (zT O (zC (q1 (q4 (AL O ?_)))))))))))
 refine oNl' (zB (sL [0,1,4,6,13] O) (zA (zT O (zC (q1 (q4 (AL O (AL O (AD (Aa (c:=(decide (a<b))) O O (DB (a:=a) (b:=b))) O (oNl' (zB (sL [0,1,4,6,16] O) ?_)))))))))))
 refine zA ?_
 refine zL O (λhc3=>?_) (λhc3=>?_)
 ·replace hc3:=xT hc3
  have hr:=Qq hc3
  exact q4 (asg' O (oNl' (zA (zF (zK (ret_one O (rd_tmp (v:=(vI (-1:Int))) O) (λw hw=>⟨by rw [hr]<;>rfl,hw.out⟩)))))))
 ·replace hc3:=xS hc3
  refine zC (q1 (q4 (AL O (AL O (AD (D_ (c:=(decide (b<a))) O O (DB (a:=b) (b:=a))) O (oNl' (zB (sL [0,1,4,6,19] O) (zA ?_))))))))
  refine zL O (λhc4=>?_) (λhc4=>?_)
  ·replace hc4:=xT hc4
   have hr:=Qp hc3 hc4
   exact q4 (asg' O (oNl' (zA (zF (zK (ret_one O (rd_tmp (v:=(vI 1)) O) (λw hw=>⟨by rw [hr]<;>rfl,hw.out⟩)))))))
  ·replace hc4:=xS hc4
   have hr:=Qo hc3 hc4
   exact zC (q2 (asg' O (oNl' (zA (zF (ret_one O (rd_tmp (v:=(vI 0)) O) (λw hw=>⟨by rw [hr]<;>rfl,hw.out⟩)))))))
theorem T8 (a b:Int) (g:Nat) (w:World) (hg:w.heap[g]?=some (.cells ([(vI a),(vI b)]).toArray 3 (0,0))):Calls prog 169 #[(qz (jk g) 2 2)] w (λe w'=>e=.returned (Value.int .i64 (Va a b))/\Jm w w' (some g)/\w'.heap[g]?=some (.cells ([(vI a),(vI b)]).toArray 3 (0,0))):=by
 refine Ft (args:=[(qz (jk g) 2 2)]) (g:=g) (T:=3) (cs:=[(vI a),(vI b)]) func169 O O (BA O) hg (zM (sL [0] O) (q4 (asg' O (oNl' (q2 (asg' O (oNl' (q1 (q4 (AL O (AD (v:=(vI 2)) (AE O underlying32) O ?_)))))))))))
 refine AL O (oNl' (zB (sL [2,3,6,7,8] O) (zA (zJ (yC 4 (zf (q4 (AD (Aa (c:=true) O O jY) O (oNl' (q1 (zV O ?_)))))))))))
 refine zC (q1 (zJ (q4 (AD (v:=(pP g 0)) (AG (j:=0) O O underlying32 sizeOf3 O Z O) O (BF 0 (vI a) Bm O (asg' O (q3 (sL [2,3,6,7,8,5] O) (AL O (AL O (AD (CT (c:=(decide (a≠(0:Int)))) O O O) O (oNl' ?_)))))))))))
 refine zB (sL [2,3,6,7,8,5,14] O) (zA ?_)
 refine zL O (λhc1=>?_) (λhc1=>?_)
 ·replace hc1:=xT hc1
  have hr:Va a b=a:=if_pos hc1
  exact q4 (AL O (asg' O (oNl' (zB (sL [2,3,6,7,8,5] O) (zA (zF (zS (zK (zK (zS (zK (ret_one O (rd_tmp (v:=(vI a)) O) (λw hw=>⟨by rw [hr]<;>rfl,hw.1,hw.get (i:=0) O⟩)))))))))))))
 ·replace hc1:=xS hc1
  have hq:=hc1
  refine zC (zG (zA (zH (AD (AT (c:=(1:Int)) O O jY) O (AL O (oNl' (zB (sL [2,3,6,7,8,5] O) (zk (zf (q4 (AD (Aa (c:=true) O O jY) O ?_)))))))))))
  refine oNl' (q1 (zV O (zC (q1 (zJ (q4 (AD (v:=(pP g 1)) (AG (j:=1) O O underlying32 sizeOf3 O Z O) O (BF 0 (vI b) Bm O (asg' O (q3 (sL [2,3,6,7,8,5] O) (AL O ?_)))))))))))
  refine AL O (AD (CT (c:=(decide (b≠(0:Int)))) O O O) O (oNl' (zB (sL [2,3,6,7,8,5,14] O) (zA ?_))))
  refine zL O (λhc1=>?_) (λhc1=>?_)
  ·replace hc1:=xT hc1
   have hr:Va a b=b:=by rw [Va,if_neg hq,if_pos hc1]
   exact q4 (AL O (asg' O (oNl' (zB (sL [2,3,6,7,8,5] O) (zA (zF (zS (zK (zK (zS (zK (ret_one O (rd_tmp (v:=(vI b)) O) (λw hw=>⟨by rw [hr]<;>rfl,hw.1,hw.get (i:=0) O⟩)))))))))))))
  ·replace hc1:=xS hc1
   have hr:Va a b=0:=by rw [Va,if_neg hq,if_neg hc1]
   refine zC (zG (zA (zH (AD (AT (c:=(2:Int)) O O jY) O (AL O (oNl' (zB (sL [2,3,6,7,8,5] O) (zk (zf (q4 (AD (Aa (c:=false) O O jY) O ?_)))))))))))
   refine oNl' (q1 (zT O (zU (zO (zO (zP (q2 (AL O (asg' O (oNl' (zB (sL [2,3,6,7,8,5] O) ?_)))))))))))
   exact zA (zF (ret_one O (rd_tmp (v:=(vI 0)) O) (λw hw=>⟨by rw [hr]<;>rfl,hw.1,hw.get (i:=0) O⟩)))
end
end Go.Proofs.YtpolhpjiahbidaaGreatDoor
