import Derived.Test.YtpolhpjiahbidaaGreatDoorPart27
namespace Go.Proofs.YtpolhpjiahbidaaGreatDoor
open Go Go.RowKit Go.Proofs.Tryz
open Go.Value renaming slice→qw,bool→qa
set_option linter.unusedVariables false
set_option linter.unusedSimpArgs false
section
set_option maxRecDepth 100000
theorem Rv (w:World):Calls prog 42 #[(vI 0),(vI 0)] w (Ak w (aG (BB (⟨0,0⟩:Pt)))):=by
 have h:=KR 0 0 jY jY jY jY w
 rw [show (⟨((0:Int):Rat),((0:Int):Rat)⟩:Pt)=(⟨0,0⟩:Pt) from by decide +kernel] at h
 exact h
theorem Rm (w:World):Calls prog 42 #[(vI 1),(vI 0)] w (Ak w (aG (BB (⟨1,0⟩:Pt)))):=by
 have h:=KR 1 0 jY jY jY jY w
 rw [show (⟨((1:Int):Rat),((0:Int):Rat)⟩:Pt)=(⟨1,0⟩:Pt) from by decide +kernel] at h
 exact h
theorem Qq (w:World):Calls prog 42 #[(vI 1),(vI 1)] w (Ak w (aG (BB (⟨1,1⟩:Pt)))):=by
 have h:=KR 1 1 jY jY jY jY w
 rw [show (⟨((1:Int):Rat),((1:Int):Rat)⟩:Pt)=(⟨1,1⟩:Pt) from by decide +kernel] at h
 exact h
theorem RS (w:World):Calls prog 42 #[(vI 0),(vI 1)] w (Ak w (aG (BB (⟨0,1⟩:Pt)))):=by
 have h:=KR 0 1 jY jY jY jY w
 rw [show (⟨((0:Int):Rat),((1:Int):Rat)⟩:Pt)=(⟨0,1⟩:Pt) from by decide +kernel] at h
 exact h
def Hx:List Pt:=[⟨0,0⟩,⟨1,0⟩,⟨1,1⟩,⟨0,1⟩]
def I0:List T3:=[(1,2,0),(3,0,2)]
def GQ:List Pt:=[⟨0,0⟩,⟨1,0⟩,⟨1,1⟩,⟨0,1⟩,⟨1/2,1/2⟩]
def C5:List T3:=[(4,1,2),(4,0,1),(4,3,0),(4,2,3)]
def XI:List T3:=[(0,1,0),(0,3,0),(1,2,0),(2,3,0)]
def c8:List Pt:=[⟨0,0⟩,⟨1,0⟩,⟨1,1⟩,⟨0,1⟩,⟨1/2,1/2⟩,⟨1,1/2⟩]
def F6:List T3:=[(5,4,1),(5,2,4),(4,0,1),(4,3,0),(4,2,3)]
def cB:List T3:=[(0,1,0),(0,3,0),(1,5,0),(2,3,0),(2,5,0)]
theorem aL:∀(l:List E4) (p:E4->Bool),l=(BG I0).filter p->(∀e,p e=true↔Mn I0 (Mi I0 [0]) (e.a,e.b))->l=(BG I0).filter λe=>decide ((e.a,e.b)∈[((0,2):P2)]):=λl p h ha =>
 SM [((0,2):P2)] (by decide +kernel) (by decide +kernel) (λk hk=>.start ⟨0,xM.2 rfl,by decide,by decide,by rw [xM.1 hk];decide +kernel⟩) h ha
theorem aO:∀(l:List E4) (p:E4->Bool),l=(BG C5).filter p->(∀e,p e=true↔Mn C5 (Mi C5 [0]) (e.a,e.b))->l=(BG C5).filter λe=>decide ((e.a,e.b)∈[((1,2):P2)]):=λl p h ha =>
 SM [((1,2):P2)] (by decide +kernel) (by decide +kernel) (λk hk=>.start ⟨0,xM.2 rfl,by decide,by decide,by rw [xM.1 hk];decide +kernel⟩) h ha
theorem Zi {ps:List Pt} {ts ss:List T3} (x:MX ps ts ss):∃y:MN ps ts (ss.map Ba),Hi y=UU x/\∀{S:Nat->Prop} {w:World},Ro S w x->Ro S w y:=by
 obtain ⟨a,b,⟨cp,cc,cok⟩⟩:=x
 have hk:ss.length=(ss.map Ba).length:=(xI _).symm
 refine ⟨⟨a,b,⟨cp,cc,hk▸cok⟩⟩,?_,λ{S w} hx y hy=>?_⟩
 ·show [a.val,b.val,.slice cp (ss.map Ba).length cc]=[a.val,b.val,.slice cp ss.length cc]
  rw [<-hk]
 ·have hy:y∈[a.row,b.row,AB cp (rowsL AS (ss.map Ba))]:=hy
  rw [<-CR] at hy
  exact hx y hy
theorem Ad.toRdX {S:Nat->Prop} {W w:World} {en:Ending} {ps:List Pt} {ts ss:List T3} {l:List Nat} {e:Nat} (h:Ad (S8 ps (ts.map Ba) (ss.map Ba) l e) S W en w):Ad (ZY ps ts ss l e) S W en w:=by
 obtain ⟨⟨⟨⟨a,⟨bp,bc,bok⟩,⟨cp,cc,cok⟩⟩,ha,hb⟩,⟨qp,qok⟩⟩,h1,h2,h3⟩:=h
 have e1:(ts.map Ba).length=ts.length:=xI _
 have e2:(ss.map Ba).length=ss.length:=xI _
 refine ⟨⟨⟨a,⟨bp,bc,e1▸bok⟩,⟨cp,cc,e2▸cok⟩⟩,⟨qp,l.length,qok⟩⟩,?_,h2,λy hy=>?_⟩
 ·rw [h1]
  show Ending.returned (.tuple #[aG [a.val,.slice bp (ts.map Ba).length bc,.slice cp (ss.map Ba).length cc],.slice qp l.length l.length,vN e])=.returned (.tuple #[aG [a.val,.slice bp ts.length bc,.slice cp ss.length cc],.slice qp l.length l.length,vN e])
  rw [e1,e2]
 ·have hy:y∈[a.row,AB bp (rowsL Ac ts),AB cp (rowsL Ac ss),AB qp (inL l)]:=hy
  rw [CR ts,CR ss] at hy
  exact h3 y hy
theorem aJ (x:MX Hx I0 []) (y:RX (zL [0]) ([0]:List Int).length) (w:World) {S:Nat->Prop} (hx:Ro S w x) (hy:Ro S w y):Calls prog 19 #[(aG (UU x)),y.val] w (Ad (ZY GQ C5 XI [0,0,1,1] 0) S w):=by
 obtain ⟨x2,hx2,hro⟩:=Zi x
 have k:=OQ x2 [0] y (by decide +kernel) (VX (by decide +kernel) (by decide +kernel)) jY jY (by decide +kernel) (by decide +kernel) w (hro hx) hy
 rw [hx2] at k
 refine k.mono λe w' h=>?_
 obtain ⟨b,h1,h2,h3⟩:=h
 have hl:b.l=[⟨0,2,1,0⟩]:=by
  obtain ⟨p,g1,g2⟩:=b.cut.ex
  rw [aL _ p g1 g2];decide +kernel
 have hg:Ad (S8 (IP Hx (JS Hx.length b.l)) (Oq Hx.length b.l I0) (Fj Hx.length (([]:List T3).map Ba) (JS Hx.length b.l) (Oq Hx.length b.l I0)) (CY (Aq Hx.length b.l b.l.length) I0 I0.length) 0) S w e w':=⟨b.x,h1,h2,h3⟩
 rw [hl,show IP Hx (JS Hx.length [⟨0,2,1,0⟩])=GQ from by decide +kernel,show Oq Hx.length [⟨0,2,1,0⟩] I0=C5.map Ba from by decide +kernel,show Fj Hx.length (([]:List T3).map Ba) (JS Hx.length [⟨0,2,1,0⟩]) (C5.map Ba)=XI.map Ba from by decide +kernel,show CY (Aq Hx.length [⟨0,2,1,0⟩] ([⟨0,2,1,0⟩]:List E4).length) I0 I0.length=[0,0,1,1] from by decide +kernel] at hg
 exact hg.toRdX
theorem ao (x:MX GQ C5 XI) (y:RX (zL [0]) ([0]:List Int).length) (w:World) {S:Nat->Prop} (hx:Ro S w x) (hy:Ro S w y):Calls prog 19 #[(aG (UU x)),y.val] w (Ad (ZY c8 F6 cB [0,0,1,2,3] 0) S w):=by
 obtain ⟨x2,hx2,hro⟩:=Zi x
 have k:=OQ x2 [0] y (by decide +kernel) (VX (by decide +kernel) (by decide +kernel)) jY jY (by decide +kernel) (by decide +kernel) w (hro hx) hy
 rw [hx2] at k
 refine k.mono λe w' h=>?_
 obtain ⟨b,h1,h2,h3⟩:=h
 have hl:b.l=[⟨1,2,0,-1⟩]:=by
  obtain ⟨p,g1,g2⟩:=b.cut.ex
  rw [aO _ p g1 g2];decide +kernel
 have hg:Ad (S8 (IP GQ (JS GQ.length b.l)) (Oq GQ.length b.l C5) (Fj GQ.length ((XI:List T3).map Ba) (JS GQ.length b.l) (Oq GQ.length b.l C5)) (CY (Aq GQ.length b.l b.l.length) C5 C5.length) 0) S w e w':=⟨b.x,h1,h2,h3⟩
 rw [hl,show IP GQ (JS GQ.length [⟨1,2,0,-1⟩])=c8 from by decide +kernel,show Oq GQ.length [⟨1,2,0,-1⟩] C5=F6.map Ba from by decide +kernel,show Fj GQ.length ((XI:List T3).map Ba) (JS GQ.length [⟨1,2,0,-1⟩]) (F6.map Ba)=cB.map Ba from by decide +kernel,show CY (Aq GQ.length [⟨1,2,0,-1⟩] ([⟨1,2,0,-1⟩]:List E4).length) C5 C5.length=[0,0,1,2,3] from by decide +kernel] at hg
 exact hg.toRdX
theorem Ls (x0 x1 x2 x3:Pt):Instr.fill (λi=>some (i*10,10)) ((Array.range (4*10)).map ((Value.agg (BB (⟨0,0⟩:Pt)).toArray).cells[·%(Value.agg (BB (⟨0,0⟩:Pt)).toArray).cells.size]!)) [(0,.agg (BB x0).toArray),(1,.agg (BB x1).toArray),(2,.agg (BB x2).toArray),(3,.agg (BB x3).toArray)]=some (BB x0++BB x1++BB x2++BB x3).toArray:=by kernel_rfl
theorem B7 (x0 x1 x2:Nat):Instr.fill (λi=>some (i*1,1)) (Ac jJ).toArray [(0,vN x0),(1,vN x1),(2,vN x2)]=some (Ac (x0,x1,x2)).toArray:=by kernel_rfl
theorem J9 (x0 x1:Tq3):Instr.fill (λi=>some (i*3,3)) ((Array.range (2*3)).map ((Value.agg (Ac jJ).toArray).cells[·%(Value.agg (Ac jJ).toArray).cells.size]!)) [(0,.agg (Ac x0).toArray),(1,.agg (Ac x1).toArray)]=some (Ac x0++Ac x1).toArray:=by kernel_rfl
set_option maxHeartbeats 1000000 in
theorem LV  (w:World)  :Calls prog 18 #[] w (Ak w (qa true)):=by
 refine Ab (args:=[]) func18 O O (Av O) (zN sN (q4 (asg' O (oNl' (q2 (ck' call42 (Rv) O (ck' call42 (Rm) O (ck' call42 (Qq) O (ck' call42 (RS) O (zZ (V:=λb1=>(qw (jk b1) 4 4)) (T:=99) (cs:=BB (⟨0,0⟩:Pt)++BB (⟨1,0⟩:Pt)++BB (⟨1,1⟩:Pt)++BB (⟨0,1⟩:Pt)) (AJ O) (Af (z:=.agg (BB (⟨0,0⟩:Pt)).toArray) (cs:=BB (⟨0,0⟩:Pt)++BB (⟨1,0⟩:Pt)++BB (⟨1,1⟩:Pt)++BB (⟨0,1⟩:Pt)) (pv:=[(0,(aG (BB (⟨0,0⟩:Pt)))),(1,(aG (BB (⟨1,0⟩:Pt)))),(2,(aG (BB (⟨1,1⟩:Pt)))),(3,(aG (BB (⟨0,1⟩:Pt))))]) underlying28 sizeOf99 zeroValue99 jY jY O (Ls (⟨0,0⟩:Pt) (⟨1,0⟩:Pt) (⟨1,1⟩:Pt) (⟨0,1⟩:Pt))) O (Av O) λb1=>AG (v:=(aG (Ac (1,2,0)))) (BF (zs:=Ac jJ) (vs:=Ac (1,2,0)) (pv:=[(0,(vI 1)),(1,(vI 2)),(2,(vI 0))]) zeroValue105 underlying105 sizeOf3 O (B7 1 2 0)) O ?_))))))))))
 refine AG (v:=(aG (Ac (3,0,2)))) (BF (zs:=Ac jJ) (vs:=Ac (3,0,2)) (pv:=[(0,(vI 3)),(1,(vI 0)),(2,(vI 2))]) zeroValue105 underlying105 sizeOf3 O (B7 3 0 2)) O (zZ (V:=λb2=>(qw (jk b2) 2 2)) (T:=105) (cs:=Ac (1,2,0)++Ac (3,0,2)) (AJ O) (Af (z:=.agg (Ac jJ).toArray) (cs:=Ac (1,2,0)++Ac (3,0,2)) (pv:=[(0,(aG (Ac (1,2,0)))),(1,(aG (Ac (3,0,2))))]) underlying23 sizeOf105 zeroValue105 jY jY O (J9 (1,2,0) (3,0,2))) O (Av O) λb2=>AG (v:=(aG ([(qw (jk b1) 4 4),(qw (jk b2) 2 2),jj]))) (AT (zs:=[jj,jj,jj]) (vs:=[(qw (jk b1) 4 4),(qw (jk b2) 2 2),jj]) (pv:=[(0,(qw (jk b1) 4 4)),(1,(qw (jk b2) 2 2))]) (places:=[(0,1),(1,1),(2,1)]) zeroValue30 underlying30 (λw=>by simp [sizeOf23,sizeOf24,sizeOf28]) O O) O (al IM O λb3=>Ax O sizeOf30 O (AL.litM2 (S:=λ_=>False) (ps:=Hx) (ts:=I0) (λmm=>[AB mm.c.p (rowsL Ac ([]:List T3)),AR b3 30 (UU mm),AB mm.b.p (rowsL Ac I0),AB mm.a.p (rowsL BB Hx)]) 2 1 jY O O O O O λmm hmm=>q3 (sL [0,1] O) (BD 1 Do O (zZ (V:=λb4=>(qw (jk b4) 1 1)) (T:=3) (cs:=zL [0]) (AJ O) (Af (cs:=zL [0]) (pv:=[(0,(vI 0))]) underlying32 sizeOf3 zeroValue3 jY jY O jV) O (Av O) λb4=>yJ (z:=1) 1 O Z λho_b4=>yL 0 O ho_b4 O O O λhn_b4=>fG (S:=λ_=>False) (args:=[(aG (UU mm)),(qw (jk b4) 1 1)]) call19 (λw hw=>aJ mm ⟨(jk b4),1,ho_b4.row⟩ w (fE hw [4,3,1] O hmm) (inS hw 0 O (At.new hn_b4))) O λr1x hmr1x hqr1x=>?_)))))
 refine AM O (AG (AZ (v:=(aG (UU r1x.m))) O O) O (AG (AZ (v:=(qw r1x.q.p 4 r1x.q.c)) O O) O (AG (AZ (v:=(vI 0)) O O) O (al IM O λb5=>Ax O sizeOf30 O (asg' O (asg' O (q3 (sL [0,1,2,3,4] O) (BD 0 Do O (zZ (V:=λb6=>(qw (jk b6) 1 1)) (T:=3) (cs:=zL [0]) (AJ O) (Af (cs:=zL [0]) (pv:=[(0,(vI 0))]) underlying32 sizeOf3 zeroValue3 jY jY O jV) O (Av O) λb6=>yJ (z:=1) 1 O Z λho_b6=>?_)))))))))
 refine yL 0 O ho_b6 O O O λhn_b6=>fG (S:=λ_=>False) (args:=[(aG (UU r1x.m)),(qw (jk b6) 1 1)]) call19 (λw hw=>ao r1x.m ⟨(jk b6),1,ho_b6.row⟩ w (inS hw 2 O hmr1x) (inS hw 0 O (At.new hn_b6))) O λr2x hmr2x hqr2x=>AM O (AG (AZ (v:=(aG (UU r2x.m))) O O) O (AG (AZ (v:=(qw r2x.q.p 5 r2x.q.c)) O O) O (AG (AZ (v:=(vI 0)) O O) O (al IM O λb7=>Ax O sizeOf30 O (asg' O (asg' O (q6 (sL [0,1,2,3,4,5,6,7] O) (q4 ?_))))))))
 refine AM O (AG (Bt (c:=false) O O jY) O (AM O (Ds O (Au (v:=(qa false)) O (Bt (c:=false) O O jY) (AG (v:=(qa false)) (AI O O) O (AM O (Au (v:=(pP b5 1)) O (AA O underlying30 O sizeOf23 O) (Au (v:=(qw r1x.m.b.p C5.length r1x.m.b.c)) O (AE (i:=6) (v:=(qw r1x.m.b.p C5.length r1x.m.b.c)) O O B1.a O) (Au (v:=(vN C5.length)) O (AC O underlying23) (Au (v:=(qa false)) O (Bt (c:=false) O O jY) (AG (v:=(qa false)) (AI O O) O ?_)))))))))))
 refine AM O (Au (v:=(pP b5 0)) O (AA O underlying30 O sizeOf28 O) (Au (v:=(qw r1x.m.a.p GQ.length r1x.m.a.c)) O (AE (i:=6) (v:=(qw r1x.m.a.p GQ.length r1x.m.a.c)) O O GG.a O) (Au (v:=(vN GQ.length)) O (AC O underlying28) (Au (v:=(qa false)) O (Bt (c:=false) O O jY) (AG (v:=(qa false)) (AI O O) O (AM O (Ds O (Au (v:=(vI 4)) O (AC O underlying32) (Au (v:=(qa false)) O (Bt (c:=false) O O jY) (AG (v:=(qa false)) (AI O O) O (AM O ?_)))))))))))
 refine Au (v:=(pP b7 1)) O (AA O underlying30 O sizeOf23 O) (Au (v:=(qw r2x.m.b.p F6.length r2x.m.b.c)) O (AE (i:=0) (v:=(qw r2x.m.b.p F6.length r2x.m.b.c)) O O B1.a O) (Au (v:=(vN F6.length)) O (AC O underlying23) (Au (v:=(qa false)) O (Bt (c:=false) O O jY) (AG (v:=(qa false)) (AI O O) O (AM O (Ds O (Au (v:=(vI 5)) O (AC O underlying32) (Au (v:=(qa false)) O (Bt (c:=false) O O jY) (AG (v:=(qa false)) (AI O O) O (oNl' (zB (sL [0,1,2,3,5,6,65] O) ?_)))))))))))
 refine zA (zb O (zG (q2 (AG (v:=(pP b5 1)) (AA O underlying30 O sizeOf23 O) O (Az 6 (qw r1x.m.b.p C5.length r1x.m.b.c) B1 O (AG (v:=(pP (pB r1x.m.b.p) (pO r1x.m.b.p+0*3))) (AF (j:=0) O O r1x.m.b.ok underlying23 sizeOf105 O jY) O (AG (v:=(aG (Ac (C5.getD 0 jJ)))) (AQ (vs:=Ac (C5.getD 0 jJ)) (i:=8) O O (An.ne r1x.m.b.ok jY) B_ (Al Am _ _ _ jY) (Am _)) O (AG (v:=(aG (Ac (4,1,2)))) (BF (zs:=Ac jJ) (vs:=Ac (4,1,2)) (pv:=[(0,(vI 4)),(1,(vI 1)),(2,(vI 2))]) zeroValue105 underlying105 sizeOf3 O (B7 4 1 2)) O (AG (CT (c:=true) O O eqGuardType105 (FY (a:=C5.getD 0 jJ) (b:=(4,1,2)) 9998 O)) O (AM O (Au (v:=(pP b5 1)) O (AA O underlying30 O sizeOf23 O) ?_)))))))))))
 refine Au (v:=(qw r1x.m.b.p C5.length r1x.m.b.c)) O (AE (i:=6) (v:=(qw r1x.m.b.p C5.length r1x.m.b.c)) O O B1.a O) (Au (v:=(pP (pB r1x.m.b.p) (pO r1x.m.b.p+1*3))) O (AF (j:=1) O O r1x.m.b.ok underlying23 sizeOf105 O jY) (Au (v:=(aG (Ac (C5.getD 1 jJ)))) O (AQ (vs:=Ac (C5.getD 1 jJ)) (i:=8) O O (An.ne r1x.m.b.ok jY) B_ (Al Am _ _ _ jY) (Am _)) (Au (v:=(aG (Ac (4,0,1)))) O (BF (zs:=Ac jJ) (vs:=Ac (4,0,1)) (pv:=[(0,(vI 4)),(1,(vI 0)),(2,(vI 1))]) zeroValue105 underlying105 sizeOf3 O (B7 4 0 1)) (Au (v:=(qa true)) O (CT (c:=true) O O eqGuardType105 (FY (a:=C5.getD 1 jJ) (b:=(4,0,1)) 9998 O)) (AG (v:=(qa true)) (AN O O) O (AM O (Au (v:=(pP b5 1)) O (AA O underlying30 O sizeOf23 O) (Au (v:=(qw r1x.m.b.p C5.length r1x.m.b.c)) O (AE (i:=6) (v:=(qw r1x.m.b.p C5.length r1x.m.b.c)) O O B1.a O) (Au (v:=(pP (pB r1x.m.b.p) (pO r1x.m.b.p+2*3))) O (AF (j:=2) O O r1x.m.b.ok underlying23 sizeOf105 O jY) (Au (v:=(aG (Ac (C5.getD 2 jJ)))) O (AQ (vs:=Ac (C5.getD 2 jJ)) (i:=8) O O (An.ne r1x.m.b.ok jY) B_ (Al Am _ _ _ jY) (Am _)) (Au (v:=(aG (Ac (4,3,0)))) O (BF (zs:=Ac jJ) (vs:=Ac (4,3,0)) (pv:=[(0,(vI 4)),(1,(vI 3)),(2,(vI 0))]) zeroValue105 underlying105 sizeOf3 O (B7 4 3 0)) ?_)))))))))))
 refine Au (v:=(qa true)) O (CT (c:=true) O O eqGuardType105 (FY (a:=C5.getD 2 jJ) (b:=(4,3,0)) 9998 O)) (AG (v:=(qa true)) (AN O O) O (AM O (Au (v:=(pP b5 1)) O (AA O underlying30 O sizeOf23 O) (Au (v:=(qw r1x.m.b.p C5.length r1x.m.b.c)) O (AE (i:=6) (v:=(qw r1x.m.b.p C5.length r1x.m.b.c)) O O B1.a O) (Au (v:=(pP (pB r1x.m.b.p) (pO r1x.m.b.p+3*3))) O (AF (j:=3) O O r1x.m.b.ok underlying23 sizeOf105 O jY) (Au (v:=(aG (Ac (C5.getD 3 jJ)))) O (AQ (vs:=Ac (C5.getD 3 jJ)) (i:=8) O O (An.ne r1x.m.b.ok jY) B_ (Al Am _ _ _ jY) (Am _)) (Au (v:=(aG (Ac (4,2,3)))) O (BF (zs:=Ac jJ) (vs:=Ac (4,2,3)) (pv:=[(0,(vI 4)),(1,(vI 2)),(2,(vI 3))]) zeroValue105 underlying105 sizeOf3 O (B7 4 2 3)) (Au (v:=(qa true)) O (CT (c:=true) O O eqGuardType105 (FY (a:=C5.getD 3 jJ) (b:=(4,2,3)) 9998 O)) (AG (v:=(qa true)) (AN O O) O (AM O (Ds O ?_)))))))))))
 refine Au (v:=(pP (pB r1x.q.p) (pO r1x.q.p+1*1))) O (AF (j:=1) O O r1x.q.ok underlying32 sizeOf3 O jY) (Au (v:=(vN (([0,0,1,1]).getD 1 0))) O (AK (v:=(vN (([0,0,1,1]).getD 1 0))) (i:=10) O O (r1x.q.ok.ne jY) BN (I9 (l:=[0,0,1,1]) (j:=1) jY)) (Au (v:=(qa true)) O (BO (c:=true) O O jY) (AG (v:=(qa true)) (AN O O) O (AM O (Ds O (Au (v:=(pP (pB r1x.q.p) (pO r1x.q.p+2*1))) O (AF (j:=2) O O r1x.q.ok underlying32 sizeOf3 O jY) (Au (v:=(vN (([0,0,1,1]).getD 2 0))) O (AK (v:=(vN (([0,0,1,1]).getD 2 0))) (i:=10) O O (r1x.q.ok.ne jY) BN (I9 (l:=[0,0,1,1]) (j:=2) jY)) (Au (v:=(qa true)) O (BO (c:=true) O O jY) (AG (v:=(qa true)) (AN O O) O (asg' O (q6 (sL [0,1,2,3,5,6,8] O) ?_)))))))))))
 refine CQ (Db 35) sr (BT O (BT O (zQ (v:=(pP b7 1)) O (AH O) (AA O underlying30 O sizeOf23 O) O O (zQ (v:=(qw r2x.m.b.p F6.length r2x.m.b.c)) O (AH O) (AE (i:=0) (v:=(qw r2x.m.b.p F6.length r2x.m.b.c)) O O B1.a O) O O (zQ (v:=(pP (pB r2x.m.b.p) (pO r2x.m.b.p+0*3))) O (AH O) (AF (j:=0) O O r2x.m.b.ok underlying23 sizeOf105 O jY) O O (zQ (v:=(aG (Ac (F6.getD 0 jJ)))) O (AH O) (AQ (vs:=Ac (F6.getD 0 jJ)) (i:=2) O O (An.ne r2x.m.b.ok jY) B_ (Al Am _ _ _ jY) (Am _)) O O (zQ (v:=(aG (Ac (5,4,1)))) O (AH O) (BF (zs:=Ac jJ) (vs:=Ac (5,4,1)) (pv:=[(0,(vI 5)),(1,(vI 4)),(2,(vI 1))]) zeroValue105 underlying105 sizeOf3 O (B7 5 4 1)) O O (zQ (v:=(qa true)) O (AH O) (CT (c:=true) O O eqGuardType105 (FY (a:=F6.getD 0 jJ) (b:=(5,4,1)) 9998 O)) O O (Aj (v:=(qa true)) O (AN O O) (BT O (zQ (v:=(pP b7 1)) O (AH O) (AA O underlying30 O sizeOf23 O) O O ?_)))))))))))
 refine zQ (v:=(qw r2x.m.b.p F6.length r2x.m.b.c)) O (AH O) (AE (i:=0) (v:=(qw r2x.m.b.p F6.length r2x.m.b.c)) O O B1.a O) O O (zQ (v:=(pP (pB r2x.m.b.p) (pO r2x.m.b.p+1*3))) O (AH O) (AF (j:=1) O O r2x.m.b.ok underlying23 sizeOf105 O jY) O O (zQ (v:=(aG (Ac (F6.getD 1 jJ)))) O (AH O) (AQ (vs:=Ac (F6.getD 1 jJ)) (i:=2) O O (An.ne r2x.m.b.ok jY) B_ (Al Am _ _ _ jY) (Am _)) O O (zQ (v:=(aG (Ac (5,2,4)))) O (AH O) (BF (zs:=Ac jJ) (vs:=Ac (5,2,4)) (pv:=[(0,(vI 5)),(1,(vI 2)),(2,(vI 4))]) zeroValue105 underlying105 sizeOf3 O (B7 5 2 4)) O O (zQ (v:=(qa true)) O (AH O) (CT (c:=true) O O eqGuardType105 (FY (a:=F6.getD 1 jJ) (b:=(5,2,4)) 9998 O)) O O (Aj (v:=(qa true)) O (AN O O) (BT O (zQ (v:=(pP b7 1)) O (AH O) (AA O underlying30 O sizeOf23 O) O O (zQ (v:=(qw r2x.m.b.p F6.length r2x.m.b.c)) O (AH O) (AE (i:=0) (v:=(qw r2x.m.b.p F6.length r2x.m.b.c)) O O B1.a O) O O (zQ (v:=(pP (pB r2x.m.b.p) (pO r2x.m.b.p+2*3))) O (AH O) (AF (j:=2) O O r2x.m.b.ok underlying23 sizeOf105 O jY) O O (zQ (v:=(aG (Ac (F6.getD 2 jJ)))) O (AH O) (AQ (vs:=Ac (F6.getD 2 jJ)) (i:=2) O O (An.ne r2x.m.b.ok jY) B_ (Al Am _ _ _ jY) (Am _)) O O (zQ (v:=(pP b5 1)) O (AH O) (AA O underlying30 O sizeOf23 O) O O ?_)))))))))))
 refine zQ (v:=(qw r1x.m.b.p C5.length r1x.m.b.c)) O (AH O) (AE (i:=6) (v:=(qw r1x.m.b.p C5.length r1x.m.b.c)) O O B1.a O) O O (zQ (v:=(pP (pB r1x.m.b.p) (pO r1x.m.b.p+1*3))) O (AH O) (AF (j:=1) O O r1x.m.b.ok underlying23 sizeOf105 O jY) O O (zQ (v:=(aG (Ac (C5.getD 1 jJ)))) O (AH O) (AQ (vs:=Ac (C5.getD 1 jJ)) (i:=8) O O (An.ne r1x.m.b.ok jY) B_ (Al Am _ _ _ jY) (Am _)) O O (zQ (v:=(qa true)) O (AH O) (CT (c:=true) O O eqGuardType105 (FY (a:=F6.getD 2 jJ) (b:=C5.getD 1 jJ) 9998 O)) O O (Aj (v:=(qa true)) O (AN O O) (BT O (zQ (v:=(qw r2x.q.p 5 r2x.q.c)) O (AH O) (BE O) O O (zQ (v:=(pP (pB r2x.q.p) (pO r2x.q.p+4*1))) O (AH O) (AF (j:=4) O O r2x.q.ok underlying32 sizeOf3 O jY) O O (zQ (v:=(vN (([0,0,1,2,3]).getD 4 0))) O (AH O) (AK (v:=(vN (([0,0,1,2,3]).getD 4 0))) (i:=4) O O (r2x.q.ok.ne jY) BN (I9 (l:=[0,0,1,2,3]) (j:=4) jY)) O O (zQ (v:=(qa true)) O (AH O) (BO (c:=true) O O jY) O O (Aj (v:=(qa true)) O (AN O O) (pS' O ?_)))))))))))
 exact zT (zB (sL [0,1,2,3,5,6] O) (zA (zF (ret_one O (rd_tmp (v:=(qa true)) O) (λw hw=>⟨rfl,hw.out⟩)))))
end
end Go.Proofs.YtpolhpjiahbidaaGreatDoor
