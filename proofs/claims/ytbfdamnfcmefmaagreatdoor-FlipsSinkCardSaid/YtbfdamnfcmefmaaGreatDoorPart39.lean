import Derived.Test.YtbfdamnfcmefmaaGreatDoorPart38
namespace Go.Proofs.YtbfdamnfcmefmaaGreatDoor
open Go Go.RowKit Go.Proofs.Tryz
open Go.Value renaming slice→qz,bool→qa
set_option linter.unusedVariables false
set_option linter.unusedSimpArgs false
section
set_option maxRecDepth 100000
theorem QP (w:World):Calls prog 37 #[(vI 0),(vI (0))] w (Ag w (aG (AZ (⟨0,0⟩:Pt)))):=by
 have h:=KZ 0 (0) jY jY jY jY w
 rw [show (⟨((0:Int):Rat),((0:Int):Rat)⟩:Pt)=(⟨0,0⟩:Pt) from by decide +kernel] at h
 exact h
theorem PC (w:World):Calls prog 37 #[(vI 2),(vI (-1))] w (Ag w (aG (AZ (⟨2,-1⟩:Pt)))):=by
 have h:=KZ 2 (-1) jY jY jY jY w
 rw [show (⟨((2:Int):Rat),((-1:Int):Rat)⟩:Pt)=(⟨2,-1⟩:Pt) from by decide +kernel] at h
 exact h
theorem QR (w:World):Calls prog 37 #[(vI 4),(vI (0))] w (Ag w (aG (AZ (⟨4,0⟩:Pt)))):=by
 have h:=KZ 4 (0) jY jY jY jY w
 rw [show (⟨((4:Int):Rat),((0:Int):Rat)⟩:Pt)=(⟨4,0⟩:Pt) from by decide +kernel] at h
 exact h
theorem QQ (w:World):Calls prog 37 #[(vI 2),(vI (1))] w (Ag w (aG (AZ (⟨2,1⟩:Pt)))):=by
 have h:=KZ 2 (1) jY jY jY jY w
 rw [show (⟨((2:Int):Rat),((1:Int):Rat)⟩:Pt)=(⟨2,1⟩:Pt) from by decide +kernel] at h
 exact h
theorem Py {ps:List Pt} {ts ss:List T3} (x:MX ps ts ss) (u v:Int) {b:Bool} {e:Nat} (h1:XA ps ts u v=b) (h2:XB ts u v=e) (hnb:BV ps.length ts=true) (htl:ts.length<=1000000) (hN:ps.length<=1000000) (hz:∀i,Bn (cor ps i)<=200000) (w:World) {S:Nat->Prop} (hx:Ro S w x):Calls prog 18 #[(aG (Ce x)),(vI u),(vI v)] w (Ag w (.tuple #[.bool b,vN e])):=by
 subst h1 h2
 obtain ⟨y,hy,hro⟩:=Vn x
 have h9:=Tx y u v hnb htl hN hz w (hro hx)
 rw [hy] at h9
 exact h9
theorem Q9 {ps:List Pt} {ts ss:List T3} (x:MX ps ts ss) (u v:Int) {p':List Pt} {t':List T3} {s':List Z3} {e:Nat} (h:Nt ps ts u v=p'/\Nv ps ts u v=t'/\Nu ps ts (ss.map C8) u v=s'/\M2 ps ts u v=e) (hnb:BV ps.length ts=true) (htl:ts.length<=1000000) (hN:ps.length<=1000000) (hsl:ss.length<=1000000) (hz:∀i,Bn (cor ps i)<=200000) (w:World) {S:Nat->Prop} (hx:Ro S w x):Calls prog 19 #[(aG (Ce x)),(vI u),(vI v)] w (BS (SF p' t' s' e) S w):=by
 obtain ⟨rfl,rfl,rfl,rfl⟩:=h
 obtain ⟨y,hy,hro⟩:=Vn x
 have h9:=XL y u v hnb htl hN (by rw [xL];exact hsl) hz w (hro hx)
 rw [hy] at h9
 exact h9
theorem c9 {ps:List Pt} {ts ss:List T3} (x:MX ps ts ss) (hk:Fr ps ts ss) {t':List T3} (h1:H9 ps ts=true) (h2:FU ps ts=t') (h3:H9 ps t'=false) (hn2:BV ps.length t'=true) (hz:∀i,Bn (cor ps i)<=200000) (w:World) {S:Nat->Prop} (hx:Ro S w x):Calls prog 7 #[(aG (Ce x))] w (BS (bM ps t' (ss.map C8) 1 0) S w):=by
 subst h2
 have l1:=hk.pl
 have l2:=hk.tl
 have l3:=hk.sl
 have hcx:=λ(w:World) (S:Nat->Prop) (h:Ro S w x)=>Og x hk w h
 obtain ⟨y,hy,hro,hor⟩:=aA x
 have h9:=XJ y hk.num Z Z (by rw [xL];omega) hz (λw S h=>by have h8:=hcx w S (hor h);rw [<-hy] at h8;exact h8) h1 h3 hn2 w (hro hx)
 rw [hy] at h9
 exact h9
theorem Ty {ps:List Pt} {ts ss:List T3} (x:MX ps ts ss) (hnb:BV ps.length ts=true) (htl:ts.length<=8192) (hN:ps.length<=1000000) (hz:∀i,Bn (cor ps i)<=1000) (w:World) {S:Nat->Prop} (hx:Ro S w x):Calls prog 21 #[(aG (Ce x))] w (Ag w (aG (AG (EO ps ts)))):=by
 obtain ⟨y,hy,hro⟩:=Vn x
 have h9:=Q_ y htl hN hz hnb w (hro hx)
 rw [hy] at h9
 exact h9
theorem T_ {ps:List Pt} {ts:List T3} {ss:List Z3} (x y:MN ps ts ss) (hp:ps.length<=1000000) (ht:ts.length<=1000000) (hs:ss.length<=1000000) (w:World) {S:Nat->Prop} (hx:Ro S w x) (hy:Ro S w y):Calls prog 24 #[(aG (Cb x)),(aG (Cb y))] w (Ag w (qa true)):=by
 obtain ⟨y1,e1,r1⟩:=Rq x
 obtain ⟨y2,e2,r2⟩:=Rq y
 have h9:=UA y1 y2 hp (by rw [xL];exact ht) hs w (r1 hx) (r2 hy)
 rw [xJ ⟨rfl,rfl,rfl⟩,e1,e2] at h9
 exact h9
theorem L9 (x0 x1 x2 x3:Pt):Instr.fill (λi=>some (i*10,10)) ((Array.range (4*10)).map ((Value.agg (AZ (⟨0,0⟩:Pt)).toArray).cells[·%(Value.agg (AZ (⟨0,0⟩:Pt)).toArray).cells.size]!)) [(0,.agg (AZ x0).toArray),(1,.agg (AZ x1).toArray),(2,.agg (AZ x2).toArray),(3,.agg (AZ x3).toArray)]=some (AZ x0++AZ x1++AZ x2++AZ x3).toArray:=by kernel_rfl
theorem EB (x0 x1 x2:Nat):Instr.fill (λi=>some (i*1,1)) (Ad jJ).toArray [(0,vN x0),(1,vN x1),(2,vN x2)]=some (Ad (x0,x1,x2)).toArray:=by kernel_rfl
theorem L8 (x0 x1:Tq3):Instr.fill (λi=>some (i*3,3)) ((Array.range (2*3)).map ((Value.agg (Ad jJ).toArray).cells[·%(Value.agg (Ad jJ).toArray).cells.size]!)) [(0,.agg (Ad x0).toArray),(1,.agg (Ad x1).toArray)]=some (Ad x0++Ad x1).toArray:=by kernel_rfl
theorem L_ (x0 x1 x2 x3:Tq3):Instr.fill (λi=>some (i*3,3)) ((Array.range (4*3)).map ((Value.agg (Ad jJ).toArray).cells[·%(Value.agg (Ad jJ).toArray).cells.size]!)) [(0,.agg (Ad x0).toArray),(1,.agg (Ad x1).toArray),(2,.agg (Ad x2).toArray),(3,.agg (Ad x3).toArray)]=some (Ad x0++Ad x1++Ad x2++Ad x3).toArray:=by kernel_rfl
set_option maxHeartbeats 1000000 in
theorem Lc  (w:World) (hT:SI w):Calls prog 13 #[] w (Ag w (qa true)):=by
 have hf2:DH.length=2:=rfl
 refine AW (args:=[]) func13 O O (BE O) (zM sN (q4 (asg' O (oNl' (q2 (ck' call37 (QP) O (ck' call37 (PC) O (ck' call37 (QR) O (ck' call37 (QQ) O (ze (V:=λb1=>(qz (jk b1) 4 4)) (T:=78) (cs:=AZ (⟨0,0⟩:Pt)++AZ (⟨2,-1⟩:Pt)++AZ (⟨4,0⟩:Pt)++AZ (⟨2,1⟩:Pt)) (AK O) (A7 (z:=.agg (AZ (⟨0,0⟩:Pt)).toArray) (cs:=AZ (⟨0,0⟩:Pt)++AZ (⟨2,-1⟩:Pt)++AZ (⟨4,0⟩:Pt)++AZ (⟨2,1⟩:Pt)) (pv:=[(0,(aG (AZ (⟨0,0⟩:Pt)))),(1,(aG (AZ (⟨2,-1⟩:Pt)))),(2,(aG (AZ (⟨4,0⟩:Pt)))),(3,(aG (AZ (⟨2,1⟩:Pt))))]) underlying32 sizeOf78 zeroValue78 jY jY O (L9 (⟨0,0⟩:Pt) (⟨2,-1⟩:Pt) (⟨4,0⟩:Pt) (⟨2,1⟩:Pt))) O (BE O) λb1=>AC (v:=(aG (Ad (0,1,2)))) (Af (zs:=Ad jJ) (vs:=Ad (0,1,2)) (pv:=[(0,(vI 0)),(1,(vI 1)),(2,(vI 2))]) zeroValue71 underlying71 sizeOf3 O (EB 0 1 2)) O ?_))))))))))
 refine AC (v:=(aG (Ad (0,2,3)))) (Af (zs:=Ad jJ) (vs:=Ad (0,2,3)) (pv:=[(0,(vI 0)),(1,(vI 2)),(2,(vI 3))]) zeroValue71 underlying71 sizeOf3 O (EB 0 2 3)) O (ze (V:=λb2=>(qz (jk b2) 2 2)) (T:=71) (cs:=Ad (0,1,2)++Ad (0,2,3)) (AK O) (A7 (z:=.agg (Ad jJ).toArray) (cs:=Ad (0,1,2)++Ad (0,2,3)) (pv:=[(0,(aG (Ad (0,1,2)))),(1,(aG (Ad (0,2,3))))]) underlying28 sizeOf71 zeroValue71 jY jY O (L8 (0,1,2) (0,2,3))) O (BE O) λb2=>AC (v:=(aG ([(vI 0),(vI 1),(vI 0)]))) (AT (zs:=Ad jJ) (vs:=[(vI 0),(vI 1),(vI 0)]) (pv:=[(0,(vI 0)),(1,(vI 1))]) (places:=[(0,1),(1,1),(2,1)]) zeroValue80 underlying80 (λw=>by simp [sizeOf3]) O O) O (AC (v:=(aG ([(vI 0),(vI 3),(vI 0)]))) (AT (zs:=Ad jJ) (vs:=[(vI 0),(vI 3),(vI 0)]) (pv:=[(0,(vI 0)),(1,(vI 3))]) (places:=[(0,1),(1,1),(2,1)]) zeroValue80 underlying80 (λw=>by simp [sizeOf3]) O O) O (AC (v:=(aG ([(vI 1),(vI 2),(vI 0)]))) (AT (zs:=Ad jJ) (vs:=[(vI 1),(vI 2),(vI 0)]) (pv:=[(0,(vI 1)),(1,(vI 2))]) (places:=[(0,1),(1,1),(2,1)]) zeroValue80 underlying80 (λw=>by simp [sizeOf3]) O O) O (AC (v:=(aG ([(vI 2),(vI 3),(vI 0)]))) (AT (zs:=Ad jJ) (vs:=[(vI 2),(vI 3),(vI 0)]) (pv:=[(0,(vI 2)),(1,(vI 3))]) (places:=[(0,1),(1,1),(2,1)]) zeroValue80 underlying80 (λw=>by simp [sizeOf3]) O O) O (ze (V:=λb3=>(qz (jk b3) 4 4)) (T:=80) (cs:=Ad ((0,1,0):T3)++Ad ((0,3,0):T3)++Ad ((1,2,0):T3)++Ad ((2,3,0):T3)) (AK O) (A7 (z:=.agg (Ad jJ).toArray) (cs:=Ad ((0,1,0):T3)++Ad ((0,3,0):T3)++Ad ((1,2,0):T3)++Ad ((2,3,0):T3)) (pv:=[(0,(aG ([(vI 0),(vI 1),(vI 0)]))),(1,(aG ([(vI 0),(vI 3),(vI 0)]))),(2,(aG ([(vI 1),(vI 2),(vI 0)]))),(3,(aG ([(vI 2),(vI 3),(vI 0)])))]) underlying29 sizeOf80 zeroValue80 jY jY O (L_ ((0,1,0):T3) ((0,3,0):T3) ((1,2,0):T3) ((2,3,0):T3))) O (BE O) λb3=>AC (v:=(aG ([(qz (jk b1) 4 4),(qz (jk b2) 2 2),(qz (jk b3) 4 4)]))) (AT (zs:=[jj,jj,jj]) (vs:=[(qz (jk b1) 4 4),(qz (jk b2) 2 2),(qz (jk b3) 4 4)]) (pv:=[(0,(qz (jk b1) 4 4)),(1,(qz (jk b2) 2 2)),(2,(qz (jk b3) 4 4))]) (places:=[(0,1),(1,1),(2,1)]) zeroValue34 underlying34 (λw=>by simp [sizeOf28,sizeOf29,sizeOf32]) O O) O (al G_ O λb4=>Ah O sizeOf34 O (AU.litM (S:=λ_=>False) (ps:=CK) (ts:=Dh) (ss:=YB) (λmm=>[AX b4 34 (Ce mm),AP mm.c.p (rowsL Ad YB),AP mm.b.p (rowsL Ad Dh),AP mm.a.p (rowsL AZ CK)]) 3 2 1 jY O O O O O O λmm hmm=>q3 (sL [0,1] O) ?_)))))))
 refine Ai 0 Bg O (C7 call18 (λw hw=>Py mm 2 0 VR.1 VR.2 LY jY jY Im w (VK hw [3,2,1] O hmm)) O (AM O (AC (AJ (v:=(qa false)) O O) O (AC (AJ (v:=(vI 0)) O O) O (asg' O (asg' O (q3 (sL [0,1,2,3] O) (Ai 0 Bg O (yD (S:=λ_=>False) (α:=SF CK DH Gx 0) (args:=[(aG (Ce mm)),(vI 0),(vI 2)]) call19 (λw hw=>Q9 mm 0 2 Z7 LY jY jY jY Im w (VK hw [3,2,1] O hmm)) O O O λf lf=>AM O (AC (AJ (v:=(aG ([(qz f.x.a.p CK.length f.x.a.c),(qz f.x.b.p DH.length f.x.b.c),(qz f.x.c.p Gx.length f.x.c.c)]))) O O) O ?_))))))))))
 refine AC (AJ (v:=(vI 0)) O O) O (al G_ O λb5=>Ah O sizeOf34 O (asg' O (q3 (sL [0,1,2,3,4,5] O) (Ai 4 Bg O (yD (S:=λ_=>False) (α:=bM CK DH Gx 1 0) (args:=[(aG (Ce mm))]) call7 (λw hw=>c9 mm YC QO.1 QO.2.1 QO.2.2 VS Im w (VK hw [7,6,5] O hmm)) O O O λd ld=>AM O (AC (AJ (v:=(aG ([(qz d.x.a.p CK.length d.x.a.c),(qz d.x.b.p DH.length d.x.b.c),(qz d.x.c.p Gx.length d.x.c.c)]))) O O) O (AC (AJ (v:=(vI 1)) O O) O (AC (AJ (v:=(vI 0)) O O) O (al G_ O λb6=>?_)))))))))
 refine Ah O sizeOf34 O (asg' O (asg' O (q3 (sL [0,1,2,3,4,5,6,7,8] O) (Ai 8 Bg O (yD (S:=λ_=>False) (α:=SF [] [] [] 7) (args:=[(aG (Ce mm)),(vI 0),(vI 1)]) call19 (λw hw=>Q9 mm 0 1 Z5 LY jY jY jY Im w (VK hw [11,10,9] O hmm)) O O O λg lg=>AM O (AC (AJ (v:=(aG ([(qz g.x.a.p 0 g.x.a.c),(qz g.x.b.p 0 g.x.b.c),(qz g.x.c.p 0 g.x.c.c)]))) O O) O (AC (AJ (v:=(vI 7)) O O) O (al G_ O λb7=>Ah O sizeOf34 O (asg' O ?_)))))))))
 refine q3 (sL [0,1,2,3,4,5,6,7,8,10] O) (Ai 12 Bg O (yD (S:=λ_=>False) (α:=SF [] [] [] 1) (args:=[(aG (Ce mm)),(vI 1),(vI 3)]) call19 (λw hw=>Q9 mm 1 3 Z6 LY jY jY jY Im w (VK hw [15,14,13] O hmm)) O O O λk lk=>AM O (AC (AJ (v:=(aG ([(qz k.x.a.p 0 k.x.a.c),(qz k.x.b.p 0 k.x.b.c),(qz k.x.c.p 0 k.x.c.c)]))) O O) O (AC (AJ (v:=(vI 1)) O O) O (al G_ O λb8=>Ah O sizeOf34 O (asg' O (q3 (sL [0,1,2,3,4,5,6,7,8,10,12] O) (AM O (AC (BG (c:=true) O O) O ?_)))))))))
 refine AM O (F0 O (Av (v:=(qa true)) O (BM (c:=true) O O jY) (AC (v:=(qa true)) (AQ O O) O (AM O (F0 O (Av (v:=(qa true)) O (BM (c:=true) O O jY) (AC (v:=(qa true)) (AQ O O) O (AM O (Av (v:=(pP b5 1)) O (AA O underlying34 O sizeOf28 O) (Av (v:=(qz f.x.b.p DH.length f.x.b.c)) O (AD (i:=12) (v:=(qz f.x.b.p DH.length f.x.b.c)) O O CM.a O) (Av (v:=(vN DH.length)) O (AE O underlying28) ?_)))))))))))
 refine Av (v:=(qa true)) O (BM (c:=true) O O jY) (AC (v:=(qa true)) (AQ O O) O (AM O (Av (v:=(pP b5 1)) O (AA O underlying34 O sizeOf28 O) (Av (v:=(qz f.x.b.p DH.length f.x.b.c)) O (AD (i:=12) (v:=(qz f.x.b.p DH.length f.x.b.c)) O O CM.a O) (Av (v:=(pP (pB f.x.b.p) (pO f.x.b.p+0*3))) O (AO (j:=0) O O f.x.b.ok underlying28 sizeOf71 O Z) (Av (v:=(aG (Ad (DH.getD 0 jJ)))) O (AI (vs:=Ad (DH.getD 0 jJ)) (i:=14) O O (Aw.ne f.x.b.ok Z) Bm (Ae An _ _ _ Z) (An _)) (Av (v:=(aG (Ad (1,2,3)))) O (Af (zs:=Ad jJ) (vs:=Ad (1,2,3)) (pv:=[(0,(vI 1)),(1,(vI 2)),(2,(vI 3))]) zeroValue71 underlying71 sizeOf3 O (EB 1 2 3)) (Av (v:=(qa true)) O (By (c:=true) O O eqGuardType71 (DK (a:=DH.getD 0 jJ) (b:=(1,2,3)) 9998 (by decide +kernel))) (AC (v:=(qa true)) (AQ O O) O (AM O (Av (v:=(pP b5 1)) O (AA O underlying34 O sizeOf28 O) ?_)))))))))))
 refine Av (v:=(qz f.x.b.p DH.length f.x.b.c)) O (AD (i:=12) (v:=(qz f.x.b.p DH.length f.x.b.c)) O O CM.a O) (Av (v:=(pP (pB f.x.b.p) (pO f.x.b.p+1*3))) O (AO (j:=1) O O f.x.b.ok underlying28 sizeOf71 O Z) (Av (v:=(aG (Ad (DH.getD 1 jJ)))) O (AI (vs:=Ad (DH.getD 1 jJ)) (i:=14) O O (Aw.ne f.x.b.ok Z) Bm (Ae An _ _ _ Z) (An _)) (Av (v:=(aG (Ad (0,1,3)))) O (Af (zs:=Ad jJ) (vs:=Ad (0,1,3)) (pv:=[(0,(vI 0)),(1,(vI 1)),(2,(vI 3))]) zeroValue71 underlying71 sizeOf3 O (EB 0 1 3)) (Av (v:=(qa true)) O (By (c:=true) O O eqGuardType71 (DK (a:=DH.getD 1 jJ) (b:=(0,1,3)) 9998 (by decide +kernel))) (AC (v:=(qa true)) (AQ O O) O (AM O (Av (v:=(aG (Ce mm))) O (Ab (i:=16) (vs:=Ce mm) O O Bg.a Bg.s O O) (zg (v:=(aG (AG (EO CK Dh)))) (AY O) (Ao (args:=[(aG (Ce mm))]) O O call21) (λw hw=>Ty mm LY jY jY N9 w (VK hw [19,18,17] O hmm)) O (BE O) (zg (v:=(Value.string (txB (av (EO CK Dh))))) (AY O) (Ao (args:=[(aG (AG (EO CK Dh)))]) O O call38) (λw hw=>M1 (EO CK Dh) (by rw [QM];decide +kernel) (by rw [QM];decide +kernel) w (hT.below hw.out)) O (BE O) (Av (v:=(qa true)) O (Bj (c:=true) O O (by rw [QM];decide +kernel)) (AC (v:=(qa true)) (AQ O O) O ?_)))))))))))
 refine AM O (Av (v:=(aG ([(qz f.x.a.p CK.length f.x.a.c),(qz f.x.b.p DH.length f.x.b.c),(qz f.x.c.p Gx.length f.x.c.c)]))) O (Ab (i:=12) (vs:=[(qz f.x.a.p CK.length f.x.a.c),(qz f.x.b.p DH.length f.x.b.c),(qz f.x.c.p Gx.length f.x.c.c)]) O O Bg.a Bg.s O O) (zg (v:=(aG (AG (EO CK DH)))) (AY O) (Ao (args:=[(aG ([(qz f.x.a.p CK.length f.x.a.c),(qz f.x.b.p DH.length f.x.b.c),(qz f.x.c.p Gx.length f.x.c.c)]))]) O O call21) (λw hw=>Q_ f.x jY jY N9 VS w (VK (a:=f.x) hw [13,14,15] O lf)) O (BE O) (zg (v:=(Value.string (txB (av (EO CK DH))))) (AY O) (Ao (args:=[(aG (AG (EO CK DH)))]) O O call38) (λw hw=>M1 (EO CK DH) (by rw [QN];decide +kernel) (by rw [QN];decide +kernel) w (hT.below hw.out)) O (BE O) (Av (v:=(qa true)) O (Bj (c:=true) O O (by rw [QN];decide +kernel)) (AC (v:=(qa true)) (AQ O O) O (AM O (F0 O (Av (v:=(qa true)) O (BM (c:=true) O O jY) (AC (v:=(qa true)) (AQ O O) O (AM O (F0 O ?_)))))))))))
 refine Av (v:=(qa true)) O (BM (c:=true) O O jY) (AC (v:=(qa true)) (AQ O O) O (AM O (Av (v:=(aG ([(qz d.x.a.p CK.length d.x.a.c),(qz d.x.b.p DH.length d.x.b.c),(qz d.x.c.p Gx.length d.x.c.c)]))) O (Ab (i:=8) (vs:=[(qz d.x.a.p CK.length d.x.a.c),(qz d.x.b.p DH.length d.x.b.c),(qz d.x.c.p Gx.length d.x.c.c)]) O O Bg.a Bg.s O O) (Av (v:=(aG ([(qz f.x.a.p CK.length f.x.a.c),(qz f.x.b.p DH.length f.x.b.c),(qz f.x.c.p Gx.length f.x.c.c)]))) O (Ab (i:=12) (vs:=[(qz f.x.a.p CK.length f.x.a.c),(qz f.x.b.p DH.length f.x.b.c),(qz f.x.c.p Gx.length f.x.c.c)]) O O Bg.a Bg.s O O) (zg (v:=(qa true)) (AY O) (Ao (args:=[(aG ([(qz d.x.a.p CK.length d.x.a.c),(qz d.x.b.p DH.length d.x.b.c),(qz d.x.c.p Gx.length d.x.c.c)])),(aG ([(qz f.x.a.p CK.length f.x.a.c),(qz f.x.b.p DH.length f.x.b.c),(qz f.x.c.p Gx.length f.x.c.c)]))]) O O call24) (λw hw=>T_ d.x f.x jY jY jY w (VK (a:=d.x) hw [9,10,11] O ld) (VK (a:=f.x) hw [13,14,15] O lf)) O (BE O) (AC (v:=(qa true)) (AQ O O) O (AM O (F0 O (Av (v:=(qa true)) O (BM (c:=true) O O jY) (AC (v:=(qa true)) (AQ O O) O (AM O ?_)))))))))))
 exact F0 O (Av (v:=(qa true)) O (BM (c:=true) O O jY) (AC (v:=(qa true)) (AQ O O) O (asg' O (oNl' (zB (sL [0,1,4,6] O) (zA (zH (ret_one O (rd_tmp (v:=(qa true)) O) (λw hw=>⟨rfl,hw.out⟩)))))))))
end
section
set_option maxRecDepth 100000
theorem Ol {ps:List Pt} {ts ss:List T3} (x:MX ps ts ss) (hl:ts.length<=8192) (hz:∀k,Bn (cor ps k)<=1000) (hnb:BV ps.length ts=true) (w:World) {S:Nat->Prop} (hx:Ro S w x):Calls prog 23 #[(aG (Ce x))] w (Ag w (aG (AG (Fu ps ts ts.length)))):=by
 have lx:=Db (W:=w) hx
 refine Ak (args:=[(aG (Ce x))]) (L:=[AP x.a.p (rowsL AZ ps),AP x.b.p (rowsL Ad ts),AP x.c.p (rowsL Ad ss)]) func23 O O (BE O) (De hx A_) (zM (sL [0] O) (q4 (BZ (cs:=Ce x) O λb1=>al DV O λb2=>q3 (sL [1,2] O) (al DV O λb3=>oNl' (q1 (q4 (Ai 2 Bg O (C7 (args:=[(aG (Ce x))]) (v:=(qa true)) call46 (λw hw=>(by have h9:=XM x Z w (Cd hw 3 O lx);rw [hnb] at h9;exact h9)) O ?_))))))))
 refine AC (BG (c:=false) O O) O (oNl' (zB (sL [1,2,3,7] O) (zA (zP O (zC (q1 (q4 (AC (v:=(pP b1 1)) (AA O underlying34 O sizeOf28 O) O (BA 2 (qz x.b.p ts.length x.b.c) CM O (AC (v:=(vN ts.length)) (AE O underlying28) O (AM O ?_)))))))))))
 refine oNl' (zB (sL [1,2,3,11,12] O) (zA (zI ?_)))
 refine zw (tg λ(i:Nat)=>i<=ts.length) (tg λ(i:Nat)=>[(1,(pP b1 0)),(2,(pP b2 0)),(3,(pP b3 0)),(11,(vN ts.length)),(12,(vN i))]) (tg λ(i:Nat)=>[AX b3 68 (AG (Fu ps ts i)),AX b2 68 (AG (0:Rat)),AX b1 34 (Ce x),AP x.a.p (rowsL AZ ps),AP x.b.p (rowsL Ad ts),AP x.c.p (rowsL Ad ss)]) (tg λ(i:Nat)=>ts.length-i) 0 (xK _) (sF O) sr (λi hJ=>?_)
 have hi:=hJ
 refine q4 (AC (Aa (c:=(decide (i<ts.length))) O O (DF (a:=i) (b:=ts.length))) O (oNl' (q1 ?_)))
 refine zL O (λhc1=>?_) (λhc1=>?_)
 ·replace hc1:=xU hc1
  have hi2:=hc1
  have ha:=RE hz ts i
  have hb:=Kf hz (ts.getD i (0,0,0))
  have z0:=hz (ts.getD i (0,0,0)).1
  have z1:=hz (ts.getD i (0,0,0)).2.1
  have z2:=hz (ts.getD i (0,0,0)).2.2
  refine zC (q1 (zI (q4 (AM O (asg' O (oNl' (zB (sL [1,2,3,11,12,4] O) (zA (rC [(0,true),(1,true),(2,true),(3,false),(4,true),(5,true),(6,true),(7,false),(8,false)] 9 [] sr (sl sr) jV (λ_ _ d _ _ h=>by cases d<;>exact h) (vE (v:=(aG (AG (Fu ps ts i)))) O (Ab (i:=0) (vs:=AG (Fu ps ts i)) O O Bf.a Bf.s O O) O (vE (v:=(aG (Ce x))) O (Ab (i:=2) (vs:=Ce x) O O Bg.a Bg.s O O) O ?_)))))))))))
  refine vM O O O (zr O (C7 call55 (λw hw=>Pr x i hi2 (CQ hnb hi2) w (Cd hw 3 O lx)) O (zp sr (vE O (AJ (v:=(aG (AZ (cor ps (ts.getD i (0,0,0)).1)))) O O) O (vE O (AJ (v:=(aG (AZ (cor ps (ts.getD i (0,0,0)).2.1)))) O O) O (vE O (AJ (v:=(aG (AZ (cor ps (ts.getD i (0,0,0)).2.2)))) O O) O (zr O ?_)))))))
  have hz1:=D0 (cor ps (ts.getD i (0,0,0)).1) (cor ps (ts.getD i (0,0,0)).2.1) (cor ps (ts.getD i (0,0,0)).2.2)
  have hz2:=C2 (AF (cor ps (ts.getD i (0,0,0)).1) (cor ps (ts.getD i (0,0,0)).2.1) (cor ps (ts.getD i (0,0,0)).2.2)) (1/2)
  refine ck' call60 (Q8 (cor ps (ts.getD i (0,0,0)).1) (cor ps (ts.getD i (0,0,0)).2.1) (cor ps (ts.getD i (0,0,0)).2.2) Z) O (zp sr (zr O (ck' call58 (Ig (Fu ps ts i) (F9 ps (ts.getD i (0,0,0))) Z) O (zp sr (yJ O (Ah O sizeOf68 O (zG (sl sr) (zQ (zB (sL [1,2,3,11,12] O) (zF (zA ?_)))))))))))
  exact zD (AC (AR (c:=((i+1:Nat):Int)) O O (AS (a:=i) (b:=1) Z)) O (AM O (oNl' (zB (sL [1,2,3,11,12] O) (zh (i+1) Z Z (sF O) sr)))))
 ·replace hc1:=xT hc1
  have hie:i=ts.length:=by omega
  exact zU (zO (zX (zR (q2 (Ai 0 Bf O (CS O sizeOf68 O (oNl' (zB (sL [1,2,3,11,12] O) (zA (zH (ret_one O (Ap (i:=1) (cs:=AG (Fu ps ts i)) O O isAgg68 sizeOf68 O) (λw hw=>⟨by rw [hie],hw.out⟩))))))))))))
end
structure Hp where
  a:Rat
  b:Rat
  c:Rat
def Hp.v (h:Hp) (p:Pt):Rat:=h.a*p.x+h.b*p.y+h.c
def Gg (K:List Hp) (p:Pt):Prop:=∀h∈K,0<h.v p
theorem Cw {h:Hp} {K:List Hp} {p:Pt}:Gg (h::K) p↔0<h.v p/\Gg K p:=by
  unfold Gg
  constructor
  · intro k
    exact ⟨k h List.mem_cons_self,λg hg=>k g (List.mem_cons_of_mem _ hg)⟩
  · rintro ⟨k1,k2⟩ g hg
    rcases xO.1 hg with rfl|hg
    · exact k1
    · exact k2 g hg
theorem KP {p:Pt}:Gg [] p:=λh hh=>by cases hh
theorem dM (p q r s:Pt):∃c1 c2 c3 c4:Rat,c1+c2+c3+c4=0/\c1*p.x+c2*q.x+c3*r.x+c4*s.x=0/\c1*p.y+c2*q.y+c3*r.y+c4*s.y=0/\(c1≠0\/c2≠0\/c3≠0\/c4≠0):=by
  by_cases h:AF q r s=0/\AF p r s=0/\AF p q s=0/\AF p q r=0
  · obtain ⟨h1,h2,h3,h4⟩:=h
    simp only [BO] at h1 h2 h3 h4
    by_cases hx:p.x=q.x
    · by_cases hy:p.y=q.y
      · exact ⟨1,-1,0,0,by grind,by grind,by grind,.inl jY⟩
      · refine ⟨q.y-r.y,r.y-p.y,p.y-q.y,0,by grind,by grind,by grind,?_⟩
        exact .inr (.inr (.inl (by grind)))
    · refine ⟨q.x-r.x,r.x-p.x,p.x-q.x,0,by grind,by grind,by grind,?_⟩
      exact .inr (.inr (.inl (by grind)))
  · refine ⟨AF q r s,- AF p r s,AF p q s,- AF p q r,?_,?_,?_,?_⟩
    · simp only [BO];grind
    · simp only [BO];grind
    · simp only [BO];grind
    · grind
theorem PP {u v w A B C:Rat} (hu:0<=u) (hv:0<=v) (hw:0<=w) (hs:0<u+v+w) (hA:0<A) (hB:0<B) (hC:0<C):0<u*A+v*B+w*C:=by
  have h1:=Rat.mul_nonneg hu (Rat.le_of_lt hA)
  have h2:=Rat.mul_nonneg hv (Rat.le_of_lt hB)
  have h3:=Rat.mul_nonneg hw (Rat.le_of_lt hC)
  by_cases e1:0<u
  · have:=Rat.mul_pos e1 hA;grind
  · by_cases e2:0<v
    · have:=Rat.mul_pos e2 hB;grind
    · have e3:0<w:=by grind
      have:=Rat.mul_pos e3 hC;grind
def XF (c:Rat):Rat:=if 0<c then c else 0
def XE (c:Rat):Rat:=if 0<c then 0 else -c
theorem OK (c:Rat):0<=XF c:=by unfold XF;split<;>grind
theorem OJ (c:Rat):0<=XE c:=by unfold XE;split<;>grind
theorem Yh (c:Rat):c=XF c-XE c:=by unfold XF XE;split<;>grind
theorem Rx (c:Rat):XF c=0\/XE c=0:=by unfold XF XE;split<;>grind
theorem Qm {H1 H2 H3 H4:List Hp} {p q r s:Pt} (p2:Gg H2 p) (p3:Gg H3 p) (p4:Gg H4 p) (q1:Gg H1 q) (q3:Gg H3 q) (q4:Gg H4 q) (r1:Gg H1 r) (r2:Gg H2 r) (r4:Gg H4 r) (s1:Gg H1 s) (s2:Gg H2 s) (s3:Gg H3 s) :
    ∃x,Gg H1 x/\Gg H2 x/\Gg H3 x/\Gg H4 x:=by
  obtain ⟨c1,c2,c3,c4,h0,hx,hy,hne⟩:=dM p q r s
  have d1:=OK c1;have d2:=OK c2;have d3:=OK c3;have d4:=OK c4
  have e1:=OJ c1;have e2:=OJ c2;have e3:=OJ c3;have e4:=OJ c4
  have k1:=Yh c1;have k2:=Yh c2;have k3:=Yh c3;have k4:=Yh c4
  have z1:=Rx c1;have z2:=Rx c2;have z3:=Rx c3;have z4:=Rx c4
  generalize XF c1=u1 at *
  generalize XF c2=u2 at *
  generalize XF c3=u3 at *
  generalize XF c4=u4 at *
  generalize XE c1=v1 at *
  generalize XE c2=v2 at *
  generalize XE c3=v3 at *
  generalize XE c4=v4 at *
  have hS:0<u1+u2+u3+u4:=by grind
  have hT:v1+v2+v3+v4=u1+u2+u3+u4:=by grind
  obtain ⟨S,hSe⟩:∃S,S=u1+u2+u3+u4:=⟨_,rfl⟩
  have hSp:0<S:=by rw [hSe];exact hS
  have hi:S⁻¹*S=1:=Rat.inv_mul_cancel _ (by grind)
  have hip:0<S⁻¹:=Rat.inv_pos.2 hSp
  refine ⟨⟨(u1*p.x+u2*q.x+u3*r.x+u4*s.x)*S⁻¹,(u1*p.y+u2*q.y+u3*r.y+u4*s.y)*S⁻¹⟩,?_⟩
  have hv:∀h:Hp,h.v ⟨(u1*p.x+u2*q.x+u3*r.x+u4*s.x)*S⁻¹,(u1*p.y+u2*q.y+u3*r.y+u4*s.y)*S⁻¹⟩=(u1*h.v p+u2*h.v q+u3*h.v r+u4*h.v s)*S⁻¹:=λh=>by
    unfold Hp.v
    show h.a*((u1*p.x+u2*q.x+u3*r.x+u4*s.x)*S⁻¹)+h.b*((u1*p.y+u2*q.y+u3*r.y+u4*s.y)*S⁻¹)+h.c=_
    have:h.c=h.c*(S⁻¹*S):=by rw [hi,Rat.mul_one]
    rw [this,hSe]
    grind
  have hw:∀h:Hp,u1*h.v p+u2*h.v q+u3*h.v r+u4*h.v s=v1*h.v p+v2*h.v q+v3*h.v r+v4*h.v s:=λh=>by
    unfold Hp.v
    have y1:(u1-v1)*p.x+(u2-v2)*q.x+(u3-v3)*r.x+(u4-v4)*s.x=0:=by rw [<-k1,<-k2,<-k3,<-k4];exact hx
    have y2:(u1-v1)*p.y+(u2-v2)*q.y+(u3-v3)*r.y+(u4-v4)*s.y=0:=by rw [<-k1,<-k2,<-k3,<-k4];exact hy
    grind
  have mk:∀(h:Hp),0<u1*h.v p+u2*h.v q+u3*h.v r+u4*h.v s->0<h.v ⟨(u1*p.x+u2*q.x+u3*r.x+u4*s.x)*S⁻¹,(u1*p.y+u2*q.y+u3*r.y+u4*s.y)*S⁻¹⟩:=λh hp=>by
    rw [hv];exact Rat.mul_pos hp hip
  refine ⟨λh hh=>mk h ?_,λh hh=>mk h ?_,λh hh=>mk h ?_,λh hh=>mk h ?_⟩
  · rcases z1 with z|z
    · have:=PP d2 d3 d4 (by grind) (q1 h hh) (r1 h hh) (s1 h hh);rw [z];grind
    · rw [hw];have:=PP e2 e3 e4 (by grind) (q1 h hh) (r1 h hh) (s1 h hh);rw [z];grind
  · rcases z2 with z|z
    · have:=PP d1 d3 d4 (by grind) (p2 h hh) (r2 h hh) (s2 h hh);rw [z];grind
    · rw [hw];have:=PP e1 e3 e4 (by grind) (p2 h hh) (r2 h hh) (s2 h hh);rw [z];grind
  · rcases z3 with z|z
    · have:=PP d1 d2 d4 (by grind) (p3 h hh) (q3 h hh) (s3 h hh);rw [z];grind
    · rw [hw];have:=PP e1 e2 e4 (by grind) (p3 h hh) (q3 h hh) (s3 h hh);rw [z];grind
  · rcases z4 with z|z
    · have:=PP d1 d2 d3 (by grind) (p4 h hh) (q4 h hh) (r4 h hh);rw [z];grind
    · rw [hw];have:=PP e1 e2 e3 (by grind) (p4 h hh) (q4 h hh) (r4 h hh);rw [z];grind
theorem Zx {f1 f2 f3 g1 g2 g3:Hp} {a1 a2 a3 b1 b2 b3:Pt} (ha1:Gg [f1,g1,g2,g3] a1) (ha2:Gg [f2,g1,g2,g3] a2) (ha3:Gg [f3,g1,g2,g3] a3) (hb1:Gg [g1,f1,f2,f3] b1) (hb2:Gg [g2,f1,f2,f3] b2) (hb3:Gg [g3,f1,f2,f3] b3):∃x,Gg [f1,f2,f3] x/\Gg [g1,g2,g3] x:=by
  simp only [Cw] at ha1 ha2 ha3 hb1 hb2 hb3
  obtain ⟨x11,x12,x13,x14,_⟩:=ha1
  obtain ⟨x21,x22,x23,x24,_⟩:=ha2
  obtain ⟨x31,x32,x33,x34,_⟩:=ha3
  obtain ⟨y11,y12,y13,y14,_⟩:=hb1
  obtain ⟨y21,y22,y23,y24,_⟩:=hb2
  obtain ⟨y31,y32,y33,y34,_⟩:=hb3
  have one:∀{h:Hp} {p:Pt},0<h.v p->Gg [h] p:=λh=>Cw.2 ⟨h,KP⟩
  have two:∀{h g:Hp} {p:Pt},0<h.v p->0<g.v p->Gg [h,g] p:=λh k=>Cw.2 ⟨h,Cw.2 ⟨k,KP⟩⟩
  have un:∀{h:Hp} {p:Pt},Gg [h] p->0<h.v p:=λh=>(Cw.1 h).1
  have un2:∀{h g:Hp} {p:Pt},Gg [h,g] p->0<h.v p/\0<g.v p:=λh=>⟨(Cw.1 h).1,(Cw.1 (Cw.1 h).2).1⟩
  -- two of the one and two of the other
  have D:∀{fi fj:Hp} {p q:Pt},(0<fi.v p/\0<g2.v p/\0<g3.v p)->(0<fj.v q/\0<g2.v q/\0<g3.v q)->(0<fi.v b2/\0<fj.v b2)->(0<fi.v b3/\0<fj.v b3)->∃x,0<fi.v x/\0<fj.v x/\0<g2.v x/\0<g3.v x:=λ{fi fj p q} hp hq h2 h3=>by
    obtain ⟨x,e1,e2,e3,e4⟩:=Qm (H1:=[fi]) (H2:=[fj]) (H3:=[g2]) (H4:=[g3]) (p:=q) (q:=p) (r:=b3) (s:=b2) (one hq.1) (one hq.2.1) (one hq.2.2) (one hp.1) (one hp.2.1) (one hp.2.2) (one h3.1) (one h3.2) (one y31) (one h2.1) (one h2.2) (one y21)
    exact ⟨x,un e1,un e2,un e3,un e4⟩
  -- two of the one and all of the other
  have E:∀{fi fj:Hp} {p q:Pt},(0<fi.v p/\0<g1.v p/\0<g2.v p/\0<g3.v p)->(0<fj.v q/\0<g1.v q/\0<g2.v q/\0<g3.v q)->(0<fi.v b1/\0<fj.v b1)->(0<fi.v b2/\0<fj.v b2)->(0<fi.v b3/\0<fj.v b3)->∃x,0<fi.v x/\0<fj.v x/\0<g1.v x/\0<g2.v x/\0<g3.v x:=λ{fi fj p q} hp hq h1 h2 h3=>by
    obtain ⟨r,r1,r2,r3,r4⟩:=D ⟨hp.1,hp.2.2.1,hp.2.2.2⟩ ⟨hq.1,hq.2.2.1,hq.2.2.2⟩ h2 h3
    obtain ⟨x,e1,e2,e3,e4⟩:=Qm (H1:=[fi]) (H2:=[fj]) (H3:=[g1]) (H4:=[g2,g3]) (p:=q) (q:=p) (r:=r) (s:=b1) (one hq.1) (one hq.2.1) (two hq.2.2.1 hq.2.2.2) (one hp.1) (one hp.2.1) (two hp.2.2.1 hp.2.2.2) (one r1) (one r2) (two r3 r4) (one h1.1) (one h1.2) (one y11)
    exact ⟨x,un e1,un e2,un e3,(un2 e4).1,(un2 e4).2⟩
  obtain ⟨p,p1,p2,p3,p4,p5⟩:=E ⟨x21,x22,x23,x24⟩ ⟨x31,x32,x33,x34⟩ ⟨y13,y14⟩ ⟨y23,y24⟩ ⟨y33,y34⟩
  obtain ⟨q,q1,q2,q3,q4,q5⟩:=E ⟨x11,x12,x13,x14⟩ ⟨x31,x32,x33,x34⟩ ⟨y12,y14⟩ ⟨y22,y24⟩ ⟨y32,y34⟩
  obtain ⟨r,r1,r2,r3,r4,r5⟩:=E ⟨x11,x12,x13,x14⟩ ⟨x21,x22,x23,x24⟩ ⟨y12,y13⟩ ⟨y22,y23⟩ ⟨y32,y33⟩
  have thr:∀{h g k:Hp} {p:Pt},0<h.v p->0<g.v p->0<k.v p->Gg [h,g,k] p:=λa b c=>Cw.2 ⟨a,Cw.2 ⟨b,Cw.2 ⟨c,KP⟩⟩⟩
  obtain ⟨x,e1,e2,e3,e4⟩:=Qm (H1:=[f1]) (H2:=[f2]) (H3:=[f3]) (H4:=[g1,g2,g3]) (p:=p) (q:=q) (r:=r) (s:=b1) (one p1) (one p2) (thr p3 p4 p5) (one q1) (one q2) (thr q3 q4 q5) (one r1) (one r2) (thr r3 r4 r5) (one y12) (one y13) (one y14)
  exact ⟨x,thr (un e1) (un e2) (un e3),e4⟩
theorem di {f g1 g2 g3:Hp} {b g:Pt} (hf:0<f.v b) (h1:0<=g1.v b) (h2:0<=g2.v b) (h3:0<=g3.v b) (k1:0<g1.v g) (k2:0<g2.v g) (k3:0<g3.v g):∃x,Gg [f,g1,g2,g3] x:=by
  have mk:∀e:Rat,0<e->e<=1->0<(1-e)*f.v b+e*f.v g->∃x,Gg [f,g1,g2,g3] x:=λe e0 e1 hp=>by
    refine ⟨⟨(1-e)*b.x+e*g.x,(1-e)*b.y+e*g.y⟩,?_⟩
    have hv:∀h:Hp,h.v ⟨(1-e)*b.x+e*g.x,(1-e)*b.y+e*g.y⟩=(1-e)*h.v b+e*h.v g:=λh=>by unfold Hp.v;grind
    have hn:∀h:Hp,0<=h.v b->0<h.v g->0<(1-e)*h.v b+e*h.v g:=λh y1 y2=>by
      have y3:=Rat.mul_nonneg (show 0<=1-e by grind) y1
      have y4:=Rat.mul_pos e0 y2
      grind
    simp only [Cw]
    refine ⟨by rw [hv];exact hp,by rw [hv];exact hn _ h1 k1,by rw [hv];exact hn _ h2 k2,by rw [hv];exact hn _ h3 k3,KP⟩
  by_cases hg:0<f.v g
  · exact mk 1 jY jY (by grind)
  · have hd:0<2*(f.v b-f.v g):=by grind
    have hi:(2*(f.v b-f.v g))⁻¹*(2*(f.v b-f.v g))=1:=Rat.inv_mul_cancel _ (by grind)
    have hip:0<(2*(f.v b-f.v g))⁻¹:=Rat.inv_pos.2 hd
    generalize (2*(f.v b-f.v g))⁻¹=z at *
    generalize f.v b=B at *
    generalize f.v g=G at *
    have h9:z*B=(1:Rat)/2+z*G:=by grind
    have h8:0<=z*(-G):=Rat.mul_nonneg (by grind) (by grind)
    have hz:0<z*B:=Rat.mul_pos hip hf
    have hB2:=Rat.mul_pos hz hf
    refine mk (z*B) hz (by grind) ?_
    have e1:(1-z*B)*B+z*B*G=B-B*(z*(B-G)):=by grind
    have e2:z*(B-G)=1/2:=by grind
    rw [e1,e2];grind
section
def tv (e:Pt×Pt) (x:Pt):Rat:=AF e.1 e.2 x
def E3 (a b c:Pt):List (Pt×Pt):=[(a,b),(b,c),(c,a)]
theorem OD {a b c:Pt} {g:Pt×Pt}:g∈E3 a b c↔g=(a,b)\/g=(b,c)\/g=(c,a):=by unfold E3;simp
def W8 (p q:Pt):Hp:=⟨-(q.y-p.y),q.x-p.x,(q.y-p.y)*p.x-(q.x-p.x)*p.y⟩
theorem Gw (p q x:Pt):(W8 p q).v x=AF p q x:=by unfold Hp.v W8;simp only [BO];grind
theorem IJ (a b:Pt):AF a b a=0:=by simp only [BO];grind
theorem Ga (a b:Pt):AF a b b=0:=by simp only [BO];grind
theorem Hg (a b c:Pt):AF b a c = - AF a b c:=by simp only [BO];grind
def ZI (a b c:Pt):Pt:=⟨(a.x+(b.x+c.x))*(1/3),(a.y+(b.y+c.y))*(1/3)⟩
theorem Wr (a b c:Pt):AF a b (ZI a b c)=AF a b c*(1/3):=by unfold ZI;simp only [BO];grind
theorem TU (a b c:Pt):AF b c (ZI a b c)=AF a b c*(1/3):=by unfold ZI;simp only [BO];grind
theorem TV (a b c:Pt):AF c a (ZI a b c)=AF a b c*(1/3):=by unfold ZI;simp only [BO];grind
section
variable {a b c d e f X Y p q r:Pt}
def Hv (a b c X:Pt):Prop:=0<AF a b X/\0<AF b c X/\0<AF c a X
def IX (a b c X:Pt):Prop:=AF a b X<0\/AF b c X<0\/AF c a X<0
theorem X8 (hA:0<AF a b c):Hv a b c (ZI a b c):=by
  unfold Hv
  rw [Wr,TU,TV]
  have:=Rat.mul_pos hA (show (0:Rat)<1/3 by decide +kernel)
  exact ⟨this,this,this⟩
theorem E5 (hB:0<AF d e f) (h:0<AF p q d\/0<AF p q e\/0<AF p q f):∃x,Gg [W8 p q,W8 d e,W8 e f,W8 f d] x:=by
  obtain ⟨k1,k2,k3⟩:=X8 hB
  have c1:=Bq d e f
  have c2:=Bq e f d
  have mk:∀t,0<AF p q t->0<=AF d e t->0<=AF e f t->0<=AF f d t->∃x,Gg [W8 p q,W8 d e,W8 e f,W8 f d] x:=λt h0 h1 h2 h3 =>
    di (b:=t) (g:=ZI d e f) (by rw [Gw];exact h0) (by rw [Gw];exact h1) (by rw [Gw];exact h2) (by rw [Gw];exact h3) (by rw [Gw];exact k1) (by rw [Gw];exact k2) (by rw [Gw];exact k3)
  rcases h with h|h|h
  · exact mk d h (by rw [IJ];exact Rat.le_refl) (by rw [c1];exact Rat.le_of_lt hB) (by rw [Ga];exact Rat.le_refl)
  · exact mk e h (by rw [Ga];exact Rat.le_refl) (by rw [IJ];exact Rat.le_refl) (by rw [c2,c1];exact Rat.le_of_lt hB)
  · exact mk f h (Rat.le_of_lt hB) (by rw [Ga];exact Rat.le_refl) (by rw [IJ];exact Rat.le_refl)
theorem bH (h:¬(AF p q d<=0/\AF p q e<=0/\AF p q f<=0)):0<AF p q d\/0<AF p q e\/0<AF p q f:=by grind
theorem Zp (hA:0<AF a b c) (hB:0<AF d e f) (h1:¬Gf a b c d e f) (h2:¬Gf d e f a b c):∃X,Hv a b c X/\Hv d e f X:=by
  unfold Gf at h1 h2
  obtain ⟨a1,ha1⟩:=E5 (p:=a) (q:=b) hB (bH λk=>h1 (.inl k))
  obtain ⟨a2,ha2⟩:=E5 (p:=b) (q:=c) hB (bH λk=>h1 (.inr (.inl k)))
  obtain ⟨a3,ha3⟩:=E5 (p:=c) (q:=a) hB (bH λk=>h1 (.inr (.inr k)))
  obtain ⟨b1,hb1⟩:=E5 (p:=d) (q:=e) hA (bH λk=>h2 (.inl k))
  obtain ⟨b2,hb2⟩:=E5 (p:=e) (q:=f) hA (bH λk=>h2 (.inr (.inl k)))
  obtain ⟨b3,hb3⟩:=E5 (p:=f) (q:=d) hA (bH λk=>h2 (.inr (.inr k)))
  obtain ⟨x,x1,x2⟩:=Zx ha1 ha2 ha3 hb1 hb2 hb3
  simp only [Cw,Gw] at x1 x2
  exact ⟨x,⟨x1.1,x1.2.1,x1.2.2.1⟩,x2.1,x2.2.1,x2.2.2.1⟩
theorem Pj {u v s t:Rat} (hu:0<u) (hs:0<s) (hst:s<=t) (h:0<=(1-t)*u+t*v):0<=(1-s)*u+s*v:=by
  by_cases hv:0<=v-u
  · have:=Rat.mul_nonneg (Rat.le_of_lt hs) hv;grind
  · have h1:0<=(t-s)*(u-v):=Rat.mul_nonneg (by grind) (by grind)
    grind
theorem d7 {u v t:Rat} (hu:0<u) (ht:0<t) (ht1:t<=1) (h:(1-t)*u+t*v<0):∃s,0<s/\s<t/\v<0/\(1-s)*u+s*v=0:=by
  have hv:v<0:=by
    by_cases k:v<0
    · exact k
    · have h1:=Rat.mul_nonneg (show 0<=1-t by grind) (Rat.le_of_lt hu)
      have h2:=Rat.mul_nonneg (Rat.le_of_lt ht) (show 0<=v by grind)
      grind
  have hd:0<u-v:=by grind
  have hi:(u-v)⁻¹*(u-v)=1:=Rat.inv_mul_cancel _ (by grind)
  have hip:0<(u-v)⁻¹:=Rat.inv_pos.2 hd
  generalize (u-v)⁻¹=z at *
  have h1:0<z*u:=Rat.mul_pos hip hu
  have e1:(1-z*u)*u+z*u*v=0:=by
    have:(1-z*u)*u+z*u*v=u-u*(z*(u-v)):=by grind
    rw [this,hi];grind
  have h3:0<t*(u-v)-u:=by grind
  have h4:0<z*(t*(u-v)-u):=Rat.mul_pos hip h3
  have h5:z*(t*(u-v)-u)=t*(z*(u-v))-z*u:=by grind
  have hlt:z*u<t:=by rw [h5,hi] at h4;grind
  exact ⟨z*u,h1,hlt,hv,e1⟩
theorem bX {u1 v1 u2 v2 u3 v3:Rat} (h1:0<u1) (h2:0<u2) (h3:0<u3) (hn:v1<0\/v2<0\/v3<0) :
    ∃t,0<t/\t<1/\0<=(1-t)*u1+t*v1/\0<=(1-t)*u2+t*v2/\0<=(1-t)*u3+t*v3/\((v1<0/\(1-t)*u1+t*v1=0)\/(v2<0/\(1-t)*u2+t*v2=0)\/(v3<0/\(1-t)*u3+t*v3=0)):=by
  have step:∀{u v t:Rat},0<u->0<t->t<=1->∃s,0<s/\s<=t/\0<=(1-s)*u+s*v/\(s=t\/(s<t/\v<0/\(1-s)*u+s*v=0)):=λ{u v t} hu ht ht1=>by
    by_cases k:0<=(1-t)*u+t*v
    · exact ⟨t,ht,Rat.le_refl,k,.inl O⟩
    · obtain ⟨s,s1,s2,s3,s4⟩:=d7 hu ht ht1 (v:=v) (by grind)
      exact ⟨s,s1,Rat.le_of_lt s2,by rw [s4];exact Rat.le_refl,.inr ⟨s2,s3,s4⟩⟩
  obtain ⟨s1,p1,l1,n1,e1⟩:=step (v:=v1) h1 (show (0:Rat)<1 by decide +kernel) Rat.le_refl
  obtain ⟨s2,p2,l2,n2,e2⟩:=step (v:=v2) h2 p1 l1
  obtain ⟨s3,p3,l3,n3,e3⟩:=step (v:=v3) h3 p2 (Rat.le_trans l2 l1)
  have m1:=Pj h1 p3 (Rat.le_trans l3 l2) n1
  have m2:=Pj h2 p3 l3 n2
  by_cases hs:s3<1
  · refine ⟨s3,p3,hs,m1,m2,n3,?_⟩
    rcases e3 with rfl|⟨_,k1,k2⟩
    · rcases e2 with rfl|⟨_,k1,k2⟩
      · rcases e1 with rfl|⟨_,k1,k2⟩
        · exact absurd hs (Rat.lt_irrefl)
        · exact .inl ⟨k1,k2⟩
      · exact .inr (.inl ⟨k1,k2⟩)
    · exact .inr (.inr ⟨k1,k2⟩)
  · have hs1:s3=1:=by grind
    subst hs1
    exfalso
    grind
def bB (X a:Pt) (t:Rat):Pt:=⟨(1-t)*X.x+t*a.x,(1-t)*X.y+t*a.y⟩
theorem bT (h:Hp) (X a:Pt) (t:Rat):h.v (bB X a t)=(1-t)*h.v X+t*h.v a:=by unfold Hp.v bB;grind
theorem Dl (p q X a:Pt) (t:Rat):AF p q (bB X a t)=(1-t)*AF p q X+t*AF p q a:=by
  rw [<-Gw,<-Gw,<-Gw,bT]
end
end
section
section
variable {a b c d e f X Y p q r x:Pt}
theorem IX.rot (h:IX a b c x):IX b c a x:=by unfold IX at *;grind
theorem Hv.rot (h:Hv a b c x):Hv b c a x:=by unfold Hv at *;grind
theorem Gf.ex (h:Gf a b c d e f):∃g∈E3 a b c,tv g d<=0/\tv g e<=0/\tv g f<=0:=by
  rcases h with h|h|h
  · exact ⟨(a,b),OD.2 (.inl O),h⟩
  · exact ⟨(b,c),OD.2 (.inr (.inl O)),h⟩
  · exact ⟨(c,a),OD.2 (.inr (.inr O)),h⟩
end
end
section
noncomputable def dcP (p:Prop):Bool:=@decide p (Classical.propDecidable p)
theorem Fl {q:Rat}:q.num.sign=1↔0<q:=by
  rw [WR,Yt]
  constructor
  · intro h
    by_cases k2:q<0
    · rw [if_pos k2] at h;cases h
    · rw [if_neg k2] at h
      by_cases k:q=0
      · rw [if_pos k] at h;cases h
      · grind
  · intro h
    rw [if_neg (by grind),if_neg (by grind)]
theorem TH {q:Rat}:q.num.sign = -1↔q<0:=by
  rw [WR,Yt]
  constructor
  · intro h
    by_cases k2:q<0
    · exact k2
    · rw [if_neg k2] at h
      split at h<;>cases h
  · intro h
    rw [if_pos h]
theorem fR {x y z:Rat}:FR x y z=0↔x<0\/y<0\/z<0:=by
  unfold FR
  split
  · rename_i h
    rw [TH,TH,TH] at h
    exact ⟨λ_=>h,λ_=>rfl⟩
  · rename_i h
    rw [TH,TH,TH] at h
    exact ⟨λh=>by omega,λk=>absurd k h⟩
theorem QB {D q:Rat} (hD:0<D):(q/D<0↔q<0)/\(0<q/D↔0<q):=by
  have hi:D⁻¹*D=1:=Rat.inv_mul_cancel _ (by grind)
  have hp:0<D⁻¹:=Rat.inv_pos.2 hD
  rw [Rat.div_def]
  generalize D⁻¹=z at *
  have e:q=q*z*D:=by rw [Rat.mul_assoc,hi,Rat.mul_one]
  refine ⟨⟨λh=>?_,λh=>?_⟩,λh=>?_,λh=>Rat.mul_pos h hp⟩
  · have:=Rat.mul_pos (show 0 < -(q*z) by grind) hD;grind
  · have:=Rat.mul_pos (show 0 < -q by grind) hp;grind
  · have:=Rat.mul_pos h hD;grind
section
variable {a b c p:Pt}
theorem IN (hA:0<AF a b c):IM a b c p=0↔IX a b c p:=by
  unfold IM
  rw [if_neg (by grind),fR,(QB hA).1,(QB hA).1,(QB hA).1]
  have c1:=Bq p b c
  have c2:=Bq a p c
  have c3:=Bq p c a
  unfold IX
  rw [c1,c3.trans c2]
  grind
end
structure GF (ps:List Pt) (ts:List T3):Prop where
  num:BV ps.length ts=true
  pos:∀j,j<ts.length->(AF (cor ps (ts.getD j (0,0,0)).1) (cor ps (ts.getD j (0,0,0)).2.1) (cor ps (ts.getD j (0,0,0)).2.2)).num.sign=1
theorem Rv {ps:List Pt} {t:T3} (h1:t.1<ps.length) (h2:t.2.1<ps.length) (h3:t.2.2<ps.length) (hp:(AF (cor ps t.1) (cor ps t.2.1) (cor ps t.2.2)).num.sign=1):JM ps.length t=true:=by
  rw [Fl] at hp
  obtain ⟨a,b,c⟩:=t
  have n0:∀x y,AF x x y=0:=λx y=>by simp only [BO];grind
  simp only [JM,yz,xY,xW,xV]
  refine ⟨⟨⟨⟨⟨h1,h2⟩,h3⟩,λe=>?_⟩,λe=>?_⟩,λe=>?_⟩<;>(dsimp only at hp;subst e)
  · rw [n0] at hp;exact absurd hp Rat.lt_irrefl
  · rw [Ga] at hp;exact absurd hp Rat.lt_irrefl
  · rw [IJ] at hp;exact absurd hp Rat.lt_irrefl
theorem YW {N:Nat} {ts:List T3} (h:∀j,j<ts.length->JM N (ts.getD j (0,0,0))=true):BV N ts=true:=by
  unfold BV
  rw [List.all_eq_true]
  intro t ht
  obtain ⟨j,hj,rfl⟩:=List.getElem_of_mem ht
  have:=h j hj
  rwa [List.getD,xQ hj] at this
def Zg (n:Nat) (ts:List T3):Prop:=∀p,p<n->∃j,j<ts.length/\B_ (ts.getD j (0,0,0)) p=true
def RA (ps:List Pt) (ts:List T3) (i k:Nat):Prop:=(!Dy (Be ps (ts.getD i (0,0,0))) (Be ps (ts.getD k (0,0,0)))&&!Dy (Be ps (ts.getD k (0,0,0))) (Be ps (ts.getD i (0,0,0))))=false
def ZU (ps:List Pt) (ts:List T3) (i p:Nat):Prop:=B_ (ts.getD i (0,0,0)) p=false->JZ ps (cor ps p) (ts.getD i (0,0,0))=0
def ML (ps:List Pt) (ts:List T3):Prop:=∀i,i<ts.length->(∀k,k<i->RA ps ts i k)/\∀p,p<ps.length->ZU ps ts i p
def dF (s r:T3):Prop:=s.1=r.1/\s.2.1=r.2.1
def dE (ts ss:List T3):Prop:=ss.length=(Eh ts).length/\∀j,j<ss.length->dF (ss.getD j (0,0,0)) ((Eh ts).getD j (0,0,0))
def dI (ps:List Pt) (ts ss:List T3):Prop:=(Zg ps.length ts/\ps.Nodup)/\ML ps ts/\dE ts ss
theorem Re {p q r:Pt}:MK p q r=true↔0<AF p q r:=by
  unfold MK
  rw [xW,<-Fl]
  rcases (show ∀z:Int,z.sign = -1\/z.sign=0\/z.sign=1 from λz=>by
    rcases Int.lt_trichotomy z 0 with h|h|h
    · exact .inl (Int.sign_eq_neg_one_of_neg h)
    · exact .inr (.inl (by rw [h];rfl))
    · exact .inr (.inr (Int.sign_eq_one_of_pos h))) (AF p q r).num with h|h|h<;>rw [h]<;>decide
theorem N3 {p q a b c:Pt}:Fk p q (a,b,c)=false↔AF p q a<=0/\AF p q b<=0/\AF p q c<=0:=by
  have f:∀r,MK p q r=false↔AF p q r<=0:=λr=>by
    rw [Bool.eq_false_iff]
    constructor
    · intro h
      by_cases k:0<AF p q r
      · exact absurd (Re.2 k) h
      · grind
    · intro h k
      have:=Re.1 k;grind
  unfold Fk
  rw [xZ,xZ,f,f,f]
  exact ⟨λh=>⟨h.1.1,h.1.2,h.2⟩,λh=>⟨⟨h.1,h.2.1⟩,h.2.2⟩⟩
theorem Ot {a b c d e f:Pt}:Dy (a,b,c) (d,e,f)=true↔Gf a b c d e f:=by
  unfold Dy Gf
  rw [yy,yy,xY,xY,xY,N3,N3,N3]
theorem LQ {t:T3} {p:Nat}:B_ t p=true↔p=t.1\/p=t.2.1\/p=t.2.2:=by
  simp only [B_,yy,beq_iff_eq]
  constructor
  · intro h;omega
  · intro h;omega
section
variable {ps:List Pt} {ts ss:List T3}
theorem Ks (h:Fr ps ts ss):GF ps ts/\dI ps ts ss:=⟨⟨h.num,h.pos⟩,⟨h.use,h.dst⟩,λi hi=>⟨λk hk=>h.apart i k hi hk,λp hp=>h.crn i p hi hp⟩,h.rl,h.rim⟩
end
end
end Go.Proofs.YtbfdamnfcmefmaaGreatDoor
