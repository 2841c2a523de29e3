import Derived.Test.YtbfdamnfcmefmaaGreatDoorTie
import Derived.Test.YtbfdamnfcmefmaaGreatDoorCards
import Derived.ProofKit
import Derived.Carry
import Derived.Stop.Joined
import Derived.SevenTiedAt
import Derived.Test.YtbfdamnfcmefmaaGreatDoorPend41
namespace Go.Proofs.YtbfdamnfcmefmaaGreatDoor
open Go Go.RowKit Go.Proofs.Tryz
open Go.Value renaming slice→qz,bool→qa
set_option linter.unusedVariables false
set_option linter.unusedSimpArgs false
section
set_option maxRecDepth 100000
theorem QP (w:World):Calls prog 37 #[(vI 0),(vI (0))] w (Ac w (aG (Aa (⟨0,0⟩:Pt)))):=by
 have h:=KT 0 (0) jY jY jY jY w
 rw [show (⟨((0:Int):Rat),((0:Int):Rat)⟩:Pt)=(⟨0,0⟩:Pt) from by decide +kernel] at h
 exact h
theorem PA (w:World):Calls prog 37 #[(vI 2),(vI (-1))] w (Ac w (aG (Aa (⟨2,-1⟩:Pt)))):=by
 have h:=KT 2 (-1) jY jY jY jY w
 rw [show (⟨((2:Int):Rat),((-1:Int):Rat)⟩:Pt)=(⟨2,-1⟩:Pt) from by decide +kernel] at h
 exact h
theorem QR (w:World):Calls prog 37 #[(vI 4),(vI (0))] w (Ac w (aG (Aa (⟨4,0⟩:Pt)))):=by
 have h:=KT 4 (0) jY jY jY jY w
 rw [show (⟨((4:Int):Rat),((0:Int):Rat)⟩:Pt)=(⟨4,0⟩:Pt) from by decide +kernel] at h
 exact h
theorem QQ (w:World):Calls prog 37 #[(vI 2),(vI (1))] w (Ac w (aG (Aa (⟨2,1⟩:Pt)))):=by
 have h:=KT 2 (1) jY jY jY jY w
 rw [show (⟨((2:Int):Rat),((1:Int):Rat)⟩:Pt)=(⟨2,1⟩:Pt) from by decide +kernel] at h
 exact h
theorem Tz {ps:List Pt} {ts ss:List T3} (x:MX ps ts ss) (u v:Int) {b:Bool} {e:Nat} (h1:XE ps ts u v=b) (h2:XF ts u v=e) (hnb:Ba ps.length ts=true) (htl:ts.length<=1000000) (hN:ps.length<=1000000) (hz:∀i,Bl (cor ps i)<=200000) (w:World) {S:Nat->Prop} (hx:Ro S w x):Calls prog 18 #[(aG (Cf x)),(vI u),(vI v)] w (Ac w (.tuple #[.bool b,vN e])):=by
 subst h1 h2
 obtain ⟨y,hy,hro⟩:=PI x
 have h9:=T0 y u v hnb htl hN hz w (hro hx)
 rw [hy] at h9
 exact h9
theorem Tw {ps:List Pt} {ts ss:List T3} (x:MX ps ts ss) (u v:Int) {p':List Pt} {t':List T3} {s':List Z3} {e:Nat} (h:X2 ps ts u v=p'/\X4 ps ts u v=t'/\X3 ps ts (ss.map D7) u v=s'/\XA ps ts u v=e) (hnb:Ba ps.length ts=true) (htl:ts.length<=1000000) (hN:ps.length<=1000000) (hsl:ss.length<=1000000) (hz:∀i,Bl (cor ps i)<=200000) (w:World) {S:Nat->Prop} (hx:Ro S w x):Calls prog 19 #[(aG (Cf x)),(vI u),(vI v)] w (BP (Tf p' t' s' e) S w):=by
 obtain ⟨rfl,rfl,rfl,rfl⟩:=h
 obtain ⟨y,hy,hro⟩:=PI x
 have h9:=XQ y u v hnb htl hN (by rw [xK];exact hsl) hz w (hro hx)
 rw [hy] at h9
 exact h9
theorem dK {ps:List Pt} {ts ss:List T3} (x:MX ps ts ss) (hk:Eo ps ts ss) {t':List T3} (h1:nexV ps ts=true) (h2:Cj ps ts=t') (h3:nexV ps t'=false) (hn2:Ba ps.length t'=true) (hz:∀i,Bl (cor ps i)<=200000) (w:World) {S:Nat->Prop} (hx:Ro S w x):Calls prog 7 #[(aG (Cf x))] w (BP (DlN ps t' (ss.map D7) 1 0) S w):=by
 subst h2
 have l1:=hk.pl
 have l2:=hk.tl
 have l3:=hk.sl
 have hcx:=λ(w:World) (S:Nat->Prop) (h:Ro S w x)=>Kb x hk w h
 obtain ⟨y,hy,hro,hor⟩:=Vr x
 have h9:=XO y hk.num Z Z (by rw [xK];omega) hz (λw S h=>by have h8:=hcx w S (hor h);rw [<-hy] at h8;exact h8) h1 h3 hn2 w (hro hx)
 rw [hy] at h9
 exact h9
theorem T7 {ps:List Pt} {ts ss:List T3} (x:MX ps ts ss) (hnb:Ba ps.length ts=true) (htl:ts.length<=8192) (hN:ps.length<=1000000) (hz:∀i,Bl (cor ps i)<=1000) (w:World) {S:Nat->Prop} (hx:Ro S w x):Calls prog 21 #[(aG (Cf x))] w (Ac w (aG (AF (DE ps ts)))):=by
 obtain ⟨y,hy,hro⟩:=PI x
 have h9:=RA y htl hN hz hnb w (hro hx)
 rw [hy] at h9
 exact h9
theorem Oh {ps:List Pt} {ts:List T3} {ss:List Z3} (x y:MN ps ts ss) (hp:ps.length<=1000000) (ht:ts.length<=1000000) (hs:ss.length<=1000000) (w:World) {S:Nat->Prop} (hx:Ro S w x) (hy:Ro S w y):Calls prog 24 #[(aG (CG x)),(aG (CG y))] w (Ac w (qa true)):=by
 obtain ⟨y1,e1,r1⟩:=Rp x
 obtain ⟨y2,e2,r2⟩:=Rp y
 have h9:=UD y1 y2 hp (by rw [xK];exact ht) hs w (r1 hx) (r2 hy)
 rw [xI ⟨rfl,rfl,rfl⟩,e1,e2] at h9
 exact h9
theorem L5 (x0 x1 x2 x3:Pt):Instr.fill (λi=>some (i*10,10)) ((Array.range (4*10)).map ((Value.agg (Aa (⟨0,0⟩:Pt)).toArray).cells[·%(Value.agg (Aa (⟨0,0⟩:Pt)).toArray).cells.size]!)) [(0,.agg (Aa x0).toArray),(1,.agg (Aa x1).toArray),(2,.agg (Aa x2).toArray),(3,.agg (Aa x3).toArray)]=some (Aa x0++Aa x1++Aa x2++Aa x3).toArray:=by kernel_rfl
theorem EA (x0 x1 x2:Nat):Instr.fill (λi=>some (i*1,1)) (Af jJ).toArray [(0,vN x0),(1,vN x1),(2,vN x2)]=some (Af (x0,x1,x2)).toArray:=by kernel_rfl
theorem L4 (x0 x1:Tq3):Instr.fill (λi=>some (i*3,3)) ((Array.range (2*3)).map ((Value.agg (Af jJ).toArray).cells[·%(Value.agg (Af jJ).toArray).cells.size]!)) [(0,.agg (Af x0).toArray),(1,.agg (Af x1).toArray)]=some (Af x0++Af x1).toArray:=by kernel_rfl
theorem L6 (x0 x1 x2 x3:Tq3):Instr.fill (λi=>some (i*3,3)) ((Array.range (4*3)).map ((Value.agg (Af jJ).toArray).cells[·%(Value.agg (Af jJ).toArray).cells.size]!)) [(0,.agg (Af x0).toArray),(1,.agg (Af x1).toArray),(2,.agg (Af x2).toArray),(3,.agg (Af x3).toArray)]=some (Af x0++Af x1++Af x2++Af x3).toArray:=by kernel_rfl
set_option maxHeartbeats 1000000 in
theorem QX  (w:World) (hT:SF w):Calls prog 13 #[] w (Ac w (qa true)):=by
 have hf2:DD.length=2:=rfl
 refine AW (args:=[]) func13 O O (A_ O) (zM sN (q4 (asg' O (oNl' (q2 (ck' call37 (QP) O (ck' call37 (PA) O (ck' call37 (QR) O (ck' call37 (QQ) O (ze (V:=λb1=>(qz (jk b1) 4 4)) (T:=78) (cs:=Aa (⟨0,0⟩:Pt)++Aa (⟨2,-1⟩:Pt)++Aa (⟨4,0⟩:Pt)++Aa (⟨2,1⟩:Pt)) (AI O) (Ax (z:=.agg (Aa (⟨0,0⟩:Pt)).toArray) (cs:=Aa (⟨0,0⟩:Pt)++Aa (⟨2,-1⟩:Pt)++Aa (⟨4,0⟩:Pt)++Aa (⟨2,1⟩:Pt)) (pv:=[(0,(aG (Aa (⟨0,0⟩:Pt)))),(1,(aG (Aa (⟨2,-1⟩:Pt)))),(2,(aG (Aa (⟨4,0⟩:Pt)))),(3,(aG (Aa (⟨2,1⟩:Pt))))]) underlying32 sizeOf78 zeroValue78 jY jY O (L5 (⟨0,0⟩:Pt) (⟨2,-1⟩:Pt) (⟨4,0⟩:Pt) (⟨2,1⟩:Pt))) O (A_ O) λb1=>AD (v:=(aG (Af (0,1,2)))) (Ao (zs:=Af jJ) (vs:=Af (0,1,2)) (pv:=[(0,(vI 0)),(1,(vI 1)),(2,(vI 2))]) zeroValue71 underlying71 sizeOf3 O (EA 0 1 2)) O ?_))))))))))
 refine AD (v:=(aG (Af (0,2,3)))) (Ao (zs:=Af jJ) (vs:=Af (0,2,3)) (pv:=[(0,(vI 0)),(1,(vI 2)),(2,(vI 3))]) zeroValue71 underlying71 sizeOf3 O (EA 0 2 3)) O (ze (V:=λb2=>(qz (jk b2) 2 2)) (T:=71) (cs:=Af (0,1,2)++Af (0,2,3)) (AI O) (Ax (z:=.agg (Af jJ).toArray) (cs:=Af (0,1,2)++Af (0,2,3)) (pv:=[(0,(aG (Af (0,1,2)))),(1,(aG (Af (0,2,3))))]) underlying28 sizeOf71 zeroValue71 jY jY O (L4 (0,1,2) (0,2,3))) O (A_ O) λb2=>AD (v:=(aG ([(vI 0),(vI 1),(vI 0)]))) (AQ (zs:=Af jJ) (vs:=[(vI 0),(vI 1),(vI 0)]) (pv:=[(0,(vI 0)),(1,(vI 1))]) (places:=[(0,1),(1,1),(2,1)]) zeroValue80 underlying80 (λw=>by simp [sizeOf3]) O O) O (AD (v:=(aG ([(vI 0),(vI 3),(vI 0)]))) (AQ (zs:=Af jJ) (vs:=[(vI 0),(vI 3),(vI 0)]) (pv:=[(0,(vI 0)),(1,(vI 3))]) (places:=[(0,1),(1,1),(2,1)]) zeroValue80 underlying80 (λw=>by simp [sizeOf3]) O O) O (AD (v:=(aG ([(vI 1),(vI 2),(vI 0)]))) (AQ (zs:=Af jJ) (vs:=[(vI 1),(vI 2),(vI 0)]) (pv:=[(0,(vI 1)),(1,(vI 2))]) (places:=[(0,1),(1,1),(2,1)]) zeroValue80 underlying80 (λw=>by simp [sizeOf3]) O O) O (AD (v:=(aG ([(vI 2),(vI 3),(vI 0)]))) (AQ (zs:=Af jJ) (vs:=[(vI 2),(vI 3),(vI 0)]) (pv:=[(0,(vI 2)),(1,(vI 3))]) (places:=[(0,1),(1,1),(2,1)]) zeroValue80 underlying80 (λw=>by simp [sizeOf3]) O O) O (ze (V:=λb3=>(qz (jk b3) 4 4)) (T:=80) (cs:=Af ((0,1,0):T3)++Af ((0,3,0):T3)++Af ((1,2,0):T3)++Af ((2,3,0):T3)) (AI O) (Ax (z:=.agg (Af jJ).toArray) (cs:=Af ((0,1,0):T3)++Af ((0,3,0):T3)++Af ((1,2,0):T3)++Af ((2,3,0):T3)) (pv:=[(0,(aG ([(vI 0),(vI 1),(vI 0)]))),(1,(aG ([(vI 0),(vI 3),(vI 0)]))),(2,(aG ([(vI 1),(vI 2),(vI 0)]))),(3,(aG ([(vI 2),(vI 3),(vI 0)])))]) underlying29 sizeOf80 zeroValue80 jY jY O (L6 ((0,1,0):T3) ((0,3,0):T3) ((1,2,0):T3) ((2,3,0):T3))) O (A_ O) λb3=>AD (v:=(aG ([(qz (jk b1) 4 4),(qz (jk b2) 2 2),(qz (jk b3) 4 4)]))) (AQ (zs:=[jj,jj,jj]) (vs:=[(qz (jk b1) 4 4),(qz (jk b2) 2 2),(qz (jk b3) 4 4)]) (pv:=[(0,(qz (jk b1) 4 4)),(1,(qz (jk b2) 2 2)),(2,(qz (jk b3) 4 4))]) (places:=[(0,1),(1,1),(2,1)]) zeroValue34 underlying34 (λw=>by simp [sizeOf28,sizeOf29,sizeOf32]) O O) O (al G6 O λb4=>Ah O sizeOf34 O (AR.litM (S:=λ_=>False) (ps:=CD) (ts:=Dc) (ss:=YN) (λmm=>[AY b4 34 (Cf mm),AN mm.c.p (rowsL Af YN),AN mm.b.p (rowsL Af Dc),AN mm.a.p (rowsL Aa CD)]) 3 2 1 jY O O O O O O λmm hmm=>q3 (sL [0,1] O) ?_)))))))
 refine Ak 0 BY O (C3 call18 (λw hw=>Tz mm 2 0 VU.1 VU.2 LS jY jY Ia w (inX hw [3,2,1] O hmm)) O (AL O (AD (AJ (v:=(qa false)) O O) O (AD (AJ (v:=(vI 0)) O O) O (asg' O (asg' O (q3 (sL [0,1,2,3] O) (Ak 0 BY O (yI (S:=λ_=>False) (α:=Tf CD DD Gs 0) (args:=[(aG (Cf mm)),(vI 0),(vI 2)]) call19 (λw hw=>Tw mm 0 2 aK LS jY jY jY Ia w (inX hw [3,2,1] O hmm)) O O O λf lf=>AL O (AD (AJ (v:=(aG ([(qz f.x.a.p CD.length f.x.a.c),(qz f.x.b.p DD.length f.x.b.c),(qz f.x.c.p Gs.length f.x.c.c)]))) O O) O ?_))))))))))
 refine AD (AJ (v:=(vI 0)) O O) O (al G6 O λb5=>Ah O sizeOf34 O (asg' O (q3 (sL [0,1,2,3,4,5] O) (Ak 4 BY O (yI (S:=λ_=>False) (α:=DlN CD DD Gs 1 0) (args:=[(aG (Cf mm))]) call7 (λw hw=>dK mm YO QO.1 QO.2.1 QO.2.2 VV Ia w (inX hw [7,6,5] O hmm)) O O O λd ld=>AL O (AD (AJ (v:=(aG ([(qz d.x.a.p CD.length d.x.a.c),(qz d.x.b.p DD.length d.x.b.c),(qz d.x.c.p Gs.length d.x.c.c)]))) O O) O (AD (AJ (v:=(vI 1)) O O) O (AD (AJ (v:=(vI 0)) O O) O (al G6 O λb6=>?_)))))))))
 refine Ah O sizeOf34 O (asg' O (asg' O (q3 (sL [0,1,2,3,4,5,6,7,8] O) (Ak 8 BY O (yI (S:=λ_=>False) (α:=Tf [] [] [] 7) (args:=[(aG (Cf mm)),(vI 0),(vI 1)]) call19 (λw hw=>Tw mm 0 1 aI LS jY jY jY Ia w (inX hw [11,10,9] O hmm)) O O O λg lg=>AL O (AD (AJ (v:=(aG ([(qz g.x.a.p 0 g.x.a.c),(qz g.x.b.p 0 g.x.b.c),(qz g.x.c.p 0 g.x.c.c)]))) O O) O (AD (AJ (v:=(vI 7)) O O) O (al G6 O λb7=>Ah O sizeOf34 O (asg' O ?_)))))))))
 refine q3 (sL [0,1,2,3,4,5,6,7,8,10] O) (Ak 12 BY O (yI (S:=λ_=>False) (α:=Tf [] [] [] 1) (args:=[(aG (Cf mm)),(vI 1),(vI 3)]) call19 (λw hw=>Tw mm 1 3 aJ LS jY jY jY Ia w (inX hw [15,14,13] O hmm)) O O O λk lk=>AL O (AD (AJ (v:=(aG ([(qz k.x.a.p 0 k.x.a.c),(qz k.x.b.p 0 k.x.b.c),(qz k.x.c.p 0 k.x.c.c)]))) O O) O (AD (AJ (v:=(vI 1)) O O) O (al G6 O λb8=>Ah O sizeOf34 O (asg' O (q3 (sL [0,1,2,3,4,5,6,7,8,10,12] O) (AL O (AD (BE (c:=true) O O) O ?_)))))))))
 refine AL O (Gq O (BI (v:=(qa true)) O (BM (c:=true) O O jY) (AD (v:=(qa true)) (AX O O) O (AL O (Gq O (BI (v:=(qa true)) O (BM (c:=true) O O jY) (AD (v:=(qa true)) (AX O O) O (AL O (BI (v:=(pP b5 1)) O (AA O underlying34 O sizeOf28 O) (BI (v:=(qz f.x.b.p DD.length f.x.b.c)) O (AH (i:=12) (v:=(qz f.x.b.p DD.length f.x.b.c)) O O C5.a O) (BI (v:=(vN DD.length)) O (AE O underlying28) ?_)))))))))))
 refine BI (v:=(qa true)) O (BM (c:=true) O O jY) (AD (v:=(qa true)) (AX O O) O (AL O (BI (v:=(pP b5 1)) O (AA O underlying34 O sizeOf28 O) (BI (v:=(qz f.x.b.p DD.length f.x.b.c)) O (AH (i:=12) (v:=(qz f.x.b.p DD.length f.x.b.c)) O O C5.a O) (BI (v:=(pP (pB f.x.b.p) (pO f.x.b.p+0*3))) O (AO (j:=0) O O f.x.b.ok underlying28 sizeOf71 O Z) (BI (v:=(aG (Af (DD.getD 0 jJ)))) O (AM (vs:=Af (DD.getD 0 jJ)) (i:=14) O O (A8.ne f.x.b.ok Z) Ec (Ae Av _ _ _ Z) (Av _)) (BI (v:=(aG (Af (1,2,3)))) O (Ao (zs:=Af jJ) (vs:=Af (1,2,3)) (pv:=[(0,(vI 1)),(1,(vI 2)),(2,(vI 3))]) zeroValue71 underlying71 sizeOf3 O (EA 1 2 3)) (BI (v:=(qa true)) O (Bu (c:=true) O O eqGuardType71 (O4 (a:=DD.getD 0 jJ) (b:=(1,2,3)) 9998 (by decide +kernel))) (AD (v:=(qa true)) (AX O O) O (AL O (BI (v:=(pP b5 1)) O (AA O underlying34 O sizeOf28 O) ?_)))))))))))
 refine BI (v:=(qz f.x.b.p DD.length f.x.b.c)) O (AH (i:=12) (v:=(qz f.x.b.p DD.length f.x.b.c)) O O C5.a O) (BI (v:=(pP (pB f.x.b.p) (pO f.x.b.p+1*3))) O (AO (j:=1) O O f.x.b.ok underlying28 sizeOf71 O Z) (BI (v:=(aG (Af (DD.getD 1 jJ)))) O (AM (vs:=Af (DD.getD 1 jJ)) (i:=14) O O (A8.ne f.x.b.ok Z) Ec (Ae Av _ _ _ Z) (Av _)) (BI (v:=(aG (Af (0,1,3)))) O (Ao (zs:=Af jJ) (vs:=Af (0,1,3)) (pv:=[(0,(vI 0)),(1,(vI 1)),(2,(vI 3))]) zeroValue71 underlying71 sizeOf3 O (EA 0 1 3)) (BI (v:=(qa true)) O (Bu (c:=true) O O eqGuardType71 (O4 (a:=DD.getD 1 jJ) (b:=(0,1,3)) 9998 (by decide +kernel))) (AD (v:=(qa true)) (AX O O) O (AL O (BI (v:=(aG (Cf mm))) O (Ad (i:=16) (vs:=Cf mm) O O BY.a BY.s O O) (zg (v:=(aG (AF (DE CD Dc)))) (AU O) (Am (args:=[(aG (Cf mm))]) O O call21) (λw hw=>T7 mm LS jY jY N4 w (inX hw [19,18,17] O hmm)) O (A_ O) (zg (v:=(Value.string (txB (bF (DE CD Dc))))) (AU O) (Am (args:=[(aG (AF (DE CD Dc)))]) O O call38) (λw hw=>M0 (DE CD Dc) (by rw [QM];decide +kernel) (by rw [QM];decide +kernel) w (hT.below hw.out)) O (A_ O) (BI (v:=(qa true)) O (Bh (c:=true) O O (by rw [QM];decide +kernel)) (AD (v:=(qa true)) (AX O O) O ?_)))))))))))
 refine AL O (BI (v:=(aG ([(qz f.x.a.p CD.length f.x.a.c),(qz f.x.b.p DD.length f.x.b.c),(qz f.x.c.p Gs.length f.x.c.c)]))) O (Ad (i:=12) (vs:=[(qz f.x.a.p CD.length f.x.a.c),(qz f.x.b.p DD.length f.x.b.c),(qz f.x.c.p Gs.length f.x.c.c)]) O O BY.a BY.s O O) (zg (v:=(aG (AF (DE CD DD)))) (AU O) (Am (args:=[(aG ([(qz f.x.a.p CD.length f.x.a.c),(qz f.x.b.p DD.length f.x.b.c),(qz f.x.c.p Gs.length f.x.c.c)]))]) O O call21) (λw hw=>RA f.x jY jY N4 VV w (inX (a:=f.x) hw [13,14,15] O lf)) O (A_ O) (zg (v:=(Value.string (txB (bF (DE CD DD))))) (AU O) (Am (args:=[(aG (AF (DE CD DD)))]) O O call38) (λw hw=>M0 (DE CD DD) (by rw [QN];decide +kernel) (by rw [QN];decide +kernel) w (hT.below hw.out)) O (A_ O) (BI (v:=(qa true)) O (Bh (c:=true) O O (by rw [QN];decide +kernel)) (AD (v:=(qa true)) (AX O O) O (AL O (Gq O (BI (v:=(qa true)) O (BM (c:=true) O O jY) (AD (v:=(qa true)) (AX O O) O (AL O (Gq O ?_)))))))))))
 refine BI (v:=(qa true)) O (BM (c:=true) O O jY) (AD (v:=(qa true)) (AX O O) O (AL O (BI (v:=(aG ([(qz d.x.a.p CD.length d.x.a.c),(qz d.x.b.p DD.length d.x.b.c),(qz d.x.c.p Gs.length d.x.c.c)]))) O (Ad (i:=8) (vs:=[(qz d.x.a.p CD.length d.x.a.c),(qz d.x.b.p DD.length d.x.b.c),(qz d.x.c.p Gs.length d.x.c.c)]) O O BY.a BY.s O O) (BI (v:=(aG ([(qz f.x.a.p CD.length f.x.a.c),(qz f.x.b.p DD.length f.x.b.c),(qz f.x.c.p Gs.length f.x.c.c)]))) O (Ad (i:=12) (vs:=[(qz f.x.a.p CD.length f.x.a.c),(qz f.x.b.p DD.length f.x.b.c),(qz f.x.c.p Gs.length f.x.c.c)]) O O BY.a BY.s O O) (zg (v:=(qa true)) (AU O) (Am (args:=[(aG ([(qz d.x.a.p CD.length d.x.a.c),(qz d.x.b.p DD.length d.x.b.c),(qz d.x.c.p Gs.length d.x.c.c)])),(aG ([(qz f.x.a.p CD.length f.x.a.c),(qz f.x.b.p DD.length f.x.b.c),(qz f.x.c.p Gs.length f.x.c.c)]))]) O O call24) (λw hw=>Oh d.x f.x jY jY jY w (inX (a:=d.x) hw [9,10,11] O ld) (inX (a:=f.x) hw [13,14,15] O lf)) O (A_ O) (AD (v:=(qa true)) (AX O O) O (AL O (Gq O (BI (v:=(qa true)) O (BM (c:=true) O O jY) (AD (v:=(qa true)) (AX O O) O (AL O ?_)))))))))))
 exact Gq O (BI (v:=(qa true)) O (BM (c:=true) O O jY) (AD (v:=(qa true)) (AX O O) O (asg' O (oNl' (zB (sL [0,1,4,6] O) (zA (zG (ret_one O (rd_tmp (v:=(qa true)) O) (λw hw=>⟨rfl,hw.out⟩)))))))))
end
section
set_option maxRecDepth 100000
theorem Og {ps:List Pt} {ts ss:List T3} (x:MX ps ts ss) (hl:ts.length<=8192) (hz:∀k,Bl (cor ps k)<=1000) (hnb:Ba ps.length ts=true) (w:World) {S:Nat->Prop} (hx:Ro S w x):Calls prog 23 #[(aG (Cf x))] w (Ac w (aG (AF (Er ps ts ts.length)))):=by
 have lx:=DT (W:=w) hx
 refine Ag (args:=[(aG (Cf x))]) (L:=[AN x.a.p (rowsL Aa ps),AN x.b.p (rowsL Af ts),AN x.c.p (rowsL Af ss)]) func23 O O (A_ O) (DU hx Az) (zM (sL [0] O) (q4 (BV (cs:=Cf x) O λb1=>al DO O λb2=>q3 (sL [1,2] O) (al DO O λb3=>oNl' (q1 (q4 (Ak 2 BY O (C3 (args:=[(aG (Cf x))]) (v:=(qa true)) call46 (λw hw=>(by have h9:=XR x Z w (CL hw 3 O lx);rw [hnb] at h9;exact h9)) O ?_))))))))
 refine AD (BE (c:=false) O O) O (oNl' (zB (sL [1,2,3,7] O) (zA (zS O (zC (q1 (q4 (AD (v:=(pP b1 1)) (AA O underlying34 O sizeOf28 O) O (BG 2 (qz x.b.p ts.length x.b.c) C5 O (AD (v:=(vN ts.length)) (AE O underlying28) O (AL O ?_)))))))))))
 refine oNl' (zB (sL [1,2,3,11,12] O) (zA (zI ?_)))
 refine zy (tg λ(i:Nat)=>i<=ts.length) (tg λ(i:Nat)=>[(1,(pP b1 0)),(2,(pP b2 0)),(3,(pP b3 0)),(11,(vN ts.length)),(12,(vN i))]) (tg λ(i:Nat)=>[AY b3 68 (AF (Er ps ts i)),AY b2 68 (AF (0:Rat)),AY b1 34 (Cf x),AN x.a.p (rowsL Aa ps),AN x.b.p (rowsL Af ts),AN x.c.p (rowsL Af ss)]) (tg λ(i:Nat)=>ts.length-i) 0 (xJ _) (sF O) sr (λi hJ=>?_)
 have hi:=hJ
 refine q4 (AD (Ab (c:=(decide (i<ts.length))) O O (DA (a:=i) (b:=ts.length))) O (oNl' (q1 ?_)))
 refine zK O (λhc1=>?_) (λhc1=>?_)
 ·replace hc1:=xT hc1
  have hi2:=hc1
  have ha:=RF hz ts i
  have hb:=KZ hz (ts.getD i (0,0,0))
  have z0:=hz (ts.getD i (0,0,0)).1
  have z1:=hz (ts.getD i (0,0,0)).2.1
  have z2:=hz (ts.getD i (0,0,0)).2.2
  refine zC (q1 (zI (q4 (AL O (asg' O (oNl' (zB (sL [1,2,3,11,12,4] O) (zA (rC [(0,true),(1,true),(2,true),(3,false),(4,true),(5,true),(6,true),(7,false),(8,false)] 9 [] sr (sl sr) jV (λ_ _ d _ _ h=>by cases d<;>exact h) (vE (v:=(aG (AF (Er ps ts i)))) O (Ad (i:=0) (vs:=AF (Er ps ts i)) O O Be.a Be.s O O) O (vE (v:=(aG (Cf x))) O (Ad (i:=2) (vs:=Cf x) O O BY.a BY.s O O) O ?_)))))))))))
  refine vM O O O (zu O (C3 call55 (λw hw=>Pr x i hi2 (Bw hnb hi2) w (CL hw 3 O lx)) O (zp sr (vE O (AJ (v:=(aG (Aa (cor ps (ts.getD i (0,0,0)).1)))) O O) O (vE O (AJ (v:=(aG (Aa (cor ps (ts.getD i (0,0,0)).2.1)))) O O) O (vE O (AJ (v:=(aG (Aa (cor ps (ts.getD i (0,0,0)).2.2)))) O O) O (zu O ?_)))))))
  have hz1:=Dz (cor ps (ts.getD i (0,0,0)).1) (cor ps (ts.getD i (0,0,0)).2.1) (cor ps (ts.getD i (0,0,0)).2.2)
  have hz2:=Cz (AC (cor ps (ts.getD i (0,0,0)).1) (cor ps (ts.getD i (0,0,0)).2.1) (cor ps (ts.getD i (0,0,0)).2.2)) (1/2)
  refine ck' call60 (Q_ (cor ps (ts.getD i (0,0,0)).1) (cor ps (ts.getD i (0,0,0)).2.1) (cor ps (ts.getD i (0,0,0)).2.2) Z) O (zp sr (zu O (ck' call58 (IU (Er ps ts i) (F7 ps (ts.getD i (0,0,0))) Z) O (zp sr (yL O (Ah O sizeOf68 O (zD (sl sr) (zQ (zB (sL [1,2,3,11,12] O) (zF (zA ?_)))))))))))
  exact zH (AD (AS (c:=((i+1:Nat):Int)) O O (AV (a:=i) (b:=1) Z)) O (AL O (oNl' (zB (sL [1,2,3,11,12] O) (zm (i+1) Z Z (sF O) sr)))))
 ·replace hc1:=xS hc1
  have hie:i=ts.length:=by omega
  exact zU (zO (zY (zP (q2 (Ak 0 Be O (CM O sizeOf68 O (oNl' (zB (sL [1,2,3,11,12] O) (zA (zG (ret_one O (An (i:=1) (cs:=AF (Er ps ts i)) O O isAgg68 sizeOf68 O) (λw hw=>⟨by rw [hie],hw.out⟩))))))))))))
end
section
set_option maxRecDepth 100000
theorem UC {ps:List Pt} {ts ss:List T3} (x y:MX ps ts ss) (hp:ps.length<=1000000) (ht:ts.length<=1000000) (hs:ss.length<=1000000) (w:World) {S S':Nat->Prop} (hx:Ro S w x) (hy:Ro S' w y):Calls prog 24 #[(aG (Cf x)),(aG (Cf y))] w (Ac w (qa true)):=by
 obtain ⟨y1,e1,r1⟩:=PI x
 obtain ⟨y2,e2,r2⟩:=PI y
 have h9:=Oh y1 y2 hp ht (by rw [xK];exact hs) w (r1 (Lp hx)) (r2 (Lp hy))
 rw [e1,e2] at h9
 exact h9
set_option maxHeartbeats 2000000 in
theorem Of (m:MQ) (w:World) {S:Nat->Prop} (hm:Ro S w m) (hT:SF w):Calls prog 5 #[(aG (E2 m))] w (Ac w (qa true)):=by
 have lm:=DT (W:=w) hm
 refine Ag (args:=[(aG (E2 m))]) (L:=[AN m.p (DC m.cs)]) func5 O O (A_ O) (DU hm Az) (zM (sL [0] O) (q4 (BV (cs:=E2 m) O λb1=>asg' O (q3 (sL [1,2] O) (Ak 0 ON O (yI (S:=S) (α:=MG) (args:=[(aG (E2 m))]) call8 (λw hw=>Ve m w (CL hw 1 O lm)) O O O λg lg=>?_))))))
 have hG:=g.good
 have hnb:Ba g.ps.length g.ts=true:=S1 hG
 have htl:=hG.tl
 have hpl:=hG.pl
 have hz:∀i,Bl (cor g.ps i)<=1000:=λi=>xM (hG.sz i) jY
 have hz2:∀i,Bl (cor g.ps i)<=200000:=λi=>xM (hz i) jY
 have hsl:=g.sl
 have hck:Eo g.ps g.ts g.ss:=VG hG hnb g.sd Z
 obtain ⟨D,k,K⟩:=Z5 hck
 have hDl:=K.run.ln
 have hrl:=K.run.len
 have hmul:g.ps.length*(g.ps.length-1)<=108*108:=Nat.mul_le_mul Z Z
 have hs1:=PF hz D
 have hs2:=PF hz g.ts
 obtain ⟨hp0,_,_⟩:=Ct (Bw hnb (j:=0) hck.t0)
 have hel2:=QA D
 refine al G6 O λb2=>Ah O sizeOf34 O (q3 (sL [2,3] O) (Ak 0 BY O (yI (S:=S) (α:=bX g.ps D g.ss k 0) (args:=[(aG (Cf g.mx))]) call7 (λw hw=>(by have h9:=bW g.mx hck hz2 w (CL hw 1 O lg:Ro _ w g.mx);rw [K.d1] at h9;exact h9)) O O O λd ld=>AL O (AD (AJ (v:=(aG (Cf d.x))) O O) O (AD (AJ (v:=(vN k)) O O) O (AD (AJ (v:=(vI 0)) O O) O (al G6 O λb3=>Ah O sizeOf34 O (asg' O ?_))))))))
 refine asg' O (q6 (sL [2,3,4,5,6] O) (zX (C8 (El 4++[(4,false),(5,true),(6,true),(7,true),(8,true),(10,true),(9,false),(11,false),(12,true),(13,true),(14,true),(15,true),(16,true),(17,true),(18,true),(19,true),(20,true),(21,true),(22,true),(23,true),(24,true),(25,true),(26,true),(27,true),(28,true),(29,true),(30,true)]) sr (Bp O (Al O (Bv (c:=false) O O jY) (Bp O (zW (v:=(aG (Cf d.x))) O (AU O) (Ad (i:=0) (vs:=Cf d.x) O O BY.a BY.s O O) O O (zN O (zg (v:=(vI 0)) (AU O) (Am (args:=[(aG (Cf d.x))]) O O call22) (λw hw=>Kb d.x K.run.ck w (CL hw 1 O ld:Ro _ w d.x)) O (A_ O) (zD sr (zW (v:=(qa false)) O (AU O) (Bv (c:=false) O O jY) O O ?_)))))))))))
 refine Al (v:=(qa false)) O (AP O O) (Bp O (zW (v:=(aG (Cf d.x))) O (AU O) (Ad (i:=0) (vs:=Cf d.x) O O BY.a BY.s O O) O O (zW (v:=(aG (Cf g.mx))) O (AU O) (Ad (i:=4) (vs:=Cf g.mx) O O BY.a BY.s O O) O O (zN O (zg (v:=(aG (AF (Er g.ps D D.length)))) (AU O) (Am (args:=[(aG (Cf d.x))]) O O call23) (λw hw=>Og d.x K.run.ck.tl K.run.ck.sz K.run.ck.num w (CL hw 1 O ld:Ro _ w d.x)) O (A_ O) (zD sr (zN O (zg (v:=(aG (AF (Er g.ps g.ts g.ts.length)))) (AU O) (Am (args:=[(aG (Cf g.mx))]) O O call23) (λw hw=>Og g.mx Z hz hnb w (CL hw 5 O lg:Ro _ w g.mx)) O (A_ O) (zD sr (zW (v:=(qa false)) O (AU O) (Nn O O eqGuardType68 (QC 9995 K.ar)) O O (Al (v:=(qa false)) O (AP O O) ?_)))))))))))
 refine Bp O (zW (v:=(vN k)) O (AU O) (Cn O) O O (zW (v:=(qa false)) O (AU O) (Ab (c:=false) O O (xH Z)) O O (Al (v:=(qa false)) O (AP O O) (Bp O (zW (v:=(vN k)) O (AU O) (Cn O) O O (zW (v:=(vN (2*k))) O (AU O) (Bo (c:=((2*k:Nat):Int)) O O (Cr (a:=2) (b:=k) Z)) O O (zW (v:=(pP b2 0)) O (AU O) (AA O underlying34 O sizeOf32 O) O O (zW (v:=(qz g.mx.a.p g.ps.length g.mx.a.c)) O (AU O) (AH (i:=4) (v:=(qz g.mx.a.p g.ps.length g.mx.a.c)) O O C2.a O) O O (zW (v:=(vN g.ps.length)) O (AU O) (AE O underlying32) O O (zW (v:=(pP b2 0)) O (AU O) (AA O underlying34 O sizeOf32 O) O O (zW (v:=(qz g.mx.a.p g.ps.length g.mx.a.c)) O (AU O) (AH (i:=4) (v:=(qz g.mx.a.p g.ps.length g.mx.a.c)) O O C2.a O) O O ?_)))))))))))
 refine zW (v:=(vN g.ps.length)) O (AU O) (AE O underlying32) O O (zW (v:=(vN (g.ps.length-1))) O (AU O) (Bt (c:=((g.ps.length-1:Nat):Int)) O O (CH (a:=g.ps.length) (b:=1) Z Z)) O O (zW (v:=(vN (g.ps.length*(g.ps.length-1)))) O (AU O) (Bo (c:=((g.ps.length*(g.ps.length-1):Nat):Int)) O O (Cr (a:=g.ps.length) (b:=g.ps.length-1) Z)) O O (zW (v:=(qa false)) O (AU O) (Da (c:=false) O O (xH Z)) O O (Al (v:=(qa false)) O (AP O O) (zQ (zB (sL [2,3,4,5,53] O) (zA (zS O (zC (q2 (Ak 0 BY O ?_)))))))))))
 refine cX (S:=S) (cs:=rowsL Bn (BK D)) (k:=(BK D).length) (args:=[(aG (Cf d.x))]) call17 (λw hw=>Tq d.x Z Z K.run.ck.num w (CL hw 1 O ld:Ro _ w d.x)) O O O λo lo=>asg' O (q6 (sL [2,3,4,5,7] O) (q4 (asg' O (oNl' (zA (zI ?_))))))
 refine zy (tg λ(i:Nat)=>i<=(BK D).length) (tg λ(i:Nat)=>[(3,(pP b2 0)),(4,(pP b3 0)),(5,(vN k)),(7,(qz o.p ((BK D).length) o.c)),(8,(vN i))]) (tg λ(i:Nat)=>[AN o.p (rowsL Bn (BK D)),AY b3 34 (Cf d.x),AN d.x.a.p (rowsL Aa g.ps),AN d.x.b.p (rowsL Af D),AN d.x.c.p (rowsL Af g.ss),AY b2 34 (Cf g.mx),AN g.mx.a.p (rowsL Aa g.ps),AN g.mx.b.p (rowsL Af g.ts),AN g.mx.c.p (rowsL Af g.ss),AY b1 26 (E2 m),AN m.p (DC m.cs)]) (tg λ(i:Nat)=>(BK D).length-i) 0 (xJ _) (sF O) sr (λi hJ=>?_)
 have hil:=hJ
 refine zX (q4 (AL O (AL O (AD (v:=(vN ((BK D).length))) (AE O underlying51) O (AD (Ab (c:=(decide (i<((BK D).length)))) O O (DA (a:=i) (b:=(BK D).length))) O (oNl' (zB (sL [3,4,5,7,8,59] O) (zA ?_))))))))
 refine zK O (λhc1=>?_) (λhc1=>?_)
 ·replace hc1:=xT hc1
  have hem:((BK D).getD i jA)∈BK D:=by rw [List.getD,xP hc1];exact List.getElem_mem hc1
  refine zC (q1 (zI (zX (C8 (El 11++[(11,false),(12,true),(13,true),(14,true),(15,true),(16,true)]) sr (Ej 1 BY O (Bp O (Bp O (Al (v:=(pP (pB o.p) (pO o.p+i*4))) O (AO (j:=i) O O o.ok underlying51 sizeOf54 O Z) (Al (v:=(pP (pB o.p) (pO o.p+(i*4+1)))) O (AA O underlying54 O sizeOf3 (Nat.add_assoc _ _ _)) (Al O (BA (v:=(vN (((BK D).getD i jA).b))) (i:=0) O O (A8.ne o.ok Z) Bk (D_ C9 jA _ _ 1 Z jY O)) (Bp O ?_)))))))))))
  refine Bp O (Al (v:=(pP (pB o.p) (pO o.p+i*4))) O (AO (j:=i) O O o.ok underlying51 sizeOf54 O Z) (Al (v:=(pP (pB o.p) (pO o.p+(i*4+0)))) O (AA O underlying54 O sizeOf3 (Nat.add_assoc _ _ _)) (Al O (BA (v:=(vN (((BK D).getD i jA).a))) (i:=0) O O (A8.ne o.ok Z) Bk (D_ C9 jA _ _ 0 Z jY O)) (zN O (C3 call18 (λw hw=>Tz d.x (((BK D).getD i jA).b:Int) (((BK D).getD i jA).a:Int) (K.lg hem).1 (K.lg hem).2 K.run.ck.num Z Z hz2 w (CL hw 2 O ld:Ro _ w d.x)) O (zD sr (Bp O (Al O (AJ (v:=(qa true)) O O) (Al O (AJ (v:=(vI 0)) O O) (pS' O (pS' O ?_)))))))))))
  refine zQ (zB (sL [3,4,5,7,8,9,10] O) (q2 (AL O (AD (BE (c:=false) O O) O (AL O (Gq O (BI (v:=(qa false)) O (Bv (c:=false) O O jY) (AD (v:=(qa false)) (AP O O) O (oNl' (zB (sL [3,4,5,7,8,82] O) (zA ?_)))))))))))
  exact zS O (zC (zF (zA (zH (AL O (AD (AS (c:=((i+1:Nat):Int)) O O (AV (a:=i) (b:=1) Z)) O (asg' O (oNl' (zB (sL [3,4,5,7,8] O) (zm (i+1) Z Z (sF O) sr))))))))))
 ·replace hc1:=xS hc1
  refine zU (zO (zY (zP (q2 (Ak 1 BY O (yI (S:=S) (α:=bX g.ps D g.ss 0 0) (args:=[(aG (Cf d.x))]) call7 (λw hw=>(by have h9:=bW d.x K.run.ck hz2 w (CL hw 2 O ld:Ro _ w d.x);rw [K.d2] at h9;exact h9)) O O O λv9 lv9=>AL O (AD (AJ (v:=(aG (Cf v9.x))) O O) O (AD (AJ (v:=(vI 0)) O O) O (AD (AJ (v:=(vI 0)) O O) O (al G6 O λb4=>?_))))))))))
  refine Ah O sizeOf34 O (asg' O (asg' O (q6 (sL [3,4,5,7,8,11,12,13] O) (C8 [(0,true),(2,true),(1,false),(3,false),(4,false),(5,true)] sr (Ej 5 BY O (Ej 9 BY O (zN O (C3 call21 (λw hw=>T7 d.x K.run.ck.num Z Z hz w (CL hw 6 O ld:Ro _ w d.x)) O (zD sr (zN O (C3 call21 (λw hw=>T7 g.mx hnb Z Z hz w (CL hw 10 O lg:Ro _ w g.mx)) O ?_)))))))))))
  refine zD sr (zN O (ck' call20 (Nq (DE g.ps D) (DE g.ps g.ts) Z) O (zD sr (pS' O (zQ (zB (sL [3,4,5,7,8,11,12,13,14] O) (q1 (q4 (AL O (AD (Bv (c:=false) O O jY) O (AL O ?_)))))))))))
  refine Gq O (BI (v:=(qa false)) O (Bv (c:=false) O O jY) (AD (v:=(qa false)) (AP O O) O (AL O (BI (v:=(aG (Cf v9.x))) O (Ad (i:=0) (vs:=Cf v9.x) O O BY.a BY.s O O) (BI (v:=(aG (Cf d.x))) O (Ad (i:=5) (vs:=Cf d.x) O O BY.a BY.s O O) (zg (v:=(qa true)) (AU O) (Am (args:=[(aG (Cf v9.x)),(aG (Cf d.x))]) O O call24) (λw hw=>UC v9.x d.x Z Z Z w (CL hw 1 O lv9:Ro _ w v9.x) (CL hw 6 O ld:Ro _ w d.x)) O (A_ O) (BI (v:=(qa false)) O (BE (c:=false) O O) (AD (v:=(qa false)) (AP O O) O (AL O (Gq O (BI (v:=(qa false)) O (Da (c:=false) O O (xH K.le.1)) ?_)))))))))))
  refine AD (v:=(qa false)) (AP O O) O (AL O (Gq O (BI (v:=(qa (decide ((FV (DE g.ps D) (DE g.ps g.ts))=(0:Int))))) O (BM (c:=(decide ((FV (DE g.ps D) (DE g.ps g.ts))=(0:Int)))) O O O) (Gq O (BI (v:=(qa (decide (k=0)))) O (BM (c:=(decide (k=0))) O O (O5 (a:=k) (b:=0))) (BI (v:=(qa false)) O (Ja (c:=false) O O underlying4 (by rw [K.le.2];simp)) (AD (v:=(qa false)) (AP O O) O (oNl' (zB (sL [3,4,5,7,8,11,116] O) (zA (zS O ?_)))))))))))
  refine zC (q2 (AD (v:=(pP b2 1)) (AA O underlying34 O sizeOf28 O) O (BG 9 (qz g.mx.b.p g.ts.length g.mx.b.c) C5 O (AD (v:=(pP b3 1)) (AA O underlying34 O sizeOf28 O) O (Fj 5 (off:=1) (vs:=[(qz g.mx.b.p g.ts.length g.mx.b.c)]) (cs':=[(qz d.x.a.p g.ps.length d.x.a.c),(qz g.mx.b.p g.ts.length g.mx.b.c),(qz d.x.c.p g.ss.length d.x.c.c)]) (AI O) O sizeOf28 O (q3 (sL [3,4,5,7,8,11] O) (Ak 5 BY O (Ak 9 BY O (C3 call24 (λw hw=>UC (⟨d.x.a,g.mx.b,d.x.c⟩:MX g.ps g.ts g.ss) g.mx Z Z Z w (cR (Lp (cO (x:=d.x) (CL hw 6 O ld:Ro _ w d.x))) (Lp (aZ (x:=g.mx) (CL hw 10 O lg:Ro _ w g.mx))) (Lp (cP (x:=d.x) (CL hw 6 O ld:Ro _ w d.x)))) (CL hw 10 O lg:Ro _ w g.mx)) O (AL O (zg (v:=(qa true)) (AU O) (Am (args:=[]) O O call13) (λw hw=>QX w (hT.below hw.out)) O (A_ O) ?_)))))))))))
  exact AD (v:=(qa true)) (AX O O) O (asg' O (oNl' (zB (sL [3,4,5,7,8,11,2] O) (zA (zG (ret_one O (rd_tmp (v:=(qa true)) O) (λw hw=>⟨rfl,hw.out⟩)))))))
end
section
open Go Go.RowKit Go.ChangeShapes Go.WideShapes Go.ChangeAt
theorem YR:laidOutB Tryz.prog=true:=by kernel_rfl
theorem V_:ownKnob Tryz.prog.godebug=none:=by kernel_rfl
theorem Hl {H:Type} {enc:TypeId×Value->H} {P:Program} (hl:laidOutB P=true) {W W':World} {sp:Nat->Bool} (hb:Below W.heap.size W W') :
    ∀{ts:List TypeId} {vs:List Value} {ds:List (DataW H)} {ps:List MemPlace},(∀t∈ts,P.readableRec t=true/\t<P.types.size)->DataW.TrodAll enc P W 0 (λ_=>true) true ts vs ds ps ->
      (∀p∈ps,p.block<W.heap.size)->(∀p∈ps,sp p.block=true)->DataW.TrodAll enc P W' 0 sp true ts vs ds ps
  | [],_,_,_,_,h,_,_=>by
    obtain ⟨rfl,rfl,rfl⟩:=trodAll_nil h
    exact trodAll_mk0
  | t::ts,_,_,_,hr,h,hlt,hs=>by
    obtain ⟨v,vs1,d,ds1,a,b,rfl,rfl,rfl,h1,h2⟩:=trodAll_cons h
    exact ⟨a,b,WideElems.Trod_stays hl (hr t jX).1 (hr t jX).2 h1 (λx hx=>hb.same (hlt x (by simp [hx]))) (λx hx=>hs x (by simp [hx])),
      Hl hl hb (λu hu=>hr u (by simp [hu])) h2 (λp hp=>hlt p (by simp [hp])) (λp hp=>hs p (by simp [hp])),rfl⟩
theorem VX {H:Type} {enc:TypeId×Value->H} {P:Program} {f:Func} {s:ChangeSpec} {apart fresh handsOn again:Bool} {W W':World} {args:Array Value} {ds:List (DataW H)} {CJ:List MemPlace} {tb:TypeId}
    (hW:DataW.Whole enc P f.params.toList s.vars apart W args.toList ds [] CJ) (hv:s.vars=[]) (hfn:s.fn H ds=({ results:=[.lit (.bool true)],args:=ds }:Left H))
    (hrt:f.resultTypes=#[tb]) (hu:P.underlying tb=some .bool) (hb:Below W.heap.size W W') (hl:laidOutB P=true) (hr:∀t∈f.params.toList,P.readableRec t=true/\t<P.types.size) :
    s.post enc P f apart fresh handsOn again W args (.bool true) W':=by
  have hlt:∀p∈CJ,p.block<W.heap.size:=λp hp=>hW.lt p hp
  have hW2:=hW
  obtain ⟨pa,q,hA,hV,he,hz,hn⟩:=hW2
  rw [hv] at hV
  obtain ⟨_,rfl⟩:=trodVars_none hV
  simp only [List.append_nil] at he
  subst he
  have hres:∀(b:Nat) (sp:Nat->Bool) (hd:Bool),DataW.TrodAll enc P W' b sp hd f.resultTypes.toList ((qa true).resultList f.resultTypes.size) (s.fn H (ds++[])).results []:=λb sp hd=>by
    rw [hrt,List.append_nil,hfn]
    exact trodAll_mk1 (shut_bool hu _)
  have hargs:∀sp:Nat->Bool,(∀p∈CJ,sp p.block=true)->DataW.TrodAll enc P W' 0 sp true f.params.toList args.toList (s.fn H (ds++[])).args CJ:=λsp hs=>by
    rw [List.append_nil,hfn]
    exact Hl hl hb hr hA hlt hs
  have hvars:∀sp:Nat->Bool,DataW.TrodVars enc P W' sp s.vars (s.fn H (ds++[])).vars []:=λsp=>by
    rw [List.append_nil,hfn,hv];rfl
  have hold:∀p∈CJ,(λb=>decide (b<W.heap.size)) p.block=true:=λp hp=>by simpa using hlt p hp
  refine ⟨ds,[],CJ,[],CJ,[],hW,hres _ _ _,hargs _ hold,hvars _,World.keptBut_mono (λp hp=>⟨hp,Or.inr (by simpa using hp)⟩) (hb.frame (·∈CJ)),λ_=>⟨?_,_,_,([]++CJ)++[],⟨[]++CJ,[],trodAll_append (hargs _ (λ_ _=>rfl)) (hres _ _ _),hvars _,rfl,?_,?_⟩,?_⟩⟩
  · exact ok_one hrt O (okWide_bool_mk hu _)
  · intro b off hp
    have hp':MemPlace.cell b off∈CJ:=by simpa using hp
    rw [hb.frozen (hlt _ hp')]
    exact hz b off hp'
  · intro ha
    have:=hn ha
    simpa using this
  · intro p hp _
    simpa using hp
end
section
open Go Go.RowKit Go.WideShapes
section
variable {P:Program} {w:World} {r:Reach} {base:Nat}
theorem ET {u:TypeId} {v:Value} {k:IntKind} (hu:P.underlying u=some (.int k)) (h:Cell.okWide P w r base u v):∃n,v=.int k n/\k.has n:=by
  simp only [Cell.okWide,hu] at h
  unfold Cell.ok at h
  rw [hu] at h
  cases v<;>simp at h
  exact ⟨_,by rw [h.1],h.2⟩
theorem P5 {u e:TypeId} {v:Value} (hu:P.underlying u=some (.slice e)) (h:Cell.okWide P w r base u v) :
    v=.slice none 0 0\/∃a len cap,v=.slice (some a) len cap/\len<=cap/\a.spot=none/\∃cur T fr,w.heap[a.block]?=some (.cells cur T fr):=by
  simp only [Cell.okWide,hu] at h
  unfold Cell.ok at h
  rw [hu] at h
  cases v with
  | slice p len cap =>
    cases p with
    | none =>
      left
      split at h<;>simp_all
    | some a =>
      right
      have h':len<=cap/\(cap:Int)<=IntKind.i64.max/\w.has P r base a e cap:=h
      obtain ⟨h1,_,_,h2,row,cells,h3,_⟩:=h'
      refine ⟨a,len,cap,rfl,h1,h2,?_⟩
      unfold World.shape? at h3
      split at h3
      · rename_i cur T fr e;exact ⟨cur,T,fr,e⟩
      · cases h3
  | _=>simp at h
theorem N0 {n:Int} (h:IntKind.i8.has n):-128<=n/\n<=127:=by
  simp only [IntKind.has,IntKind.min,IntKind.max,IntKind.bits,IntKind.signed] at h;simp at h;omega
theorem bG {n:Int} (h:IntKind.u8.has n):0<=n/\n<256:=by
  simp only [IntKind.has,IntKind.min,IntKind.max,IntKind.bits,IntKind.signed] at h;simp at h;omega
theorem L8 {n:Int} (h:IntKind.u8.has n):∃m:Nat,n=(m:Int)/\m<256:=by
  have:=bG h
  exact ⟨n.toNat,Z,Z⟩
theorem Ot {f:Nat->Option Value}:∀(len:Nat),(∀i,i<len->∃m:Nat,f i=some (.int .u8 (m:Nat))/\m<256)->∃l:List Nat,l.length=len/\(∀x∈l,x<256)/\∀i,i<len->f i=(DC l)[i]?
  | 0,_=>⟨[],rfl,(λx h=>by cases h),λi h=>absurd h (Nat.not_lt_zero _)⟩
  | n+1,h=>by
    obtain ⟨l,h1,h2,h3⟩:=Ot n λi hi=>h i Z
    obtain ⟨m,h4,h5⟩:=h n Z
    refine ⟨l++[m],by simp [h1],λx hx=>?_,λi hi=>?_⟩
    · rcases List.mem_append.1 hx with hx|hx
      · exact h2 x hx
      · rcases xO.1 hx with rfl;exact h5
    · rcases Nat.lt_or_ge i n with h6|h6
      · rw [h3 i h6];simp [DC,List.getElem?_append,h1,h6]
      · obtain rfl:i=n:=by omega
        rw [h4];simp [DC,List.getElem?_append,h1]
theorem QW {cur:Array Value} {T:TypeId} {fr:Nat×Nat} {off len:Nat} {l:List Nat} (hl:l.length=len) (h:∀i,i<len->cur[off+i]?=(DC l)[i]?):Hf off (DC l) (.cells cur T fr):=by
  have hb:(DC l).length=len:=by simp [DC,hl]
  refine ⟨cur,T,fr,rfl,List.ext_getElem? λi=>?_⟩
  rw [List.getElem?_take,hb]
  split
  · rename_i hi
    rw [List.getElem?_drop,Array.getElem?_toList,h i hi]
  · rw [List.getElem?_eq_none Z]
theorem bg {H:Type} {enc:TypeId×Value->H} {W:World} {sp:Nat->Bool} {hd:Bool} {t ts e a0 a1 a2 a3 a4 a5 a6 a7:TypeId} {v:Value} {d:DataW H} {ps:List MemPlace} {fs:Array Field} (ht:P.underlying t=some (.struct fs)) (hf:∃f,fs[2]?=some f/\f.type=ts/\f.offset=2)
    (hts:P.underlying ts=some (.slice e)) (h1:P.cellsOf ts=1) (he:P.underlying e=some (.int .u8)) (h1e:P.cellsOf e=1) (hct:P.cellTypes P.depth t=some [a0,a1,ts,a2,a3,a4,a5,a6,a7]) (hsz:P.cellsOf t=9)
    (hk:[a0,a1,a2,a3,a4,a5,a6,a7].map P.underlying=[IntKind.u8,.u8,.i8,.i8,.i8,.i8,.u8,.u8].map (λk=>some (.int k)))
    (hv:Value.okWide P W r base t v) (hT:DataW.Trod enc P W 0 sp hd t v d ps):∃m:MQ,v=aG (E2 m)/\Ro (λ_=>True) W m:=by
  unfold Value.okWide at hv
  rw [ht] at hv
  obtain ⟨⟨cs⟩,rfl,hs,ts',hts',_,hc⟩:=hv
  obtain rfl:=Option.some.inj (hct.symm.trans hts')
  have hl:cs.length=9:=by rw [<-hsz,<-hs];simp
  match cs,hl,hc,hT with
  | [c0,c1,c2,c3,c4,c5,c6,c7,c8],_,hc,hT =>
    simp only [List.map_cons,List.map_nil,List.cons.injEq,and_true] at hk
    obtain ⟨k0,k1,k2,k3,k4,k5,k6,k7⟩:=hk
    have g:∀(i:Nat) (u:TypeId) (v:Value),i<9->[a0,a1,ts,a2,a3,a4,a5,a6,a7][i]?=some u->[c0,c1,c2,c3,c4,c5,c6,c7,c8][i]?=some v->Cell.okWide P W r base u v:=λi u v hi hu hv=>by
      obtain ⟨u',h2,h3⟩:=hc i v (by simpa using hv)
      rw [Nat.mod_eq_of_lt (by simpa using hi),hu] at h2
      cases h2;exact h3
    obtain ⟨n0,rfl,b0⟩:=ET k0 (g 0 _ _ jY rfl rfl)
    obtain ⟨n1,rfl,b1⟩:=ET k1 (g 1 _ _ jY rfl rfl)
    obtain ⟨n2,rfl,b2⟩:=ET k2 (g 3 _ _ jY rfl rfl)
    obtain ⟨n3,rfl,b3⟩:=ET k3 (g 4 _ _ jY rfl rfl)
    obtain ⟨n4,rfl,b4⟩:=ET k4 (g 5 _ _ jY rfl rfl)
    obtain ⟨n5,rfl,b5⟩:=ET k5 (g 6 _ _ jY rfl rfl)
    obtain ⟨n6,rfl,b6⟩:=ET k6 (g 7 _ _ jY rfl rfl)
    obtain ⟨n7,rfl,b7⟩:=ET k7 (g 8 _ _ jY rfl rfl)
    obtain ⟨m0,rfl,e0⟩:=L8 b0
    obtain ⟨m1,rfl,e1⟩:=L8 b1
    obtain ⟨m6,rfl,e6⟩:=L8 b6
    obtain ⟨m7,rfl,e7⟩:=L8 b7
    have hsl:=P5 hts (g 2 _ _ jY rfl rfl)
    have key:∃(l:List Nat) (p:Option Addr) (cap:Nat),c2=.slice p l.length cap/\(∀x∈l,x<256)/\A8 p l.length cap/\Holds W (AN p (DC l)):=by
      rcases hsl with rfl|⟨a,len,cap,rfl,hlc,hsp,cur,T,fr,hcur⟩
      · exact ⟨[],none,0,rfl,(λx h=>by cases h),⟨λ_=>⟨rfl,rfl⟩,(λa e=>by cases e),Nat.le_refl _⟩,λb e=>by cases e⟩
      · obtain ⟨fuel,hT⟩:=hT
        obtain ⟨xs,n,_,_,_,hxl,hx⟩:=DataW.trod_struct ht hT
        obtain ⟨f,hf1,rfl,hf3⟩:=hf
        have hx2:=hx 2 f hf1
        have hlt:2<xs.length:=by
          rw [hxl]
          rcases Nat.lt_or_ge 2 fs.size with h|h
          · exact h
          · rw [Array.getElem?_eq_none h] at hf1;cases hf1
        rw [hf3,h1,xP hlt] at hx2
        rcases DataW.trod_slice hts hx2 with ⟨h2,_⟩|⟨a',len',cap',elems,rest,n',_,h2,_,_,_,_,hel,hes,_⟩
        · cases h2
        · obtain ⟨rfl,rfl,rfl⟩:a=a'/\len=len'/\cap=cap':=by
            have h3:[qz (some a) len cap]=[qz (some a') len' cap']:=h2
            simp only [List.cons.injEq,qz.injEq,Option.some.injEq,and_true] at h3
            exact h3
          have hbyte:∀i,i<len->∃m:Nat,cur[a.off+i]?=some (.int .u8 (m:Nat))/\m<256:=λi hi=>by
            have h3:=hes i hi
            rw [xP Z,Option.bind_eq_some_iff] at h3
            obtain ⟨cs',h4,h5⟩:=h3
            obtain ⟨n,rfl,_,hwf⟩:=DataW.trod_int he h5
            rw [h1e,Nat.mul_one] at h4
            unfold World.cells? at h4
            rw [if_pos (xJ _)] at h4
            have h6:=mapM_some_get h4 0 0 jX
            rw [List.getElem?_cons_zero] at h6
            have ha:a=⟨a.block,a.off,none⟩:=by rw [<-hsp]
            have h7:W.cell? ((a.add i).add 0)=some (Value.int IntKind.u8 n):=h6
            rw [ha,add_plain,add_plain,Nat.add_zero] at h7
            unfold World.cell? at h7
            simp only [hcur] at h7
            have h8:IntKind.u8.has n:=by
              have h9:(decide (IntKind.u8.min<=n)&&decide (n<=IntKind.u8.max))=true:=hwf
              rw [yz,xV,xV] at h9
              exact h9
            obtain ⟨m,rfl,hm⟩:=L8 h8
            exact ⟨m,by simpa using h7,hm⟩
          obtain ⟨l,hl1,hl2,hl3⟩:=Ot len hbyte
          refine ⟨l,some a,cap,by rw [hl1],hl2,⟨(λe=>by cases e),(λa' e=>by cases e;exact hsp),Z⟩,λb e=>?_⟩
          have hb:a.block=b:=Option.some.inj e
          subst hb
          exact ⟨_,hcur,QW hl1 hl3⟩
    obtain ⟨l,p,cap,rfl,hl2,hok,hh⟩:=key
    exact ⟨⟨m0,m1,l,p,cap,n2,n3,n4,n5,m6,m7,e0,e1,N0 b2,N0 b3,N0 b4,N0 b5,e6,e7,hl2,hok⟩,rfl,λy hy=>by
      rcases xO.1 hy with rfl
      exact ⟨hh,λ_ _=>trivial⟩⟩
end
end
end Go.Proofs.YtbfdamnfcmefmaaGreatDoor
