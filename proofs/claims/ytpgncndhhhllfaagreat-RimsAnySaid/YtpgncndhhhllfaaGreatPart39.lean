import Derived.Test.YtpgncndhhhllfaaGreatPart20
import Derived.Test.YtpgncndhhhllfaaGreatPart23
import Derived.Test.YtpgncndhhhllfaaGreatPart32
import Derived.Test.YtpgncndhhhllfaaGreatPart35
import Derived.Test.YtpgncndhhhllfaaGreatPart36
namespace Go.Proofs.YtpgncndhhhllfaaGreat
open Go Go.RowKit Go.Proofs.Tryz
set_option linter.unusedVariables false
set_option linter.unusedSimpArgs false
section
set_option maxRecDepth 100000
theorem Jw {N:Nat} {ts ss:List T3} (x:RM N ts ss) (l:List Int) (n:Nat) (hpt:Hv ts l n) (hnb:A_ N ts=true) (hne:0<ts.length) (hp:N<=1000000) (htl:ts.length<=1000000) (w:World) {S:Nat->Prop} (hx:Ro S w x):Calls prog 27 #[(aG (BN x))] w (Ak w (vI (((n:Nat):Int)-EU ts))):=by
 have hel0:=H9 ts
 have hcl0:=GC (ts:=ts) (3*ts.length)
 have hez:EU ts=((B5 ts (3*ts.length)).length:Int)-(Bv ts).length+ts.length:=rfl
 have hnle:=hpt.nle
 have lx:=CV (W:=w) hx
 refine Ag (args:=[(aG (BN x))]) (L:=[AJ x.a.p (x.cs),AJ x.b.p (rowsL Am ts),AJ x.c.p (x.ds)]) func27 O O (AV O) (C4 hx Ao) (AE.subF (sL [0] O) (q4 (B0 (cs:=BN x) O λb1=>AI O (q3 (sL [1,2] O) (BC 0 CF O (AC.callR (S:=S) (α:=VF ts) (args:=[(aG (BN x))]) call22 (λw hw=>J5 x hnb hne hp htl w (Bc hw 1 O lx)) O O O λpa lpa=>AM O (AK (AX (v:=(Value.slice pa.r.p pa.l.length pa.r.c)) O O) O (AK (AX (v:=(vN pa.n)) O O) O (AC.retell (k:=9) (u:=(vN n)) O (by rw [Se hpt pa.pts]) ?_)))))))))
 exact AI O (AI O (q3 (sL [1,2,4] O) (AM O (BC 1 CF O (Cc call25 (λw hw=>FG x hnb hp htl w (Bc hw 2 O lx)) O (AK (BO (c:=(((n:Nat):Int)-EU ts)) O O (BJ Z Z)) O (AI O (AC.nil (OkQ.subF (sL [1,2] O) (OkQ.then_ (AE.ret (AS O (AZ (v:=(vI (((n:Nat):Int)-EU ts))) O) (λw hw=>⟨rfl,hw.out⟩)))))))))))))
theorem VG {ps:List Pt} {ts ss:List T3} (x:MX ps ts ss) (l:List Int) (n:Nat) (hpt:Hv ts l n) (hnb:A_ ps.length ts=true) (hne:0<ts.length) (hp:ps.length<=1000000) (htl:ts.length<=1000000) (w:World) {S:Nat->Prop} (hx:Ro S w x):Calls prog 27 #[(aG (IM x))] w (Ak w (vI (((n:Nat):Int)-EU ts))):=Jw x.rm l n hpt hnb hne hp htl w (VW hx)
theorem Mp {N:Nat} {ts ss:List T3} (x:RM N ts ss) (hnb:A_ N ts=true) (hne:ts.length=0) (hp:N<=1000000) (htl:ts.length<=1000000) (w:World) {S:Nat->Prop} (hx:Ro S w x):Calls prog 27 #[(aG (BN x))] w (Ak w (vI (((0:Nat):Int)-EU ts))):=by
 have hel0:=H9 ts
 have hcl0:=GC (ts:=ts) (3*ts.length)
 have hez:EU ts=((B5 ts (3*ts.length)).length:Int)-(Bv ts).length+ts.length:=rfl
 have lx:=CV (W:=w) hx
 refine Ag (args:=[(aG (BN x))]) (L:=[AJ x.a.p (x.cs),AJ x.b.p (rowsL Am ts),AJ x.c.p (x.ds)]) func27 O O (AV O) (C4 hx Ao) (AE.subF (sL [0] O) (q4 (B0 (cs:=BN x) O λb1=>AI O (q3 (sL [1,2] O) (BC 0 CF O (Cc call22 (λw hw=>Ie x hnb hne hp w (Bc hw 1 O lx)) O (AM O (AK (AX (v:=(Value.slice none 0 0)) O O) O (AK (AX (v:=(vI 0)) O O) O (AI O ?_))))))))))
 exact AI O (q3 (sL [1,2,4] O) (AM O (BC 0 CF O (Cc call25 (λw hw=>FG x hnb hp htl w (Bc hw 1 O lx)) O (AK (BO (c:=(((0:Nat):Int)-EU ts)) O O (BJ Z Z)) O (AI O (AC.nil (OkQ.subF (sL [1,2] O) (OkQ.then_ (AE.ret (AS O (AZ (v:=(vI (((0:Nat):Int)-EU ts))) O) (λw hw=>⟨rfl,hw.out⟩))))))))))))
theorem Jn (w:World):Calls prog 29 #[(vI 0),(vI 0)] w (Ak w (aG (CG (⟨0,0⟩:Pt)))):=by
 have h:=GS (0) (0) (by decide) (by decide) (by decide) (by decide) w
 rw [show (⟨(((0):Int):Rat),(((0):Int):Rat)⟩:Pt)=(⟨0,0⟩:Pt) from by decide +kernel] at h
 exact h
theorem Jr (w:World):Calls prog 29 #[(vI 1),(vI 0)] w (Ak w (aG (CG (⟨1,0⟩:Pt)))):=by
 have h:=GS (1) (0) (by decide) (by decide) (by decide) (by decide) w
 rw [show (⟨(((1):Int):Rat),(((0):Int):Rat)⟩:Pt)=(⟨1,0⟩:Pt) from by decide +kernel] at h
 exact h
theorem Oa (w:World):Calls prog 29 #[(vI 1),(vI 1)] w (Ak w (aG (CG (⟨1,1⟩:Pt)))):=by
 have h:=GS (1) (1) (by decide) (by decide) (by decide) (by decide) w
 rw [show (⟨(((1):Int):Rat),(((1):Int):Rat)⟩:Pt)=(⟨1,1⟩:Pt) from by decide +kernel] at h
 exact h
theorem JR (w:World):Calls prog 29 #[(vI 0),(vI 1)] w (Ak w (aG (CG (⟨0,1⟩:Pt)))):=by
 have h:=GS (0) (1) (by decide) (by decide) (by decide) (by decide) w
 rw [show (⟨(((0):Int):Rat),(((1):Int):Rat)⟩:Pt)=(⟨0,1⟩:Pt) from by decide +kernel] at h
 exact h
theorem NT (w:World):Calls prog 29 #[(vI (-1:Int)),(vI 0)] w (Ak w (aG (CG (⟨-1,0⟩:Pt)))):=by
 have h:=GS (-1) (0) (by decide) (by decide) (by decide) (by decide) w
 rw [show (⟨(((-1):Int):Rat),(((0):Int):Rat)⟩:Pt)=(⟨-1,0⟩:Pt) from by decide +kernel] at h
 exact h
theorem N3 (w:World):Calls prog 29 #[(vI 0),(vI (-1:Int))] w (Ak w (aG (CG (⟨0,-1⟩:Pt)))):=by
 have h:=GS (0) (-1) (by decide) (by decide) (by decide) (by decide) w
 rw [show (⟨(((0):Int):Rat),(((-1):Int):Rat)⟩:Pt)=(⟨0,-1⟩:Pt) from by decide +kernel] at h
 exact h
def TR:List Pt:=[⟨0,0⟩,⟨1,0⟩,⟨1,1⟩,⟨0,1⟩]
def H4:List T3:=[(0,1,2),(0,2,3)]
def Xt:List Pt:=[⟨0,0⟩,⟨1,0⟩,⟨0,1⟩,⟨-1,0⟩,⟨0,-1⟩]
def M8:List T3:=[(0,1,2),(0,3,4)]
def Ix:List T3:=[(0,1,0),(3,0,1),(1,2,0),(2,3,1)]
theorem YF (x:MX TR H4 []) (w:World) {S:Nat->Prop} (hx:Ro S w x):Calls prog 16 #[aG (IM x)] w (Al (RX (rowsL Am Ix) Ix.length) S w):=by
 have h:=Vc x (by decide +kernel) (by decide) (by decide) w hx
 rw [show Ab H4=Ix from by decide +kernel] at h
 exact h
theorem Ww (x:MX TR H4 []) (w:World) {S:Nat->Prop} (hx:Ro S w x):Calls prog 20 #[aG (IM x)] w (Al (aD [0,1,2,3]) S w) :=
 (OB x (by decide +kernel) (by decide +kernel) (by decide) (by decide) w hx).mono λe w' h=>Yv (show Hl H4=[[0,1,2,3]] from by decide +kernel) h
theorem S8 (x:MX Xt M8 []) (w:World) {S:Nat->Prop} (hx:Ro S w x):Calls prog 20 #[aG (IM x)] w (Al (aO 2) S w) :=
 (OB x (by decide +kernel) (by decide +kernel) (by decide) (by decide) w hx).mono λe w' h=>Xn (show (Hl M8).length=2 from by decide +kernel) h
theorem ZU:∀s,s<H4.length->Iw H4 0 s:=λs hs=>by
 have e:s=0\/s=1:=by have:H4.length=2:=rfl;omega
 rcases e with rfl|rfl
 ·exact .refl
 ·exact .step .refl (by decide) ⟨0,0,by decide,by decide,rfl⟩
theorem Yd:∀s,s<M8.length->Iw M8 0 s:=λs hs=>by
 have e:s=0\/s=1:=by have:M8.length=2:=rfl;omega
 rcases e with rfl|rfl
 ·exact .refl
 ·exact .step .refl (by decide) ⟨0,0,by decide,by decide,rfl⟩
theorem KS (x0 x1 x2 x3:Pt):Instr.fill (λi=>some (i*10,10)) ((Array.range (4*10)).map ((Value.agg (CG (⟨0,0⟩:Pt)).toArray).cells[·%(Value.agg (CG (⟨0,0⟩:Pt)).toArray).cells.size]!)) [(0,.agg (CG x0).toArray),(1,.agg (CG x1).toArray),(2,.agg (CG x2).toArray),(3,.agg (CG x3).toArray)]=some (CG x0++CG x1++CG x2++CG x3).toArray:=by kernel_rfl
theorem DN (x0 x1 x2:Nat):Instr.fill (λi=>some (i*1,1)) (Am ((0,0,0):Tq3)).toArray [(0,vN x0),(1,vN x1),(2,vN x2)]=some (Am (x0,x1,x2)).toArray:=by kernel_rfl
theorem F2 (x0 x1:Tq3):Instr.fill (λi=>some (i*3,3)) ((Array.range (2*3)).map ((Value.agg (Am ((0,0,0):Tq3)).toArray).cells[·%(Value.agg (Am ((0,0,0):Tq3)).toArray).cells.size]!)) [(0,.agg (Am x0).toArray),(1,.agg (Am x1).toArray)]=some (Am x0++Am x1).toArray:=by kernel_rfl
theorem JM (x0 x1 x2 x3 x4:Pt):Instr.fill (λi=>some (i*10,10)) ((Array.range (5*10)).map ((Value.agg (CG (⟨0,0⟩:Pt)).toArray).cells[·%(Value.agg (CG (⟨0,0⟩:Pt)).toArray).cells.size]!)) [(0,.agg (CG x0).toArray),(1,.agg (CG x1).toArray),(2,.agg (CG x2).toArray),(3,.agg (CG x3).toArray),(4,.agg (CG x4).toArray)]=some (CG x0++CG x1++CG x2++CG x3++CG x4).toArray:=by kernel_rfl
set_option maxHeartbeats 1000000 in
theorem Jp  (w:World)  :Calls prog 9 #[] w (Ak w (Value.bool true)):=by
 refine An (args:=[]) func9 O O (AV O) (AE.subF sN (q4 (AI O (AC.nil (q2 (ck' call29 (Jn) O (ck' call29 (Jr) O (ck' call29 (Oa) O (ck' call29 (JR) O (AC.openV (V:=λb1=>(Value.slice (some ⟨b1,0,none⟩) 4 4)) (T:=66) (cs:=CG (⟨0,0⟩:Pt)++CG (⟨1,0⟩:Pt)++CG (⟨1,1⟩:Pt)++CG (⟨0,1⟩:Pt)) (AT O) (Ap (z:=.agg (CG (⟨0,0⟩:Pt)).toArray) (cs:=CG (⟨0,0⟩:Pt)++CG (⟨1,0⟩:Pt)++CG (⟨1,1⟩:Pt)++CG (⟨0,1⟩:Pt)) (pv:=[(0,(aG (CG (⟨0,0⟩:Pt)))),(1,(aG (CG (⟨1,0⟩:Pt)))),(2,(aG (CG (⟨1,1⟩:Pt)))),(3,(aG (CG (⟨0,1⟩:Pt))))]) underlying27 sizeOf66 zeroValue66 (by decide) (by decide) O (KS (⟨0,0⟩:Pt) (⟨1,0⟩:Pt) (⟨1,1⟩:Pt) (⟨0,1⟩:Pt))) O (AV O) λb1=>AK (v:=(aG (Am (0,1,2)))) (BY (zs:=Am ((0,0,0):Tq3)) (vs:=Am (0,1,2)) (pv:=[(0,(vI 0)),(1,(vI 1)),(2,(vI 2))]) zeroValue68 underlying68 sizeOf3 O (DN 0 1 2)) O ?_))))))))))
 refine AK (v:=(aG (Am (0,2,3)))) (BY (zs:=Am ((0,0,0):Tq3)) (vs:=Am (0,2,3)) (pv:=[(0,(vI 0)),(1,(vI 2)),(2,(vI 3))]) zeroValue68 underlying68 sizeOf3 O (DN 0 2 3)) O (AC.openV (V:=λb2=>(Value.slice (some ⟨b2,0,none⟩) 2 2)) (T:=68) (cs:=Am (0,1,2)++Am (0,2,3)) (AT O) (Ap (z:=.agg (Am ((0,0,0):Tq3)).toArray) (cs:=Am (0,1,2)++Am (0,2,3)) (pv:=[(0,(aG (Am (0,1,2)))),(1,(aG (Am (0,2,3))))]) underlying28 sizeOf68 zeroValue68 (by decide) (by decide) O (F2 (0,1,2) (0,2,3))) O (AV O) λb2=>AK (v:=(aG ([(Value.slice (some ⟨b1,0,none⟩) 4 4),(Value.slice (some ⟨b2,0,none⟩) 2 2),(Value.slice none 0 0)]))) (Aa (zs:=[(Value.slice none 0 0),(Value.slice none 0 0),(Value.slice none 0 0)]) (vs:=[(Value.slice (some ⟨b1,0,none⟩) 4 4),(Value.slice (some ⟨b2,0,none⟩) 2 2),(Value.slice none 0 0)]) (pv:=[(0,(Value.slice (some ⟨b1,0,none⟩) 4 4)),(1,(Value.slice (some ⟨b2,0,none⟩) 2 2))]) (places:=[(0,1),(1,1),(2,1)]) zeroValue31 underlying31 (λw=>by simp [sizeOf27,sizeOf28,sizeOf29]) O O) O (al WE O λb3=>BP O sizeOf31 O (AC.litM2 (S:=λ_=>False) (ps:=TR) (ts:=H4) (λmm=>[AJ mm.c.p (rowsL Am ([]:List T3)),Ah b3 31 (IM mm),AJ mm.b.p (rowsL Am H4),AJ mm.a.p (rowsL CG TR)]) 2 1 (by decide) O O O O O λmm hmm=>q3 (sL [0,1] O) (BC 1 CF O (AC.callR (S:=λ_=>False) (α:=RX (rowsL Am Ix) Ix.length) (args:=[(aG (IM mm))]) call16 (λw hw=>YF mm w (X3 hw [3,2,0] O hmm)) O O O λwy lwy=>AI O (q3 (sL [0,1,2] O) (BC 2 CF O ?_)))))))
 refine AC.callR (S:=λ_=>False) (α:=aD [0,1,2,3]) (args:=[(aG (IM mm))]) call20 (λw hw=>Ww mm w (X3 hw [4,3,1] O hmm)) O O O λlo llo=>AI O (q3 (sL [0,1,2,3] O) (ck' call29 (Jn) O (ck' call29 (Jr) O (ck' call29 (JR) O (ck' call29 (NT) O (ck' call29 (N3) O (AC.openV (V:=λb4=>(Value.slice (some ⟨b4,0,none⟩) 5 5)) (T:=66) (cs:=CG (⟨0,0⟩:Pt)++CG (⟨1,0⟩:Pt)++CG (⟨0,1⟩:Pt)++CG (⟨-1,0⟩:Pt)++CG (⟨0,-1⟩:Pt)) (AT O) (Ap (z:=.agg (CG (⟨0,0⟩:Pt)).toArray) (cs:=CG (⟨0,0⟩:Pt)++CG (⟨1,0⟩:Pt)++CG (⟨0,1⟩:Pt)++CG (⟨-1,0⟩:Pt)++CG (⟨0,-1⟩:Pt)) (pv:=[(0,(aG (CG (⟨0,0⟩:Pt)))),(1,(aG (CG (⟨1,0⟩:Pt)))),(2,(aG (CG (⟨0,1⟩:Pt)))),(3,(aG (CG (⟨-1,0⟩:Pt)))),(4,(aG (CG (⟨0,-1⟩:Pt))))]) underlying27 sizeOf66 zeroValue66 (by decide) (by decide) O (JM (⟨0,0⟩:Pt) (⟨1,0⟩:Pt) (⟨0,1⟩:Pt) (⟨-1,0⟩:Pt) (⟨0,-1⟩:Pt))) O (AV O) λb4=>AK (v:=(aG (Am (0,1,2)))) (BY (zs:=Am ((0,0,0):Tq3)) (vs:=Am (0,1,2)) (pv:=[(0,(vI 0)),(1,(vI 1)),(2,(vI 2))]) zeroValue68 underlying68 sizeOf3 O (DN 0 1 2)) O (AK (v:=(aG (Am (0,3,4)))) (BY (zs:=Am ((0,0,0):Tq3)) (vs:=Am (0,3,4)) (pv:=[(0,(vI 0)),(1,(vI 3)),(2,(vI 4))]) zeroValue68 underlying68 sizeOf3 O (DN 0 3 4)) O (AC.openV (V:=λb5=>(Value.slice (some ⟨b5,0,none⟩) 2 2)) (T:=68) (cs:=Am (0,1,2)++Am (0,3,4)) (AT O) (Ap (z:=.agg (Am ((0,0,0):Tq3)).toArray) (cs:=Am (0,1,2)++Am (0,3,4)) (pv:=[(0,(aG (Am (0,1,2)))),(1,(aG (Am (0,3,4))))]) underlying28 sizeOf68 zeroValue68 (by decide) (by decide) O (F2 (0,1,2) (0,3,4))) O (AV O) λb5=>?_)))))))))
 refine AK (v:=(aG ([(Value.slice (some ⟨b4,0,none⟩) 5 5),(Value.slice (some ⟨b5,0,none⟩) 2 2),(Value.slice none 0 0)]))) (Aa (zs:=[(Value.slice none 0 0),(Value.slice none 0 0),(Value.slice none 0 0)]) (vs:=[(Value.slice (some ⟨b4,0,none⟩) 5 5),(Value.slice (some ⟨b5,0,none⟩) 2 2),(Value.slice none 0 0)]) (pv:=[(0,(Value.slice (some ⟨b4,0,none⟩) 5 5)),(1,(Value.slice (some ⟨b5,0,none⟩) 2 2))]) (places:=[(0,1),(1,1),(2,1)]) zeroValue31 underlying31 (λw=>by simp [sizeOf27,sizeOf28,sizeOf29]) O O) O (al WE O λb6=>BP O sizeOf31 O (AC.litM2 (S:=λ_=>False) (ps:=Xt) (ts:=M8) (λm2=>[AJ m2.c.p (rowsL Am ([]:List T3)),Ah b6 31 (IM m2),AJ m2.b.p (rowsL Am M8),AJ m2.a.p (rowsL CG Xt),AJ lo.q.p ([Value.slice lo.r.p 4 lo.r.c]),AJ lo.r.p (inL ([0,1,2,3])),AJ wy.p (rowsL Am Ix),AJ mm.c.p (rowsL Am ([]:List T3)),Ah b3 31 (IM mm),AJ mm.b.p (rowsL Am H4),AJ mm.a.p (rowsL CG TR)]) 2 1 (by decide) O O O O O λm2 hm2=>q3 (sL [0,1,2,3,4] O) (BC 1 CF O (AC.callR (S:=λ_=>False) (α:=VF M8) (args:=[(aG (IM m2))]) call22 (λw hw=>Nt m2 (by decide +kernel) (by decide) (by decide) (by decide) w (X3 hw [3,2,0] O hm2)) O O O λpk lpk=>AM O (AK (AX (v:=(Value.slice pk.r.p pk.l.length pk.r.c)) O O) O ?_)))))
 have hpk:pk.n=1:=Qp pk.pts (by decide) Yd
 refine AK (AX (v:=(vN pk.n)) O O) O (AI O (AI O (q3 (sL [0,1,2,3,4,6] O) (BC 9 CF O (AC.callR (S:=λ_=>False) (α:=VF H4) (args:=[(aG (IM mm))]) call22 (λw hw=>Nt mm (by decide +kernel) (by decide) (by decide) (by decide) w (X3 hw [11,10,8] O hmm)) O O O λpb lpb=>AM O (AK (AX (v:=(Value.slice pb.r.p pb.l.length pb.r.c)) O O) O ?_))))))
 have hpb:pb.n=1:=Qp pb.pts (by decide) ZU
 refine AK (AX (v:=(vN pb.n)) O O) O (AI O (AI O (q3 (sL [0,1,2,3,4,6,8] O) (AM O (AK (v:=(vI 4)) (AF O underlying74) O (AK (BA (c:=true) O O (by decide)) O (AM O (AC.step (v:=(Value.slice wy.p 4 wy.c)) (AA O) (AW O) O (AV O) (AC.step (v:=(pP (pB wy.p) (pO wy.p+0*3))) (AA O) (AH (j:=0) O O wy.ok underlying74 sizeOf84 O (by decide)) O (AV O) (AC.step (v:=(aG (Am (Ix.getD 0 ((0,0,0):Tq3))))) (AA O) (Ai (vs:=Am (Ix.getD 0 ((0,0,0):Tq3))) (i:=8) O O (Ar.ne wy.ok (by decide)) Ye (A8 Af _ _ _ (by decide)) (Af _)) O (AV O) (AC.step (v:=(aG ([(vI 0),(vI 1),(vI 0)]))) (AA O) (Aa (zs:=Am ((0,0,0):Tq3)) (vs:=[(vI 0),(vI 1),(vI 0)]) (pv:=[(0,(vI 0)),(1,(vI 1)),(2,(vI 0))]) (places:=[(0,1),(1,1),(2,1)]) zeroValue84 underlying84 (λw=>by simp [sizeOf3]) O O) O (AV O) ?_)))))))))))
 refine AC.step (v:=(Value.bool true)) (AA O) (ET (c:=true) O O eqGuardType84 (K8 (a:=Ix.getD 0 ((0,0,0):Tq3)) (b:=((0,1,0):T3)) 9998 O)) O (AV O) (AK (v:=(Value.bool true)) (AR O O) O (AM O (AC.step (v:=(Value.slice wy.p 4 wy.c)) (AA O) (AW O) O (AV O) (AC.step (v:=(pP (pB wy.p) (pO wy.p+1*3))) (AA O) (AH (j:=1) O O wy.ok underlying74 sizeOf84 O (by decide)) O (AV O) (AC.step (v:=(aG (Am (Ix.getD 1 ((0,0,0):Tq3))))) (AA O) (Ai (vs:=Am (Ix.getD 1 ((0,0,0):Tq3))) (i:=8) O O (Ar.ne wy.ok (by decide)) Ye (A8 Af _ _ _ (by decide)) (Af _)) O (AV O) (AC.step (v:=(aG ([(vI 3),(vI 0),(vI 1)]))) (AA O) (Aa (zs:=Am ((0,0,0):Tq3)) (vs:=[(vI 3),(vI 0),(vI 1)]) (pv:=[(0,(vI 3)),(1,(vI 0)),(2,(vI 1))]) (places:=[(0,1),(1,1),(2,1)]) zeroValue84 underlying84 (λw=>by simp [sizeOf3]) O O) O (AV O) (AC.step (v:=(Value.bool true)) (AA O) (ET (c:=true) O O eqGuardType84 (K8 (a:=Ix.getD 1 ((0,0,0):Tq3)) (b:=((3,0,1):T3)) 9998 O)) O (AV O) (AK (v:=(Value.bool true)) (AR O O) O (AM O (AC.step (v:=(Value.slice lo.q.p 1 lo.q.c)) (AA O) (AW O) O (AV O) (AC.step (v:=(vI 1)) (AA O) (AF O underlying80) O (AV O) ?_)))))))))))
 refine AC.step (v:=(Value.bool true)) (AA O) (BA (c:=true) O O (by decide)) O (AV O) (AK (v:=(Value.bool true)) (AR O O) O (AM O (AC.step (v:=(Value.slice lo.q.p 1 lo.q.c)) (AA O) (AW O) O (AV O) (AC.step (v:=(pP (pB lo.q.p) (pO lo.q.p+0*1))) (AA O) (AH (j:=0) O O lo.q.ok underlying80 sizeOf86 O (by decide)) O (AV O) (AC.step (v:=(Value.slice lo.r.p 4 lo.r.c)) (AA O) (AL (v:=(Value.slice lo.r.p 4 lo.r.c)) (i:=6) O O (lo.q.ok.ne (by decide)) XG O) O (AV O) (AC.step (v:=(vI 4)) (AA O) (AF O underlying86) O (AV O) (AC.step (v:=(Value.bool true)) (AA O) (BA (c:=true) O O (by decide)) O (AV O) (AK (v:=(Value.bool true)) (AR O O) O (AM O (AC.step (v:=(Value.slice lo.q.p 1 lo.q.c)) (AA O) (AW O) O (AV O) (AC.step (v:=(pP (pB lo.q.p) (pO lo.q.p+0*1))) (AA O) (AH (j:=0) O O lo.q.ok underlying80 sizeOf86 O (by decide)) O (AV O) ?_)))))))))))
 refine AC.step (v:=(Value.slice lo.r.p 4 lo.r.c)) (AA O) (AL (v:=(Value.slice lo.r.p 4 lo.r.c)) (i:=6) O O (lo.q.ok.ne (by decide)) XG O) O (AV O) (AC.step (v:=(pP (pB lo.r.p) (pO lo.r.p+1*1))) (AA O) (AH (j:=1) O O lo.r.ok underlying86 sizeOf3 O (by decide)) O (AV O) (AC.step (v:=(vN (([0,1,2,3]).getD 1 0))) (AA O) (AL (v:=(vN (([0,1,2,3]).getD 1 0))) (i:=7) O O (lo.r.ok.ne (by decide)) BR (CM (l:=[0,1,2,3]) (j:=1) (by decide))) O (AV O) (AC.step (v:=(Value.bool true)) (AA O) (BA (c:=true) O O (by decide)) O (AV O) (AK (v:=(Value.bool true)) (AR O O) O (AM O (AC.step (v:=(aG (IM mm))) (AA O) (BK (i:=10) (vs:=IM mm) O O CF.a CF.s O O) O (AV O) (AC.call (v:=(vI 1)) (AA O) (Aw (args:=[(aG (IM mm))]) O O call25) (λw hw=>(by have h9:=UR mm (by decide +kernel) (by decide) (by decide) w (X3 hw [12,11,9] O hmm);rw [show EU H4=1 from by decide +kernel] at h9;exact h9)) O (AV O) (AC.step (v:=(Value.bool true)) (AA O) (BA (c:=true) O O (by decide)) O (AV O) (AK (v:=(Value.bool true)) (AR O O) O (AM O (AC.step (v:=(aG (IM mm))) (AA O) (BK (i:=10) (vs:=IM mm) O O CF.a CF.s O O) O (AV O) ?_)))))))))))
 refine AC.call (v:=(vI 0)) (AA O) (Aw (args:=[(aG (IM mm))]) O O call27) (λw hw=>(by have h9:=VG mm pb.l pb.n pb.pts (by decide +kernel) (by decide) (by decide) (by decide) w (X3 hw [12,11,9] O hmm);rw [hpb,show (((1:Nat):Int)-EU H4)=0 from by decide +kernel] at h9;exact h9)) O (AV O) (AC.step (v:=(Value.bool true)) (AA O) (BA (c:=true) O O (by decide)) O (AV O) (AK (v:=(Value.bool true)) (AR O O) O (AM O (AC.step (v:=(vN pb.n)) (AA O) (AW O) O (AV O) (AC.step (v:=(Value.bool true)) (AA O) (BA (c:=true) O O (decide_eq_true Z)) O (AV O) (AK (v:=(Value.bool true)) (AR O O) O (AM O (AC.step (v:=(vN pk.n)) (AA O) (AW O) O (AV O) (AC.step (v:=(Value.bool true)) (AA O) (BA (c:=true) O O (decide_eq_true Z)) O (AV O) (AK (v:=(Value.bool true)) (AR O O) O (AM O ?_)))))))))))
 exact AC.step (v:=(aG (IM m2))) (AA O) (BK (i:=3) (vs:=IM m2) O O CF.a CF.s O O) O (AV O) (AC.unguard (AA O) (AC.callR (S:=λ_=>False) (α:=aO 2) (args:=[(aG (IM m2))]) call20 (λw hw=>S8 m2 w (X3 hw [5,4,2] O hm2)) O O O λlk llk=>AC.step (v:=(vI 2)) (AA O) (AF O underlying80) O (AV O) (AC.step (v:=(Value.bool true)) (AA O) (BA (c:=true) O O (by decide)) O (AV O) (AK (v:=(Value.bool true)) (AR O O) O (AI O (AC.nil (OkQ.subF (sL [0,1,4] O) (OkQ.then_ (AE.ret (AS O (AZ (v:=(Value.bool true)) O) (λw hw=>⟨rfl,hw.out⟩)))))))))))
end
section
abbrev W5 (_:Nat):Prop:=True
theorem Ty (l:List Nat):inL l=zL (l.map λd:Nat=>(d:Int)):=by unfold inL zL;rw [List.map_map];rfl
structure Zc (ls:List (List Nat)) where
  a:Qt ls
  b:Qt ls
  hc:a.q.c=a.rs.length
  hr:∀r∈a.rs,r.c=r.l.length
instance {ls:List (List Nat)}:CO (Zc ls):=⟨λx=>x.a.q.val,λx=>x.a.q.row::x.b.q.row::(Dn x.a.rs++Dn x.b.rs),λx y hy=>by
  rcases List.mem_cons.1 hy with rfl|hy
  · rfl
  · rcases List.mem_cons.1 hy with rfl|hy
    · rfl
    · rcases List.mem_append.1 hy with hy|hy<;>· obtain ⟨r,_,rfl⟩:=List.mem_map.1 hy;rfl⟩
section
variable {ls:List (List Nat)} {w0:BE} {w:World} {L:List As} {rs:List RI} {i:Nat}
theorem ZL (hw:BM w0 w L) (x:Zc ls) (h:∀z∈CO.rows x,z∈L):Ro W5 w x:=λy hy=>⟨λb e=>(hw.2.1 _ (h y hy) b e).2,λ_ _=>trivial⟩
theorem W0 {A:List As} {x:Zc ls} (h1:x.a.q.row∈A) (h2:x.b.q.row∈A):∀z∈CO.rows x,z∈A++(Dn x.a.rs++Dn x.b.rs):=λz hz=>by
  rcases List.mem_cons.1 hz with rfl|hz
  · exact List.mem_append_left _ h1
  · rcases List.mem_cons.1 hz with rfl|hz
    · exact List.mem_append_left _ h2
    · exact List.mem_append_right _ hz
theorem Pp (hi:i<rs.length):riR (rs.getD i default)∈Dn rs:=by
  rw [List.getD,List.getElem?_eq_getElem hi]
  exact List.mem_map.2 ⟨_,List.getElem_mem hi,rfl⟩
theorem SM (hi:i<rs.length):rs.getD i default∈rs:=by
  rw [List.getD,List.getElem?_eq_getElem hi]
  exact List.getElem_mem hi
theorem ZY (hw:BM w0 w L) {r:RI} (h:riR r∈L):Ro W5 w (Y7 r):=λy hy=>by
  rcases List.mem_singleton.1 hy with rfl
  exact ⟨λb e=>(hw.2.1 _ h b e).2,λ_ _=>trivial⟩
theorem Wu {a b:List RI} (h:a.map (·.l)=b.map (·.l)) (hi:i<a.length):(a.getD i default).l=(b.getD i default).l:=by
  have hl:a.length=b.length:=by have h9:=congrArg List.length h;rwa [List.length_map,List.length_map] at h9
  have h2:=congrArg (λl:List (List Nat)=>l[i]?) h
  simp only [List.getElem?_map,List.getElem?_eq_getElem hi,List.getElem?_eq_getElem (show i<b.length by omega),Option.map_some,Option.some.injEq] at h2
  rw [List.getD,List.getD,List.getElem?_eq_getElem hi,List.getElem?_eq_getElem (show i<b.length by omega)]
  exact h2
end
end
end Go.Proofs.YtpgncndhhhllfaaGreat
