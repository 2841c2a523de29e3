import Derived.Test.YtpgncndhhhllfaaGreatDoorPart37
import Derived.Test.YtpgncndhhhllfaaGreatDoorPart44
namespace Go.Proofs.YtpgncndhhhllfaaGreatDoor
open Go Go.RowKit Go.Proofs.Tryz
set_option linter.unusedVariables false
set_option linter.unusedSimpArgs false
section
set_option maxRecDepth 100000
theorem SF {ps:List Pt} {ts ss:List T3} (x:MX ps ts ss) (l:List Int) (n:Nat) (hpt:Pv ts l n) (hnb:By ps.length ts=true) (hne:0<ts.length) (hp:ps.length<=1000000) (htl:ts.length<=1000000) (w:World) {S:Nat->Prop} (hx:Ro S w x):Calls Tryz.prog 66 #[(aG (CC x))] w (An w (vI (((n:Nat):Int)-KB ts))):=by
 have hel0:=OE ts
 have hcl0:=JB (ts:=ts) (3*ts.length)
 have hez:KB ts=((CG ts (3*ts.length)).length:Int)-(B4 ts).length+ts.length:=rfl
 have hnle:=hpt.nle
 have lx:=DF (W:=w) hx
 refine Ah (args:=[(aG (CC x))]) (L:=[AI x.a.p (rowsL BE ps),AI x.b.p (rowsL Aq ts),AI x.c.p (rowsL Aq ss)]) Tryz.func66 rfl rfl (AY rfl) (EV hx Ar) (AF.subF (sL [0] rfl) (q4 (B9 (cs:=CC x) rfl λb1=>asg' rfl (q3 (sL [1,2] rfl) ?_))))
 refine BF 0 B1 rfl (AD.callR (S:=S) (α:=XL ts) (args:=[(aG (CC x))]) Tryz.call64 (λw hw=>Jm x hnb hne hp htl w (inS hw 1 rfl lx)) rfl rfl rfl λpa lpa=>AJ rfl (AH (AS (v:=(Value.slice pa.r.p pa.l.length pa.r.c)) rfl rfl) rfl (AH (AS (v:=(vN pa.n)) rfl rfl) rfl (AD.retell (k:=9) (u:=(vN n)) rfl (by rw [Xl hpt pa.pts]) ?_))))
 refine asg' rfl (asg' rfl (q3 (sL [1,2,4] rfl) (AJ rfl (BF 1 B1 rfl (DC Tryz.call65 (λw hw=>L5 x hnb hp htl w (inS hw 2 rfl lx)) rfl ?_)))))
 exact AH (BL (c:=(((n:Nat):Int)-KB ts)) rfl rfl (BK (by omega) (by omega))) rfl (asg' rfl (AD.nil (AC.subF (sL [1,2] rfl) (AC.then_ (AF.ret (AN rfl (AQ (v:=(vI (((n:Nat):Int)-KB ts))) rfl) (λw hw=>⟨rfl,hw.out⟩)))))))
theorem JV (w:World):Calls Tryz.prog 36 #[(vI 0),(vI 0)] w (An w (aG (BE (⟨0,0⟩:Pt)))):=by
 have h:=GC (0) (0) (by decide) (by decide) (by decide) (by decide) w
 rw [show (⟨(((0):Int):Rat),(((0):Int):Rat)⟩:Pt)=(⟨0,0⟩:Pt) from by decide +kernel] at h
 exact h
theorem Jk (w:World):Calls Tryz.prog 36 #[(vI 1),(vI 0)] w (An w (aG (BE (⟨1,0⟩:Pt)))):=by
 have h:=GC (1) (0) (by decide) (by decide) (by decide) (by decide) w
 rw [show (⟨(((1):Int):Rat),(((0):Int):Rat)⟩:Pt)=(⟨1,0⟩:Pt) from by decide +kernel] at h
 exact h
theorem Nz (w:World):Calls Tryz.prog 36 #[(vI 1),(vI 1)] w (An w (aG (BE (⟨1,1⟩:Pt)))):=by
 have h:=GC (1) (1) (by decide) (by decide) (by decide) (by decide) w
 rw [show (⟨(((1):Int):Rat),(((1):Int):Rat)⟩:Pt)=(⟨1,1⟩:Pt) from by decide +kernel] at h
 exact h
theorem It (w:World):Calls Tryz.prog 36 #[(vI 0),(vI 1)] w (An w (aG (BE (⟨0,1⟩:Pt)))):=by
 have h:=GC (0) (1) (by decide) (by decide) (by decide) (by decide) w
 rw [show (⟨(((0):Int):Rat),(((1):Int):Rat)⟩:Pt)=(⟨0,1⟩:Pt) from by decide +kernel] at h
 exact h
theorem NQ (w:World):Calls Tryz.prog 36 #[(vI (-1:Int)),(vI 0)] w (An w (aG (BE (⟨-1,0⟩:Pt)))):=by
 have h:=GC (-1) (0) (by decide) (by decide) (by decide) (by decide) w
 rw [show (⟨(((-1):Int):Rat),(((0):Int):Rat)⟩:Pt)=(⟨-1,0⟩:Pt) from by decide +kernel] at h
 exact h
theorem NB (w:World):Calls Tryz.prog 36 #[(vI 0),(vI (-1:Int))] w (An w (aG (BE (⟨0,-1⟩:Pt)))):=by
 have h:=GC (0) (-1) (by decide) (by decide) (by decide) (by decide) w
 rw [show (⟨(((0):Int):Rat),(((-1):Int):Rat)⟩:Pt)=(⟨0,-1⟩:Pt) from by decide +kernel] at h
 exact h
def Rh:List Pt:=[⟨0,0⟩,⟨1,0⟩,⟨1,1⟩,⟨0,1⟩]
def Hj:List T3:=[(0,1,2),(0,2,3)]
def Wi:List Pt:=[⟨0,0⟩,⟨1,0⟩,⟨0,1⟩,⟨-1,0⟩,⟨0,-1⟩]
def Mi:List T3:=[(0,1,2),(0,3,4)]
def II:List T3:=[(0,1,0),(3,0,1),(1,2,0),(2,3,1)]
theorem W2 (x:MX Rh Hj []) (w:World) {S:Nat->Prop} (hx:Ro S w x):Calls Tryz.prog 62 #[aG (CC x)] w (Av (RX (rowsL Aq II) II.length) S w):=by
 have h:=VU x (by decide +kernel) (by decide) (by decide) w hx
 rw [show B3 Hj=II from by decide +kernel] at h
 exact h
theorem T_ (x:MX Rh Hj []) (w:World) {S:Nat->Prop} (hx:Ro S w x):Calls Tryz.prog 63 #[aG (CC x)] w (Av (YM [0,1,2,3]) S w) :=
 (MA x (by decide +kernel) (by decide +kernel) (by decide) (by decide) w hx).mono λe w' h=>WA (show Wo Hj=[[0,1,2,3]] from by decide +kernel) h
theorem Tl (x:MX Wi Mi []) (w:World) {S:Nat->Prop} (hx:Ro S w x):Calls Tryz.prog 63 #[aG (CC x)] w (Av (YH 2) S w) :=
 (MA x (by decide +kernel) (by decide +kernel) (by decide) (by decide) w hx).mono λe w' h=>XF (show (Wo Mi).length=2 from by decide +kernel) h
theorem X7:∀s,s<Hj.length->Jv Hj 0 s:=λs hs=>by
 have e:s=0\/s=1:=by have:Hj.length=2:=rfl;omega
 rcases e with rfl|rfl
 ·exact .refl
 ·exact .step .refl (by decide) ⟨0,0,by decide,by decide,rfl⟩
theorem W1:∀s,s<Mi.length->Jv Mi 0 s:=λs hs=>by
 have e:s=0\/s=1:=by have:Mi.length=2:=rfl;omega
 rcases e with rfl|rfl
 ·exact .refl
 ·exact .step .refl (by decide) ⟨0,0,by decide,by decide,rfl⟩
theorem JA (x0 x1 x2 x3:Pt):Instr.fill (λi=>some (i*10,10)) ((Array.range (4*10)).map ((Value.agg (BE (⟨0,0⟩:Pt)).toArray).cells[·%(Value.agg (BE (⟨0,0⟩:Pt)).toArray).cells.size]!)) [(0,.agg (BE x0).toArray),(1,.agg (BE x1).toArray),(2,.agg (BE x2).toArray),(3,.agg (BE x3).toArray)]=some (BE x0++BE x1++BE x2++BE x3).toArray:=by kernel_rfl
theorem DQ (x0 x1 x2:Nat):Instr.fill (λi=>some (i*1,1)) (Aq ((0,0,0):Nat×Nat×Nat)).toArray [(0,vN x0),(1,vN x1),(2,vN x2)]=some (Aq (x0,x1,x2)).toArray:=by kernel_rfl
theorem F8 (x0 x1:Nat×Nat×Nat):Instr.fill (λi=>some (i*3,3)) ((Array.range (2*3)).map ((Value.agg (Aq ((0,0,0):Nat×Nat×Nat)).toArray).cells[·%(Value.agg (Aq ((0,0,0):Nat×Nat×Nat)).toArray).cells.size]!)) [(0,.agg (Aq x0).toArray),(1,.agg (Aq x1).toArray)]=some (Aq x0++Aq x1).toArray:=by kernel_rfl
theorem Jf (x0 x1 x2 x3 x4:Pt):Instr.fill (λi=>some (i*10,10)) ((Array.range (5*10)).map ((Value.agg (BE (⟨0,0⟩:Pt)).toArray).cells[·%(Value.agg (BE (⟨0,0⟩:Pt)).toArray).cells.size]!)) [(0,.agg (BE x0).toArray),(1,.agg (BE x1).toArray),(2,.agg (BE x2).toArray),(3,.agg (BE x3).toArray),(4,.agg (BE x4).toArray)]=some (BE x0++BE x1++BE x2++BE x3++BE x4).toArray:=by kernel_rfl
set_option maxHeartbeats 1000000 in
theorem EP  (w:World)  :Calls Tryz.prog 16 #[] w (An w (Value.bool true)):=by
 refine Ag (args:=[]) Tryz.func16 rfl rfl (AY rfl) (AF.subF sN (q4 (asg' rfl (AD.nil (q2 ?_)))))
 refine ck' Tryz.call36 (JV) rfl (ck' Tryz.call36 (Jk) rfl (ck' Tryz.call36 (Nz) rfl (ck' Tryz.call36 (It) rfl (AD.openV (V:=λb1=>(Value.slice (some ⟨b1,0,none⟩) 4 4)) (T:=51) (cs:=BE (⟨0,0⟩:Pt)++BE (⟨1,0⟩:Pt)++BE (⟨1,1⟩:Pt)++BE (⟨0,1⟩:Pt)) (AO rfl) (Am (z:=.agg (BE (⟨0,0⟩:Pt)).toArray) (cs:=BE (⟨0,0⟩:Pt)++BE (⟨1,0⟩:Pt)++BE (⟨1,1⟩:Pt)++BE (⟨0,1⟩:Pt)) (pv:=[(0,(aG (BE (⟨0,0⟩:Pt)))),(1,(aG (BE (⟨1,0⟩:Pt)))),(2,(aG (BE (⟨1,1⟩:Pt)))),(3,(aG (BE (⟨0,1⟩:Pt))))]) Tryz.underlying28 Tryz.sizeOf51 Tryz.zeroValue51 (by decide) (by decide) rfl (JA (⟨0,0⟩:Pt) (⟨1,0⟩:Pt) (⟨1,1⟩:Pt) (⟨0,1⟩:Pt))) rfl (AY rfl) λb1=>AH (v:=(aG (Aq (0,1,2)))) (BN (zs:=Aq ((0,0,0):Nat×Nat×Nat)) (vs:=Aq (0,1,2)) (pv:=[(0,(vI 0)),(1,(vI 1)),(2,(vI 2))]) Tryz.zeroValue53 Tryz.underlying53 Tryz.sizeOf3 rfl (DQ 0 1 2)) rfl ?_))))
 refine AH (v:=(aG (Aq (0,2,3)))) (BN (zs:=Aq ((0,0,0):Nat×Nat×Nat)) (vs:=Aq (0,2,3)) (pv:=[(0,(vI 0)),(1,(vI 2)),(2,(vI 3))]) Tryz.zeroValue53 Tryz.underlying53 Tryz.sizeOf3 rfl (DQ 0 2 3)) rfl (AD.openV (V:=λb2=>(Value.slice (some ⟨b2,0,none⟩) 2 2)) (T:=53) (cs:=Aq (0,1,2)++Aq (0,2,3)) (AO rfl) (Am (z:=.agg (Aq ((0,0,0):Nat×Nat×Nat)).toArray) (cs:=Aq (0,1,2)++Aq (0,2,3)) (pv:=[(0,(aG (Aq (0,1,2)))),(1,(aG (Aq (0,2,3))))]) Tryz.underlying23 Tryz.sizeOf53 Tryz.zeroValue53 (by decide) (by decide) rfl (F8 (0,1,2) (0,2,3))) rfl (AY rfl) λb2=>AH (v:=(aG ([(Value.slice (some ⟨b1,0,none⟩) 4 4),(Value.slice (some ⟨b2,0,none⟩) 2 2),(Value.slice none 0 0)]))) (AU (zs:=[(Value.slice none 0 0),(Value.slice none 0 0),(Value.slice none 0 0)]) (vs:=[(Value.slice (some ⟨b1,0,none⟩) 4 4),(Value.slice (some ⟨b2,0,none⟩) 2 2),(Value.slice none 0 0)]) (pv:=[(0,(Value.slice (some ⟨b1,0,none⟩) 4 4)),(1,(Value.slice (some ⟨b2,0,none⟩) 2 2))]) (places:=[(0,1),(1,1),(2,1)]) Tryz.zeroValue30 Tryz.underlying30 (λw=>by simp [Tryz.sizeOf23,Tryz.sizeOf24,Tryz.sizeOf28]) rfl rfl) rfl (al HZ rfl λb3=>BC rfl Tryz.sizeOf30 rfl (AD.litM2 (S:=λ_=>False) (ps:=Rh) (ts:=Hj) (λmm=>[AI mm.c.p (rowsL Aq ([]:List T3)),Ab b3 30 (CC mm),AI mm.b.p (rowsL Aq Hj),AI mm.a.p (rowsL BE Rh)]) 2 1 (by decide) rfl rfl rfl rfl rfl λmm hmm=>?_)))
 refine q3 (sL [0,1] rfl) (BF 1 B1 rfl (AD.callR (S:=λ_=>False) (α:=RX (rowsL Aq II) II.length) (args:=[(aG (CC mm))]) Tryz.call62 (λw hw=>W2 mm w (WD hw [3,2,0] rfl hmm)) rfl rfl rfl λwy lwy=>asg' rfl (q3 (sL [0,1,2] rfl) (BF 2 B1 rfl ?_))))
 refine AD.callR (S:=λ_=>False) (α:=YM [0,1,2,3]) (args:=[(aG (CC mm))]) Tryz.call63 (λw hw=>T_ mm w (WD hw [4,3,1] rfl hmm)) rfl rfl rfl λlo llo=>asg' rfl (q3 (sL [0,1,2,3] rfl) (ck' Tryz.call36 (JV) rfl (ck' Tryz.call36 (Jk) rfl (ck' Tryz.call36 (It) rfl ?_))))
 refine ck' Tryz.call36 (NQ) rfl (ck' Tryz.call36 (NB) rfl (AD.openV (V:=λb4=>(Value.slice (some ⟨b4,0,none⟩) 5 5)) (T:=51) (cs:=BE (⟨0,0⟩:Pt)++BE (⟨1,0⟩:Pt)++BE (⟨0,1⟩:Pt)++BE (⟨-1,0⟩:Pt)++BE (⟨0,-1⟩:Pt)) (AO rfl) (Am (z:=.agg (BE (⟨0,0⟩:Pt)).toArray) (cs:=BE (⟨0,0⟩:Pt)++BE (⟨1,0⟩:Pt)++BE (⟨0,1⟩:Pt)++BE (⟨-1,0⟩:Pt)++BE (⟨0,-1⟩:Pt)) (pv:=[(0,(aG (BE (⟨0,0⟩:Pt)))),(1,(aG (BE (⟨1,0⟩:Pt)))),(2,(aG (BE (⟨0,1⟩:Pt)))),(3,(aG (BE (⟨-1,0⟩:Pt)))),(4,(aG (BE (⟨0,-1⟩:Pt))))]) Tryz.underlying28 Tryz.sizeOf51 Tryz.zeroValue51 (by decide) (by decide) rfl (Jf (⟨0,0⟩:Pt) (⟨1,0⟩:Pt) (⟨0,1⟩:Pt) (⟨-1,0⟩:Pt) (⟨0,-1⟩:Pt))) rfl (AY rfl) λb4=>AH (v:=(aG (Aq (0,1,2)))) (BN (zs:=Aq ((0,0,0):Nat×Nat×Nat)) (vs:=Aq (0,1,2)) (pv:=[(0,(vI 0)),(1,(vI 1)),(2,(vI 2))]) Tryz.zeroValue53 Tryz.underlying53 Tryz.sizeOf3 rfl (DQ 0 1 2)) rfl (AH (v:=(aG (Aq (0,3,4)))) (BN (zs:=Aq ((0,0,0):Nat×Nat×Nat)) (vs:=Aq (0,3,4)) (pv:=[(0,(vI 0)),(1,(vI 3)),(2,(vI 4))]) Tryz.zeroValue53 Tryz.underlying53 Tryz.sizeOf3 rfl (DQ 0 3 4)) rfl (AD.openV (V:=λb5=>(Value.slice (some ⟨b5,0,none⟩) 2 2)) (T:=53) (cs:=Aq (0,1,2)++Aq (0,3,4)) (AO rfl) (Am (z:=.agg (Aq ((0,0,0):Nat×Nat×Nat)).toArray) (cs:=Aq (0,1,2)++Aq (0,3,4)) (pv:=[(0,(aG (Aq (0,1,2)))),(1,(aG (Aq (0,3,4))))]) Tryz.underlying23 Tryz.sizeOf53 Tryz.zeroValue53 (by decide) (by decide) rfl (F8 (0,1,2) (0,3,4))) rfl (AY rfl) λb5=>?_))))
 refine AH (v:=(aG ([(Value.slice (some ⟨b4,0,none⟩) 5 5),(Value.slice (some ⟨b5,0,none⟩) 2 2),(Value.slice none 0 0)]))) (AU (zs:=[(Value.slice none 0 0),(Value.slice none 0 0),(Value.slice none 0 0)]) (vs:=[(Value.slice (some ⟨b4,0,none⟩) 5 5),(Value.slice (some ⟨b5,0,none⟩) 2 2),(Value.slice none 0 0)]) (pv:=[(0,(Value.slice (some ⟨b4,0,none⟩) 5 5)),(1,(Value.slice (some ⟨b5,0,none⟩) 2 2))]) (places:=[(0,1),(1,1),(2,1)]) Tryz.zeroValue30 Tryz.underlying30 (λw=>by simp [Tryz.sizeOf23,Tryz.sizeOf24,Tryz.sizeOf28]) rfl rfl) rfl (al HZ rfl λb6=>BC rfl Tryz.sizeOf30 rfl (AD.litM2 (S:=λ_=>False) (ps:=Wi) (ts:=Mi) (λm2=>[AI m2.c.p (rowsL Aq ([]:List T3)),Ab b6 30 (CC m2),AI m2.b.p (rowsL Aq Mi),AI m2.a.p (rowsL BE Wi),AI lo.q.p ([Value.slice lo.r.p 4 lo.r.c]),AI lo.r.p (inL ([0,1,2,3])),AI wy.p (rowsL Aq II),AI mm.c.p (rowsL Aq ([]:List T3)),Ab b3 30 (CC mm),AI mm.b.p (rowsL Aq Hj),AI mm.a.p (rowsL BE Rh)]) 2 1 (by decide) rfl rfl rfl rfl rfl λm2 hm2=>q3 (sL [0,1,2,3,4] rfl) (BF 1 B1 rfl ?_)))
 refine AD.callR (S:=λ_=>False) (α:=XL Mi) (args:=[(aG (CC m2))]) Tryz.call64 (λw hw=>Jm m2 (by decide +kernel) (by decide) (by decide) (by decide) w (WD hw [3,2,0] rfl hm2)) rfl rfl rfl λpk lpk=>AJ rfl (AH (AS (v:=(Value.slice pk.r.p pk.l.length pk.r.c)) rfl rfl) rfl ?_)
 have hpk:pk.n=1:=Ou pk.pts (by decide) W1
 refine AH (AS (v:=(vN pk.n)) rfl rfl) rfl (asg' rfl (asg' rfl (q3 (sL [0,1,2,3,4,6] rfl) (BF 9 B1 rfl (AD.callR (S:=λ_=>False) (α:=XL Hj) (args:=[(aG (CC mm))]) Tryz.call64 (λw hw=>Jm mm (by decide +kernel) (by decide) (by decide) (by decide) w (WD hw [11,10,8] rfl hmm)) rfl rfl rfl λpb lpb=>?_)))))
 refine AJ rfl (AH (AS (v:=(Value.slice pb.r.p pb.l.length pb.r.c)) rfl rfl) rfl ?_)
 have hpb:pb.n=1:=Ou pb.pts (by decide) X7
 refine AH (AS (v:=(vN pb.n)) rfl rfl) rfl (asg' rfl (asg' rfl (q3 (sL [0,1,2,3,4,6,8] rfl) (AJ rfl (AH (v:=(vI 4)) (AE rfl Tryz.underlying125) rfl ?_)))))
 refine AH (BJ (c:=true) rfl rfl (by decide)) rfl (AJ rfl (AD.step (v:=(Value.slice wy.p 4 wy.c)) (AB rfl) (Ai rfl) rfl (AY rfl) (AD.step (v:=(pP (pB wy.p) (pO wy.p+0*3))) (AB rfl) (AL (j:=0) rfl rfl wy.ok Tryz.underlying125 Tryz.sizeOf132 rfl (by decide)) rfl (AY rfl) (AD.step (v:=(aG (Aq (II.getD 0 ((0,0,0):Nat×Nat×Nat))))) (AB rfl) (Ae (vs:=Aq (II.getD 0 ((0,0,0):Nat×Nat×Nat))) (i:=8) rfl rfl (A6.ne wy.ok (by decide)) Sw (Ax BR _ _ _ (by decide)) (BR _)) rfl (AY rfl) (AD.step (v:=(aG ([(vI 0),(vI 1),(vI 0)]))) (AB rfl) (AU (zs:=Aq ((0,0,0):Nat×Nat×Nat)) (vs:=[(vI 0),(vI 1),(vI 0)]) (pv:=[(0,(vI 0)),(1,(vI 1)),(2,(vI 0))]) (places:=[(0,1),(1,1),(2,1)]) Tryz.zeroValue132 Tryz.underlying132 (λw=>by simp [Tryz.sizeOf3]) rfl rfl) rfl (AY rfl) ?_)))))
 refine AD.step (v:=(Value.bool true)) (AB rfl) (Cq (c:=true) rfl rfl Tryz.eqGuardType132 (KQ (a:=II.getD 0 ((0,0,0):Nat×Nat×Nat)) (b:=((0,1,0):T3)) 9998 rfl)) rfl (AY rfl) (AH (v:=(Value.bool true)) (AT rfl rfl) rfl (AJ rfl (AD.step (v:=(Value.slice wy.p 4 wy.c)) (AB rfl) (Ai rfl) rfl (AY rfl) (AD.step (v:=(pP (pB wy.p) (pO wy.p+1*3))) (AB rfl) (AL (j:=1) rfl rfl wy.ok Tryz.underlying125 Tryz.sizeOf132 rfl (by decide)) rfl (AY rfl) (AD.step (v:=(aG (Aq (II.getD 1 ((0,0,0):Nat×Nat×Nat))))) (AB rfl) (Ae (vs:=Aq (II.getD 1 ((0,0,0):Nat×Nat×Nat))) (i:=8) rfl rfl (A6.ne wy.ok (by decide)) Sw (Ax BR _ _ _ (by decide)) (BR _)) rfl (AY rfl) ?_)))))
 refine AD.step (v:=(aG ([(vI 3),(vI 0),(vI 1)]))) (AB rfl) (AU (zs:=Aq ((0,0,0):Nat×Nat×Nat)) (vs:=[(vI 3),(vI 0),(vI 1)]) (pv:=[(0,(vI 3)),(1,(vI 0)),(2,(vI 1))]) (places:=[(0,1),(1,1),(2,1)]) Tryz.zeroValue132 Tryz.underlying132 (λw=>by simp [Tryz.sizeOf3]) rfl rfl) rfl (AY rfl) (AD.step (v:=(Value.bool true)) (AB rfl) (Cq (c:=true) rfl rfl Tryz.eqGuardType132 (KQ (a:=II.getD 1 ((0,0,0):Nat×Nat×Nat)) (b:=((3,0,1):T3)) 9998 rfl)) rfl (AY rfl) (AH (v:=(Value.bool true)) (AT rfl rfl) rfl (AJ rfl (AD.step (v:=(Value.slice lo.q.p 1 lo.q.c)) (AB rfl) (Ai rfl) rfl (AY rfl) (AD.step (v:=(vI 1)) (AB rfl) (AE rfl Tryz.underlying127) rfl (AY rfl) ?_)))))
 refine AD.step (v:=(Value.bool true)) (AB rfl) (BJ (c:=true) rfl rfl (by decide)) rfl (AY rfl) (AH (v:=(Value.bool true)) (AT rfl rfl) rfl (AJ rfl (AD.step (v:=(Value.slice lo.q.p 1 lo.q.c)) (AB rfl) (Ai rfl) rfl (AY rfl) (AD.step (v:=(pP (pB lo.q.p) (pO lo.q.p+0*1))) (AB rfl) (AL (j:=0) rfl rfl lo.q.ok Tryz.underlying127 Tryz.sizeOf70 rfl (by decide)) rfl (AY rfl) (AD.step (v:=(Value.slice lo.r.p 4 lo.r.c)) (AB rfl) (AZ (v:=(Value.slice lo.r.p 4 lo.r.c)) (i:=6) rfl rfl (lo.q.ok.ne (by decide)) Xe rfl) rfl (AY rfl) ?_)))))
 refine AD.step (v:=(vI 4)) (AB rfl) (AE rfl Tryz.underlying70) rfl (AY rfl) (AD.step (v:=(Value.bool true)) (AB rfl) (BJ (c:=true) rfl rfl (by decide)) rfl (AY rfl) (AH (v:=(Value.bool true)) (AT rfl rfl) rfl (AJ rfl (AD.step (v:=(Value.slice lo.q.p 1 lo.q.c)) (AB rfl) (Ai rfl) rfl (AY rfl) (AD.step (v:=(pP (pB lo.q.p) (pO lo.q.p+0*1))) (AB rfl) (AL (j:=0) rfl rfl lo.q.ok Tryz.underlying127 Tryz.sizeOf70 rfl (by decide)) rfl (AY rfl) ?_)))))
 refine AD.step (v:=(Value.slice lo.r.p 4 lo.r.c)) (AB rfl) (AZ (v:=(Value.slice lo.r.p 4 lo.r.c)) (i:=6) rfl rfl (lo.q.ok.ne (by decide)) Xe rfl) rfl (AY rfl) (AD.step (v:=(pP (pB lo.r.p) (pO lo.r.p+1*1))) (AB rfl) (AL (j:=1) rfl rfl lo.r.ok Tryz.underlying70 Tryz.sizeOf3 rfl (by decide)) rfl (AY rfl) (AD.step (v:=(vN (([0,1,2,3]).getD 1 0))) (AB rfl) (AZ (v:=(vN (([0,1,2,3]).getD 1 0))) (i:=7) rfl rfl (lo.r.ok.ne (by decide)) Be (DL (l:=[0,1,2,3]) (j:=1) (by decide))) rfl (AY rfl) (AD.step (v:=(Value.bool true)) (AB rfl) (BJ (c:=true) rfl rfl (by decide)) rfl (AY rfl) (AH (v:=(Value.bool true)) (AT rfl rfl) rfl (AJ rfl ?_)))))
 refine AD.step (v:=(aG (CC mm))) (AB rfl) (BI (i:=10) (vs:=CC mm) rfl rfl B1.a B1.s rfl rfl) rfl (AY rfl) (AD.call (v:=(vI 1)) (AB rfl) (Ay (args:=[(aG (CC mm))]) rfl rfl Tryz.call65) (λw hw=>(by have h9:=L5 mm (by decide +kernel) (by decide) (by decide) w (WD hw [12,11,9] rfl hmm);rw [show KB Hj=1 from by decide +kernel] at h9;exact h9)) rfl (AY rfl) (AD.step (v:=(Value.bool true)) (AB rfl) (BJ (c:=true) rfl rfl (by decide)) rfl (AY rfl) (AH (v:=(Value.bool true)) (AT rfl rfl) rfl (AJ rfl (AD.step (v:=(aG (CC mm))) (AB rfl) (BI (i:=10) (vs:=CC mm) rfl rfl B1.a B1.s rfl rfl) rfl (AY rfl) ?_)))))
 refine AD.call (v:=(vI 0)) (AB rfl) (Ay (args:=[(aG (CC mm))]) rfl rfl Tryz.call66) (λw hw=>(by have h9:=SF mm pb.l pb.n pb.pts (by decide +kernel) (by decide) (by decide) (by decide) w (WD hw [12,11,9] rfl hmm);rw [hpb,show (((1:Nat):Int)-KB Hj)=0 from by decide +kernel] at h9;exact h9)) rfl (AY rfl) (AD.step (v:=(Value.bool true)) (AB rfl) (BJ (c:=true) rfl rfl (by decide)) rfl (AY rfl) (AH (v:=(Value.bool true)) (AT rfl rfl) rfl (AJ rfl (AD.step (v:=(vN pb.n)) (AB rfl) (Ai rfl) rfl (AY rfl) (AD.step (v:=(Value.bool true)) (AB rfl) (BJ (c:=true) rfl rfl (decide_eq_true (by omega))) rfl (AY rfl) ?_)))))
 refine AH (v:=(Value.bool true)) (AT rfl rfl) rfl (AJ rfl (AD.step (v:=(vN pk.n)) (AB rfl) (Ai rfl) rfl (AY rfl) (AD.step (v:=(Value.bool true)) (AB rfl) (BJ (c:=true) rfl rfl (decide_eq_true (by omega))) rfl (AY rfl) (AH (v:=(Value.bool true)) (AT rfl rfl) rfl (AJ rfl ?_)))))
 refine AD.step (v:=(aG (CC m2))) (AB rfl) (BI (i:=3) (vs:=CC m2) rfl rfl B1.a B1.s rfl rfl) rfl (AY rfl) (AD.unguard (AB rfl) (AD.callR (S:=λ_=>False) (α:=YH 2) (args:=[(aG (CC m2))]) Tryz.call63 (λw hw=>Tl m2 w (WD hw [5,4,2] rfl hm2)) rfl rfl rfl λlk llk=>AD.step (v:=(vI 2)) (AB rfl) (AE rfl Tryz.underlying127) rfl (AY rfl) (AD.step (v:=(Value.bool true)) (AB rfl) (BJ (c:=true) rfl rfl (by decide)) rfl (AY rfl) (AH (v:=(Value.bool true)) (AT rfl rfl) rfl ?_))))
 exact asg' rfl (AD.nil (AC.subF (sL [0,1,4] rfl) (AC.then_ (AF.ret (AN rfl (AQ (v:=(Value.bool true)) rfl) (λw hw=>⟨rfl,hw.out⟩))))))
end
end Go.Proofs.YtpgncndhhhllfaaGreatDoor
