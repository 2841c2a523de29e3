import Derived.Test.YtfbomiejpbchdaaGreatPart06
import Derived.Test.YtfbomiejpbchdaaGreatPart19
import Derived.Test.YtfbomiejpbchdaaGreatPart23
import Derived.Test.YtfbomiejpbchdaaGreatPart34
namespace Go.Proofs.YtfbomiejpbchdaaGreat
open Go Go.RowKit
set_option linter.unusedVariables false
set_option linter.unusedSimpArgs false
section
set_option maxRecDepth 100000
theorem Q3 (w:World):Calls Tryz.prog 56 #[(vI 0),(vI 0)] w (Ax w (aG (An (⟨0,0⟩:Pt)))):=by
 have h:=Gc 0 0 (by decide) (by decide) (by decide) (by decide) w
 rw [show (⟨((0:Int):Rat),((0:Int):Rat)⟩:Pt)=(⟨0,0⟩:Pt) from by decide +kernel] at h
 exact h
theorem QI (w:World):Calls Tryz.prog 56 #[(vI 2),(vI 0)] w (Ax w (aG (An (⟨2,0⟩:Pt)))):=by
 have h:=Gc 2 0 (by decide) (by decide) (by decide) (by decide) w
 rw [show (⟨((2:Int):Rat),((0:Int):Rat)⟩:Pt)=(⟨2,0⟩:Pt) from by decide +kernel] at h
 exact h
theorem Q8 (w:World):Calls Tryz.prog 56 #[(vI 0),(vI 2)] w (Ax w (aG (An (⟨0,2⟩:Pt)))):=by
 have h:=Gc 0 2 (by decide) (by decide) (by decide) (by decide) w
 rw [show (⟨((0:Int):Rat),((2:Int):Rat)⟩:Pt)=(⟨0,2⟩:Pt) from by decide +kernel] at h
 exact h
theorem RS (w:World):Calls Tryz.prog 56 #[(vI 1),(vI 0)] w (Ax w (aG (An (⟨1,0⟩:Pt)))):=by
 have h:=Gc 1 0 (by decide) (by decide) (by decide) (by decide) w
 rw [show (⟨((1:Int):Rat),((0:Int):Rat)⟩:Pt)=(⟨1,0⟩:Pt) from by decide +kernel] at h
 exact h
theorem Q9 (w:World):Calls Tryz.prog 56 #[(vI 0),(vI 1)] w (Ax w (aG (An (⟨0,1⟩:Pt)))):=by
 have h:=Gc 0 1 (by decide) (by decide) (by decide) (by decide) w
 rw [show (⟨((0:Int):Rat),((1:Int):Rat)⟩:Pt)=(⟨0,1⟩:Pt) from by decide +kernel] at h
 exact h
theorem Qv (w:World):Calls Tryz.prog 56 #[(vI 1),(vI 1)] w (Ax w (aG (An (⟨1,1⟩:Pt)))):=by
 have h:=Gc 1 1 (by decide) (by decide) (by decide) (by decide) w
 rw [show (⟨((1:Int):Rat),((1:Int):Rat)⟩:Pt)=(⟨1,1⟩:Pt) from by decide +kernel] at h
 exact h
def RH:List Pt:=[⟨0,0⟩,⟨2,0⟩,⟨0,2⟩]
def M5:List T3:=[(0,1,2)]
def Vu:List T3:=[(0,1,7),(0,2,0),(1,2,0)]
def Gm:List Pt:=[⟨0,0⟩,⟨2,0⟩,⟨0,2⟩,⟨1,0⟩,⟨0,1⟩,⟨1,1⟩]
def Gp:List T3:=[(0,3,4),(3,1,5),(4,5,2),(3,5,4)]
def EQ:List T3:=[(0,3,7),(0,4,0),(1,3,7),(1,5,0),(2,4,0),(2,5,0)]
theorem XU (x:MX RH M5 Vu) (w:World) {S:Nat->Prop} (hx:Ro S w x):Calls Tryz.prog 12 #[(aG (B5 x))] w (Bc (U7 Gm Gp EQ [0,0,0,0] 0) S w):=by
 have h:=R1 x (by decide +kernel) (Wz (by decide +kernel) (by decide +kernel)) (by decide) (by decide) (by decide) (by decide +kernel) w hx
 rw [show Ds RH (A_ M5)=Gm from by decide +kernel,show CF RH.length (A_ M5) M5=Gp from by decide +kernel,show Nx RH.length Vu (A_ M5) Gp=EQ from by decide +kernel,show GJ M5.length=[0,0,0,0] from rfl] at h
 exact h
theorem Kq (x0 x1 x2:Pt):Instr.fill (λi=>some (i*10,10)) ((Array.range (3*10)).map ((Value.agg (An (⟨0,0⟩:Pt)).toArray).cells[·%(Value.agg (An (⟨0,0⟩:Pt)).toArray).cells.size]!)) [(0,.agg (An x0).toArray),(1,.agg (An x1).toArray),(2,.agg (An x2).toArray)]=some (An x0++An x1++An x2).toArray:=by kernel_rfl
theorem Ec (x0 x1 x2:Nat):Instr.fill (λi=>some (i*1,1)) (Ai ((0,0,0):Nat×Nat×Nat)).toArray [(0,vN x0),(1,vN x1),(2,vN x2)]=some (Ai (x0,x1,x2)).toArray:=by kernel_rfl
theorem Jj (x0:Nat×Nat×Nat):Instr.fill (λi=>some (i*3,3)) ((Array.range (1*3)).map ((Value.agg (Ai ((0,0,0):Nat×Nat×Nat)).toArray).cells[·%(Value.agg (Ai ((0,0,0):Nat×Nat×Nat)).toArray).cells.size]!)) [(0,.agg (Ai x0).toArray)]=some (Ai x0).toArray:=by kernel_rfl
theorem Kr (x0 x1 x2:Nat×Nat×Nat):Instr.fill (λi=>some (i*3,3)) ((Array.range (3*3)).map ((Value.agg (Ai ((0,0,0):Nat×Nat×Nat)).toArray).cells[·%(Value.agg (Ai ((0,0,0):Nat×Nat×Nat)).toArray).cells.size]!)) [(0,.agg (Ai x0).toArray),(1,.agg (Ai x1).toArray),(2,.agg (Ai x2).toArray)]=some (Ai x0++Ai x1++Ai x2).toArray:=by kernel_rfl
set_option maxHeartbeats 1000000 in
theorem O9  (w:World)  :Calls Tryz.prog 18 #[] w (Ax w (Value.bool true)):=by
 refine Ad (args:=[]) Tryz.func18 rfl rfl (Af rfl) (AE.subF sN (q4 (AL rfl (AD.nil (q2 ?_)))))
 refine BY Tryz.call56 (Q3) rfl (BY Tryz.call56 (QI) rfl (BY Tryz.call56 (Q8) rfl (AD.openV (V:=λb1=>(Value.slice (some ⟨b1,0,none⟩) 3 3)) (T:=55) (cs:=An (⟨0,0⟩:Pt)++An (⟨2,0⟩:Pt)++An (⟨0,2⟩:Pt)) (AN rfl) (Ah (z:=.agg (An (⟨0,0⟩:Pt)).toArray) (cs:=An (⟨0,0⟩:Pt)++An (⟨2,0⟩:Pt)++An (⟨0,2⟩:Pt)) (pv:=[(0,(aG (An (⟨0,0⟩:Pt)))),(1,(aG (An (⟨2,0⟩:Pt)))),(2,(aG (An (⟨0,2⟩:Pt))))]) Tryz.underlying27 Tryz.sizeOf55 Tryz.zeroValue55 (by decide) (by decide) rfl (Kq (⟨0,0⟩:Pt) (⟨2,0⟩:Pt) (⟨0,2⟩:Pt))) rfl (Af rfl) λb1=>AH (v:=(aG (Ai (0,1,2)))) (Ap (zs:=Ai ((0,0,0):Nat×Nat×Nat)) (vs:=Ai (0,1,2)) (pv:=[(0,(vI 0)),(1,(vI 1)),(2,(vI 2))]) Tryz.zeroValue76 Tryz.underlying76 Tryz.sizeOf3 rfl (Ec 0 1 2)) rfl (AD.openV (V:=λb2=>(Value.slice (some ⟨b2,0,none⟩) 1 1)) (T:=76) (cs:=Ai (0,1,2)) (AN rfl) (Ah (z:=.agg (Ai ((0,0,0):Nat×Nat×Nat)).toArray) (cs:=Ai (0,1,2)) (pv:=[(0,(aG (Ai (0,1,2))))]) Tryz.underlying28 Tryz.sizeOf76 Tryz.zeroValue76 (by decide) (by decide) rfl (Jj (0,1,2))) rfl (Af rfl) λb2=>?_))))
 refine AH (v:=(aG ([(vI 0),(vI 1),(vI 7)]))) (AS (zs:=Ai ((0,0,0):Nat×Nat×Nat)) (vs:=[(vI 0),(vI 1),(vI 7)]) (pv:=[(0,(vI 0)),(1,(vI 1)),(2,(vI 7))]) (places:=[(0,1),(1,1),(2,1)]) Tryz.zeroValue44 Tryz.underlying44 (λw=>by simp [Tryz.sizeOf3]) rfl rfl) rfl (AH (v:=(aG ([(vI 0),(vI 2),(vI 0)]))) (AS (zs:=Ai ((0,0,0):Nat×Nat×Nat)) (vs:=[(vI 0),(vI 2),(vI 0)]) (pv:=[(0,(vI 0)),(1,(vI 2))]) (places:=[(0,1),(1,1),(2,1)]) Tryz.zeroValue44 Tryz.underlying44 (λw=>by simp [Tryz.sizeOf3]) rfl rfl) rfl (AH (v:=(aG ([(vI 1),(vI 2),(vI 0)]))) (AS (zs:=Ai ((0,0,0):Nat×Nat×Nat)) (vs:=[(vI 1),(vI 2),(vI 0)]) (pv:=[(0,(vI 1)),(1,(vI 2))]) (places:=[(0,1),(1,1),(2,1)]) Tryz.zeroValue44 Tryz.underlying44 (λw=>by simp [Tryz.sizeOf3]) rfl rfl) rfl (AD.openV (V:=λb3=>(Value.slice (some ⟨b3,0,none⟩) 3 3)) (T:=44) (cs:=Ai ((0,1,7):T3)++Ai ((0,2,0):T3)++Ai ((1,2,0):T3)) (AN rfl) (Ah (z:=.agg (Ai ((0,0,0):Nat×Nat×Nat)).toArray) (cs:=Ai ((0,1,7):T3)++Ai ((0,2,0):T3)++Ai ((1,2,0):T3)) (pv:=[(0,(aG ([(vI 0),(vI 1),(vI 7)]))),(1,(aG ([(vI 0),(vI 2),(vI 0)]))),(2,(aG ([(vI 1),(vI 2),(vI 0)])))]) Tryz.underlying29 Tryz.sizeOf44 Tryz.zeroValue44 (by decide) (by decide) rfl (Kr ((0,1,7):T3) ((0,2,0):T3) ((1,2,0):T3))) rfl (Af rfl) λb3=>AH (v:=(aG ([(Value.slice (some ⟨b1,0,none⟩) 3 3),(Value.slice (some ⟨b2,0,none⟩) 1 1),(Value.slice (some ⟨b3,0,none⟩) 3 3)]))) (AS (zs:=[(Value.slice none 0 0),(Value.slice none 0 0),(Value.slice none 0 0)]) (vs:=[(Value.slice (some ⟨b1,0,none⟩) 3 3),(Value.slice (some ⟨b2,0,none⟩) 1 1),(Value.slice (some ⟨b3,0,none⟩) 3 3)]) (pv:=[(0,(Value.slice (some ⟨b1,0,none⟩) 3 3)),(1,(Value.slice (some ⟨b2,0,none⟩) 1 1)),(2,(Value.slice (some ⟨b3,0,none⟩) 3 3))]) (places:=[(0,1),(1,1),(2,1)]) Tryz.zeroValue31 Tryz.underlying31 (λw=>by simp [Tryz.sizeOf27,Tryz.sizeOf28,Tryz.sizeOf29]) rfl rfl) rfl (al Ml rfl λb4=>?_))))
 refine A6 rfl Tryz.sizeOf31 rfl (AD.litM (S:=λ_=>False) (ps:=RH) (ts:=M5) (ss:=Vu) (λmm=>[Ac b4 31 (B5 mm),AX mm.c.p (rowsL Ai Vu),AX mm.b.p (rowsL Ai M5),AX mm.a.p (rowsL An RH)]) 3 2 1 (by decide) rfl rfl rfl rfl rfl rfl λmm hmm=>q3 (sL [0,1] rfl) (BF 0 DW rfl (YW (S:=λ_=>False) (args:=[(aG (B5 mm))]) Tryz.call12 (λw hw=>XU mm w (Yc hw [3,2,1] rfl hmm)) rfl λrd hm hq=>AO rfl ?_)))
 refine AH (AY (v:=(aG (B5 rd.m))) rfl rfl) rfl (AH (AY (v:=(Value.slice rd.q.p 4 rd.q.c)) rfl rfl) rfl (AH (AY (v:=(vI 0)) rfl rfl) rfl (al Ml rfl λb5=>A6 rfl Tryz.sizeOf31 rfl (AL rfl ?_))))
 refine AL rfl (q6 (sL [0,1,2,3,4] rfl) (q4 (AO rfl (AH (CX (c:=false) rfl rfl (by decide)) rfl (AO rfl ?_)))))
 refine AD.step (v:=(pP b5 0)) (AB rfl) (AA rfl Tryz.underlying31 rfl Tryz.sizeOf27 rfl) rfl (Af rfl) (AD.step (v:=(Value.slice rd.m.a.p Gm.length rd.m.a.c)) (AB rfl) (AK (i:=0) (v:=(Value.slice rd.m.a.p Gm.length rd.m.a.c)) rfl rfl Dr.a rfl) rfl (Af rfl) (AD.step (v:=(vN Gm.length)) (AB rfl) (AF rfl Tryz.underlying27) rfl (Af rfl) (AD.step (v:=(Value.bool false)) (AB rfl) (CX (c:=false) rfl rfl (by decide)) rfl (Af rfl) (AH (v:=(Value.bool false)) (Aa rfl rfl) rfl (AO rfl ?_)))))
 refine AD.step (v:=(pP b5 1)) (AB rfl) (AA rfl Tryz.underlying31 rfl Tryz.sizeOf28 rfl) rfl (Af rfl) (AD.step (v:=(Value.slice rd.m.b.p Gp.length rd.m.b.c)) (AB rfl) (AK (i:=0) (v:=(Value.slice rd.m.b.p Gp.length rd.m.b.c)) rfl rfl Di.a rfl) rfl (Af rfl) (AD.step (v:=(vN Gp.length)) (AB rfl) (AF rfl Tryz.underlying28) rfl (Af rfl) (AD.step (v:=(Value.bool false)) (AB rfl) (CX (c:=false) rfl rfl (by decide)) rfl (Af rfl) (AH (v:=(Value.bool false)) (Aa rfl rfl) rfl (AO rfl ?_)))))
 refine AD.step (v:=(pP b5 2)) (AB rfl) (AA rfl Tryz.underlying31 rfl Tryz.sizeOf29 rfl) rfl (Af rfl) (AD.step (v:=(Value.slice rd.m.c.p EQ.length rd.m.c.c)) (AB rfl) (AK (i:=0) (v:=(Value.slice rd.m.c.p EQ.length rd.m.c.c)) rfl rfl FT.a rfl) rfl (Af rfl) (AD.step (v:=(vN EQ.length)) (AB rfl) (AF rfl Tryz.underlying29) rfl (Af rfl) (AD.step (v:=(Value.bool false)) (AB rfl) (CX (c:=false) rfl rfl (by decide)) rfl (Af rfl) (AH (v:=(Value.bool false)) (Aa rfl rfl) rfl (AO rfl ?_)))))
 refine AD.step (v:=(Value.slice rd.q.p 4 rd.q.c)) (AB rfl) (BU rfl) rfl (Af rfl) (AD.step (v:=(vI 4)) (AB rfl) (AF rfl Tryz.underlying33) rfl (Af rfl) (AD.step (v:=(Value.bool false)) (AB rfl) (CX (c:=false) rfl rfl (by decide)) rfl (Af rfl) (AH (v:=(Value.bool false)) (Aa rfl rfl) rfl (AD.nil (AC.subF (sL [0,1,2,47] rfl) ?_)))))
 refine AC.then_ (AE.cond_false rfl (AE.skip (q1 (C7 [(0,true),(1,true),(2,true),(3,true),(4,false),(5,true),(6,true),(7,true),(8,true),(9,true),(10,true),(11,false),(12,true),(13,true),(14,true),(15,true),(16,true),(17,true),(18,true),(19,false),(20,true),(21,true),(22,true),(23,true),(24,true),(25,true),(26,true),(27,true),(28,true),(29,true),(30,true),(31,true),(32,true),(33,true),(34,true),(35,true),(36,true),(37,true),(38,true)] sr (Au (v:=(pP b5 0)) rfl (AA rfl Tryz.underlying31 rfl Tryz.sizeOf27 rfl) ?_)))))
 refine Bk 0 (Value.slice rd.m.a.p Gm.length rd.m.a.c) Dr rfl (Au (v:=(pP (pB rd.m.a.p) (pO rd.m.a.p+3*10))) rfl (AQ (j:=3) rfl rfl rd.m.a.ok Tryz.underlying27 Tryz.sizeOf55 rfl (by decide)) (Au (v:=(aG (An (Gm.getD 3 (⟨0,0⟩:Pt))))) rfl (AZ (vs:=An (Gm.getD 3 (⟨0,0⟩:Pt))) (i:=1) rfl rfl (BL.ne rd.m.a.ok (by decide)) BM (A7 BP _ _ _ (by decide)) (BP _)) (AP.imp rfl (BY Tryz.call56 (RS) rfl (AP.back sr ?_)))))
 refine Au rfl (Be (c:=true) rfl rfl Tryz.eqGuardType55 (J5 9994 rfl)) (Bl rfl (AP.pas (v:=(pP b5 0)) rfl (AB rfl) (AA rfl Tryz.underlying31 rfl Tryz.sizeOf27 rfl) rfl rfl (AP.pas (v:=(Value.slice rd.m.a.p Gm.length rd.m.a.c)) rfl (AB rfl) (AK (i:=0) (v:=(Value.slice rd.m.a.p Gm.length rd.m.a.c)) rfl rfl Dr.a rfl) rfl rfl (AP.pas (v:=(pP (pB rd.m.a.p) (pO rd.m.a.p+4*10))) rfl (AB rfl) (AQ (j:=4) rfl rfl rd.m.a.ok Tryz.underlying27 Tryz.sizeOf55 rfl (by decide)) rfl rfl (AP.pas (v:=(aG (An (Gm.getD 4 (⟨0,0⟩:Pt))))) rfl (AB rfl) (AZ (vs:=An (Gm.getD 4 (⟨0,0⟩:Pt))) (i:=1) rfl rfl (BL.ne rd.m.a.ok (by decide)) BM (A7 BP _ _ _ (by decide)) (BP _)) rfl rfl ?_)))))
 refine AP.imp rfl (AD.call (v:=(aG (An (⟨0,1⟩:Pt)))) (AB rfl) (A8 (args:=[(vI 0),(vI 1)]) rfl rfl Tryz.call56) (λw hw=>Q9 w) rfl (Af rfl) (AP.back sr (AP.pas (v:=(Value.bool true)) rfl (AB rfl) (Be (c:=true) rfl rfl Tryz.eqGuardType55 (J5 9994 rfl)) rfl rfl (Au (v:=(Value.bool true)) rfl (Ae rfl rfl) (Bl rfl ?_)))))
 refine AP.pas (v:=(pP b5 0)) rfl (AB rfl) (AA rfl Tryz.underlying31 rfl Tryz.sizeOf27 rfl) rfl rfl (AP.pas (v:=(Value.slice rd.m.a.p Gm.length rd.m.a.c)) rfl (AB rfl) (AK (i:=0) (v:=(Value.slice rd.m.a.p Gm.length rd.m.a.c)) rfl rfl Dr.a rfl) rfl rfl (AP.pas (v:=(pP (pB rd.m.a.p) (pO rd.m.a.p+5*10))) rfl (AB rfl) (AQ (j:=5) rfl rfl rd.m.a.ok Tryz.underlying27 Tryz.sizeOf55 rfl (by decide)) rfl rfl (AP.pas (v:=(aG (An (Gm.getD 5 (⟨0,0⟩:Pt))))) rfl (AB rfl) (AZ (vs:=An (Gm.getD 5 (⟨0,0⟩:Pt))) (i:=1) rfl rfl (BL.ne rd.m.a.ok (by decide)) BM (A7 BP _ _ _ (by decide)) (BP _)) rfl rfl (AP.imp rfl (AD.call (v:=(aG (An (⟨1,1⟩:Pt)))) (AB rfl) (A8 (args:=[(vI 1),(vI 1)]) rfl rfl Tryz.call56) (λw hw=>Qv w) rfl (Af rfl) ?_)))))
 refine AP.back sr (AP.pas (v:=(Value.bool true)) rfl (AB rfl) (Be (c:=true) rfl rfl Tryz.eqGuardType55 (J5 9994 rfl)) rfl rfl (Au (v:=(Value.bool true)) rfl (Ae rfl rfl) (Bl rfl (AP.pas (v:=(pP b5 1)) rfl (AB rfl) (AA rfl Tryz.underlying31 rfl Tryz.sizeOf28 rfl) rfl rfl (AP.pas (v:=(Value.slice rd.m.b.p Gp.length rd.m.b.c)) rfl (AB rfl) (AK (i:=0) (v:=(Value.slice rd.m.b.p Gp.length rd.m.b.c)) rfl rfl Di.a rfl) rfl rfl ?_)))))
 refine AP.pas (v:=(pP (pB rd.m.b.p) (pO rd.m.b.p+0*3))) rfl (AB rfl) (AQ (j:=0) rfl rfl rd.m.b.ok Tryz.underlying28 Tryz.sizeOf76 rfl (by decide)) rfl rfl (AP.pas (v:=(aG (Ai (Gp.getD 0 ((0,0,0):Nat×Nat×Nat))))) rfl (AB rfl) (AZ (vs:=Ai (Gp.getD 0 ((0,0,0):Nat×Nat×Nat))) (i:=2) rfl rfl (BL.ne rd.m.b.ok (by decide)) Hs (A7 Aq _ _ _ (by decide)) (Aq _)) rfl rfl (AP.pas (v:=(aG (Ai (0,3,4)))) rfl (AB rfl) (Ap (zs:=Ai ((0,0,0):Nat×Nat×Nat)) (vs:=Ai (0,3,4)) (pv:=[(0,(vI 0)),(1,(vI 3)),(2,(vI 4))]) Tryz.zeroValue76 Tryz.underlying76 Tryz.sizeOf3 rfl (Ec 0 3 4)) rfl rfl (AP.pas (v:=(Value.bool true)) rfl (AB rfl) (Be (c:=true) rfl rfl Tryz.eqGuardType76 (NG (a:=Gp.getD 0 ((0,0,0):Nat×Nat×Nat)) (b:=(0,3,4)) 9998 rfl)) rfl rfl (Au (v:=(Value.bool true)) rfl (Ae rfl rfl) (Bl rfl ?_)))))
 refine AP.pas (v:=(pP b5 1)) rfl (AB rfl) (AA rfl Tryz.underlying31 rfl Tryz.sizeOf28 rfl) rfl rfl (AP.pas (v:=(Value.slice rd.m.b.p Gp.length rd.m.b.c)) rfl (AB rfl) (AK (i:=0) (v:=(Value.slice rd.m.b.p Gp.length rd.m.b.c)) rfl rfl Di.a rfl) rfl rfl (AP.pas (v:=(pP (pB rd.m.b.p) (pO rd.m.b.p+3*3))) rfl (AB rfl) (AQ (j:=3) rfl rfl rd.m.b.ok Tryz.underlying28 Tryz.sizeOf76 rfl (by decide)) rfl rfl (AP.pas (v:=(aG (Ai (Gp.getD 3 ((0,0,0):Nat×Nat×Nat))))) rfl (AB rfl) (AZ (vs:=Ai (Gp.getD 3 ((0,0,0):Nat×Nat×Nat))) (i:=2) rfl rfl (BL.ne rd.m.b.ok (by decide)) Hs (A7 Aq _ _ _ (by decide)) (Aq _)) rfl rfl (AP.pas (v:=(aG (Ai (3,5,4)))) rfl (AB rfl) (Ap (zs:=Ai ((0,0,0):Nat×Nat×Nat)) (vs:=Ai (3,5,4)) (pv:=[(0,(vI 3)),(1,(vI 5)),(2,(vI 4))]) Tryz.zeroValue76 Tryz.underlying76 Tryz.sizeOf3 rfl (Ec 3 5 4)) rfl rfl (AP.pas (v:=(Value.bool true)) rfl (AB rfl) (Be (c:=true) rfl rfl Tryz.eqGuardType76 (NG (a:=Gp.getD 3 ((0,0,0):Nat×Nat×Nat)) (b:=(3,5,4)) 9998 rfl)) rfl rfl ?_)))))
 refine Au (v:=(Value.bool true)) rfl (Ae rfl rfl) (E5 rfl (AP.nil (AC.subF (sL [0,1,2,5] rfl) (q2 (AO rfl ?_)))))
 refine AO rfl (AD.step (v:=(pP b5 2)) (AB rfl) (AA rfl Tryz.underlying31 rfl Tryz.sizeOf29 rfl) rfl (Af rfl) (AD.step (v:=(Value.slice rd.m.c.p EQ.length rd.m.c.c)) (AB rfl) (AK (i:=0) (v:=(Value.slice rd.m.c.p EQ.length rd.m.c.c)) rfl rfl FT.a rfl) rfl (Af rfl) (AD.step (v:=(pP (pB rd.m.c.p) (pO rd.m.c.p+0*3))) (AB rfl) (AQ (j:=0) rfl rfl rd.m.c.ok Tryz.underlying29 Tryz.sizeOf44 rfl (by decide)) rfl (Af rfl) (AD.step (v:=(aG (Ai (EQ.getD 0 ((0,0,0):Nat×Nat×Nat))))) (AB rfl) (AZ (vs:=Ai (EQ.getD 0 ((0,0,0):Nat×Nat×Nat))) (i:=3) rfl rfl (BL.ne rd.m.c.ok (by decide)) N3 (A7 Aq _ _ _ (by decide)) (Aq _)) rfl (Af rfl) (AD.step (v:=(aG ([(vI 0),(vI 3),(vI 7)]))) (AB rfl) (AS (zs:=Ai ((0,0,0):Nat×Nat×Nat)) (vs:=[(vI 0),(vI 3),(vI 7)]) (pv:=[(0,(vI 0)),(1,(vI 3)),(2,(vI 7))]) (places:=[(0,1),(1,1),(2,1)]) Tryz.zeroValue44 Tryz.underlying44 (λw=>by simp [Tryz.sizeOf3]) rfl rfl) rfl (Af rfl) ?_)))))
 refine AD.step (v:=(Value.bool true)) (AB rfl) (Be (c:=true) rfl rfl Tryz.eqGuardType44 (G3 (a:=EQ.getD 0 ((0,0,0):Nat×Nat×Nat)) (b:=((0,3,7):T3)) 9998 rfl)) rfl (Af rfl) (AH (v:=(Value.bool true)) (Ae rfl rfl) rfl (AO rfl (AD.step (v:=(pP b5 2)) (AB rfl) (AA rfl Tryz.underlying31 rfl Tryz.sizeOf29 rfl) rfl (Af rfl) (AD.step (v:=(Value.slice rd.m.c.p EQ.length rd.m.c.c)) (AB rfl) (AK (i:=0) (v:=(Value.slice rd.m.c.p EQ.length rd.m.c.c)) rfl rfl FT.a rfl) rfl (Af rfl) (AD.step (v:=(pP (pB rd.m.c.p) (pO rd.m.c.p+2*3))) (AB rfl) (AQ (j:=2) rfl rfl rd.m.c.ok Tryz.underlying29 Tryz.sizeOf44 rfl (by decide)) rfl (Af rfl) ?_)))))
 refine AD.step (v:=(aG (Ai (EQ.getD 2 ((0,0,0):Nat×Nat×Nat))))) (AB rfl) (AZ (vs:=Ai (EQ.getD 2 ((0,0,0):Nat×Nat×Nat))) (i:=3) rfl rfl (BL.ne rd.m.c.ok (by decide)) N3 (A7 Aq _ _ _ (by decide)) (Aq _)) rfl (Af rfl) (AD.step (v:=(aG ([(vI 1),(vI 3),(vI 7)]))) (AB rfl) (AS (zs:=Ai ((0,0,0):Nat×Nat×Nat)) (vs:=[(vI 1),(vI 3),(vI 7)]) (pv:=[(0,(vI 1)),(1,(vI 3)),(2,(vI 7))]) (places:=[(0,1),(1,1),(2,1)]) Tryz.zeroValue44 Tryz.underlying44 (λw=>by simp [Tryz.sizeOf3]) rfl rfl) rfl (Af rfl) (AD.step (v:=(Value.bool true)) (AB rfl) (Be (c:=true) rfl rfl Tryz.eqGuardType44 (G3 (a:=EQ.getD 2 ((0,0,0):Nat×Nat×Nat)) (b:=((1,3,7):T3)) 9998 rfl)) rfl (Af rfl) (AH (v:=(Value.bool true)) (Ae rfl rfl) rfl (AO rfl (AD.step (v:=(pP b5 2)) (AB rfl) (AA rfl Tryz.underlying31 rfl Tryz.sizeOf29 rfl) rfl (Af rfl) ?_)))))
 refine AD.step (v:=(Value.slice rd.m.c.p EQ.length rd.m.c.c)) (AB rfl) (AK (i:=0) (v:=(Value.slice rd.m.c.p EQ.length rd.m.c.c)) rfl rfl FT.a rfl) rfl (Af rfl) (AD.step (v:=(pP (pB rd.m.c.p) (pO rd.m.c.p+1*3))) (AB rfl) (AQ (j:=1) rfl rfl rd.m.c.ok Tryz.underlying29 Tryz.sizeOf44 rfl (by decide)) rfl (Af rfl) (AD.step (v:=(pP (pB rd.m.c.p) (pO rd.m.c.p+(1*3+2)))) (AB rfl) (AA rfl Tryz.underlying44 rfl Tryz.sizeOf3 (Nat.add_assoc _ _ _)) rfl (Af rfl) (AD.step (v:=(vN ((EQ.getD 1 ((0,0,0):Nat×Nat×Nat)).2.2))) (AB rfl) (BD (v:=(vN ((EQ.getD 1 ((0,0,0):Nat×Nat×Nat)).2.2))) (i:=3) rfl rfl (BL.ne rd.m.c.ok (by decide)) B_ (Cx Aq ((0,0,0):Nat×Nat×Nat) _ _ 2 (by decide) (by decide) rfl)) rfl (Af rfl) (AD.step (v:=(Value.bool true)) (AB rfl) (Bp (c:=true) rfl rfl (by decide)) rfl (Af rfl) (AH (v:=(Value.bool true)) (Ae rfl rfl) rfl ?_)))))
 refine AO rfl (AD.step (v:=(pP b5 2)) (AB rfl) (AA rfl Tryz.underlying31 rfl Tryz.sizeOf29 rfl) rfl (Af rfl) (AD.step (v:=(Value.slice rd.m.c.p EQ.length rd.m.c.c)) (AB rfl) (AK (i:=0) (v:=(Value.slice rd.m.c.p EQ.length rd.m.c.c)) rfl rfl FT.a rfl) rfl (Af rfl) (AD.step (v:=(pP (pB rd.m.c.p) (pO rd.m.c.p+5*3))) (AB rfl) (AQ (j:=5) rfl rfl rd.m.c.ok Tryz.underlying29 Tryz.sizeOf44 rfl (by decide)) rfl (Af rfl) (AD.step (v:=(aG (Ai (EQ.getD 5 ((0,0,0):Nat×Nat×Nat))))) (AB rfl) (AZ (vs:=Ai (EQ.getD 5 ((0,0,0):Nat×Nat×Nat))) (i:=3) rfl rfl (BL.ne rd.m.c.ok (by decide)) N3 (A7 Aq _ _ _ (by decide)) (Aq _)) rfl (Af rfl) (AD.step (v:=(aG ([(vI 2),(vI 5),(vI 0)]))) (AB rfl) (AS (zs:=Ai ((0,0,0):Nat×Nat×Nat)) (vs:=[(vI 2),(vI 5),(vI 0)]) (pv:=[(0,(vI 2)),(1,(vI 5))]) (places:=[(0,1),(1,1),(2,1)]) Tryz.zeroValue44 Tryz.underlying44 (λw=>by simp [Tryz.sizeOf3]) rfl rfl) rfl (Af rfl) ?_)))))
 refine AD.step (v:=(Value.bool true)) (AB rfl) (Be (c:=true) rfl rfl Tryz.eqGuardType44 (G3 (a:=EQ.getD 5 ((0,0,0):Nat×Nat×Nat)) (b:=((2,5,0):T3)) 9998 rfl)) rfl (Af rfl) (AH (v:=(Value.bool true)) (Ae rfl rfl) rfl (AL rfl (AD.nil (AC.subF (sL [0,1,2] rfl) (AC.then_ ?_)))))
 exact AE.ret (AU rfl (Am (v:=(Value.bool true)) rfl) (λw hw=>⟨rfl,hw.out⟩))
end
def Hz (p q:Pt):Prop:=p.x<q.x\/(p.x=q.x/\p.y<q.y)
instance (p q:Pt):Decidable (Hz p q):=by unfold Hz;infer_instance
def Ks (a b:Pt):Pt:=if Hz b a then b else a
def My (a b:Pt):Pt:=if Hz a b then b else a
theorem WH {p q:Pt} (h:GW p.x q.x≠0):decide (GW p.x q.x<0)=decide (Hz p q):=by
  have h2:¬p.x=q.x:=λe=>h (PV.2 e)
  refine decide_eq_decide.2 ⟨λk=>.inl (I6.1 k),λk=>?_⟩
  rcases k with k|k
  · exact I6.2 k
  · exact absurd k.1 h2
theorem W9 {p q:Pt} (h:GW p.x q.x=0):decide (GW p.y q.y<0)=decide (Hz p q):=by
  have h2:p.x=q.x:=PV.1 h
  refine decide_eq_decide.2 ⟨λk=>.inr ⟨h2,I6.1 k⟩,λk=>?_⟩
  rcases k with k|k
  · rw [h2] at k;exact absurd k (by grind)
  · exact I6.2 k.2
theorem Ut {x:Rat} (h:x.num.sign=0):x=0:=by
  have:=Int.sign_eq_zero_iff_zero.1 h
  exact Rat.num_eq_zero.1 this
theorem Tv {k:Nat} {a b:Pt} (ha:DT a<=k) (hb:DT b<=k):DT (Ks a b)<=k:=by unfold Ks;split<;>assumption
theorem V7 {k:Nat} {a b:Pt} (ha:DT a<=k) (hb:DT b<=k):DT (My a b)<=k:=by unfold My;split<;>assumption
theorem JU {w:World} {b T n:Nat} {cs:List Value} (hl:w.heap[b]?=some (.cells cs.toArray T (0,0))):Ro (λ_=>True) w (⟨some ⟨b,0,none⟩,n,C8 _ _⟩:RX cs n):=λy hy=>by
  rcases List.mem_singleton.1 hy with rfl
  exact ⟨λc e=>(by injection e with e;subst e;exact ⟨_,hl,FN (T:=T) rfl⟩),λ_ _=>trivial⟩
def m7 (m:MQ) (k:Nat):List Nat:=(m.cs.take k).map (·%7)
abbrev T2 := P2 × P2 × P2
def XS (A B : P2) (X Y : Nat) : Int := ((B.1 : Int) - A.1) * ((Y : Int) - 2 * A.2) - ((B.2 : Int) - A.2) * ((X : Int) - 2 * A.1)
def XY (t : T2) (X Y : Nat) : Bool := decide (0 ≤ XS t.2.1 t.2.2 X Y) && decide (0 ≤ XS t.2.2 t.1 X Y) && decide (0 ≤ XS t.1 t.2.1 X Y)
def JY (t : T2) (q : P2) : Bool := t.1 == q || t.2.1 == q || t.2.2 == q
def Qd (u v c : Nat) : List T2 :=
  let x := 2 * u; let y := 2 * v
  if c = 0 then [((x, y), (x + 2, y), (x + 2, y + 2)), ((x, y), (x + 2, y + 2), (x, y + 2))]
  else if c = 1 then [((x, y), (x + 2, y), (x, y + 2)), ((x + 2, y), (x + 2, y + 2), (x, y + 2))]
  else if c = 2 then [((x, y), (x + 2, y), (x + 1, y + 1)), ((x + 2, y), (x + 2, y + 2), (x + 1, y + 1)), ((x + 2, y + 2), (x, y + 2), (x + 1, y + 1)), ((x, y + 2), (x, y), (x + 1, y + 1))] else []
def Ve (way i : Nat) : Nat := if way < 3 ∨ (way = 7 ∧ i = 0) then 0 else if way < 5 then 1 else if way < 7 then 2 else 3
theorem LO (nx way i : Nat) : Ce nx way i = Qd (i % nx) (i / nx) (Ve way i) := by
  unfold Ce Qd Ve
  simp only
  split
  · rfl
  · split
    · rfl
    · split <;> rfl
theorem JG (way i : Nat) : Ve way i < 4 := by
  unfold Ve
  split
  · omega
  · split
    · omega
    · split <;> omega
def Md (s t : T2) : Bool :=
  [s.1, s.2.1, s.2.2].all (fun q => !XY t (2 * q.1) (2 * q.2) || JY t q) &&
  [(s.1, s.2.1), (s.2.1, s.2.2), (s.2.2, s.1)].all (fun e => !XY t (e.1.1 + e.2.1) (e.1.2 + e.2.2) || (JY t e.1 && JY t e.2))
def F5 : List (Nat × Nat × Nat) := [0, 1, 2].flatMap fun u => [0, 1, 2].flatMap fun v => [0, 1, 2, 3].map fun c => (u, v, c)
def XV : Bool := F5.all fun p => F5.all fun q => (decide (p.1 = q.1 ∧ p.2.1 = q.2.1 ∧ p.2.2 ≠ q.2.2)) || (Qd p.1 p.2.1 p.2.2).all fun s => (Qd q.1 q.2.1 q.2.2).all fun t => Md s t
theorem Oe : XV = true := by decide +kernel
theorem EU {u v c : Nat} (hu : u ≤ 2) (hv : v ≤ 2) (hc : c < 4) : (u, v, c) ∈ F5 := by
  have h1 : u = 0 ∨ u = 1 ∨ u = 2 := by omega
  have h2 : v = 0 ∨ v = 1 ∨ v = 2 := by omega
  have h3 : c = 0 ∨ c = 1 ∨ c = 2 ∨ c = 3 := by omega
  rcases h1 with rfl | rfl | rfl <;> rcases h2 with rfl | rfl | rfl <;> rcases h3 with rfl | rfl | rfl | rfl <;> decide
theorem PR {m : MQ} {s t : T2} (hs : s ∈ BA m) (ht : t ∈ BA m) : Md s t = true := by
  obtain ⟨i, hi, h1⟩ := Do m _ s hs
  obtain ⟨j, hj, h2⟩ := Do m _ t ht
  have hx := IZ m
  have hy := IF m
  have b : ∀ k, k < FV m * Qu m → k % FV m ≤ 2 ∧ k / FV m ≤ 2 := fun k hk => by
    have a1 := Nat.mod_lt k (show 0 < FV m by omega)
    have a2 : k / FV m < Qu m := Nat.div_lt_of_lt_mul hk
    omega
  rw [LO] at h1 h2
  have h := List.all_eq_true.1 (List.all_eq_true.1 Oe _ (EU (b i hi).1 (b i hi).2 (JG (Fz m i) i))) _ (EU (b j hj).1 (b j hj).2 (JG (Fz m j) j))
  rw [Bool.or_eq_true, decide_eq_true_eq] at h
  rcases h with ⟨e1, e2, e3⟩ | h
  · exfalso
    have e : i = j := by rw [← Nat.div_add_mod i (FV m), ← Nat.div_add_mod j (FV m), show i % FV m = j % FV m from e1, show i / FV m = j / FV m from e2]
    subst e
    exact e3 rfl
  · exact List.all_eq_true.1 (List.all_eq_true.1 h s h1) t h2
theorem Tw (A B : P2) (X Y : Nat) : Jf A B ((X : Rat) * (1 / 2)) ((Y : Rat) * (1 / 2)) = ((XS A B X Y : Int) : Rat) * (1 / 2) := by
  simp only [Jf, XS, Rat.intCast_sub, Rat.intCast_mul, Rat.intCast_natCast, show ((2 : Int) : Rat) = 2 from rfl]
  grind
theorem Tt {t : T2} {X Y : Nat} (h : inC t ((X : Rat) * (1 / 2)) ((Y : Rat) * (1 / 2))) : XY t X Y = true := by
  obtain ⟨h1, h2, h3⟩ := h
  rw [Tw] at h1 h2 h3
  have c : ∀ z : Int, 0 ≤ (z : Rat) * (1 / 2) → 0 ≤ z := fun z hz => by
    have : (0 : Rat) ≤ (z : Rat) := by grind
    exact_mod_cast this
  simp only [XY, Bool.and_eq_true, decide_eq_true_eq]
  exact ⟨⟨c _ h1, c _ h2⟩, c _ h3⟩
theorem Mv {t : T2} {q : P2} (h : JY t q = true) : ∃ r, r < 3 ∧ DI t r = q := by
  simp only [JY, Bool.or_eq_true, beq_iff_eq] at h
  rcases h with (h | h) | h
  · exact ⟨0, by omega, h⟩
  · exact ⟨1, by omega, h⟩
  · exact ⟨2, by omega, h⟩
theorem TS (t : T2) {r : Nat} (h : r < 3) : DI t r ∈ [t.1, t.2.1, t.2.2] := by
  have : r = 0 ∨ r = 1 ∨ r = 2 := by omega
  rcases this with rfl | rfl | rfl <;> simp [DI]
theorem NC {m : MQ} {s t : T2} (hs : s ∈ BA m) (ht : t ∈ BA m) {r : Nat} (hr : r < 3) (h : inC t ((DI s r).1 : Rat) ((DI s r).2 : Rat)) : ∃ k, k < 3 ∧ DI t k = DI s r := by
  have hp := PR hs ht
  unfold Md at hp
  rw [Bool.and_eq_true] at hp
  have h1 := List.all_eq_true.1 hp.1 _ (TS s hr)
  have h2 : XY t (2 * (DI s r).1) (2 * (DI s r).2) = true := Tt (by
    rw [GR, GR, show 2 * ((DI s r).1 : Rat) * (1 / 2) = ((DI s r).1 : Rat) by grind, show 2 * ((DI s r).2 : Rat) * (1 / 2) = ((DI s r).2 : Rat) by grind]
    exact h)
  rw [h2] at h1
  exact Mv (by simpa using h1)
theorem SM {m : MQ} {s t : T2} (hs : s ∈ BA m) (ht : t ∈ BA m) {r : Nat} (hr : r < 3) (h : inC t ((((DI s r).1 + (DI s ((r + 1) % 3)).1 : Nat) : Rat) * (1 / 2)) ((((DI s r).2 + (DI s ((r + 1) % 3)).2 : Nat) : Rat) * (1 / 2))) :
    (∃ k, k < 3 ∧ DI t k = DI s r) ∧ ∃ k, k < 3 ∧ DI t k = DI s ((r + 1) % 3) := by
  have hp := PR hs ht
  unfold Md at hp
  rw [Bool.and_eq_true] at hp
  have hm : (DI s r, DI s ((r + 1) % 3)) ∈ [(s.1, s.2.1), (s.2.1, s.2.2), (s.2.2, s.1)] := by
    have : r = 0 ∨ r = 1 ∨ r = 2 := by omega
    rcases this with rfl | rfl | rfl <;> simp [DI]
  have h1 := List.all_eq_true.1 hp.2 _ hm
  rw [Tt h] at h1
  have h2 : JY t (DI s r) = true ∧ JY t (DI s ((r + 1) % 3)) = true := by simpa using h1
  exact ⟨Mv h2.1, Mv h2.2⟩
section
def PQ (k:Cw) (den:Nat) (X Y:Rat):Pt:=⟨((k.a:Rat)*X+(k.b:Rat)*Y)/(((max den 1:Nat):Int):Rat),((k.c:Rat)*X+(k.d:Rat)*Y)/(((max den 1:Nat):Int):Rat)⟩
theorem Jm (k:Cw) (den:Nat) (A:P2):DY (M4 k den A)=PQ k den (A.1:Rat) (A.2:Rat):=by
  simp only [DY,M4,M1,Cw.at_,PQ,Rat.intCast_add,Rat.intCast_mul,Rat.intCast_natCast]
theorem W1 (k:Cw) (den:Nat) (A B:P2):B7 (DY (M4 k den A)+DY (M4 k den B)) (1/2)=PQ k den (((A.1+B.1:Nat):Rat)*(1/2)) (((A.2+B.2:Nat):Rat)*(1/2)):=by
  rw [Jm,Jm]
  refine Pt.ext ?_ ?_<;>simp only [PQ,Fk,Fd,JW,KP,Rat.natCast_add,Rat.div_def]<;>generalize (((max den 1:Nat):Int):Rat)⁻¹=e<;>grind
theorem UB {k:Cw} (h:k.Ok) (den:Nat):∃c:Rat,0<c/\∀(A B:P2) (X Y:Rat),B9 (DY (M4 k den A)) (DY (M4 k den B)) (PQ k den X Y)=c*Jf A B X Y:=by
  have hD:0<(((max den 1:Nat):Int):Rat):=by exact_mod_cast (show (0:Int)<((max den 1:Nat):Int) by omega)
  have hd:(0:Rat)<(k.det:Rat):=by exact_mod_cast h.pos
  have ed:(k.det:Rat)=(k.a:Rat)*(k.d:Rat)-(k.b:Rat)*(k.c:Rat):=by simp only [Cw.det,Rat.intCast_sub,Rat.intCast_mul]
  have hi:=Rat.inv_pos.2 hD
  refine ⟨(k.det:Rat)*((((max den 1:Nat):Int):Rat)⁻¹*(((max den 1:Nat):Int):Rat)⁻¹),Rat.mul_pos hd (Rat.mul_pos hi hi),λA B X Y=>?_⟩
  rw [Jm,Jm,ed]
  simp only [CG,PQ,Jf,Rat.div_def]
  generalize (((max den 1:Nat):Int):Rat)⁻¹=e
  grind
theorem W4 (m:MQ) (t:Nat) {k:Nat} (hk:k<3):∃r,r<3/\Gs m t r=k:=by
  unfold Gs
  generalize t*(m.fst/3)=q
  have e:(m.fst+q)%3=0\/(m.fst+q)%3=1\/(m.fst+q)%3=2:=by omega
  rcases e with e|e|e
  · exact ⟨k,hk,by omega⟩
  · exact ⟨(k+2)%3,Nat.mod_lt _ (by decide),by omega⟩
  · exact ⟨(k+1)%3,Nat.mod_lt _ (by decide),by omega⟩
theorem NH (m:MQ) (t r:Nat):Gs m t ((r+1)%3)=(Gs m t r+1)%3:=by unfold Gs;omega
def crn (t:Nat×Nat×Nat) (r:Nat):Nat:=if r=0 then t.1 else if r=1 then t.2.1 else t.2.2
def JV (t:Nat×Nat×Nat) (p:Nat):Bool:=t.1 == p||t.2.1 == p||t.2.2 == p
theorem Hb {t:Nat×Nat×Nat} {p:Nat}:JV t p=true↔∃r,r<3/\crn t r=p:=by
  simp only [JV,Bool.or_eq_true,beq_iff_eq]
  constructor
  · rintro ((h|h)|h)
    · exact ⟨0,by omega,h⟩
    · exact ⟨1,by omega,h⟩
    · exact ⟨2,by omega,h⟩
  · rintro ⟨r,hr,h⟩
    have:r=0\/r=1\/r=2:=by omega
    rcases this with rfl|rfl|rfl
    · exact .inl (.inl h)
    · exact .inl (.inr h)
    · exact .inr h
theorem Ib.crn {m:MQ} {pl:List P2} {n:Nat×Nat×Nat} {t:Nat} (h:Ib m pl n t) {r:Nat} (hr:r<3):Go.Proofs.YtfbomiejpbchdaaGreat.crn n r<pl.length/\pl.getD (Go.Proofs.YtfbomiejpbchdaaGreat.crn n r) (0,0)=Ao m t r:=by
  have:r=0\/r=1\/r=2:=by omega
  rcases this with rfl|rfl|rfl
  · exact h.a
  · exact h.b
  · exact h.c
section
variable {ps:List Pt} {ts:List (Nat×Nat×Nat)}
structure WN (ps:List Pt) (ts:List (Nat×Nat×Nat)) (m:MQ) (pl:List P2):Prop where
  inv:Lz m (BA m).length pl ts
  dst:V8 pl
  pl_len:ps.length=pl.length
  at_:∀i,i<pl.length->ps.getD i ⟨0,0⟩=DY (M4 (mapM m) (C9 m) (pl.getD i (0,0)))
theorem GoodM.lattice (g:GoodM ps ts):∃m pl,WN ps ts m pl:=by
  obtain ⟨m,pl,h1,h2,h3⟩:=g.lat
  have hz:(E8 m pl).length=pl.length:=by simp [E8]
  refine ⟨m,pl,h1,h2,by rw [h3,JO (by omega)],λi hi=>?_⟩
  rw [h3,<-hz,PI (by rw [hz];exact hi),I7 hi]
  rfl
theorem WN.cell {m:MQ} {pl:List P2} (l:WN ps ts m pl) {t:Nat} (ht:t<ts.length):(BA m).getD t ((0,0),(0,0),(0,0))∈BA m:=by
  have h:=l.inv.tl
  rw [List.getD,List.getElem?_eq_getElem (by omega)];exact List.getElem_mem _
theorem WN.inC {m:MQ} {pl:List P2} (l:WN ps ts m pl) {t:Nat} (ht:t<ts.length) {X Y:Rat} (h:P9 ps (ts.getD t (0,0,0)) (PQ (mapM m) (C9 m) X Y)):Go.Proofs.YtfbomiejpbchdaaGreat.inC ((BA m).getD t ((0,0),(0,0),(0,0))) X Y:=by
  obtain ⟨c,hc,key⟩:=UB (Fi m.a m.b m.c m.d) (C9 m)
  have hk:mapM m=F_ m.a m.b m.c m.d:=rfl
  rw [<-hk] at key
  have hat:=l.inv.at_ t (by have:=l.inv.tl;omega)
  obtain ⟨⟨a1,a2⟩,⟨b1,b2⟩,⟨c1,c2⟩⟩:=hat
  obtain ⟨k1,k2,k3⟩:=h
  rw [l.at_ _ b1,l.at_ _ c1,b2,c2,<-CE,key] at k1
  rw [l.at_ _ a1,l.at_ _ c1,a2,c2,CE,key] at k2
  rw [l.at_ _ a1,l.at_ _ b1,a2,b2,key] at k3
  exact (MK m t X Y).2 (LY hc k1) (LY hc k2) (LY hc k3)
theorem WN.idx {m:MQ} {pl:List P2} (l:WN ps ts m pl) {t p:Nat} (ht:t<ts.length) (hp:p<pl.length) (h:∃k,k<3/\DI ((BA m).getD t ((0,0),(0,0),(0,0))) k=pl.getD p (0,0)):JV (ts.getD t (0,0,0)) p=true:=by
  obtain ⟨k,hk,e⟩:=h
  obtain ⟨r,hr,e2⟩:=W4 m t hk
  obtain ⟨h1,h2⟩:=(l.inv.at_ t (by have:=l.inv.tl;omega)).crn hr
  have e3:Ao m t r=pl.getD p (0,0):=by rw [<-e,<-e2];rfl
  exact Hb.2 ⟨r,hr,l.dst _ _ h1 hp (by rw [h2,e3])⟩
theorem Lv (g:GoodM ps ts) {p:Nat} (hp:p<ps.length):∃j,j<ts.length/\JV (ts.getD j (0,0,0)) p=true:=by
  obtain ⟨m,pl,l⟩:=g.lattice
  obtain ⟨j,hj,h⟩:=l.inv.used p (by rw [<-l.pl_len];exact hp)
  refine ⟨j,by have:=l.inv.tl;omega,?_⟩
  simp only [JV,Bool.or_eq_true,beq_iff_eq]
  rcases h with h|h|h
  · exact .inl (.inl h)
  · exact .inl (.inr h)
  · exact .inr h
theorem Ty (g:GoodM ps ts) {p q:Nat} (hp:p<ps.length) (hq:q<ps.length) (h:ps.getD p ⟨0,0⟩=ps.getD q ⟨0,0⟩):p=q:=by
  obtain ⟨m,pl,l⟩:=g.lattice
  obtain ⟨j,hj,hh⟩:=Lv g hq
  obtain ⟨r,hr,e⟩:=Hb.1 hh
  have hp':p<pl.length:=by rw [<-l.pl_len];exact hp
  have hq':q<pl.length:=by rw [<-l.pl_len];exact hq
  rw [l.at_ p hp',l.at_ q hq'] at h
  refine l.dst p q hp' hq' ?_
  have hD:0<(((max (C9 m) 1:Nat):Int):Rat):=by exact_mod_cast (show (0:Int)<((max (C9 m) 1:Nat):Int) by omega)
  have hk:=Fi m.a m.b m.c m.d
  have hdet:=hk.pos
  have hx:=congrArg Pt.x h
  have hy:=congrArg Pt.y h
  rw [Jm,Jm] at hx hy
  simp only [PQ,Rat.div_def] at hx hy
  have hi:=Rat.inv_pos.2 hD
  generalize (((max (C9 m) 1:Nat):Int):Rat)⁻¹=e at *
  generalize pl.getD p (0,0)=A at *
  generalize pl.getD q (0,0)=B at *
  obtain ⟨x1,y1⟩:=A
  obtain ⟨x2,y2⟩:=B
  simp only at hx hy
  have hd:(0:Rat)<((mapM m).det:Rat):=by exact_mod_cast hdet
  have ed:((mapM m).det:Rat)=((mapM m).a:Rat)*((mapM m).d:Rat)-((mapM m).b:Rat)*((mapM m).c:Rat):=by simp only [Cw.det,Rat.intCast_sub,Rat.intCast_mul]
  rw [ed] at hd
  generalize ((mapM m).a:Rat)=a at *
  generalize ((mapM m).b:Rat)=b at *
  generalize ((mapM m).c:Rat)=c at *
  generalize ((mapM m).d:Rat)=d at *
  clear hD hk hdet ed h
  have hX:((x1:Rat)-(x2:Rat))*(a*d-b*c)*e=0:=by grind
  have hY:((y1:Rat)-(y2:Rat))*(a*d-b*c)*e=0:=by grind
  have z1:(x1:Rat)-(x2:Rat)=0:=by
    rcases Rat.mul_eq_zero.1 hX with h|h
    · rcases Rat.mul_eq_zero.1 h with h|h
      · exact h
      · grind
    · grind
  have z2:(y1:Rat)-(y2:Rat)=0:=by
    rcases Rat.mul_eq_zero.1 hY with h|h
    · rcases Rat.mul_eq_zero.1 h with h|h
      · exact h
      · grind
    · grind
  have w1:(x1:Rat)=(x2:Rat):=by grind
  have w2:(y1:Rat)=(y2:Rat):=by grind
  exact Prod.ext (by exact_mod_cast w1) (by exact_mod_cast w2)
theorem N1 (g:GoodM ps ts) {p t:Nat} (hp:p<ps.length) (ht:t<ts.length) (h:P9 ps (ts.getD t (0,0,0)) (ps.getD p ⟨0,0⟩)):JV (ts.getD t (0,0,0)) p=true:=by
  obtain ⟨m,pl,l⟩:=g.lattice
  have hp':p<pl.length:=by rw [<-l.pl_len];exact hp
  obtain ⟨j,hj,hh⟩:=Lv g hp
  obtain ⟨r,hr,e⟩:=Hb.1 hh
  have hc:=((l.inv.at_ j (by have:=l.inv.tl;omega)).crn hr).2
  rw [e] at hc
  refine l.idx ht hp' ?_
  rw [l.at_ p hp',Jm] at h
  have h2:=l.inC ht h
  rw [hc] at h2 ⊢
  exact NC (l.cell hj) (l.cell ht) (Nat.mod_lt _ (by decide)) h2
theorem N9 (g:GoodM ps ts) {s t r:Nat} (hs:s<ts.length) (ht:t<ts.length) (hr:r<3) (h:P9 ps (ts.getD t (0,0,0)) (B7 (ps.getD (crn (ts.getD s (0,0,0)) r) ⟨0,0⟩+ps.getD (crn (ts.getD s (0,0,0)) ((r+1)%3)) ⟨0,0⟩) (1/2))) :
    JV (ts.getD t (0,0,0)) (crn (ts.getD s (0,0,0)) r)=true/\JV (ts.getD t (0,0,0)) (crn (ts.getD s (0,0,0)) ((r+1)%3))=true:=by
  obtain ⟨m,pl,l⟩:=g.lattice
  have hat:=l.inv.at_ s (by have:=l.inv.tl;omega)
  obtain ⟨a1,a2⟩:=hat.crn hr
  obtain ⟨b1,b2⟩:=hat.crn (Nat.mod_lt (r+1) (show 0<3 by decide))
  rw [l.at_ _ a1,l.at_ _ b1,W1,a2,b2] at h
  have h2:=l.inC ht h
  unfold Ao at h2
  rw [NH] at h2
  obtain ⟨k1,k2⟩:=SM (l.cell hs) (l.cell ht) (r:=Gs m s r) (Nat.mod_lt _ (by decide)) h2
  refine ⟨l.idx ht a1 ?_,l.idx ht b1 ?_⟩
  · rw [a2];exact k1
  · rw [b2];unfold Ao;rw [NH];exact k2
end
end
section
abbrev M3:=List Pt×List T3×List T3
def X7 (M:M3):Prop:=M.1.length+(A_ M.2.1).length<=4096/\4*M.2.1.length<=8192
instance (M:M3):Decidable (X7 M):=inferInstanceAs (Decidable (_/\_))
theorem MH (ts:List T3):(A_ ts).length<=3*ts.length:=by rw [HT];exact HY _
structure Yb (ps:List Pt) (ts ss:List T3) (e:Nat) where
  m:MX ps ts ss
instance {ps:List Pt} {ts ss:List T3} {e:Nat}:Dx (Yb ps ts ss e):=⟨λx=>.tuple #[aG (B5 x.m),vN e],λx=>Dx.rows x.m,λx y hy=>Dx.ro x.m y hy⟩
section
variable {P:Program} {ops:Array Oper} {rest:List Oper} {Q:Exit->Act->World->Prop} {n d:Nat} {F:List (Nat×Value)} {w0:BJ} {S:Nat->Prop} {L:List As} {t:TypeId} {p:String} {af:Array Edge} {y:Operand} {f:FuncId} {xs:List Operand} {args:List Value} {tys:Array TypeId} {ps:List Pt} {ts ss:List T3} {e:Nat}
end
def YD (ts:List T3):List Value:=vI (-1)::vN 0::vN 1::rowsL Ai ts
structure MB (ps:List Pt) (ts ss:List T3) where
  a:RX (rowsL An ps) ps.length
  b:RX (YD ts) (1+ts.length)
  c:RX (rowsL Ai ss) ss.length
def Yu {ps:List Pt} {ts ss:List T3} (x:MB ps ts ss):List Value:=[x.a.val,x.b.val,x.c.val]
theorem Xs {ps:List Pt} {ts ss:List T3} {x:MB ps ts ss} {y:As} (hy:y∈[x.a.row,x.b.row,x.c.row]):y.ro=true:=by
  simp only [List.mem_cons,List.not_mem_nil,or_false] at hy
  rcases hy with rfl|rfl|rfl<;>rfl
instance {ps:List Pt} {ts ss:List T3}:Dx (MB ps ts ss):=⟨λx=>aG (Yu x),λx=>[x.a.row,x.b.row,x.c.row],λx y hy=>Xs hy⟩
end
end Go.Proofs.YtfbomiejpbchdaaGreat
