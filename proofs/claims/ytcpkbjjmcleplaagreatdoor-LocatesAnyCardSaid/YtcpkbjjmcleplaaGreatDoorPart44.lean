import Derived.Test.YtcpkbjjmcleplaaGreatDoorPart23
import Derived.Test.YtcpkbjjmcleplaaGreatDoorPart36
namespace Go.Proofs.YtcpkbjjmcleplaaGreatDoor
open Go Go.RowKit Go.Proofs.Tryz
open Go.Value renaming slice→qz,bool→qa
set_option linter.unusedVariables false
set_option linter.unusedSimpArgs false
section
set_option maxRecDepth 100000
theorem K5 (w:World):Calls prog 17 #[(vI 1)] w (AY w (aG (AB (1:Rat)))):=by
 have h:=Eo (1:Int) jY jY w
 rw [show ((1:Int):Rat)=(1:Rat) from by decide +kernel] at h
 exact h
theorem TH (w:World):Calls prog 17 #[(vI (-1:Int))] w (AY w (aG (AB (-1:Rat)))):=by
 have h:=Eo (-1:Int) jY jY w
 rw [show ((-1:Int):Rat)=(-1:Rat) from by decide +kernel] at h
 exact h
theorem YH (w:World):Calls prog 14 #[(vI 1),(vI 2)] w (AY w (Value.tuple #[(aG (AB (1/2:Rat))),(vI 0)])):=by
 have h:=JG (1:Int) (2:Int) jY jY jY jY jY w
 rw [show ((1:Int):Rat)/((2:Int):Rat)=(1/2:Rat) from by decide +kernel] at h
 exact h
theorem YI (w:World):Calls prog 14 #[(vI 1),(vI 4)] w (AY w (Value.tuple #[(aG (AB (1/4:Rat))),(vI 0)])):=by
 have h:=JG (1:Int) (4:Int) jY jY jY jY jY w
 rw [show ((1:Int):Rat)/((4:Int):Rat)=(1/4:Rat) from by decide +kernel] at h
 exact h
theorem aR (w:World):Calls prog 16 #[(aG (AB (1:Rat))),(aG (AB (1/4:Rat)))] w (AY w (aG (AB (3/4:Rat)))):=by
 have h:=Gb (1:Rat) (1/4:Rat) (by decide +kernel) w
 rw [show (1:Rat)-(1/4:Rat)=(3/4:Rat) from by decide +kernel] at h
 exact h
theorem Mw (w:World):Calls prog 13 #[(vI 0),(vI 0)] w (AY w (aG (Ae (⟨0,0⟩:Pt)))):=by
 have h:=Il 0 0 jY jY jY jY w
 rw [show (⟨((0:Int):Rat),((0:Int):Rat)⟩:Pt)=(⟨0,0⟩:Pt) from by decide +kernel] at h
 exact h
theorem TI (w:World):Calls prog 13 #[(vI 1),(vI 0)] w (AY w (aG (Ae (⟨1,0⟩:Pt)))):=by
 have h:=Il 1 0 jY jY jY jY w
 rw [show (⟨((1:Int):Rat),((0:Int):Rat)⟩:Pt)=(⟨1,0⟩:Pt) from by decide +kernel] at h
 exact h
theorem My (w:World):Calls prog 13 #[(vI 1),(vI 1)] w (AY w (aG (Ae (⟨1,1⟩:Pt)))):=by
 have h:=Il 1 1 jY jY jY jY w
 rw [show (⟨((1:Int):Rat),((1:Int):Rat)⟩:Pt)=(⟨1,1⟩:Pt) from by decide +kernel] at h
 exact h
theorem Mx (w:World):Calls prog 13 #[(vI 0),(vI 1)] w (AY w (aG (Ae (⟨0,1⟩:Pt)))):=by
 have h:=Il 0 1 jY jY jY jY w
 rw [show (⟨((0:Int):Rat),((1:Int):Rat)⟩:Pt)=(⟨0,1⟩:Pt) from by decide +kernel] at h
 exact h
theorem TJ (w:World):Calls prog 13 #[(vI 2),(vI 2)] w (AY w (aG (Ae (⟨2,2⟩:Pt)))):=by
 have h:=Il 2 2 jY jY jY jY w
 rw [show (⟨((2:Int):Rat),((2:Int):Rat)⟩:Pt)=(⟨2,2⟩:Pt) from by decide +kernel] at h
 exact h
theorem Lm (x0 x1 x2 x3:Pt):Instr.fill (λi=>some (i*10,10)) ((Array.range (4*10)).map ((Value.agg (Ae (⟨0,0⟩:Pt)).toArray).cells[·%(Value.agg (Ae (⟨0,0⟩:Pt)).toArray).cells.size]!)) [(0,.agg (Ae x0).toArray),(1,.agg (Ae x1).toArray),(2,.agg (Ae x2).toArray),(3,.agg (Ae x3).toArray)]=some (Ae x0++Ae x1++Ae x2++Ae x3).toArray:=by kernel_rfl
theorem Ha (x0 x1 x2:Nat):Instr.fill (λi=>some (i*1,1)) (Bk jJ).toArray [(0,vN x0),(1,vN x1),(2,vN x2)]=some (Bk (x0,x1,x2)).toArray:=by kernel_rfl
theorem Lo (x0 x1:Tq3):Instr.fill (λi=>some (i*3,3)) ((Array.range (2*3)).map ((Value.agg (Bk jJ).toArray).cells[·%(Value.agg (Bk jJ).toArray).cells.size]!)) [(0,.agg (Bk x0).toArray),(1,.agg (Bk x1).toArray)]=some (Bk x0++Bk x1).toArray:=by kernel_rfl
theorem Bx (x0:Rat) (x1:Rat):Instr.fill ([(0,5),(5,5)].toArray[·]?) (Ae (⟨0,0⟩:Pt)).toArray [(0,.agg (AB x0).toArray),(1,.agg (AB x1).toArray)]=some (AB x0++AB x1).toArray:=by kernel_rfl
set_option maxHeartbeats 4000000 in
theorem K4  (w:World)  :Calls prog 6 #[] w (AY w (qa true)):=by
 refine AS (args:=[]) func6 O O (leB O) (zG sN (q4 (asg' O (oNl' (q2 (ck' call13 (Mw) O (ck' call13 (TI) O (ck' call13 (My) O (ck' call13 (Mx) O (zf (V:=λb1=>(qz (jk b1) 4 4)) (T:=62) (cs:=Ae (⟨0,0⟩:Pt)++Ae (⟨1,0⟩:Pt)++Ae (⟨1,1⟩:Pt)++Ae (⟨0,1⟩:Pt)) (AJ O) (Ar (z:=.agg (Ae (⟨0,0⟩:Pt)).toArray) (cs:=Ae (⟨0,0⟩:Pt)++Ae (⟨1,0⟩:Pt)++Ae (⟨1,1⟩:Pt)++Ae (⟨0,1⟩:Pt)) (pv:=[(0,(aG (Ae (⟨0,0⟩:Pt)))),(1,(aG (Ae (⟨1,0⟩:Pt)))),(2,(aG (Ae (⟨1,1⟩:Pt)))),(3,(aG (Ae (⟨0,1⟩:Pt))))]) underlying35 sizeOf62 zeroValue62 jY jY O (Lm (⟨0,0⟩:Pt) (⟨1,0⟩:Pt) (⟨1,1⟩:Pt) (⟨0,1⟩:Pt))) O (leB O) λb1=>st' (v:=(aG (Bk (0,1,2)))) (Cf (zs:=Bk jJ) (vs:=Bk (0,1,2)) (pv:=[(0,(vI 0)),(1,(vI 1)),(2,(vI 2))]) zeroValue64 underlying64 sizeOf3 O (Ha 0 1 2)) O ?_))))))))))
 refine st' (v:=(aG (Bk (0,2,3)))) (Cf (zs:=Bk jJ) (vs:=Bk (0,2,3)) (pv:=[(0,(vI 0)),(1,(vI 2)),(2,(vI 3))]) zeroValue64 underlying64 sizeOf3 O (Ha 0 2 3)) O (zf (V:=λb2=>(qz (jk b2) 2 2)) (T:=64) (cs:=Bk (0,1,2)++Bk (0,2,3)) (AJ O) (Ar (z:=.agg (Bk jJ).toArray) (cs:=Bk (0,1,2)++Bk (0,2,3)) (pv:=[(0,(aG (Bk (0,1,2)))),(1,(aG (Bk (0,2,3))))]) underlying23 sizeOf64 zeroValue64 jY jY O (Lo (0,1,2) (0,2,3))) O (leB O) λb2=>st' (v:=(aG ([(qz (jk b1) 4 4),(qz (jk b2) 2 2),jj]))) (AR (zs:=[jj,jj,jj]) (vs:=[(qz (jk b1) 4 4),(qz (jk b2) 2 2),jj]) (pv:=[(0,(qz (jk b1) 4 4)),(1,(qz (jk b2) 2 2))]) (places:=[(0,1),(1,1),(2,1)]) zeroValue37 underlying37 (λw=>by simp [sizeOf23,sizeOf24,sizeOf35]) O O) O (al bC O λb3=>Am O sizeOf37 O (q3 (sL [0,1] O) (AO.mesh4 O O O O λhA hB=>ck' call14 (YI) O (AL O (st' (AH (v:=(aG (AB (1/4:Rat)))) O O) O (st' (AH (v:=(vI 0)) O O) O (al CZ O λb4=>?_))))))))
 refine Am O sizeOf60 O (asg' O (q3 (sL [0,1,2] O) (ck' call14 (YH) O (AL O (st' (AH (v:=(aG (AB (1/2:Rat)))) O O) O (st' (AH (v:=(vI 0)) O O) O (al CZ O λb5=>Am O sizeOf60 O (asg' O (q6 (sL [0,1,2,4] O) (B8 [(0,true),(2,true),(4,true),(1,false),(3,false),(5,true),(6,false),(7,true),(8,true),(9,true),(10,true),(11,true)] sr ?_))))))))))
 refine Bv 2 Fy O (Bv 1 Ay O (Bv 1 Ay O (zD O (ck' call17 (K5) O (zC sr (zD O (ck' call16 (aR) O (zC sr (Ao (v:=(aG (AB (3/4:Rat)++AB (1/4:Rat)))) O (AR (zs:=Ae (⟨0,0⟩:Pt)) (vs:=AB (3/4:Rat)++AB (1/4:Rat)) (pv:=[(0,(aG (AB (3/4:Rat)))),(1,(aG (AB (1/4:Rat))))]) (places:=[(0,5),(5,5)]) zeroValue62 underlying62 (λw=>by simp [sizeOf60]) O (Bx (3/4:Rat) (1/4:Rat))) (zD O (CC (args:=[(aG (DM (HP b1 b2))),(aG (AB (3/4:Rat)++AB (1/4:Rat)))]) (v:=(Value.tuple #[(vI 0),(vI 1)])) call15 (λw hw=>(by have h9:=KF (HP b1 b2) jY (⟨3/4,1/4⟩:Pt) JW (by decide +kernel) w (inS hw 3 O (JO (S:=λ_=>False) hA hB));rw [show findB XB UZ (⟨3/4,1/4⟩:Pt)=(0,1) from by decide +kernel] at h9;exact h9)) O ?_)))))))))))
 refine zC sr (Bq O (Ao O (AH (v:=(vI 0)) O O) (Ao O (AH (v:=(vI 1)) O O) (pS' O (pS' O (zP (zB (sL [0,1,2,4,6,7] O) (q2 (Ah 2 Fy O (Ah 0 Ay O (Ah 0 Ay O ?_)))))))))))
 refine st' (v:=(aG (AB (1/2:Rat)++AB (1/2:Rat)))) (AR (zs:=Ae (⟨0,0⟩:Pt)) (vs:=AB (1/2:Rat)++AB (1/2:Rat)) (pv:=[(0,(aG (AB (1/2:Rat)))),(1,(aG (AB (1/2:Rat))))]) (places:=[(0,5),(5,5)]) zeroValue62 underlying62 (λw=>by simp [sizeOf60]) O (Bx (1/2:Rat) (1/2:Rat))) O (CC (args:=[(aG (DM (HP b1 b2))),(aG (AB (1/2:Rat)++AB (1/2:Rat)))]) (v:=(Value.tuple #[(vI 0),(vI 2)])) call15 (λw hw=>(by have h9:=KF (HP b1 b2) jY (⟨1/2,1/2⟩:Pt) JW (by decide +kernel) w (inS hw 3 O (JO (S:=λ_=>False) hA hB));rw [show findB XB UZ (⟨1/2,1/2⟩:Pt)=(0,2) from by decide +kernel] at h9;exact h9)) O (AL O (st' (AH (v:=(vI 0)) O O) O (st' (AH (v:=(vI 2)) O O) O (asg' O (asg' O (q6 (sL [0,1,2,4,6,7,8,9] O) (B8 [(0,true),(1,false),(2,false),(3,true),(4,true),(5,true),(6,true),(7,true)] sr (Bv 2 Fy O (zD O (ck' call13 (Mx) O ?_)))))))))))
 refine zC sr (zD O (CC (args:=[(aG (DM (HP b1 b2))),(aG (Ae (⟨0,1⟩:Pt)))]) (v:=(Value.tuple #[(vI 1),(vI 3)])) call15 (λw hw=>(by have h9:=KF (HP b1 b2) jY (⟨0,1⟩:Pt) JW (by decide +kernel) w (inS hw 3 O (JO (S:=λ_=>False) hA hB));rw [show findB XB UZ (⟨0,1⟩:Pt)=(1,3) from by decide +kernel] at h9;exact h9)) O (zC sr (Bq O (Ao O (AH (v:=(vI 1)) O O) (Ao O (AH (v:=(vI 3)) O O) (pS' O (pS' O (zP (zB (sL [0,1,2,4,6,7,8,9,10,11] O) (q1 ?_)))))))))))
 refine B8 [(0,true),(1,false),(2,false),(3,true),(4,true),(5,true),(6,true),(7,true)] sr (Bv 2 Fy O (zD O (ck' call13 (TJ) O (zC sr (zD O (CC (args:=[(aG (DM (HP b1 b2))),(aG (Ae (⟨2,2⟩:Pt)))]) (v:=(Value.tuple #[(vI (-1:Int)),(vI 0)])) call15 (λw hw=>(by have h9:=KF (HP b1 b2) jY (⟨2,2⟩:Pt) JW (by decide +kernel) w (inS hw 3 O (JO (S:=λ_=>False) hA hB));rw [show findB XB UZ (⟨2,2⟩:Pt)=(-1,0) from by decide +kernel] at h9;exact h9)) O (zC sr (Bq O (Ao O (AH (v:=(vI (-1:Int))) O O) (Ao O (AH (v:=(vI 0)) O O) (pS' O ?_)))))))))))
 refine pS' O (zP (zB (sL [0,1,2,4,6,7,8,9,10,11,12,13] O) (q1 (B8 [(0,true),(2,true),(5,true),(1,false),(3,true),(4,false),(6,true),(7,false),(8,true)] sr (Bv 2 Fy O (Bv 1 Ay O (Bv 1 Ay O (zD O (ck' call17 (TH) O (zC sr (Ao (v:=(aG (AB (-1:Rat)++AB (1/4:Rat)))) O (AR (zs:=Ae (⟨0,0⟩:Pt)) (vs:=AB (-1:Rat)++AB (1/4:Rat)) (pv:=[(0,(aG (AB (-1:Rat)))),(1,(aG (AB (1/4:Rat))))]) (places:=[(0,5),(5,5)]) zeroValue62 underlying62 (λw=>by simp [sizeOf60]) O (Bx (-1:Rat) (1/4:Rat))) ?_)))))))))))
 refine zD O (ck' call17 (K5) O (zC sr (Ao (v:=(aG (AB (1:Rat)++AB (1/4:Rat)))) O (AR (zs:=Ae (⟨0,0⟩:Pt)) (vs:=AB (1:Rat)++AB (1/4:Rat)) (pv:=[(0,(aG (AB (1:Rat)))),(1,(aG (AB (1/4:Rat))))]) (places:=[(0,5),(5,5)]) zeroValue62 underlying62 (λw=>by simp [sizeOf60]) O (Bx (1:Rat) (1/4:Rat))) (zD O (zu (S:=λ_=>False) (α:=RX (rowsL CI [(⟨1,1/2,5/8⟩:Pc),(⟨0,5/8,1⟩:Pc)]) 2) (args:=[(aG (DM (HP b1 b2))),(aG (AB (-1:Rat)++AB (1/4:Rat))),(aG (AB (1:Rat)++AB (1/4:Rat)))]) call18 (λw hw=>(by have h9:=XL (HP b1 b2) jY (⟨-1,1/4⟩:Pt) (⟨1,1/4⟩:Pt) JW (by decide +kernel) (by decide +kernel) (by decide +kernel) Ws (⟨0,5/8,1⟩:Pc) (⟨1,1/2,5/8⟩:Pc) (by decide +kernel) (by decide +kernel) w (inS hw 3 O (JO (S:=λ_=>False) hA hB));rw [show Qy (⟨0,5/8,1⟩:Pc) (⟨1,1/2,5/8⟩:Pc)=[(⟨1,1/2,5/8⟩:Pc),(⟨0,5/8,1⟩:Pc)] from by decide +kernel] at h9;exact h9)) O O O λrw2 lrw=>zC (sl sr) (pS' O (zP (zB (sL [0,1,2,4,6,7,8,9,10,11,12,13,14] O) (q2 (AL O ?_))))))))))
 refine st' (Az (c:=true) O O (by decide +kernel)) O (AL O (FV O (BN (v:=(qa true)) O (Az (c:=true) O O (by decide +kernel)) (st' (v:=(qa true)) (ex_pick_true O O) O (AL O (FV O (BN (v:=(qa true)) O (Az (c:=true) O O (by decide +kernel)) (st' (v:=(qa true)) (ex_pick_true O O) O (AL O (FV O (BN (v:=(qa true)) O (Az (c:=true) O O (by decide +kernel)) ?_)))))))))))
 refine st' (v:=(qa true)) (ex_pick_true O O) O (AL O (FV O (BN (v:=(qa true)) O (Az (c:=true) O O (by decide +kernel)) (st' (v:=(qa true)) (ex_pick_true O O) O (AL O (FV O (BN (v:=(qa true)) O (Az (c:=true) O O (by decide +kernel)) (st' (v:=(qa true)) (ex_pick_true O O) O (AL O (FV O (BN (v:=(qa true)) O (Az (c:=true) O O (by decide +kernel)) ?_)))))))))))
 refine st' (v:=(qa true)) (ex_pick_true O O) O (AL O (FV O (BN (v:=(qa true)) O (Az (c:=true) O O (by decide +kernel)) (st' (v:=(qa true)) (ex_pick_true O O) O (asg' O (q6 (sL [0,1,2,4,14,15] O) (B8 (Ed 26++[(26,false),(27,true),(28,true),(29,true),(30,true),(31,true),(32,true),(33,true),(34,true),(35,true),(36,true),(37,true),(38,true),(39,true),(40,true),(41,false),(42,true),(43,true),(44,true),(45,true),(46,false),(47,false),(48,false),(49,true),(50,true),(51,true),(52,true)]) sr (Bq O (Bq O (zQ (v:=(qz rw2.p 2 rw2.c)) O (AE O) (A7 O) O O (zQ (v:=(vI 2)) O (AE O) (AD O underlying72) O O ?_)))))))))))
 refine zQ (v:=(qa true)) O (AE O) (Az (c:=true) O O (by decide +kernel)) O O (Ao (v:=(qa true)) O (ex_pick_true O O) (Bq O (zQ (v:=(qz rw2.p 2 rw2.c)) O (AE O) (A7 O) O O (zQ (v:=(pP (pB rw2.p) (pO rw2.p+0*11))) O (AE O) (AU (j:=0) O O rw2.ok underlying72 sizeOf75 O jY) O O (zQ (v:=(pP (pB rw2.p) (pO rw2.p+(0*11+0)))) O (AE O) (AA O underlying75 O sizeOf3 (Nat.add_assoc _ _ _)) O O (zQ (v:=(vN ((([(⟨1,1/2,5/8⟩:Pc),(⟨0,5/8,1⟩:Pc)]).getD 0 (⟨0,0,0⟩:Pc)).tri))) O (AE O) (Aj (v:=(vN ((([(⟨1,1/2,5/8⟩:Pc),(⟨0,5/8,1⟩:Pc)]).getD 0 (⟨0,0,0⟩:Pc)).tri))) (i:=0) O O (BI.ne rw2.ok jY) Dr (EU C5 (⟨0,0,0⟩:Pc) _ _ 0 jY jY O)) O O (zQ (v:=(qa true)) O (AE O) (Az (c:=true) O O (by decide +kernel)) O O (Ao (v:=(qa true)) O (ex_pick_true O O) (Bq O (zQ (v:=(qz rw2.p 2 rw2.c)) O (AE O) (A7 O) O O (zQ (v:=(pP (pB rw2.p) (pO rw2.p+0*11))) O (AE O) (AU (j:=0) O O rw2.ok underlying72 sizeOf75 O jY) O O ?_)))))))))))
 refine zQ (v:=(pP (pB rw2.p) (pO rw2.p+(0*11+1)))) O (AE O) (AA O underlying75 O sizeOf60 (Nat.add_assoc _ _ _)) O O (zQ (v:=(aG (AB ((([(⟨1,1/2,5/8⟩:Pc),(⟨0,5/8,1⟩:Pc)]).getD 0 (⟨0,0,0⟩:Pc)).lo)))) O (AE O) (Af (vs:=AB ((([(⟨1,1/2,5/8⟩:Pc),(⟨0,5/8,1⟩:Pc)]).getD 0 (⟨0,0,0⟩:Pc)).lo)) (i:=0) O O (BI.ne rw2.ok jY) Ay (C2 C5 (⟨0,0,0⟩:Pc) _ _ 1 5 jY jY O) O) O O (zQ (v:=(aG (AB (1/2:Rat)))) O (AE O) (AW (i:=1) (vs:=AB (1/2:Rat)) O O Ay.a Ay.s O O) O O (zQ (v:=(qa true)) O (AE O) (Cg (c:=true) O O eqGuardType60 (Kr 9995 O)) O O (Ao (v:=(qa true)) O (ex_pick_true O O) (Bq O (zQ (v:=(qz rw2.p 2 rw2.c)) O (AE O) (A7 O) O O (zQ (v:=(pP (pB rw2.p) (pO rw2.p+0*11))) O (AE O) (AU (j:=0) O O rw2.ok underlying72 sizeOf75 O jY) O O (zQ (v:=(pP (pB rw2.p) (pO rw2.p+(0*11+6)))) O (AE O) (AA O underlying75 O sizeOf60 (Nat.add_assoc _ _ _)) O O (zQ (v:=(aG (AB ((([(⟨1,1/2,5/8⟩:Pc),(⟨0,5/8,1⟩:Pc)]).getD 0 (⟨0,0,0⟩:Pc)).hi)))) O (AE O) (Af (vs:=AB ((([(⟨1,1/2,5/8⟩:Pc),(⟨0,5/8,1⟩:Pc)]).getD 0 (⟨0,0,0⟩:Pc)).hi)) (i:=0) O O (BI.ne rw2.ok jY) Ay (C2 C5 (⟨0,0,0⟩:Pc) _ _ 6 5 jY jY O) O) O O (zD O (zc (v:=(Value.string (SO ((([(⟨1,1/2,5/8⟩:Pc),(⟨0,5/8,1⟩:Pc)]).getD 0 (⟨0,0,0⟩:Pc)).hi)))) (AE O) (Ac (args:=[(aG (AB ((([(⟨1,1/2,5/8⟩:Pc),(⟨0,5/8,1⟩:Pc)]).getD 0 (⟨0,0,0⟩:Pc)).hi)))]) O O call19) (λw hw=>VB ((([(⟨1,1/2,5/8⟩:Pc),(⟨0,5/8,1⟩:Pc)]).getD 0 (⟨0,0,0⟩:Pc)).hi) (by decide +kernel) (by decide +kernel) w) O (leB O) ?_)))))))))))
 refine zC sr (zQ (v:=(qa true)) O (AE O) (Bc (c:=true) O O (by decide +kernel)) O O (Ao (v:=(qa true)) O (ex_pick_true O O) (Bq O (zQ (v:=(qz rw2.p 2 rw2.c)) O (AE O) (A7 O) O O (zQ (v:=(pP (pB rw2.p) (pO rw2.p+1*11))) O (AE O) (AU (j:=1) O O rw2.ok underlying72 sizeOf75 O jY) O O (zQ (v:=(pP (pB rw2.p) (pO rw2.p+(1*11+0)))) O (AE O) (AA O underlying75 O sizeOf3 (Nat.add_assoc _ _ _)) O O (zQ (v:=(vN ((([(⟨1,1/2,5/8⟩:Pc),(⟨0,5/8,1⟩:Pc)]).getD 1 (⟨0,0,0⟩:Pc)).tri))) O (AE O) (Aj (v:=(vN ((([(⟨1,1/2,5/8⟩:Pc),(⟨0,5/8,1⟩:Pc)]).getD 1 (⟨0,0,0⟩:Pc)).tri))) (i:=0) O O (BI.ne rw2.ok jY) Dr (EU C5 (⟨0,0,0⟩:Pc) _ _ 0 jY jY O)) O O (zQ (v:=(qa true)) O (AE O) (Az (c:=true) O O (by decide +kernel)) O O (Ao (v:=(qa true)) O (ex_pick_true O O) (Bq O (zQ (v:=(qz rw2.p 2 rw2.c)) O (AE O) (A7 O) O O ?_)))))))))))
 refine zQ (v:=(pP (pB rw2.p) (pO rw2.p+1*11))) O (AE O) (AU (j:=1) O O rw2.ok underlying72 sizeOf75 O jY) O O (zQ (v:=(pP (pB rw2.p) (pO rw2.p+(1*11+6)))) O (AE O) (AA O underlying75 O sizeOf60 (Nat.add_assoc _ _ _)) O O (zQ (v:=(aG (AB ((([(⟨1,1/2,5/8⟩:Pc),(⟨0,5/8,1⟩:Pc)]).getD 1 (⟨0,0,0⟩:Pc)).hi)))) O (AE O) (Af (vs:=AB ((([(⟨1,1/2,5/8⟩:Pc),(⟨0,5/8,1⟩:Pc)]).getD 1 (⟨0,0,0⟩:Pc)).hi)) (i:=0) O O (BI.ne rw2.ok jY) Ay (C2 C5 (⟨0,0,0⟩:Pc) _ _ 6 5 jY jY O) O) O O (zD O (zc (v:=(aG (AB (1:Rat)))) (AE O) (Ac (args:=[(vI 1)]) O O call17) (λw hw=>K5 w) O (leB O) (zC sr (zQ (v:=(qa true)) O (AE O) (Cg (c:=true) O O eqGuardType60 (Kr 9995 O)) O O (Ao (v:=(qa true)) O (ex_pick_true O O) (Bq O (zQ (v:=(aG (DM (HP b1 b2)))) O (AE O) (AW (i:=3) (vs:=DM (HP b1 b2)) O O Fy.a Fy.s O O) O O (zD O (zc (v:=(aG (Ae (⟨0,0⟩:Pt)))) (AE O) (Ac (args:=[(vI 0),(vI 0)]) O O call13) (λw hw=>Mw w) O (leB O) ?_)))))))))))
 refine zC sr (zD O (zc (v:=(aG (Ae (⟨1,1⟩:Pt)))) (AE O) (Ac (args:=[(vI 1),(vI 1)]) O O call13) (λw hw=>My w) O (leB O) (zC sr (zD O (zc (v:=jj) (AE O) (Ac (args:=[(aG (DM (HP b1 b2))),(aG (Ae (⟨0,0⟩:Pt))),(aG (Ae (⟨1,1⟩:Pt)))]) O O call18) (λw hw=>XK (HP b1 b2) jY (⟨0,0⟩:Pt) (⟨1,1⟩:Pt) JW (by decide +kernel) (by decide +kernel) (by decide +kernel) Ws (by decide +kernel) w (inS hw 4 O (JO (S:=λ_=>False) hA hB))) O (leB O) (zC sr (zQ (v:=(vI 0)) O (AE O) (AD O underlying72) O O (zQ (v:=(qa true)) O (AE O) (Az (c:=true) O O (by decide +kernel)) O O (Ao (v:=(qa true)) O (ex_pick_true O O) (pS' O (zP ?_)))))))))))
 exact zB (sL [0,1,2,4] O) (zA (zF (ret_one O (rd_tmp (v:=(qa true)) O) (λw hw=>⟨rfl,hw.out⟩))))
end
section
set_option maxRecDepth 100000
theorem dS:ElemT prog 40 97 3 24:=⟨underlying40,DP jV⟩
end
end Go.Proofs.YtcpkbjjmcleplaaGreatDoor
