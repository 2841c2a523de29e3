import Derived.Test.YtfbomiejpbchdaaGreatPart06
import Derived.Test.YtfbomiejpbchdaaGreatPart22
import Derived.Test.YtfbomiejpbchdaaGreatPart26
import Derived.Test.YtfbomiejpbchdaaGreatPart37
namespace Go.Proofs.YtfbomiejpbchdaaGreat
open Go Go.RowKit
set_option linter.unusedVariables false
set_option linter.unusedSimpArgs false
section
set_option maxRecDepth 100000
theorem Qx (w:World):Calls Tryz.prog 56 #[(vI 0),(vI 0)] w (Am w (aG (Ae (⟨0,0⟩:Pt)))):=by
 have h:=G_ 0 0 (by decide) (by decide) (by decide) (by decide) w
 rw [show (⟨((0:Int):Rat),((0:Int):Rat)⟩:Pt)=(⟨0,0⟩:Pt) from by decide +kernel] at h
 exact h
theorem Rq (w:World):Calls Tryz.prog 56 #[(vI 2),(vI 0)] w (Am w (aG (Ae (⟨2,0⟩:Pt)))):=by
 have h:=G_ 2 0 (by decide) (by decide) (by decide) (by decide) w
 rw [show (⟨((2:Int):Rat),((0:Int):Rat)⟩:Pt)=(⟨2,0⟩:Pt) from by decide +kernel] at h
 exact h
theorem Q7 (w:World):Calls Tryz.prog 56 #[(vI 0),(vI 2)] w (Am w (aG (Ae (⟨0,2⟩:Pt)))):=by
 have h:=G_ 0 2 (by decide) (by decide) (by decide) (by decide) w
 rw [show (⟨((0:Int):Rat),((2:Int):Rat)⟩:Pt)=(⟨0,2⟩:Pt) from by decide +kernel] at h
 exact h
theorem RH (w:World):Calls Tryz.prog 56 #[(vI 1),(vI 0)] w (Am w (aG (Ae (⟨1,0⟩:Pt)))):=by
 have h:=G_ 1 0 (by decide) (by decide) (by decide) (by decide) w
 rw [show (⟨((1:Int):Rat),((0:Int):Rat)⟩:Pt)=(⟨1,0⟩:Pt) from by decide +kernel] at h
 exact h
theorem Rf (w:World):Calls Tryz.prog 56 #[(vI 0),(vI 1)] w (Am w (aG (Ae (⟨0,1⟩:Pt)))):=by
 have h:=G_ 0 1 (by decide) (by decide) (by decide) (by decide) w
 rw [show (⟨((0:Int):Rat),((1:Int):Rat)⟩:Pt)=(⟨0,1⟩:Pt) from by decide +kernel] at h
 exact h
theorem R9 (w:World):Calls Tryz.prog 56 #[(vI 1),(vI 1)] w (Am w (aG (Ae (⟨1,1⟩:Pt)))):=by
 have h:=G_ 1 1 (by decide) (by decide) (by decide) (by decide) w
 rw [show (⟨((1:Int):Rat),((1:Int):Rat)⟩:Pt)=(⟨1,1⟩:Pt) from by decide +kernel] at h
 exact h
def RA:List Pt:=[⟨0,0⟩,⟨2,0⟩,⟨0,2⟩]
def Nn:List T3:=[(0,1,2)]
def Wx:List T3:=[(0,1,7),(0,2,0),(1,2,0)]
def HI:List Pt:=[⟨0,0⟩,⟨2,0⟩,⟨0,2⟩,⟨1,0⟩,⟨0,1⟩,⟨1,1⟩]
def HH:List T3:=[(0,3,4),(3,1,5),(4,5,2),(3,5,4)]
def Em:List T3:=[(0,3,7),(0,4,0),(1,3,7),(1,5,0),(2,4,0),(2,5,0)]
theorem Yj (x:MX RA Nn Wx) (w:World) {S:Nat->Prop} (hx:Ro S w x):Calls Tryz.prog 12 #[(aG (CG x))] w (Bp (W4 HI HH Em [0,0,0,0] 0) S w):=by
 have h:=Uk x (by decide +kernel) (YO (by decide +kernel) (by decide +kernel)) (by decide) (by decide) (by decide) (by decide +kernel) w hx
 rw [show FF RA (BT Nn)=HI from by decide +kernel,show EP RA.length (BT Nn) Nn=HH from by decide +kernel,show Lb RA.length Wx (BT Nn) HH=Em from by decide +kernel,show Dj Nn.length=[0,0,0,0] from rfl] at h
 exact h
theorem LG (x0 x1 x2:Pt):Instr.fill (λi=>some (i*10,10)) ((Array.range (3*10)).map ((Value.agg (Ae (⟨0,0⟩:Pt)).toArray).cells[·%(Value.agg (Ae (⟨0,0⟩:Pt)).toArray).cells.size]!)) [(0,.agg (Ae x0).toArray),(1,.agg (Ae x1).toArray),(2,.agg (Ae x2).toArray)]=some (Ae x0++Ae x1++Ae x2).toArray:=by kernel_rfl
theorem E_ (x0 x1 x2:Nat):Instr.fill (λi=>some (i*1,1)) (Al ((0,0,0):Nat×Nat×Nat)).toArray [(0,vN x0),(1,vN x1),(2,vN x2)]=some (Al (x0,x1,x2)).toArray:=by kernel_rfl
theorem KA (x0:Nat×Nat×Nat):Instr.fill (λi=>some (i*3,3)) ((Array.range (1*3)).map ((Value.agg (Al ((0,0,0):Nat×Nat×Nat)).toArray).cells[·%(Value.agg (Al ((0,0,0):Nat×Nat×Nat)).toArray).cells.size]!)) [(0,.agg (Al x0).toArray)]=some (Al x0).toArray:=by kernel_rfl
theorem KQ (x0 x1 x2:Nat×Nat×Nat):Instr.fill (λi=>some (i*3,3)) ((Array.range (3*3)).map ((Value.agg (Al ((0,0,0):Nat×Nat×Nat)).toArray).cells[·%(Value.agg (Al ((0,0,0):Nat×Nat×Nat)).toArray).cells.size]!)) [(0,.agg (Al x0).toArray),(1,.agg (Al x1).toArray),(2,.agg (Al x2).toArray)]=some (Al x0++Al x1++Al x2).toArray:=by kernel_rfl
set_option maxHeartbeats 1000000 in
theorem Pl  (w:World)  :Calls Tryz.prog 18 #[] w (Am w (Value.bool true)):=by
 refine Ac (args:=[]) Tryz.func18 rfl rfl (Ad rfl) (AG.subF sN (q4 (AK rfl (AF.nil (q2 ?_)))))
 refine BU Tryz.call56 (Qx) rfl (BU Tryz.call56 (Rq) rfl (BU Tryz.call56 (Q7) rfl (AF.openV (V:=λb1=>(Value.slice (some ⟨b1,0,none⟩) 3 3)) (T:=55) (cs:=Ae (⟨0,0⟩:Pt)++Ae (⟨2,0⟩:Pt)++Ae (⟨0,2⟩:Pt)) (AN rfl) (BE (z:=.agg (Ae (⟨0,0⟩:Pt)).toArray) (cs:=Ae (⟨0,0⟩:Pt)++Ae (⟨2,0⟩:Pt)++Ae (⟨0,2⟩:Pt)) (pv:=[(0,(aG (Ae (⟨0,0⟩:Pt)))),(1,(aG (Ae (⟨2,0⟩:Pt)))),(2,(aG (Ae (⟨0,2⟩:Pt))))]) Tryz.underlying27 Tryz.sizeOf55 Tryz.zeroValue55 (by decide) (by decide) rfl (LG (⟨0,0⟩:Pt) (⟨2,0⟩:Pt) (⟨0,2⟩:Pt))) rfl (Ad rfl) λb1=>AJ (v:=(aG (Al (0,1,2)))) (An (zs:=Al ((0,0,0):Nat×Nat×Nat)) (vs:=Al (0,1,2)) (pv:=[(0,(vI 0)),(1,(vI 1)),(2,(vI 2))]) Tryz.zeroValue76 Tryz.underlying76 Tryz.sizeOf3 rfl (E_ 0 1 2)) rfl (AF.openV (V:=λb2=>(Value.slice (some ⟨b2,0,none⟩) 1 1)) (T:=76) (cs:=Al (0,1,2)) (AN rfl) (BE (z:=.agg (Al ((0,0,0):Nat×Nat×Nat)).toArray) (cs:=Al (0,1,2)) (pv:=[(0,(aG (Al (0,1,2))))]) Tryz.underlying28 Tryz.sizeOf76 Tryz.zeroValue76 (by decide) (by decide) rfl (KA (0,1,2))) rfl (Ad rfl) λb2=>?_))))
 refine AJ (v:=(aG ([(vI 0),(vI 1),(vI 7)]))) (AY (zs:=Al ((0,0,0):Nat×Nat×Nat)) (vs:=[(vI 0),(vI 1),(vI 7)]) (pv:=[(0,(vI 0)),(1,(vI 1)),(2,(vI 7))]) (places:=[(0,1),(1,1),(2,1)]) Tryz.zeroValue44 Tryz.underlying44 (λw=>by simp [Tryz.sizeOf3]) rfl rfl) rfl (AJ (v:=(aG ([(vI 0),(vI 2),(vI 0)]))) (AY (zs:=Al ((0,0,0):Nat×Nat×Nat)) (vs:=[(vI 0),(vI 2),(vI 0)]) (pv:=[(0,(vI 0)),(1,(vI 2))]) (places:=[(0,1),(1,1),(2,1)]) Tryz.zeroValue44 Tryz.underlying44 (λw=>by simp [Tryz.sizeOf3]) rfl rfl) rfl (AJ (v:=(aG ([(vI 1),(vI 2),(vI 0)]))) (AY (zs:=Al ((0,0,0):Nat×Nat×Nat)) (vs:=[(vI 1),(vI 2),(vI 0)]) (pv:=[(0,(vI 1)),(1,(vI 2))]) (places:=[(0,1),(1,1),(2,1)]) Tryz.zeroValue44 Tryz.underlying44 (λw=>by simp [Tryz.sizeOf3]) rfl rfl) rfl (AF.openV (V:=λb3=>(Value.slice (some ⟨b3,0,none⟩) 3 3)) (T:=44) (cs:=Al ((0,1,7):T3)++Al ((0,2,0):T3)++Al ((1,2,0):T3)) (AN rfl) (BE (z:=.agg (Al ((0,0,0):Nat×Nat×Nat)).toArray) (cs:=Al ((0,1,7):T3)++Al ((0,2,0):T3)++Al ((1,2,0):T3)) (pv:=[(0,(aG ([(vI 0),(vI 1),(vI 7)]))),(1,(aG ([(vI 0),(vI 2),(vI 0)]))),(2,(aG ([(vI 1),(vI 2),(vI 0)])))]) Tryz.underlying29 Tryz.sizeOf44 Tryz.zeroValue44 (by decide) (by decide) rfl (KQ ((0,1,7):T3) ((0,2,0):T3) ((1,2,0):T3))) rfl (Ad rfl) λb3=>AJ (v:=(aG ([(Value.slice (some ⟨b1,0,none⟩) 3 3),(Value.slice (some ⟨b2,0,none⟩) 1 1),(Value.slice (some ⟨b3,0,none⟩) 3 3)]))) (AY (zs:=[(Value.slice none 0 0),(Value.slice none 0 0),(Value.slice none 0 0)]) (vs:=[(Value.slice (some ⟨b1,0,none⟩) 3 3),(Value.slice (some ⟨b2,0,none⟩) 1 1),(Value.slice (some ⟨b3,0,none⟩) 3 3)]) (pv:=[(0,(Value.slice (some ⟨b1,0,none⟩) 3 3)),(1,(Value.slice (some ⟨b2,0,none⟩) 1 1)),(2,(Value.slice (some ⟨b3,0,none⟩) 3 3))]) (places:=[(0,1),(1,1),(2,1)]) Tryz.zeroValue31 Tryz.underlying31 (λw=>by simp [Tryz.sizeOf27,Tryz.sizeOf28,Tryz.sizeOf29]) rfl rfl) rfl (al NS rfl λb4=>?_))))
 refine Ap rfl Tryz.sizeOf31 rfl (AF.litM (S:=λ_=>False) (ps:=RA) (ts:=Nn) (ss:=Wx) (λmm=>[Ah b4 31 (CG mm),Ag mm.c.p (rowsL Al Wx),Ag mm.b.p (rowsL Al Nn),Ag mm.a.p (rowsL Ae RA)]) 3 2 1 (by decide) rfl rfl rfl rfl rfl rfl λmm hmm=>q3 (sL [0,1] rfl) (A7 0 DU rfl (Z3 (S:=λ_=>False) (args:=[(aG (CG mm))]) Tryz.call12 (λw hw=>Yj mm w (aR hw [3,2,1] rfl hmm)) rfl λrd hm hq=>AO rfl ?_)))
 refine AJ (AT (v:=(aG (CG rd.m))) rfl rfl) rfl (AJ (AT (v:=(Value.slice rd.q.p 4 rd.q.c)) rfl rfl) rfl (AJ (AT (v:=(vI 0)) rfl rfl) rfl (al NS rfl λb5=>Ap rfl Tryz.sizeOf31 rfl (AK rfl ?_))))
 refine AK rfl (q6 (sL [0,1,2,3,4] rfl) (q4 (AO rfl (AJ (B8 (c:=false) rfl rfl (by decide)) rfl (AO rfl ?_)))))
 refine AF.step (v:=(pP b5 0)) (AB rfl) (AA rfl Tryz.underlying31 rfl Tryz.sizeOf27 rfl) rfl (Ad rfl) (AF.step (v:=(Value.slice rd.m.a.p HI.length rd.m.a.c)) (AB rfl) (AM (i:=0) (v:=(Value.slice rd.m.a.p HI.length rd.m.a.c)) rfl rfl C2.a rfl) rfl (Ad rfl) (AF.step (v:=(vN HI.length)) (AB rfl) (AI rfl Tryz.underlying27) rfl (Ad rfl) (AF.step (v:=(Value.bool false)) (AB rfl) (B8 (c:=false) rfl rfl (by decide)) rfl (Ad rfl) (AJ (v:=(Value.bool false)) (AV rfl rfl) rfl (AO rfl ?_)))))
 refine AF.step (v:=(pP b5 1)) (AB rfl) (AA rfl Tryz.underlying31 rfl Tryz.sizeOf28 rfl) rfl (Ad rfl) (AF.step (v:=(Value.slice rd.m.b.p HH.length rd.m.b.c)) (AB rfl) (AM (i:=0) (v:=(Value.slice rd.m.b.p HH.length rd.m.b.c)) rfl rfl Dc.a rfl) rfl (Ad rfl) (AF.step (v:=(vN HH.length)) (AB rfl) (AI rfl Tryz.underlying28) rfl (Ad rfl) (AF.step (v:=(Value.bool false)) (AB rfl) (B8 (c:=false) rfl rfl (by decide)) rfl (Ad rfl) (AJ (v:=(Value.bool false)) (AV rfl rfl) rfl (AO rfl ?_)))))
 refine AF.step (v:=(pP b5 2)) (AB rfl) (AA rfl Tryz.underlying31 rfl Tryz.sizeOf29 rfl) rfl (Ad rfl) (AF.step (v:=(Value.slice rd.m.c.p Em.length rd.m.c.c)) (AB rfl) (AM (i:=0) (v:=(Value.slice rd.m.c.p Em.length rd.m.c.c)) rfl rfl IY.a rfl) rfl (Ad rfl) (AF.step (v:=(vN Em.length)) (AB rfl) (AI rfl Tryz.underlying29) rfl (Ad rfl) (AF.step (v:=(Value.bool false)) (AB rfl) (B8 (c:=false) rfl rfl (by decide)) rfl (Ad rfl) (AJ (v:=(Value.bool false)) (AV rfl rfl) rfl (AO rfl ?_)))))
 refine AF.step (v:=(Value.slice rd.q.p 4 rd.q.c)) (AB rfl) (A9 rfl) rfl (Ad rfl) (AF.step (v:=(vI 4)) (AB rfl) (AI rfl Tryz.underlying33) rfl (Ad rfl) (AF.step (v:=(Value.bool false)) (AB rfl) (B8 (c:=false) rfl rfl (by decide)) rfl (Ad rfl) (AJ (v:=(Value.bool false)) (AV rfl rfl) rfl (AF.nil (AC.subF (sL [0,1,2,47] rfl) ?_)))))
 refine AC.then_ (AG.cond_false rfl (AG.skip (q1 (Cq [(0,true),(1,true),(2,true),(3,true),(4,false),(5,true),(6,true),(7,true),(8,true),(9,true),(10,true),(11,false),(12,true),(13,true),(14,true),(15,true),(16,true),(17,true),(18,true),(19,false),(20,true),(21,true),(22,true),(23,true),(24,true),(25,true),(26,true),(27,true),(28,true),(29,true),(30,true),(31,true),(32,true),(33,true),(34,true),(35,true),(36,true),(37,true),(38,true)] sr (Av (v:=(pP b5 0)) rfl (AA rfl Tryz.underlying31 rfl Tryz.sizeOf27 rfl) ?_)))))
 refine Bg 0 (Value.slice rd.m.a.p HI.length rd.m.a.c) C2 rfl (Av (v:=(pP (pB rd.m.a.p) (pO rd.m.a.p+3*10))) rfl (AW (j:=3) rfl rfl rd.m.a.ok Tryz.underlying27 Tryz.sizeOf55 rfl (by decide)) (Av (v:=(aG (Ae (HI.getD 3 (⟨0,0⟩:Pt))))) rfl (AU (vs:=Ae (HI.getD 3 (⟨0,0⟩:Pt))) (i:=1) rfl rfl (BQ.ne rd.m.a.ok (by decide)) BC (Au BI _ _ _ (by decide)) (BI _)) (AS.imp rfl (BU Tryz.call56 (RH) rfl (AS.back sr ?_)))))
 refine Av rfl (Bj (c:=true) rfl rfl Tryz.eqGuardType55 (H0 9994 rfl)) (Bc rfl (AS.pas (v:=(pP b5 0)) rfl (AB rfl) (AA rfl Tryz.underlying31 rfl Tryz.sizeOf27 rfl) rfl rfl (AS.pas (v:=(Value.slice rd.m.a.p HI.length rd.m.a.c)) rfl (AB rfl) (AM (i:=0) (v:=(Value.slice rd.m.a.p HI.length rd.m.a.c)) rfl rfl C2.a rfl) rfl rfl (AS.pas (v:=(pP (pB rd.m.a.p) (pO rd.m.a.p+4*10))) rfl (AB rfl) (AW (j:=4) rfl rfl rd.m.a.ok Tryz.underlying27 Tryz.sizeOf55 rfl (by decide)) rfl rfl (AS.pas (v:=(aG (Ae (HI.getD 4 (⟨0,0⟩:Pt))))) rfl (AB rfl) (AU (vs:=Ae (HI.getD 4 (⟨0,0⟩:Pt))) (i:=1) rfl rfl (BQ.ne rd.m.a.ok (by decide)) BC (Au BI _ _ _ (by decide)) (BI _)) rfl rfl ?_)))))
 refine AS.imp rfl (AF.call (v:=(aG (Ae (⟨0,1⟩:Pt)))) (AB rfl) (Aq (args:=[(vI 0),(vI 1)]) rfl rfl Tryz.call56) (λw hw=>Rf w) rfl (Ad rfl) (AS.back sr (AS.pas (v:=(Value.bool true)) rfl (AB rfl) (Bj (c:=true) rfl rfl Tryz.eqGuardType55 (H0 9994 rfl)) rfl rfl (Av (v:=(Value.bool true)) rfl (Aj rfl rfl) (Bc rfl ?_)))))
 refine AS.pas (v:=(pP b5 0)) rfl (AB rfl) (AA rfl Tryz.underlying31 rfl Tryz.sizeOf27 rfl) rfl rfl (AS.pas (v:=(Value.slice rd.m.a.p HI.length rd.m.a.c)) rfl (AB rfl) (AM (i:=0) (v:=(Value.slice rd.m.a.p HI.length rd.m.a.c)) rfl rfl C2.a rfl) rfl rfl (AS.pas (v:=(pP (pB rd.m.a.p) (pO rd.m.a.p+5*10))) rfl (AB rfl) (AW (j:=5) rfl rfl rd.m.a.ok Tryz.underlying27 Tryz.sizeOf55 rfl (by decide)) rfl rfl (AS.pas (v:=(aG (Ae (HI.getD 5 (⟨0,0⟩:Pt))))) rfl (AB rfl) (AU (vs:=Ae (HI.getD 5 (⟨0,0⟩:Pt))) (i:=1) rfl rfl (BQ.ne rd.m.a.ok (by decide)) BC (Au BI _ _ _ (by decide)) (BI _)) rfl rfl (AS.imp rfl (AF.call (v:=(aG (Ae (⟨1,1⟩:Pt)))) (AB rfl) (Aq (args:=[(vI 1),(vI 1)]) rfl rfl Tryz.call56) (λw hw=>R9 w) rfl (Ad rfl) ?_)))))
 refine AS.back sr (AS.pas (v:=(Value.bool true)) rfl (AB rfl) (Bj (c:=true) rfl rfl Tryz.eqGuardType55 (H0 9994 rfl)) rfl rfl (Av (v:=(Value.bool true)) rfl (Aj rfl rfl) (Bc rfl (AS.pas (v:=(pP b5 1)) rfl (AB rfl) (AA rfl Tryz.underlying31 rfl Tryz.sizeOf28 rfl) rfl rfl (AS.pas (v:=(Value.slice rd.m.b.p HH.length rd.m.b.c)) rfl (AB rfl) (AM (i:=0) (v:=(Value.slice rd.m.b.p HH.length rd.m.b.c)) rfl rfl Dc.a rfl) rfl rfl ?_)))))
 refine AS.pas (v:=(pP (pB rd.m.b.p) (pO rd.m.b.p+0*3))) rfl (AB rfl) (AW (j:=0) rfl rfl rd.m.b.ok Tryz.underlying28 Tryz.sizeOf76 rfl (by decide)) rfl rfl (AS.pas (v:=(aG (Al (HH.getD 0 ((0,0,0):Nat×Nat×Nat))))) rfl (AB rfl) (AU (vs:=Al (HH.getD 0 ((0,0,0):Nat×Nat×Nat))) (i:=2) rfl rfl (BQ.ne rd.m.b.ok (by decide)) Ip (Au A6 _ _ _ (by decide)) (A6 _)) rfl rfl (AS.pas (v:=(aG (Al (0,3,4)))) rfl (AB rfl) (An (zs:=Al ((0,0,0):Nat×Nat×Nat)) (vs:=Al (0,3,4)) (pv:=[(0,(vI 0)),(1,(vI 3)),(2,(vI 4))]) Tryz.zeroValue76 Tryz.underlying76 Tryz.sizeOf3 rfl (E_ 0 3 4)) rfl rfl (AS.pas (v:=(Value.bool true)) rfl (AB rfl) (Bj (c:=true) rfl rfl Tryz.eqGuardType76 (N6 (a:=HH.getD 0 ((0,0,0):Nat×Nat×Nat)) (b:=(0,3,4)) 9998 rfl)) rfl rfl (Av (v:=(Value.bool true)) rfl (Aj rfl rfl) (Bc rfl ?_)))))
 refine AS.pas (v:=(pP b5 1)) rfl (AB rfl) (AA rfl Tryz.underlying31 rfl Tryz.sizeOf28 rfl) rfl rfl (AS.pas (v:=(Value.slice rd.m.b.p HH.length rd.m.b.c)) rfl (AB rfl) (AM (i:=0) (v:=(Value.slice rd.m.b.p HH.length rd.m.b.c)) rfl rfl Dc.a rfl) rfl rfl (AS.pas (v:=(pP (pB rd.m.b.p) (pO rd.m.b.p+3*3))) rfl (AB rfl) (AW (j:=3) rfl rfl rd.m.b.ok Tryz.underlying28 Tryz.sizeOf76 rfl (by decide)) rfl rfl (AS.pas (v:=(aG (Al (HH.getD 3 ((0,0,0):Nat×Nat×Nat))))) rfl (AB rfl) (AU (vs:=Al (HH.getD 3 ((0,0,0):Nat×Nat×Nat))) (i:=2) rfl rfl (BQ.ne rd.m.b.ok (by decide)) Ip (Au A6 _ _ _ (by decide)) (A6 _)) rfl rfl (AS.pas (v:=(aG (Al (3,5,4)))) rfl (AB rfl) (An (zs:=Al ((0,0,0):Nat×Nat×Nat)) (vs:=Al (3,5,4)) (pv:=[(0,(vI 3)),(1,(vI 5)),(2,(vI 4))]) Tryz.zeroValue76 Tryz.underlying76 Tryz.sizeOf3 rfl (E_ 3 5 4)) rfl rfl (AS.pas (v:=(Value.bool true)) rfl (AB rfl) (Bj (c:=true) rfl rfl Tryz.eqGuardType76 (N6 (a:=HH.getD 3 ((0,0,0):Nat×Nat×Nat)) (b:=(3,5,4)) 9998 rfl)) rfl rfl ?_)))))
 refine Av (v:=(Value.bool true)) rfl (Aj rfl rfl) (FO rfl (AS.nil (AC.subF (sL [0,1,2,5] rfl) (q2 (AO rfl ?_)))))
 refine AO rfl (AF.step (v:=(pP b5 2)) (AB rfl) (AA rfl Tryz.underlying31 rfl Tryz.sizeOf29 rfl) rfl (Ad rfl) (AF.step (v:=(Value.slice rd.m.c.p Em.length rd.m.c.c)) (AB rfl) (AM (i:=0) (v:=(Value.slice rd.m.c.p Em.length rd.m.c.c)) rfl rfl IY.a rfl) rfl (Ad rfl) (AF.step (v:=(pP (pB rd.m.c.p) (pO rd.m.c.p+0*3))) (AB rfl) (AW (j:=0) rfl rfl rd.m.c.ok Tryz.underlying29 Tryz.sizeOf44 rfl (by decide)) rfl (Ad rfl) (AF.step (v:=(aG (Al (Em.getD 0 ((0,0,0):Nat×Nat×Nat))))) (AB rfl) (AU (vs:=Al (Em.getD 0 ((0,0,0):Nat×Nat×Nat))) (i:=3) rfl rfl (BQ.ne rd.m.c.ok (by decide)) OI (Au A6 _ _ _ (by decide)) (A6 _)) rfl (Ad rfl) (AF.step (v:=(aG ([(vI 0),(vI 3),(vI 7)]))) (AB rfl) (AY (zs:=Al ((0,0,0):Nat×Nat×Nat)) (vs:=[(vI 0),(vI 3),(vI 7)]) (pv:=[(0,(vI 0)),(1,(vI 3)),(2,(vI 7))]) (places:=[(0,1),(1,1),(2,1)]) Tryz.zeroValue44 Tryz.underlying44 (λw=>by simp [Tryz.sizeOf3]) rfl rfl) rfl (Ad rfl) ?_)))))
 refine AF.step (v:=(Value.bool true)) (AB rfl) (Bj (c:=true) rfl rfl Tryz.eqGuardType44 (Hf (a:=Em.getD 0 ((0,0,0):Nat×Nat×Nat)) (b:=((0,3,7):T3)) 9998 rfl)) rfl (Ad rfl) (AJ (v:=(Value.bool true)) (Aj rfl rfl) rfl (AO rfl (AF.step (v:=(pP b5 2)) (AB rfl) (AA rfl Tryz.underlying31 rfl Tryz.sizeOf29 rfl) rfl (Ad rfl) (AF.step (v:=(Value.slice rd.m.c.p Em.length rd.m.c.c)) (AB rfl) (AM (i:=0) (v:=(Value.slice rd.m.c.p Em.length rd.m.c.c)) rfl rfl IY.a rfl) rfl (Ad rfl) (AF.step (v:=(pP (pB rd.m.c.p) (pO rd.m.c.p+2*3))) (AB rfl) (AW (j:=2) rfl rfl rd.m.c.ok Tryz.underlying29 Tryz.sizeOf44 rfl (by decide)) rfl (Ad rfl) ?_)))))
 refine AF.step (v:=(aG (Al (Em.getD 2 ((0,0,0):Nat×Nat×Nat))))) (AB rfl) (AU (vs:=Al (Em.getD 2 ((0,0,0):Nat×Nat×Nat))) (i:=3) rfl rfl (BQ.ne rd.m.c.ok (by decide)) OI (Au A6 _ _ _ (by decide)) (A6 _)) rfl (Ad rfl) (AF.step (v:=(aG ([(vI 1),(vI 3),(vI 7)]))) (AB rfl) (AY (zs:=Al ((0,0,0):Nat×Nat×Nat)) (vs:=[(vI 1),(vI 3),(vI 7)]) (pv:=[(0,(vI 1)),(1,(vI 3)),(2,(vI 7))]) (places:=[(0,1),(1,1),(2,1)]) Tryz.zeroValue44 Tryz.underlying44 (λw=>by simp [Tryz.sizeOf3]) rfl rfl) rfl (Ad rfl) (AF.step (v:=(Value.bool true)) (AB rfl) (Bj (c:=true) rfl rfl Tryz.eqGuardType44 (Hf (a:=Em.getD 2 ((0,0,0):Nat×Nat×Nat)) (b:=((1,3,7):T3)) 9998 rfl)) rfl (Ad rfl) (AJ (v:=(Value.bool true)) (Aj rfl rfl) rfl (AO rfl (AF.step (v:=(pP b5 2)) (AB rfl) (AA rfl Tryz.underlying31 rfl Tryz.sizeOf29 rfl) rfl (Ad rfl) ?_)))))
 refine AF.step (v:=(Value.slice rd.m.c.p Em.length rd.m.c.c)) (AB rfl) (AM (i:=0) (v:=(Value.slice rd.m.c.p Em.length rd.m.c.c)) rfl rfl IY.a rfl) rfl (Ad rfl) (AF.step (v:=(pP (pB rd.m.c.p) (pO rd.m.c.p+1*3))) (AB rfl) (AW (j:=1) rfl rfl rd.m.c.ok Tryz.underlying29 Tryz.sizeOf44 rfl (by decide)) rfl (Ad rfl) (AF.step (v:=(pP (pB rd.m.c.p) (pO rd.m.c.p+(1*3+2)))) (AB rfl) (AA rfl Tryz.underlying44 rfl Tryz.sizeOf3 (Nat.add_assoc _ _ _)) rfl (Ad rfl) (AF.step (v:=(vN ((Em.getD 1 ((0,0,0):Nat×Nat×Nat)).2.2))) (AB rfl) (BK (v:=(vN ((Em.getD 1 ((0,0,0):Nat×Nat×Nat)).2.2))) (i:=3) rfl rfl (BQ.ne rd.m.c.ok (by decide)) B4 (ER A6 ((0,0,0):Nat×Nat×Nat) _ _ 2 (by decide) (by decide) rfl)) rfl (Ad rfl) (AF.step (v:=(Value.bool true)) (AB rfl) (Be (c:=true) rfl rfl (by decide)) rfl (Ad rfl) (AJ (v:=(Value.bool true)) (Aj rfl rfl) rfl ?_)))))
 refine AO rfl (AF.step (v:=(pP b5 2)) (AB rfl) (AA rfl Tryz.underlying31 rfl Tryz.sizeOf29 rfl) rfl (Ad rfl) (AF.step (v:=(Value.slice rd.m.c.p Em.length rd.m.c.c)) (AB rfl) (AM (i:=0) (v:=(Value.slice rd.m.c.p Em.length rd.m.c.c)) rfl rfl IY.a rfl) rfl (Ad rfl) (AF.step (v:=(pP (pB rd.m.c.p) (pO rd.m.c.p+5*3))) (AB rfl) (AW (j:=5) rfl rfl rd.m.c.ok Tryz.underlying29 Tryz.sizeOf44 rfl (by decide)) rfl (Ad rfl) (AF.step (v:=(aG (Al (Em.getD 5 ((0,0,0):Nat×Nat×Nat))))) (AB rfl) (AU (vs:=Al (Em.getD 5 ((0,0,0):Nat×Nat×Nat))) (i:=3) rfl rfl (BQ.ne rd.m.c.ok (by decide)) OI (Au A6 _ _ _ (by decide)) (A6 _)) rfl (Ad rfl) (AF.step (v:=(aG ([(vI 2),(vI 5),(vI 0)]))) (AB rfl) (AY (zs:=Al ((0,0,0):Nat×Nat×Nat)) (vs:=[(vI 2),(vI 5),(vI 0)]) (pv:=[(0,(vI 2)),(1,(vI 5))]) (places:=[(0,1),(1,1),(2,1)]) Tryz.zeroValue44 Tryz.underlying44 (λw=>by simp [Tryz.sizeOf3]) rfl rfl) rfl (Ad rfl) ?_)))))
 refine AF.step (v:=(Value.bool true)) (AB rfl) (Bj (c:=true) rfl rfl Tryz.eqGuardType44 (Hf (a:=Em.getD 5 ((0,0,0):Nat×Nat×Nat)) (b:=((2,5,0):T3)) 9998 rfl)) rfl (Ad rfl) (AJ (v:=(Value.bool true)) (Aj rfl rfl) rfl (AK rfl (AF.nil (AC.subF (sL [0,1,2] rfl) (AC.then_ ?_)))))
 exact AG.ret (AR rfl (Ai (v:=(Value.bool true)) rfl) (λw hw=>⟨rfl,hw.out⟩))
end
def Pj (p q:Pt):Prop:=p.x<q.x\/(p.x=q.x/\p.y<q.y)
instance (p q:Pt):Decidable (Pj p q):=by unfold Pj;infer_instance
def aS (a b:Pt):Pt:=if Pj b a then b else a
def aF (a b:Pt):Pt:=if Pj a b then b else a
theorem X5 {p q:Pt} (h:CQ p.x q.x≠0):decide (CQ p.x q.x<0)=decide (Pj p q):=by
  have h2:¬p.x=q.x:=λe=>h (QP.2 e)
  refine decide_eq_decide.2 ⟨λk=>.inl (C9.1 k),λk=>?_⟩
  rcases k with k|k
  · exact C9.2 k
  · exact absurd k.1 h2
theorem X6 {p q:Pt} (h:CQ p.x q.x=0):decide (CQ p.y q.y<0)=decide (Pj p q):=by
  have h2:p.x=q.x:=QP.1 h
  refine decide_eq_decide.2 ⟨λk=>.inr ⟨h2,C9.1 k⟩,λk=>?_⟩
  rcases k with k|k
  · rw [h2] at k;exact absurd k (by grind)
  · exact C9.2 k.2
def m7 (m:MQ) (k:Nat):List Nat:=(m.cs.take k).map (·%7)
section
set_option maxRecDepth 100000
theorem MO (p q:Pt) (hp:Bo p<=1000) (hq:Bo q<=1000) (w:World)  :Calls Tryz.prog 53 #[(aG (Ae p)),(aG (Ae q))] w (Am w (Value.bool (decide (Pj p q)))):=by
 have y1:=Dp p
 have y2:=Dp q
 have y3:=Dm p
 have y4:=Dm q
 refine Ac (args:=[(aG (Ae p)),(aG (Ae q))]) Tryz.func53 rfl rfl (Ad rfl) (AG.subF (sL [0,1] rfl) (q4 (Bl (cs:=Ae p) rfl λb1=>Bl (cs:=Ae q) rfl λb2=>AK rfl ?_)))
 refine q6 (sL [2,3,4] rfl) (q4 (AJ (v:=(pP b1 0)) (AA rfl Tryz.underlying55 rfl Tryz.sizeOf53 rfl) rfl (EU 1 (AD p.x) BO rfl (AJ (v:=(pP b2 0)) (AA rfl Tryz.underlying55 rfl Tryz.sizeOf53 rfl) rfl (EU 0 (AD q.x) BO rfl ?_)))))
 refine BU Tryz.call33 (GN p.x q.x (by omega)) rfl (AK rfl (q3 (sL [2,3,4,5] rfl) (AO rfl (AJ (B8 (c:=(decide ((CQ p.x q.x)≠(0:Int)))) rfl rfl rfl) rfl (AF.nil ?_)))))
 refine AC.subF (sL [2,3,4,5,12] rfl) (AC.then_ ?_)
 refine AG.cond rfl (λhc0=>?_) (λhc0=>?_)
 ·replace hc0:=of_decide_eq_true hc0
  refine q4 (AO rfl (AJ (Af (c:=(decide ((CQ p.x q.x)<(0:Int)))) rfl rfl rfl) rfl (AK rfl (AF.nil (AC.subF (sL [2,3,4,5] rfl) ?_)))))
  exact AC.then_ (AG.ret (AC.then_ret (AR rfl (Ai (v:=(Value.bool (decide ((CQ p.x q.x)<(0:Int))))) rfl) (λw hw=>⟨by rw [X5 hc0],hw.out⟩))))
 ·replace hc0:=of_decide_eq_false hc0
  refine AG.skip (q2 (AJ (v:=(pP b1 5)) (AA rfl Tryz.underlying55 rfl Tryz.sizeOf53 rfl) rfl (EU 1 (AD p.y) BO rfl (AJ (v:=(pP b2 5)) (AA rfl Tryz.underlying55 rfl Tryz.sizeOf53 rfl) rfl (EU 0 (AD q.y) BO rfl ?_)))))
  refine BU Tryz.call33 (GN p.y q.y (by omega)) rfl (AJ (Af (c:=(decide ((CQ p.y q.y)<(0:Int)))) rfl rfl rfl) rfl (AK rfl (AF.nil (AC.subF (sL [2,3,4,5] rfl) (AC.then_ ?_)))))
  exact AG.ret (AR rfl (Ai (v:=(Value.bool (decide ((CQ p.y q.y)<(0:Int))))) rfl) (λw hw=>⟨by rw [X6 (Decidable.not_not.1 hc0)],hw.out⟩))
end
abbrev T2:=P2×P2×P2
def Ye (A B:P2) (X Y:Nat):Int:=((B.1:Int)-A.1)*((Y:Int)-2*A.2)-((B.2:Int)-A.2)*((X:Int)-2*A.1)
def Y9 (t:T2) (X Y:Nat):Bool:=decide (0<=Ye t.2.1 t.2.2 X Y)&&decide (0<=Ye t.2.2 t.1 X Y)&&decide (0<=Ye t.1 t.2.1 X Y)
def Km (t:T2) (q:P2):Bool:=t.1 == q||t.2.1 == q||t.2.2 == q
def RF (u v c:Nat):List T2 :=
  let x:=2*u;let y:=2*v
  if c=0 then [((x,y),(x+2,y),(x+2,y+2)),((x,y),(x+2,y+2),(x,y+2))]
  else if c=1 then [((x,y),(x+2,y),(x,y+2)),((x+2,y),(x+2,y+2),(x,y+2))]
  else if c=2 then [((x,y),(x+2,y),(x+1,y+1)),((x+2,y),(x+2,y+2),(x+1,y+1)),((x+2,y+2),(x,y+2),(x+1,y+1)),((x,y+2),(x,y),(x+1,y+1))] else []
def W_ (way i:Nat):Nat:=if way<3\/(way=7/\i=0) then 0 else if way<5 then 1 else if way<7 then 2 else 3
theorem Ll (nx way i:Nat):Co nx way i=RF (i%nx) (i/nx) (W_ way i):=by
  unfold Co RF W_
  simp only
  split
  · rfl
  · split
    · rfl
    · split<;>rfl
theorem Je (way i:Nat):W_ way i<4:=by
  unfold W_
  split
  · omega
  · split
    · omega
    · split<;>omega
def M4 (s t:T2):Bool :=
  [s.1,s.2.1,s.2.2].all (λq=>!Y9 t (2*q.1) (2*q.2)||Km t q) &&
  [(s.1,s.2.1),(s.2.1,s.2.2),(s.2.2,s.1)].all (λe=>!Y9 t (e.1.1+e.2.1) (e.1.2+e.2.2)||(Km t e.1&&Km t e.2))
def Gu:List (Nat×Nat×Nat):=[0,1,2].flatMap λu=>[0,1,2].flatMap λv=>[0,1,2,3].map λc=>(u,v,c)
def Yg:Bool:=Gu.all λp=>Gu.all λq=>(decide (p.1=q.1/\p.2.1=q.2.1/\p.2.2≠q.2.2))||(RF p.1 p.2.1 p.2.2).all λs=>(RF q.1 q.2.1 q.2.2).all λt=>M4 s t
theorem O1:Yg=true:=by decide +kernel
theorem Er {u v c:Nat} (hu:u<=2) (hv:v<=2) (hc:c<4):(u,v,c)∈Gu:=by
  have h1:u=0\/u=1\/u=2:=by omega
  have h2:v=0\/v=1\/v=2:=by omega
  have h3:c=0\/c=1\/c=2\/c=3:=by omega
  rcases h1 with rfl|rfl|rfl<;>rcases h2 with rfl|rfl|rfl<;>rcases h3 with rfl|rfl|rfl|rfl<;>decide
theorem Qi {m:MQ} {s t:T2} (hs:s∈BD m) (ht:t∈BD m):M4 s t=true:=by
  obtain ⟨i,hi,h1⟩:=ED m _ s hs
  obtain ⟨j,hj,h2⟩:=ED m _ t ht
  have hx:=Iz m
  have hy:=In m
  have b:∀k,k<Fy m*Rk m->k%Fy m<=2/\k/Fy m<=2:=λk hk=>by
    have a1:=Nat.mod_lt k (show 0<Fy m by omega)
    have a2:k/Fy m<Rk m:=Nat.div_lt_of_lt_mul hk
    omega
  rw [Ll] at h1 h2
  have h:=List.all_eq_true.1 (List.all_eq_true.1 O1 _ (Er (b i hi).1 (b i hi).2 (Je (GY m i) i))) _ (Er (b j hj).1 (b j hj).2 (Je (GY m j) j))
  rw [Bool.or_eq_true,decide_eq_true_eq] at h
  rcases h with ⟨e1,e2,e3⟩|h
  · exfalso
    have e:i=j:=by rw [<-Nat.div_add_mod i (Fy m),<-Nat.div_add_mod j (Fy m),show i%Fy m=j%Fy m from e1,show i/Fy m=j/Fy m from e2]
    subst e
    exact e3 rfl
  · exact List.all_eq_true.1 (List.all_eq_true.1 h s h1) t h2
theorem UE (A B:P2) (X Y:Nat):Jq A B ((X:Rat)*(1/2)) ((Y:Rat)*(1/2))=((Ye A B X Y:Int):Rat)*(1/2):=by
  simp only [Jq,Ye,Rat.intCast_sub,Rat.intCast_mul,Rat.intCast_natCast,show ((2:Int):Rat)=2 from rfl]
  grind
theorem Tk {t:T2} {X Y:Nat} (h:inC t ((X:Rat)*(1/2)) ((Y:Rat)*(1/2))):Y9 t X Y=true:=by
  obtain ⟨h1,h2,h3⟩:=h
  rw [UE] at h1 h2 h3
  have c:∀z:Int,0<=(z:Rat)*(1/2)->0<=z:=λz hz=>by
    have:(0:Rat)<=(z:Rat):=by grind
    exact_mod_cast this
  simp only [Y9,Bool.and_eq_true,decide_eq_true_eq]
  exact ⟨⟨c _ h1,c _ h2⟩,c _ h3⟩
theorem Ml {t:T2} {q:P2} (h:Km t q=true):∃r,r<3/\Cx t r=q:=by
  simp only [Km,Bool.or_eq_true,beq_iff_eq] at h
  rcases h with (h|h)|h
  · exact ⟨0,by omega,h⟩
  · exact ⟨1,by omega,h⟩
  · exact ⟨2,by omega,h⟩
theorem U4 (t:T2) {r:Nat} (h:r<3):Cx t r∈[t.1,t.2.1,t.2.2]:=by
  have:r=0\/r=1\/r=2:=by omega
  rcases this with rfl|rfl|rfl<;>simp [Cx]
theorem Nq {m:MQ} {s t:T2} (hs:s∈BD m) (ht:t∈BD m) {r:Nat} (hr:r<3) (h:inC t ((Cx s r).1:Rat) ((Cx s r).2:Rat)):∃k,k<3/\Cx t k=Cx s r:=by
  have hp:=Qi hs ht
  unfold M4 at hp
  rw [Bool.and_eq_true] at hp
  have h1:=List.all_eq_true.1 hp.1 _ (U4 s hr)
  have h2:Y9 t (2*(Cx s r).1) (2*(Cx s r).2)=true:=Tk (by
    rw [Gh,Gh,show 2*((Cx s r).1:Rat)*(1/2)=((Cx s r).1:Rat) by grind,show 2*((Cx s r).2:Rat)*(1/2)=((Cx s r).2:Rat) by grind]
    exact h)
  rw [h2] at h1
  exact Ml (by simpa using h1)
theorem Sa {m:MQ} {s t:T2} (hs:s∈BD m) (ht:t∈BD m) {r:Nat} (hr:r<3) (h:inC t ((((Cx s r).1+(Cx s ((r+1)%3)).1:Nat):Rat)*(1/2)) ((((Cx s r).2+(Cx s ((r+1)%3)).2:Nat):Rat)*(1/2))) :
    (∃k,k<3/\Cx t k=Cx s r)/\∃k,k<3/\Cx t k=Cx s ((r+1)%3):=by
  have hp:=Qi hs ht
  unfold M4 at hp
  rw [Bool.and_eq_true] at hp
  have hm:(Cx s r,Cx s ((r+1)%3))∈[(s.1,s.2.1),(s.2.1,s.2.2),(s.2.2,s.1)]:=by
    have:r=0\/r=1\/r=2:=by omega
    rcases this with rfl|rfl|rfl<;>simp [Cx]
  have h1:=List.all_eq_true.1 hp.2 _ hm
  rw [Tk h] at h1
  have h2:Km t (Cx s r)=true/\Km t (Cx s ((r+1)%3))=true:=by simpa using h1
  exact ⟨Ml h2.1,Ml h2.2⟩
section
def PQ (k:DA) (den:Nat) (X Y:Rat):Pt:=⟨((k.a:Rat)*X+(k.b:Rat)*Y)/(((max den 1:Nat):Int):Rat),((k.c:Rat)*X+(k.d:Rat)*Y)/(((max den 1:Nat):Int):Rat)⟩
theorem I4 (k:DA) (den:Nat) (A:P2):CJ (GZ k den A)=PQ k den (A.1:Rat) (A.2:Rat):=by
  simp only [CJ,GZ,Ng,DA.at_,PQ,Rat.intCast_add,Rat.intCast_mul,Rat.intCast_natCast]
theorem Xi (k:DA) (den:Nat) (A B:P2):CS (CJ (GZ k den A)+CJ (GZ k den B)) (1/2)=PQ k den (((A.1+B.1:Nat):Rat)*(1/2)) (((A.2+B.2:Nat):Rat)*(1/2)):=by
  rw [I4,I4]
  refine Pt.ext ?_ ?_<;>simp only [PQ,NC,NW,QR,Ql,Rat.natCast_add,Rat.div_def]<;>generalize (((max den 1:Nat):Int):Rat)⁻¹=e<;>grind
theorem OR {k:DA} (h:k.Ok) (den:Nat):∃c:Rat,0<c/\∀(A B:P2) (X Y:Rat),AQ (CJ (GZ k den A)) (CJ (GZ k den B)) (PQ k den X Y)=c*Jq A B X Y:=by
  have hD:0<(((max den 1:Nat):Int):Rat):=by exact_mod_cast (show (0:Int)<((max den 1:Nat):Int) by omega)
  have hd:(0:Rat)<(k.det:Rat):=by exact_mod_cast h.pos
  have ed:(k.det:Rat)=(k.a:Rat)*(k.d:Rat)-(k.b:Rat)*(k.c:Rat):=by simp only [DA.det,Rat.intCast_sub,Rat.intCast_mul]
  have hi:=Rat.inv_pos.2 hD
  refine ⟨(k.det:Rat)*((((max den 1:Nat):Int):Rat)⁻¹*(((max den 1:Nat):Int):Rat)⁻¹),Rat.mul_pos hd (Rat.mul_pos hi hi),λA B X Y=>?_⟩
  rw [I4,I4,ed]
  simp only [Cb,PQ,Jq,Rat.div_def]
  generalize (((max den 1:Nat):Int):Rat)⁻¹=e
  grind
theorem XY (m:MQ) (t:Nat) {k:Nat} (hk:k<3):∃r,r<3/\Iq m t r=k:=by
  unfold Iq
  generalize t*(m.fst/3)=q
  have e:(m.fst+q)%3=0\/(m.fst+q)%3=1\/(m.fst+q)%3=2:=by omega
  rcases e with e|e|e
  · exact ⟨k,hk,by omega⟩
  · exact ⟨(k+2)%3,Nat.mod_lt _ (by decide),by omega⟩
  · exact ⟨(k+1)%3,Nat.mod_lt _ (by decide),by omega⟩
theorem Nm (m:MQ) (t r:Nat):Iq m t ((r+1)%3)=(Iq m t r+1)%3:=by unfold Iq;omega
def crn (t:Nat×Nat×Nat) (r:Nat):Nat:=if r=0 then t.1 else if r=1 then t.2.1 else t.2.2
def CW (t:Nat×Nat×Nat) (p:Nat):Bool:=t.1 == p||t.2.1 == p||t.2.2 == p
theorem K2 {t:Nat×Nat×Nat} {p:Nat}:CW t p=true↔∃r,r<3/\crn t r=p:=by
  simp only [CW,Bool.or_eq_true,beq_iff_eq]
  constructor
  · rintro ((h|h)|h)
    · exact ⟨0,by omega,h⟩
    · exact ⟨1,by omega,h⟩
    · exact ⟨2,by omega,h⟩
  · rintro ⟨r,hr,h⟩
    have:r=0\/r=1\/r=2:=by omega
    rcases this with rfl|rfl|rfl
    · exact .inl (.inl h)
    · exact .inl (.inr h)
    · exact .inr h
theorem JA.crn {m:MQ} {pl:List P2} {n:Nat×Nat×Nat} {t:Nat} (h:JA m pl n t) {r:Nat} (hr:r<3):Go.Proofs.YtfbomiejpbchdaaGreat.crn n r<pl.length/\pl.getD (Go.Proofs.YtfbomiejpbchdaaGreat.crn n r) (0,0)=Ax m t r:=by
  have:r=0\/r=1\/r=2:=by omega
  rcases this with rfl|rfl|rfl
  · exact h.a
  · exact h.b
  · exact h.c
section
variable {ps:List Pt} {ts:List (Nat×Nat×Nat)}
structure YN (ps:List Pt) (ts:List (Nat×Nat×Nat)) (m:MQ) (pl:List P2):Prop where
  inv:M0 m (BD m).length pl ts
  dst:XI pl
  pl_len:ps.length=pl.length
  at_:∀i,i<pl.length->ps.getD i ⟨0,0⟩=CJ (GZ (mapM m) (B3 m) (pl.getD i (0,0)))
theorem ET.lattice (g:ET ps ts):∃m pl,YN ps ts m pl:=by
  obtain ⟨m,pl,h1,h2,h3⟩:=g.lat
  have hz:(Fe m pl).length=pl.length:=by simp [Fe]
  refine ⟨m,pl,h1,h2,by rw [h3,Ja (by omega)],λi hi=>?_⟩
  rw [h3,<-hz,QK (by rw [hz];exact hi),Jp hi]
  rfl
theorem YN.cell {m:MQ} {pl:List P2} (l:YN ps ts m pl) {t:Nat} (ht:t<ts.length):(BD m).getD t ((0,0),(0,0),(0,0))∈BD m:=by
  have h:=l.inv.tl
  rw [List.getD,List.getElem?_eq_getElem (by omega)];exact List.getElem_mem _
theorem YN.inC {m:MQ} {pl:List P2} (l:YN ps ts m pl) {t:Nat} (ht:t<ts.length) {X Y:Rat} (h:KS ps (ts.getD t (0,0,0)) (PQ (mapM m) (B3 m) X Y)):Go.Proofs.YtfbomiejpbchdaaGreat.inC ((BD m).getD t ((0,0),(0,0),(0,0))) X Y:=by
  obtain ⟨c,hc,key⟩:=OR (Fb m.a m.b m.c m.d) (B3 m)
  have hk:mapM m=GX m.a m.b m.c m.d:=rfl
  rw [<-hk] at key
  have hat:=l.inv.at_ t (by have:=l.inv.tl;omega)
  obtain ⟨⟨a1,a2⟩,⟨b1,b2⟩,⟨c1,c2⟩⟩:=hat
  obtain ⟨k1,k2,k3⟩:=h
  rw [l.at_ _ b1,l.at_ _ c1,b2,c2,<-D4,key] at k1
  rw [l.at_ _ a1,l.at_ _ c1,a2,c2,D4,key] at k2
  rw [l.at_ _ a1,l.at_ _ b1,a2,b2,key] at k3
  exact (Mw m t X Y).2 (HR hc k1) (HR hc k2) (HR hc k3)
theorem YN.idx {m:MQ} {pl:List P2} (l:YN ps ts m pl) {t p:Nat} (ht:t<ts.length) (hp:p<pl.length) (h:∃k,k<3/\Cx ((BD m).getD t ((0,0),(0,0),(0,0))) k=pl.getD p (0,0)):CW (ts.getD t (0,0,0)) p=true:=by
  obtain ⟨k,hk,e⟩:=h
  obtain ⟨r,hr,e2⟩:=XY m t hk
  obtain ⟨h1,h2⟩:=(l.inv.at_ t (by have:=l.inv.tl;omega)).crn hr
  have e3:Ax m t r=pl.getD p (0,0):=by rw [<-e,<-e2];rfl
  exact K2.2 ⟨r,hr,l.dst _ _ h1 hp (by rw [h2,e3])⟩
theorem Id (g:ET ps ts) {p:Nat} (hp:p<ps.length):∃j,j<ts.length/\CW (ts.getD j (0,0,0)) p=true:=by
  obtain ⟨m,pl,l⟩:=g.lattice
  obtain ⟨j,hj,h⟩:=l.inv.used p (by rw [<-l.pl_len];exact hp)
  refine ⟨j,by have:=l.inv.tl;omega,?_⟩
  simp only [CW,Bool.or_eq_true,beq_iff_eq]
  rcases h with h|h|h
  · exact .inl (.inl h)
  · exact .inl (.inr h)
  · exact .inr h
theorem Sg (g:ET ps ts) {p q:Nat} (hp:p<ps.length) (hq:q<ps.length) (h:ps.getD p ⟨0,0⟩=ps.getD q ⟨0,0⟩):p=q:=by
  obtain ⟨m,pl,l⟩:=g.lattice
  obtain ⟨j,hj,hh⟩:=Id g hq
  obtain ⟨r,hr,e⟩:=K2.1 hh
  have hp':p<pl.length:=by rw [<-l.pl_len];exact hp
  have hq':q<pl.length:=by rw [<-l.pl_len];exact hq
  rw [l.at_ p hp',l.at_ q hq'] at h
  refine l.dst p q hp' hq' ?_
  have hD:0<(((max (B3 m) 1:Nat):Int):Rat):=by exact_mod_cast (show (0:Int)<((max (B3 m) 1:Nat):Int) by omega)
  have hk:=Fb m.a m.b m.c m.d
  have hdet:=hk.pos
  have hx:=congrArg Pt.x h
  have hy:=congrArg Pt.y h
  rw [I4,I4] at hx hy
  simp only [PQ,Rat.div_def] at hx hy
  have hi:=Rat.inv_pos.2 hD
  generalize (((max (B3 m) 1:Nat):Int):Rat)⁻¹=e at *
  generalize pl.getD p (0,0)=A at *
  generalize pl.getD q (0,0)=B at *
  obtain ⟨x1,y1⟩:=A
  obtain ⟨x2,y2⟩:=B
  simp only at hx hy
  have hd:(0:Rat)<((mapM m).det:Rat):=by exact_mod_cast hdet
  have ed:((mapM m).det:Rat)=((mapM m).a:Rat)*((mapM m).d:Rat)-((mapM m).b:Rat)*((mapM m).c:Rat):=by simp only [DA.det,Rat.intCast_sub,Rat.intCast_mul]
  rw [ed] at hd
  generalize ((mapM m).a:Rat)=a at *
  generalize ((mapM m).b:Rat)=b at *
  generalize ((mapM m).c:Rat)=c at *
  generalize ((mapM m).d:Rat)=d at *
  clear hD hk hdet ed h
  have hX:((x1:Rat)-(x2:Rat))*(a*d-b*c)*e=0:=by grind
  have hY:((y1:Rat)-(y2:Rat))*(a*d-b*c)*e=0:=by grind
  have z1:(x1:Rat)-(x2:Rat)=0:=by
    rcases Rat.mul_eq_zero.1 hX with h|h
    · rcases Rat.mul_eq_zero.1 h with h|h
      · exact h
      · grind
    · grind
  have z2:(y1:Rat)-(y2:Rat)=0:=by
    rcases Rat.mul_eq_zero.1 hY with h|h
    · rcases Rat.mul_eq_zero.1 h with h|h
      · exact h
      · grind
    · grind
  have w1:(x1:Rat)=(x2:Rat):=by grind
  have w2:(y1:Rat)=(y2:Rat):=by grind
  exact Prod.ext (by exact_mod_cast w1) (by exact_mod_cast w2)
theorem JD (g:ET ps ts) {p t:Nat} (hp:p<ps.length) (ht:t<ts.length) (h:KS ps (ts.getD t (0,0,0)) (ps.getD p ⟨0,0⟩)):CW (ts.getD t (0,0,0)) p=true:=by
  obtain ⟨m,pl,l⟩:=g.lattice
  have hp':p<pl.length:=by rw [<-l.pl_len];exact hp
  obtain ⟨j,hj,hh⟩:=Id g hp
  obtain ⟨r,hr,e⟩:=K2.1 hh
  have hc:=((l.inv.at_ j (by have:=l.inv.tl;omega)).crn hr).2
  rw [e] at hc
  refine l.idx ht hp' ?_
  rw [l.at_ p hp',I4] at h
  have h2:=l.inC ht h
  rw [hc] at h2 ⊢
  exact Nq (l.cell hj) (l.cell ht) (Nat.mod_lt _ (by decide)) h2
theorem T7 (g:ET ps ts) {s t r:Nat} (hs:s<ts.length) (ht:t<ts.length) (hr:r<3) (h:KS ps (ts.getD t (0,0,0)) (CS (ps.getD (crn (ts.getD s (0,0,0)) r) ⟨0,0⟩+ps.getD (crn (ts.getD s (0,0,0)) ((r+1)%3)) ⟨0,0⟩) (1/2))) :
    CW (ts.getD t (0,0,0)) (crn (ts.getD s (0,0,0)) r)=true/\CW (ts.getD t (0,0,0)) (crn (ts.getD s (0,0,0)) ((r+1)%3))=true:=by
  obtain ⟨m,pl,l⟩:=g.lattice
  have hat:=l.inv.at_ s (by have:=l.inv.tl;omega)
  obtain ⟨a1,a2⟩:=hat.crn hr
  obtain ⟨b1,b2⟩:=hat.crn (Nat.mod_lt (r+1) (show 0<3 by decide))
  rw [l.at_ _ a1,l.at_ _ b1,Xi,a2,b2] at h
  have h2:=l.inC ht h
  unfold Ax at h2
  rw [Nm] at h2
  obtain ⟨k1,k2⟩:=Sa (l.cell hs) (l.cell ht) (r:=Iq m s r) (Nat.mod_lt _ (by decide)) h2
  refine ⟨l.idx ht a1 ?_,l.idx ht b1 ?_⟩
  · rw [a2];exact k1
  · rw [b2];unfold Ax;rw [Nm];exact k2
end
end
end Go.Proofs.YtfbomiejpbchdaaGreat
