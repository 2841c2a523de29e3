import Derived.OrdersIn
import Derived.Test.YtcpkbjjmcleplaaGreatDoorPart21
namespace Go.Proofs.YtcpkbjjmcleplaaGreatDoor
open Go Go.RowKit Go.Proofs.Tryz
open Go.Value renaming slice→qz,bool→qa
set_option linter.unusedVariables false
set_option linter.unusedSimpArgs false
section
set_option maxRecDepth 100000
theorem SA (x y:Pc) (hs:Sz x.lo+Sz y.lo<=1000000) (w:World)  :Calls prog 41 #[(aG (CI x)),(aG (CI y))] w (AY w (vI (G5 x y))):=by
 refine AS (args:=[(aG (CI x)),(aG (CI y))]) func41 O O (leB O) (zG (sL [0,1] O) (q4 (A9 (cs:=CI x) O λb1=>A9 (cs:=CI y) O λb2=>asg' O (q6 (sL [2,3,4] O) (B8 (Ed 4++[(5,true),(6,true),(7,true),(8,true),(4,false),(9,false),(10,false),(11,false),(12,true)]) sr (Ao (v:=(pP b1 1)) O (AA O underlying75 O sizeOf60 O) (Dd 1 (AB x.lo) Ay O (Ao (v:=(pP b2 1)) O (AA O underlying75 O sizeOf60 O) (Dd 0 (AB y.lo) Ay O ?_)))))))))
 refine Ao (v:=(pP b1 0)) O (AA O underlying75 O sizeOf3 O) (Cm 1 (vN x.tri) Dr O (Ao (v:=(pP b2 0)) O (AA O underlying75 O sizeOf3 O) (Cm 0 (vN y.tri) Dr O (zD O (ck' call43 (KM x.lo y.lo Z) O (zC sr (zD O (ck' call44 (Xb x.tri y.tri) O (zC sr (zD O (zf (V:=λb3=>(qz (jk b3) 2 2)) (T:=3) (cs:=[(vI (BK x.lo y.lo)),(vI (GU x.tri y.tri))]) (AJ O) (Ar (cs:=[(vI (BK x.lo y.lo)),(vI (GU x.tri y.tri))]) (pv:=[(0,(vI (BK x.lo y.lo))),(1,(vI (GU x.tri y.tri)))]) underlying79 sizeOf3 zeroValue3 jY jY O jV) O (leB O) λb3=>?_)))))))))))
 exact zC (sl sr) (zD O (yZ (v:=(vI (Vu (BK x.lo y.lo) (GU x.tri y.tri)))) (i:=0) (cs':=[(vI (BK x.lo y.lo)),(vI (GU x.tri y.tri))]) (L':=[AQ b3 3 ([(vI (BK x.lo y.lo)),(vI (GU x.tri y.tri))]),AQ b2 75 (CI y),AQ b1 75 (CI x)]) (AJ O) (Ac (args:=[(qz (jk b3) 2 2)]) O O call42) O (λw hw=>Ur (BK x.lo y.lo) (GU x.tri y.tri) _ w (hw.get (i:=0) O)) (λd hd=>by cases hd<;>exact (leB O)) O (zC (sl sr) (pS' O (zP (zB (sL [4] O) (zA (zF (ret_one O (rd_tmp (v:=(vI (Vu (BK x.lo y.lo) (GU x.tri y.tri)))) O) (λw hw=>⟨by rw [<-aa],hw.out⟩))))))))))
theorem TA (x y:Pc) (tl:List Value) (cp:Nat) (g:Nat) (hcp:2<=cp) (hs:Sz x.lo+Sz y.lo<=1000000) (w:World) (hg:w.heap[g]?=some (.cells (CI x++(CI y++tl)).toArray 75 (0,0))):Calls prog 125 #[(qz (jk g) 2 cp),(vI 0),(vI 2),(Value.func (.func 41) #[] #[])] w (λe w'=>e=.returned (.tuple #[])/\Ka w w' (some g)/\w'.heap[g]?=some (.cells (II x y tl).toArray 75 (0,0))):=by
 refine FF (args:=[(qz (jk g) 2 cp),(vI 0),(vI 2),(Value.func (.func 41) #[] #[])]) (g:=g) (T:=75) (cs:=CI x++(CI y++tl)) func125 O O (leB O) hg (zG (sL [0,1,2,3] O) (q4 (AL O (st' (Ad (c:=(1:Int)) O O jY) O (asg' O (oNl' (zB (sL [0,1,2,3,8] O) (zA (zN (yB 3 (zj ?_)))))))))))
 refine zV (q4 (AL O (AL O (st' (Ag (c:=true) O O jY) O (oNl' (zB (sL [0,1,2,3,8,14] O) (zA (zY O (zI (q1 (zN ?_)))))))))))
 refine q4 (AL O (asg' O (oNl' (zB (sL [0,1,2,3,8,9] O) (zA (zN (yB 3 (zj (zV (zV (B8 (Ed 14++[(14,false),(15,true),(16,true)]) sr ?_)))))))))))
 refine Bq O (Bq O (Ao O (Bu (c:=true) O O jY) (Bq O (zQ (v:=(Value.func (.func 41) #[] #[])) O (AE O) (A7 O) O O (zQ (v:=(qz (jk g) 2 cp)) O (AE O) (A7 O) O O (zQ (v:=(vI 1)) O (AE O) (A7 O) O O (zQ (v:=(pP g 11)) O (AE O) (AG (j:=1) O O underlying72 sizeOf75 O Z O) O O (zQ (v:=(aG (CI y))) O (AE O) (AW (i:=0) (vs:=CI y) O O PT.a PT.s O O) O O (zQ (v:=(qz (jk g) 2 cp)) O (AE O) (A7 O) O O (zQ (v:=(vI 1)) O (AE O) (A7 O) O O (zQ (v:=(vI 0)) O (AE O) (BT (c:=(0:Int)) O O jY) O O ?_)))))))))))
 refine zQ (v:=(pP g 0)) O (AE O) (AG (j:=0) O O underlying72 sizeOf75 O Z O) O O (zQ (v:=(aG (CI x))) O (AE O) (AW (i:=0) (vs:=CI x) O O PT.a PT.s O O) O O (zD O (zc (v:=(vI (G5 y x))) (AE O) (Ac (args:=[(aG (CI y)),(aG (CI x))]) O O call41) (λw hw=>SA y x Z w) O (leB O) (zC sr (zQ (v:=(qa (decide ((G5 y x)<(0:Int))))) O (AE O) (Ag (c:=(decide ((G5 y x)<(0:Int)))) O O O) O O (Ao (v:=(qa (decide ((G5 y x)<(0:Int))))) O (ex_pick_true O O) (zP (zB (sL [0,1,2,3,8,9,22,23,24,25,26,27,28,29,30,31,32,33,34] O) (zA ?_)))))))))
 refine zK O (λhc1=>?_) (λhc1=>?_)
 ·replace hc1:=xR hc1
  have hr:=bH (tl:=tl) hc1
  refine zI (q1 (zN ?_))
  refine dA (sl sr) (dC (dC (dC (dC (dC (dC (dC (dC (dC (dC (dC (dC (dC (dC (dC (dN)))))))))))))))) (λ_=>vC (Zk 0 (qz (jk g) 2 cp) (λ_=>by kernel_rfl)) (vC (Zk 9 (vI 1) (λ_=>by kernel_rfl)) (vC (Zk 0 (qz (jk g) 2 cp) (λ_=>by kernel_rfl)) (vC (Zk 9 (vI 1) (λ_=>by kernel_rfl)) (vC (bR (G:=[(40,(vI 1))]) (λ_=>by kernel_rfl) (λ_=>BT (c:=(0:Int)) O O jY)) (vC (Zk 0 (qz (jk g) 2 cp) (λ_=>by kernel_rfl)) (vC (Zk 9 (vI 1) (λ_=>by kernel_rfl)) (vC (bR (G:=[(43,(vI 1))]) (λ_=>by kernel_rfl) (λ_=>BT (c:=(0:Int)) O O jY)) (vC (bR (v:=(pP g 0)) (G:=[(42,(qz (jk g) 2 cp)),(44,(vI 0))]) (λ_=>by kernel_rfl) (λ_=>AG (j:=0) O O underlying72 sizeOf75 O Z O)) (vC (Ph (v:=λβ=>(aG (CI x))) (ks:=[]) (G:=λβ=>[(45,(pP g 0))]) (λβ=>sF jV) (λβ=>AW (i:=0) (vs:=CI x) O O PT.a PT.s O O)) (vC (Zk 0 (qz (jk g) 2 cp) (λ_=>by kernel_rfl)) (vC (Zk 9 (vI 1) (λ_=>by kernel_rfl)) (vC (bR (v:=(pP g 11)) (G:=[(47,(qz (jk g) 2 cp)),(48,(vI 1))]) (λ_=>by kernel_rfl) (λ_=>AG (j:=1) O O underlying72 sizeOf75 O Z O)) (vC (Ph (v:=λβ=>(aG (CI y))) (ks:=[]) (G:=λβ=>[(49,(pP g 11))]) (λβ=>sF jV) (λβ=>AW (i:=0) (vs:=CI y) O O PT.a PT.s O O)) (vC (bR (v:=(pP g 11)) (G:=[(37,(qz (jk g) 2 cp)),(38,(vI 1))]) (λ_=>by kernel_rfl) (λ_=>AG (j:=1) O O underlying72 sizeOf75 O Z O)) (Jj.nil)))))))))))))))) jV jV (λ_ _ d _ _ h=>by cases d<;>exact h) (λβ _=>?_)
  refine f6 (F':=[(0,(qz (jk g) 2 cp)),(1,(vI 0)),(2,(vI 2)),(3,(Value.func (.func 41) #[] #[])),(8,(vI 1)),(9,(vI 1)),(22,(Value.func (.func 41) #[] #[])),(23,(qz (jk g) 2 cp)),(24,(vI 1)),(25,(pP g 11)),(26,(aG (CI y))),(27,(qz (jk g) 2 cp)),(28,(vI 1)),(29,(vI 0)),(30,(pP g 0)),(31,(aG (CI x))),(32,(vI (G5 y x))),(33,(qa (decide ((G5 y x)<(0:Int))))),(39,(qz (jk g) 2 cp)),(41,(vI 0)),(46,(aG (CI x))),(50,(aG (CI y))),(51,(pP g 11))]) O O (y5 (i:=0) (off:=11) (vs:=CI x) (cs':=CI x++(CI x++tl)) (L':=[AQ g 75 (CI x++(CI x++tl))]) (sl sr) (AJ O) O O O O O sizeOf75 O O O O (E2.step (v:=(pP g 0)) (sl sr) (AJ O) (AG (j:=0) O O underlying72 sizeOf75 O Z O) O (leB O) (y5 (i:=0) (off:=0) (vs:=CI y) (cs':=CI y++(CI x++tl)) (L':=[AQ g 75 (CI y++(CI x++tl))]) (sl sr) (AJ O) O O O O O sizeOf75 O O O O (E2.nil (zB (sL [0,1,2,3,8,9,22,23,24,25,26,27,28,29,30,31,32,33] O) (zM (zA (zL (AL O (st' (BT (c:=(0:Int)) O O jY) O (asg' O ?_)))))))))))
  refine oNl' (zB (sL [0,1,2,3,8,9,22,23,24,25,26,27,28,29,30,31,32,33] O) (z7 (zj (zV (zV (B8 (Ed 14++[(14,false),(15,true),(16,true)]) sr (Bq O (Bq O (Ao O (Bu (c:=false) O O jY) (Bq O (zZ O (Aw O) O O ?_)))))))))))
  refine zZ O (Aw O) O O (zZ O (Aw O) O O (zZ O (Aw O) O O (zZ O (Aw O) O O (zZ O (Aw O) O O (zZ O (Aw O) O O (zZ O (Aw O) O O (zZ O (Aw O) O O (zZ O (Aw O) O O (zD O (BF O (zC sr ?_)))))))))))
  refine zZ O (Aw O) O O (Ao (v:=(qa false)) O (AN O O) (zP (zB (sL [0,1,2,3,8,9,34] O) (zA (zU O (zW (zO (zO (zR (zM (zA ?_)))))))))))
  refine zL (AL O (st' (Ad (c:=(2:Int)) O O jY) O (asg' O (oNl' (zB (sL [0,1,2,3,8,9] O) (z7 (zj (zV (q4 (AL O (AL O ?_)))))))))))
  exact st' (Ag (c:=false) O O jY) O (oNl' (zB (sL [0,1,2,3,8,9,14] O) (zA (zU O (zW (zO (zO (zR (Cv (.inr O) O  (λw hw=>⟨rfl,hw.1,by rw [hr];exact hw.get (i:=0) O⟩))))))))))
 ·replace hc1:=xQ hc1
  have hr:=bG (tl:=tl) hc1
  refine zW (zO (zO (zR (zM (zA (zL (AL O (st' (Ad (c:=(2:Int)) O O jY) O (asg' O (oNl' (zB (sL [0,1,2,3,8,9,22,23,24,25,26,27,28,29,30,31,32,33] O) ?_)))))))))))
  refine z7 (zj (zV (q4 (AL O (AL O (st' (Ag (c:=false) O O jY) O (oNl' (zB (sL [0,1,2,3,8,9,22,23,24,25,26,27,28,29,30,31,32,33,14] O) (zA (zU O (zW ?_)))))))))))
  exact zO (zO (zR (Cv (.inr O) O  (λw hw=>⟨rfl,hw.1,by rw [hr];exact hw.get (i:=0) O⟩))))
theorem YC  (w:World)  :Calls prog 134 #[(Value.int .u64 (0:Int))] w (AY w (vI 0)):=by
 refine AS (args:=[(Value.int .u64 (0:Int))]) func134 O O (leB O) (zG (sL [0] O) (q4 (asg' O (oNl' (q1 (q4 (AL O (st' (CW (c:=false) O O jY) O (oNl' (zB (sL [0,2,4] O) (zA ?_)))))))))))
 refine zU O (zI (q1 (q4 (AL O (st' (CW (c:=false) O O jY) O (oNl' (zB (sL [0,2,8] O) (zA (zU O (zI (q1 ?_)))))))))))
 refine q4 (AL O (st' (CW (c:=false) O O jY) O (oNl' (zB (sL [0,2,14] O) (zA (zU O (zI (q2 (AL O (AL O (st' (An (c:=(0:Int)) O underlying52 underlying5 jY) O ?_)))))))))))
 exact st' (v:=(Value.int .u8 (0:Int))) (E9 (j:=0) (m:=0) O O underlying9 jV jY) O (st' (An (c:=(0:Int)) O underlying5 underlying3 jY) O (st' (Ad (c:=(0:Int)) O O jY) O (asg' O (oNl' (zB (sL [0,2] O) (zA (zF (ret_one O (rd_tmp (v:=(vI 0)) O) (λw hw=>⟨rfl,hw.out⟩)))))))))
theorem cH  (w:World)  :Calls prog 81 #[(Value.int .u64 (0:Int))] w (AY w (vI 0)):=by
 refine AS (args:=[(Value.int .u64 (0:Int))]) func81 O O (leB O) (zG (sL [0] O) (q4 (asg' O (oNl' (q1 (zU O (zI (q2 (AL O (ck' call134 (YC) O (asg' O ?_)))))))))))
 exact oNl' (zB (sL [0,2] O) (zA (zF (ret_one O (rd_tmp (v:=(vI 0)) O) (λw hw=>⟨rfl,hw.out⟩)))))
theorem YD  (w:World)  :Calls prog 134 #[(Value.int .u64 (2:Int))] w (AY w (vI 2)):=by
 refine AS (args:=[(Value.int .u64 (2:Int))]) func134 O O (leB O) (zG (sL [0] O) (q4 (asg' O (oNl' (q1 (q4 (AL O (st' (CW (c:=false) O O jY) O (oNl' (zB (sL [0,2,4] O) (zA ?_)))))))))))
 refine zU O (zI (q1 (q4 (AL O (st' (CW (c:=false) O O jY) O (oNl' (zB (sL [0,2,8] O) (zA (zU O (zI (q1 ?_)))))))))))
 refine q4 (AL O (st' (CW (c:=false) O O jY) O (oNl' (zB (sL [0,2,14] O) (zA (zU O (zI (q2 (AL O (AL O (st' (An (c:=(2:Int)) O underlying52 underlying5 jY) O ?_)))))))))))
 exact st' (v:=(Value.int .u8 (2:Int))) (E9 (j:=2) (m:=2) O O underlying9 jV jY) O (st' (An (c:=(2:Int)) O underlying5 underlying3 jY) O (st' (Ad (c:=(2:Int)) O O jY) O (asg' O (oNl' (zB (sL [0,2] O) (zA (zF (ret_one O (rd_tmp (v:=(vI 2)) O) (λw hw=>⟨rfl,hw.out⟩)))))))))
theorem cI  (w:World)  :Calls prog 81 #[(Value.int .u64 (2:Int))] w (AY w (vI 2)):=by
 refine AS (args:=[(Value.int .u64 (2:Int))]) func81 O O (leB O) (zG (sL [0] O) (q4 (asg' O (oNl' (q1 (zU O (zI (q2 (AL O (ck' call134 (YD) O (asg' O ?_)))))))))))
 exact oNl' (zB (sL [0,2] O) (zA (zF (ret_one O (rd_tmp (v:=(vI 2)) O) (λw hw=>⟨rfl,hw.out⟩)))))
theorem Yc (x y:Pc) (tl:List Value) (cp:Nat) (g:Nat) (hcp:2<=cp) (hs:Sz x.lo+Sz y.lo<=1000000) (w:World) (hg:w.heap[g]?=some (.cells (CI x++(CI y++tl)).toArray 75 (0,0))):Calls prog 80 #[(qz (jk g) 2 cp),(vI 0),(vI 2),(vI 2),(Value.func (.func 41) #[] #[])] w (λe w'=>e=.returned (.tuple #[])/\Ka w w' (some g)/\w'.heap[g]?=some (.cells (II x y tl).toArray 75 (0,0))):=by
 refine FF (args:=[(qz (jk g) 2 cp),(vI 0),(vI 2),(vI 2),(Value.func (.func 41) #[] #[])]) (g:=g) (T:=75) (cs:=CI x++(CI y++tl)) func80 O O (leB O) hg (zG (sL [0,1,2,3,4] O) (q4 (asg' O (oNl' (q2 (asg' O (oNl' (zA (zN (yB 1 (zj ?_)))))))))))
 refine zN (q4 (AL O (AL O (st' (BT (c:=(2:Int)) O O jY) O (asg' O (q6 (sL [0,1,2,3,4,10,11,12] O) (q4 (AL O (st' (D6 (c:=true) O O jY) O (oNl' (zB (sL [0,1,2,3,4,10,11,12,25] O) ?_)))))))))))
 refine zA (zY O (q4 (AL O (AL O (AL O (AL O (yZ (v:=(Value.tuple #[])) (i:=0) (cs':=II x y tl) (L':=[AQ g 75 (II x y tl)]) (AJ O) (Ac (args:=[(qz (jk g) 2 cp),(vI 0),(vI 2),(Value.func (.func 41) #[] #[])]) O O call125) O (λw hw=>TA x y tl cp _ hcp hs w (hw.get (i:=0) O)) (λd hd=>by cases hd<;>exact (leB O)) O (oNl' (zB (sL [0,1,2,3,4,10,11,12] O) (zA (zF ?_)))))))))))
 exact zH (zT (zH (zT (Cv (.inl O) O  (λw hw=>⟨rfl,hw.1,hw.get (i:=0) O⟩)))))
theorem WW (x y:Pc) (tl:List Value) (cp:Nat) (g:Nat) (hcp:2<=cp) (hs:Sz x.lo+Sz y.lo<=1000000) (w:World) (hg:w.heap[g]?=some (.cells (CI x++(CI y++tl)).toArray 75 (0,0))):Calls prog 40 #[(qz (jk g) 2 cp),(Value.func (.func 41) #[] #[])] w (λe w'=>e=.returned (.tuple #[])/\Ka w w' (some g)/\w'.heap[g]?=some (.cells (II x y tl).toArray 75 (0,0))):=by
 refine FF (args:=[(qz (jk g) 2 cp),(Value.func (.func 41) #[] #[])]) (g:=g) (T:=75) (cs:=CI x++(CI y++tl)) func40 O O (leB O) hg (zG (sL [0,1] O) (q4 (AL O (st' (v:=(vI 2)) (AD O underlying72) O (asg' O (oNl' (zB (sL [0,1,4] O) (zA (zL (AL O (AL O ?_)))))))))))
 exact AL O (st' (An (c:=(2:Int)) O underlying3 underlying164 jY) O (ck' call81 (cI) O (AL O (yZ (v:=(Value.tuple #[])) (i:=0) (cs':=II x y tl) (L':=[AQ g 75 (II x y tl)]) (AJ O) (Ac (args:=[(qz (jk g) 2 cp),(vI 0),(vI 2),(vI 2),(Value.func (.func 41) #[] #[])]) O O call80) O (λw hw=>Yc x y tl cp _ hcp hs w (hw.get (i:=0) O)) (λd hd=>by cases hd<;>exact (leB O)) O (oNl' (zB (sL [0] O) (Cv (.inr O) O  (λw hw=>⟨rfl,hw.1,hw.get (i:=0) O⟩))))))))
theorem S_  (w:World)  :Calls prog 125 #[jj,(vI 0),(vI 0),(Value.func (.func 41) #[] #[])] w (AY w (Value.tuple #[])):=by
 refine AS (args:=[jj,(vI 0),(vI 0),(Value.func (.func 41) #[] #[])]) func125 O O (leB O) (zG (sL [0,1,2,3] O) (q4 (AL O (st' (Ad (c:=(1:Int)) O O jY) O (asg' O (oNl' (zB (sL [0,1,2,3,8] O) (zA (zN (yB 1 (zj ?_)))))))))))
 refine zV (q4 (AL O (AL O (st' (Ag (c:=false) O O jY) O (oNl' (zB (sL [0,1,2,3,8,14] O) (zA (zU O (zW (zO (zO ?_)))))))))))
 exact zR (Cv (.inr O) O  (λw hw=>⟨rfl,hw.out⟩))
theorem Yb  (w:World)  :Calls prog 80 #[jj,(vI 0),(vI 0),(vI 0),(Value.func (.func 41) #[] #[])] w (AY w (Value.tuple #[])):=by
 refine AS (args:=[jj,(vI 0),(vI 0),(vI 0),(Value.func (.func 41) #[] #[])]) func80 O O (leB O) (zG (sL [0,1,2,3,4] O) (q4 (asg' O (oNl' (q2 (asg' O (oNl' (zA (zN (yB 1 (zj ?_)))))))))))
 refine zN (q4 (AL O (AL O (st' (BT (c:=(0:Int)) O O jY) O (asg' O (q6 (sL [0,1,2,3,4,10,11,12] O) (q4 (AL O (st' (D6 (c:=true) O O jY) O (oNl' (zB (sL [0,1,2,3,4,10,11,12,25] O) ?_)))))))))))
 refine zA (zY O (q4 (AL O (AL O (AL O (AL O (ck' call125 (S_) O (oNl' (zB (sL [0,1,2,3,4,10,11,12] O) (zA (zF ?_)))))))))))
 exact zH (zT (zH (zT (Cv (.inl O) O  (λw hw=>⟨rfl,hw.out⟩)))))
theorem PQ  (w:World)  :Calls prog 40 #[jj,(Value.func (.func 41) #[] #[])] w (AY w (Value.tuple #[])):=by
 refine AS (args:=[jj,(Value.func (.func 41) #[] #[])]) func40 O O (leB O) (zG (sL [0,1] O) (q4 (AL O (st' (v:=(vI 0)) (AD O underlying72) O (asg' O (oNl' (zB (sL [0,1,4] O) (zA (zL (AL O (AL O ?_)))))))))))
 exact AL O (st' (An (c:=(0:Int)) O underlying3 underlying164 jY) O (ck' call81 (cH) O (AL O (ck' call80 (Yb) O (oNl' (zB (sL [0] O) (Cv (.inr O) O  (λw hw=>⟨rfl,hw.out⟩))))))))
end
section
theorem cW {ops:Array Oper} {l:List Oper} (h:No l=true):∀(i:Nat) (o:Oper),l[i]?=some o->∀c,o.op≠.defer c:=by
  induction l with
  | nil=>intro i o hi;cases i<;>simp at hi
  | cons x l ih =>
    unfold No at h
    have h2:=(xZ _ _▸h:_/\_)
    intro i o hi c
    cases i with
    | zero =>
      simp only [List.getElem?_cons_zero,Option.some.injEq] at hi
      subst hi
      intro e
      have h3:=h2.1
      rw [e] at h3
      cases h3
    | succ i=>exact ih h2.2 i o (by simpa using hi) c
section
variable {r:Option Nat} {P:Program} {ops:Array Oper} {Q:Exit->Act->World->Prop} {S:World->Prop}
theorem ZK {i:Nat} {a:Act} {w:World} {K K':Act->World->Prop} (hno:∀a w,¬Q .outgrown a w) (hnd:∀(i:Nat) (o:Oper),ops[i]?=some o->∀c,o.op≠.defer c) (hK:∀a w,K a w->K' a w) (h:wpOp P ops Q i K a w):wpOpIn (rF r) 0 P ops Q i K' a w:=by
  unfold wpOp at h
  unfold wpOpIn
  cases ho:ops[i]? with
  | none=>simp only [ho] at h ⊢;exact hK _ _ h
  | some o =>
    simp only [ho] at h ⊢
    split
    · rename_i hw
      rw [if_pos hw] at h
      rcases h with h|⟨_,a',w',h⟩
      · exact R4 hK (λ_ _ k=>k) (λk=>k) (hnd i o ho) h
      · exact absurd h (hno a' w')
    · rename_i hw
      rw [if_neg hw] at h
      exact ⟨λ_ _=>trivial,hK _ _ h⟩
theorem NI (hno:∀a w,¬Q .outgrown a w) (hnd:∀(i:Nat) (o:Oper),ops[i]?=some o->∀c,o.op≠.defer c):∀(fuel:Nat) (listed:Array Bool) (a:Act) (w:World),wpAnyH P .any ops Q S fuel listed a w->wpAnyIn (rF r) 0 P .any ops Q fuel listed a w
  | 0,_,_,_,h=>h
  | fuel+1,listed,a,w,h=>⟨h.1,λi hi=>ZK hno hnd (λa' w' k=>NI hno hnd fuel _ a' w' k.2) (h.2 i hi)⟩
end
section
variable {P:Program} {ops:Array Oper} {Q:Exit->Act->World->Prop} {n:Nat} {w0:Av} {Lro L L':List As} {F F':List (Nat×Value)} {l:List Oper}
theorem UC {id:Nat} {r:Option Nat} {l:List Oper} (hno:∀a w,¬Q .outgrown a w) (hnd:No l=true) (hm:P.follows .mixedOrders=true) {k:Nat} (hk:k=l.length) (h:∀a w,CP n a F->A6 w0 w L->wpAnyH P .any l.toArray Q (λw=>A6 w0 w Lro) k (Array.replicate l.length false) a w):BL r P (.region id l.toArray true) Q n F w0 L:=λa w ha hw=>by
  refine wpIn_region_any hm (NI (S:=λw=>A6 w0 w Lro) hno (λi o ho=>cW (ops:=#[]) hnd i o (by simpa using ho)) _ _ _ _ ?_)
  rw [show l.toArray.size=l.length by simp,<-hk]
  subst hk
  exact h a w.drew ha hw.drew
end
section
variable {P:Program} {ops:Array Oper} {Q:Exit->Act->World->Prop} {n:Nat} {w0:Av} {Lro L L':List As} {F F':List (Nat×Value)} {l:List Oper} {N:List Ea} {e2:List (Nat×Bool)}
theorem BL.chainN {id:Nat} {r:Option Nat} (hno:∀a w,¬Q .outgrown a w) (hnd:No l=true) (e1:List (Nat×Bool)) (N:List Ea) (e2:List (Nat×Bool)) (hro:Lro.Sublist L) (hm:P.follows .mixedOrders=true) (hc:Sh l e1 N e2=true) (hN:∀x∈N,Jh P l n x) (hk0:noK N F=true) (hQ:∀c a d v w,Q (.panic c) (a.put d v) w->Q (.panic c) a w)
    (h:BU P l.toArray Q n w0 Lro N e2 e1 F L):BL r P (.region id l.toArray true) Q n F w0 L:=by
  simp only [Sh,xZ] at hc
  obtain ⟨⟨⟨⟨⟨⟨⟨⟨h1,h2⟩,h3⟩,h4⟩,h5⟩,h6⟩,h7⟩,h8⟩,h9⟩:=hc
  have hlen:=Nat.eq_of_beq_eq_true h5
  have hdis:∀e∈e1,e.1 ∉ N.map (·.i):=λe he=>by
    have:=List.all_eq_true.1 h9 e he
    simpa using this
  refine UC (Lro:=Lro) hno hnd hm (k:=e1.length+e2.length+N.length) hlen λa w ha hw=>?_
  refine W3 ⟨hN,h6,EC h7,EC h8,λx hx=>List.all_eq_true.1 h2 x hx,h3⟩ hQ (e1.length+N.length) e1 [] none [] (λ_=>0) _ a w F L N.length O jX h1 O (λx=>?_) hdis jX (λi hi=>?_) ⟨F8,by simp,List.nodup_nil,ha,by simp,by simpa [nL] using hw,hro,hk0⟩ h
  · rw [List.mem_append]
    refine or_congr Iff.rfl ⟨λhx=>.inr ?_,λhx=>?_⟩
    · obtain ⟨e,he,rfl⟩:=List.mem_map.1 hx
      exact List.any_eq_true.2 ⟨e,he,by simp⟩
    · rcases hx with hx|hx
      · cases hx
      · obtain ⟨e,he,rfl⟩:=GS hx
        exact List.mem_map_of_mem he
  · have:=List.all_eq_true.1 h4 i (List.mem_range.2 hi)
    rw [xY] at this
    rcases this with h|h
    · exact .inl (by simpa using h)
    · exact .inr (.inr h)
theorem iN {id:Nat} {r:Option Nat} (e1:List (Nat×Bool)) (N:List Ea) (e2:List (Nat×Bool)) (hro:Lro.Sublist L) (hc:Sh l e1 N e2=true) (hQ:∀c a d v w,Q (.panic c) (a.put d v) w->Q (.panic c) a w) (hN:∀x∈N,Jh prog l n x) (hk0:noK N F=true) (hno:∀a w,¬Q .outgrown a w) (hnd:No l=true) (h:BU prog l.toArray Q n w0 Lro N e2 e1 F L):BL r prog (.region id l.toArray true) Q n F w0 L:=BL.chainN hno hnd e1 N e2 hro DW hc hN hk0 hQ h
end
end
end Go.Proofs.YtcpkbjjmcleplaaGreatDoor
