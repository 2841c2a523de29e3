import Derived.OrdersIn
import Derived.Test.YtcpkbjjmcleplaaGreatDoorPart25
namespace Go.Proofs.YtcpkbjjmcleplaaGreatDoor
open Go Go.RowKit Go.Proofs.Tryz
open Go.Value renaming slice→qz,bool→qa
set_option linter.unusedVariables false
set_option linter.unusedSimpArgs false
section
set_option maxRecDepth 100000
theorem TK (x y:Pc) (hs:Sz x.lo+Sz y.lo<=1000000) (w:World)  :Calls prog 41 #[(aG (Ca x)),(aG (Ca y))] w (Ac w (vI (Ha x y))):=by
 refine AV (args:=[(aG (Ca x)),(aG (Ca y))]) func41 O O (leB O) (zI (sL [0,1] O) (q4 (BH (cs:=Ca x) O λb1=>BH (cs:=Ca y) O λb2=>asg' O (q6 (sL [2,3,4] O) (B9 (EV 4++[(5,true),(6,true),(7,true),(8,true),(4,false),(9,false),(10,false),(11,false),(12,true)]) sr (Am (v:=(pP b1 1)) O (AA O underlying75 O sizeOf60 O) (Dz 1 (AC x.lo) A9 O (Am (v:=(pP b2 1)) O (AA O underlying75 O sizeOf60 O) (Dz 0 (AC y.lo) A9 O ?_)))))))))
 refine Am (v:=(pP b1 0)) O (AA O underlying75 O sizeOf3 O) (CL 1 (vN x.tri) Dc O (Am (v:=(pP b2 0)) O (AA O underlying75 O sizeOf3 O) (CL 0 (vN y.tri) Dc O (zD O (ck' call43 (K1 x.lo y.lo Z) O (zC sr (zD O (ck' call44 (Yy x.tri y.tri) O (zC sr (zD O (zZ (V:=λb3=>(qz (jk b3) 2 2)) (T:=3) (cs:=[(vI (BR x.lo y.lo)),(vI (G0 x.tri y.tri))]) (AG O) (Ai (cs:=[(vI (BR x.lo y.lo)),(vI (G0 x.tri y.tri))]) (pv:=[(0,(vI (BR x.lo y.lo))),(1,(vI (G0 x.tri y.tri)))]) underlying79 sizeOf3 zeroValue3 jY jY O jV) O (leB O) λb3=>?_)))))))))))
 exact zC (sl sr) (zD O (yb (v:=(vI (XB (BR x.lo y.lo) (G0 x.tri y.tri)))) (i:=0) (cs':=[(vI (BR x.lo y.lo)),(vI (G0 x.tri y.tri))]) (L':=[AO b3 3 ([(vI (BR x.lo y.lo)),(vI (G0 x.tri y.tri))]),AO b2 75 (Ca y),AO b1 75 (Ca x)]) (AG O) (Ag (args:=[(qz (jk b3) 2 2)]) O O call42) O (λw hw=>V3 (BR x.lo y.lo) (G0 x.tri y.tri) _ w (hw.get (i:=0) O)) (λd hd=>by cases hd<;>exact (leB O)) O (zC (sl sr) (pS' O (zP (zB (sL [4] O) (zA (zF (ret_one O (rd_tmp (v:=(vI (XB (BR x.lo y.lo) (G0 x.tri y.tri)))) O) (λw hw=>⟨by rw [<-cu],hw.out⟩))))))))))
theorem UO (x y:Pc) (tl:List Value) (cp:Nat) (g:Nat) (hcp:2<=cp) (hs:Sz x.lo+Sz y.lo<=1000000) (w:World) (hg:w.heap[g]?=some (.cells (Ca x++(Ca y++tl)).toArray 75 (0,0))):Calls prog 125 #[(qz (jk g) 2 cp),(vI 0),(vI 2),(Value.func (.func 41) #[] #[])] w (λe w'=>e=.returned (.tuple #[])/\LK w w' (some g)/\w'.heap[g]?=some (.cells (Iq x y tl).toArray 75 (0,0))):=by
 refine Ft (args:=[(qz (jk g) 2 cp),(vI 0),(vI 2),(Value.func (.func 41) #[] #[])]) (g:=g) (T:=75) (cs:=Ca x++(Ca y++tl)) func125 O O (leB O) hg (zI (sL [0,1,2,3] O) (q4 (AK O (st' (AX (c:=(1:Int)) O O jY) O (asg' O (oNl' (zB (sL [0,1,2,3,8] O) (zA (zM (yF 3 (zl ?_)))))))))))
 refine zS (q4 (AK O (AK O (st' (Aa (c:=true) O O jY) O (oNl' (zB (sL [0,1,2,3,8,14] O) (zA (zY O (zG (q1 (zM ?_)))))))))))
 refine q4 (AK O (asg' O (oNl' (zB (sL [0,1,2,3,8,9] O) (zA (zM (yF 3 (zl (zS (zS (B9 (EV 14++[(14,false),(15,true),(16,true)]) sr ?_)))))))))))
 refine Bi O (Bi O (Am O (CC (c:=true) O O jY) (Bi O (zQ (v:=(Value.func (.func 41) #[] #[])) O (AE O) (BF O) O O (zQ (v:=(qz (jk g) 2 cp)) O (AE O) (BF O) O O (zQ (v:=(vI 1)) O (AE O) (BF O) O O (zQ (v:=(pP g 11)) O (AE O) (AH (j:=1) O O underlying72 sizeOf75 O Z O) O O (zQ (v:=(aG (Ca y))) O (AE O) (AY (i:=0) (vs:=Ca y) O O Qb.a Qb.s O O) O O (zQ (v:=(qz (jk g) 2 cp)) O (AE O) (BF O) O O (zQ (v:=(vI 1)) O (AE O) (BF O) O O (zQ (v:=(vI 0)) O (AE O) (BY (c:=(0:Int)) O O jY) O O ?_)))))))))))
 refine zQ (v:=(pP g 0)) O (AE O) (AH (j:=0) O O underlying72 sizeOf75 O Z O) O O (zQ (v:=(aG (Ca x))) O (AE O) (AY (i:=0) (vs:=Ca x) O O Qb.a Qb.s O O) O O (zD O (zd (v:=(vI (Ha y x))) (AE O) (Ag (args:=[(aG (Ca y)),(aG (Ca x))]) O O call41) (λw hw=>TK y x Z w) O (leB O) (zC sr (zQ (v:=(qa (decide ((Ha y x)<(0:Int))))) O (AE O) (Aa (c:=(decide ((Ha y x)<(0:Int)))) O O O) O O (Am (v:=(qa (decide ((Ha y x)<(0:Int))))) O (ex_pick_true O O) (zP (zB (sL [0,1,2,3,8,9,22,23,24,25,26,27,28,29,30,31,32,33,34] O) (zA ?_)))))))))
 refine zK O (λhc1=>?_) (λhc1=>?_)
 ·replace hc1:=xR hc1
  have hr:=di (tl:=tl) hc1
  refine zG (q1 (zM ?_))
  refine dA (sl sr) (dC (dC (dC (dC (dC (dC (dC (dC (dC (dC (dC (dC (dC (dC (dC (dN)))))))))))))))) (λ_=>vC (bb 0 (qz (jk g) 2 cp) (λ_=>by kernel_rfl)) (vC (bb 9 (vI 1) (λ_=>by kernel_rfl)) (vC (bb 0 (qz (jk g) 2 cp) (λ_=>by kernel_rfl)) (vC (bb 9 (vI 1) (λ_=>by kernel_rfl)) (vC (dy (G:=[(40,(vI 1))]) (λ_=>by kernel_rfl) (λ_=>BY (c:=(0:Int)) O O jY)) (vC (bb 0 (qz (jk g) 2 cp) (λ_=>by kernel_rfl)) (vC (bb 9 (vI 1) (λ_=>by kernel_rfl)) (vC (dy (G:=[(43,(vI 1))]) (λ_=>by kernel_rfl) (λ_=>BY (c:=(0:Int)) O O jY)) (vC (dy (v:=(pP g 0)) (G:=[(42,(qz (jk g) 2 cp)),(44,(vI 0))]) (λ_=>by kernel_rfl) (λ_=>AH (j:=0) O O underlying72 sizeOf75 O Z O)) (vC (Qm (v:=λβ=>(aG (Ca x))) (ks:=[]) (G:=λβ=>[(45,(pP g 0))]) (λβ=>sF jV) (λβ=>AY (i:=0) (vs:=Ca x) O O Qb.a Qb.s O O)) (vC (bb 0 (qz (jk g) 2 cp) (λ_=>by kernel_rfl)) (vC (bb 9 (vI 1) (λ_=>by kernel_rfl)) (vC (dy (v:=(pP g 11)) (G:=[(47,(qz (jk g) 2 cp)),(48,(vI 1))]) (λ_=>by kernel_rfl) (λ_=>AH (j:=1) O O underlying72 sizeOf75 O Z O)) (vC (Qm (v:=λβ=>(aG (Ca y))) (ks:=[]) (G:=λβ=>[(49,(pP g 11))]) (λβ=>sF jV) (λβ=>AY (i:=0) (vs:=Ca y) O O Qb.a Qb.s O O)) (vC (dy (v:=(pP g 11)) (G:=[(37,(qz (jk g) 2 cp)),(38,(vI 1))]) (λ_=>by kernel_rfl) (λ_=>AH (j:=1) O O underlying72 sizeOf75 O Z O)) (KE.nil)))))))))))))))) jV jV (λ_ _ d _ _ h=>by cases d<;>exact h) (λβ _=>?_)
  refine io (F':=[(0,(qz (jk g) 2 cp)),(1,(vI 0)),(2,(vI 2)),(3,(Value.func (.func 41) #[] #[])),(8,(vI 1)),(9,(vI 1)),(22,(Value.func (.func 41) #[] #[])),(23,(qz (jk g) 2 cp)),(24,(vI 1)),(25,(pP g 11)),(26,(aG (Ca y))),(27,(qz (jk g) 2 cp)),(28,(vI 1)),(29,(vI 0)),(30,(pP g 0)),(31,(aG (Ca x))),(32,(vI (Ha y x))),(33,(qa (decide ((Ha y x)<(0:Int))))),(39,(qz (jk g) 2 cp)),(41,(vI 0)),(46,(aG (Ca x))),(50,(aG (Ca y))),(51,(pP g 11))]) O O (y1 (i:=0) (off:=11) (vs:=Ca x) (cs':=Ca x++(Ca x++tl)) (L':=[AO g 75 (Ca x++(Ca x++tl))]) (sl sr) (AG O) O O O O O sizeOf75 O O O O (Fd.step (v:=(pP g 0)) (sl sr) (AG O) (AH (j:=0) O O underlying72 sizeOf75 O Z O) O (leB O) (y1 (i:=0) (off:=0) (vs:=Ca y) (cs':=Ca y++(Ca x++tl)) (L':=[AO g 75 (Ca y++(Ca x++tl))]) (sl sr) (AG O) O O O O O sizeOf75 O O O O (Fd.nil (zB (sL [0,1,2,3,8,9,22,23,24,25,26,27,28,29,30,31,32,33] O) (zJ (zA (zH (AK O (st' (BY (c:=(0:Int)) O O jY) O (asg' O ?_)))))))))))
  refine oNl' (zB (sL [0,1,2,3,8,9,22,23,24,25,26,27,28,29,30,31,32,33] O) (z8 (zl (zS (zS (B9 (EV 14++[(14,false),(15,true),(16,true)]) sr (Bi O (Bi O (Am O (CC (c:=false) O O jY) (Bi O (zc O (A7 O) O O ?_)))))))))))
  refine zc O (A7 O) O O (zc O (A7 O) O O (zc O (A7 O) O O (zc O (A7 O) O O (zc O (A7 O) O O (zc O (A7 O) O O (zc O (A7 O) O O (zc O (A7 O) O O (zc O (A7 O) O O (zD O (BP O (zC sr ?_)))))))))))
  refine zc O (A7 O) O O (Am (v:=(qa false)) O (AN O O) (zP (zB (sL [0,1,2,3,8,9,34] O) (zA (zU O (zW (zO (zO (zR (zJ (zA ?_)))))))))))
  refine zH (AK O (st' (AX (c:=(2:Int)) O O jY) O (asg' O (oNl' (zB (sL [0,1,2,3,8,9] O) (z8 (zl (zS (q4 (AK O (AK O ?_)))))))))))
  exact st' (Aa (c:=false) O O jY) O (oNl' (zB (sL [0,1,2,3,8,9,14] O) (zA (zU O (zW (zO (zO (zR (DC (.inr O) O  (λw hw=>⟨rfl,hw.1,by rw [hr];exact hw.get (i:=0) O⟩))))))))))
 ·replace hc1:=xQ hc1
  have hr:=dh (tl:=tl) hc1
  refine zW (zO (zO (zR (zJ (zA (zH (AK O (st' (AX (c:=(2:Int)) O O jY) O (asg' O (oNl' (zB (sL [0,1,2,3,8,9,22,23,24,25,26,27,28,29,30,31,32,33] O) ?_)))))))))))
  refine z8 (zl (zS (q4 (AK O (AK O (st' (Aa (c:=false) O O jY) O (oNl' (zB (sL [0,1,2,3,8,9,22,23,24,25,26,27,28,29,30,31,32,33,14] O) (zA (zU O (zW ?_)))))))))))
  exact zO (zO (zR (DC (.inr O) O  (λw hw=>⟨rfl,hw.1,by rw [hr];exact hw.get (i:=0) O⟩))))
theorem Zg  (w:World)  :Calls prog 134 #[(Value.int .u64 (0:Int))] w (Ac w (vI 0)):=by
 refine AV (args:=[(Value.int .u64 (0:Int))]) func134 O O (leB O) (zI (sL [0] O) (q4 (asg' O (oNl' (q1 (q4 (AK O (st' (Cy (c:=false) O O jY) O (oNl' (zB (sL [0,2,4] O) (zA ?_)))))))))))
 refine zU O (zG (q1 (q4 (AK O (st' (Cy (c:=false) O O jY) O (oNl' (zB (sL [0,2,8] O) (zA (zU O (zG (q1 ?_)))))))))))
 refine q4 (AK O (st' (Cy (c:=false) O O jY) O (oNl' (zB (sL [0,2,14] O) (zA (zU O (zG (q2 (AK O (AK O (st' (Al (c:=(0:Int)) O underlying52 underlying5 jY) O ?_)))))))))))
 exact st' (v:=(Value.int .u8 (0:Int))) (Fk (j:=0) (m:=0) O O underlying9 jV jY) O (st' (Al (c:=(0:Int)) O underlying5 underlying3 jY) O (st' (AX (c:=(0:Int)) O O jY) O (asg' O (oNl' (zB (sL [0,2] O) (zA (zF (ret_one O (rd_tmp (v:=(vI 0)) O) (λw hw=>⟨rfl,hw.out⟩)))))))))
theorem eS  (w:World)  :Calls prog 81 #[(Value.int .u64 (0:Int))] w (Ac w (vI 0)):=by
 refine AV (args:=[(Value.int .u64 (0:Int))]) func81 O O (leB O) (zI (sL [0] O) (q4 (asg' O (oNl' (q1 (zU O (zG (q2 (AK O (ck' call134 (Zg) O (asg' O ?_)))))))))))
 exact oNl' (zB (sL [0,2] O) (zA (zF (ret_one O (rd_tmp (v:=(vI 0)) O) (λw hw=>⟨rfl,hw.out⟩)))))
theorem Zh  (w:World)  :Calls prog 134 #[(Value.int .u64 (2:Int))] w (Ac w (vI 2)):=by
 refine AV (args:=[(Value.int .u64 (2:Int))]) func134 O O (leB O) (zI (sL [0] O) (q4 (asg' O (oNl' (q1 (q4 (AK O (st' (Cy (c:=false) O O jY) O (oNl' (zB (sL [0,2,4] O) (zA ?_)))))))))))
 refine zU O (zG (q1 (q4 (AK O (st' (Cy (c:=false) O O jY) O (oNl' (zB (sL [0,2,8] O) (zA (zU O (zG (q1 ?_)))))))))))
 refine q4 (AK O (st' (Cy (c:=false) O O jY) O (oNl' (zB (sL [0,2,14] O) (zA (zU O (zG (q2 (AK O (AK O (st' (Al (c:=(2:Int)) O underlying52 underlying5 jY) O ?_)))))))))))
 exact st' (v:=(Value.int .u8 (2:Int))) (Fk (j:=2) (m:=2) O O underlying9 jV jY) O (st' (Al (c:=(2:Int)) O underlying5 underlying3 jY) O (st' (AX (c:=(2:Int)) O O jY) O (asg' O (oNl' (zB (sL [0,2] O) (zA (zF (ret_one O (rd_tmp (v:=(vI 2)) O) (λw hw=>⟨rfl,hw.out⟩)))))))))
theorem eT  (w:World)  :Calls prog 81 #[(Value.int .u64 (2:Int))] w (Ac w (vI 2)):=by
 refine AV (args:=[(Value.int .u64 (2:Int))]) func81 O O (leB O) (zI (sL [0] O) (q4 (asg' O (oNl' (q1 (zU O (zG (q2 (AK O (ck' call134 (Zh) O (asg' O ?_)))))))))))
 exact oNl' (zB (sL [0,2] O) (zA (zF (ret_one O (rd_tmp (v:=(vI 2)) O) (λw hw=>⟨rfl,hw.out⟩)))))
theorem Z9 (x y:Pc) (tl:List Value) (cp:Nat) (g:Nat) (hcp:2<=cp) (hs:Sz x.lo+Sz y.lo<=1000000) (w:World) (hg:w.heap[g]?=some (.cells (Ca x++(Ca y++tl)).toArray 75 (0,0))):Calls prog 80 #[(qz (jk g) 2 cp),(vI 0),(vI 2),(vI 2),(Value.func (.func 41) #[] #[])] w (λe w'=>e=.returned (.tuple #[])/\LK w w' (some g)/\w'.heap[g]?=some (.cells (Iq x y tl).toArray 75 (0,0))):=by
 refine Ft (args:=[(qz (jk g) 2 cp),(vI 0),(vI 2),(vI 2),(Value.func (.func 41) #[] #[])]) (g:=g) (T:=75) (cs:=Ca x++(Ca y++tl)) func80 O O (leB O) hg (zI (sL [0,1,2,3,4] O) (q4 (asg' O (oNl' (q2 (asg' O (oNl' (zA (zM (yF 1 (zl ?_)))))))))))
 refine zM (q4 (AK O (AK O (st' (BY (c:=(2:Int)) O O jY) O (asg' O (q6 (sL [0,1,2,3,4,10,11,12] O) (q4 (AK O (st' (FB (c:=true) O O jY) O (oNl' (zB (sL [0,1,2,3,4,10,11,12,25] O) ?_)))))))))))
 refine zA (zY O (q4 (AK O (AK O (AK O (AK O (yb (v:=(Value.tuple #[])) (i:=0) (cs':=Iq x y tl) (L':=[AO g 75 (Iq x y tl)]) (AG O) (Ag (args:=[(qz (jk g) 2 cp),(vI 0),(vI 2),(Value.func (.func 41) #[] #[])]) O O call125) O (λw hw=>UO x y tl cp _ hcp hs w (hw.get (i:=0) O)) (λd hd=>by cases hd<;>exact (leB O)) O (oNl' (zB (sL [0,1,2,3,4,10,11,12] O) (zA (zF ?_)))))))))))
 exact zL (zV (zL (zV (DC (.inl O) O  (λw hw=>⟨rfl,hw.1,hw.get (i:=0) O⟩)))))
theorem Xq (x y:Pc) (tl:List Value) (cp:Nat) (g:Nat) (hcp:2<=cp) (hs:Sz x.lo+Sz y.lo<=1000000) (w:World) (hg:w.heap[g]?=some (.cells (Ca x++(Ca y++tl)).toArray 75 (0,0))):Calls prog 40 #[(qz (jk g) 2 cp),(Value.func (.func 41) #[] #[])] w (λe w'=>e=.returned (.tuple #[])/\LK w w' (some g)/\w'.heap[g]?=some (.cells (Iq x y tl).toArray 75 (0,0))):=by
 refine Ft (args:=[(qz (jk g) 2 cp),(Value.func (.func 41) #[] #[])]) (g:=g) (T:=75) (cs:=Ca x++(Ca y++tl)) func40 O O (leB O) hg (zI (sL [0,1] O) (q4 (AK O (st' (v:=(vI 2)) (AD O underlying72) O (asg' O (oNl' (zB (sL [0,1,4] O) (zA (zH (AK O (AK O ?_)))))))))))
 exact AK O (st' (Al (c:=(2:Int)) O underlying3 underlying164 jY) O (ck' call81 (eT) O (AK O (yb (v:=(Value.tuple #[])) (i:=0) (cs':=Iq x y tl) (L':=[AO g 75 (Iq x y tl)]) (AG O) (Ag (args:=[(qz (jk g) 2 cp),(vI 0),(vI 2),(vI 2),(Value.func (.func 41) #[] #[])]) O O call80) O (λw hw=>Z9 x y tl cp _ hcp hs w (hw.get (i:=0) O)) (λd hd=>by cases hd<;>exact (leB O)) O (oNl' (zB (sL [0] O) (DC (.inr O) O  (λw hw=>⟨rfl,hw.1,hw.get (i:=0) O⟩))))))))
theorem UN  (w:World)  :Calls prog 125 #[jj,(vI 0),(vI 0),(Value.func (.func 41) #[] #[])] w (Ac w (Value.tuple #[])):=by
 refine AV (args:=[jj,(vI 0),(vI 0),(Value.func (.func 41) #[] #[])]) func125 O O (leB O) (zI (sL [0,1,2,3] O) (q4 (AK O (st' (AX (c:=(1:Int)) O O jY) O (asg' O (oNl' (zB (sL [0,1,2,3,8] O) (zA (zM (yF 1 (zl ?_)))))))))))
 refine zS (q4 (AK O (AK O (st' (Aa (c:=false) O O jY) O (oNl' (zB (sL [0,1,2,3,8,14] O) (zA (zU O (zW (zO (zO ?_)))))))))))
 exact zR (DC (.inr O) O  (λw hw=>⟨rfl,hw.out⟩))
theorem Z8  (w:World)  :Calls prog 80 #[jj,(vI 0),(vI 0),(vI 0),(Value.func (.func 41) #[] #[])] w (Ac w (Value.tuple #[])):=by
 refine AV (args:=[jj,(vI 0),(vI 0),(vI 0),(Value.func (.func 41) #[] #[])]) func80 O O (leB O) (zI (sL [0,1,2,3,4] O) (q4 (asg' O (oNl' (q2 (asg' O (oNl' (zA (zM (yF 1 (zl ?_)))))))))))
 refine zM (q4 (AK O (AK O (st' (BY (c:=(0:Int)) O O jY) O (asg' O (q6 (sL [0,1,2,3,4,10,11,12] O) (q4 (AK O (st' (FB (c:=true) O O jY) O (oNl' (zB (sL [0,1,2,3,4,10,11,12,25] O) ?_)))))))))))
 refine zA (zY O (q4 (AK O (AK O (AK O (AK O (ck' call125 (UN) O (oNl' (zB (sL [0,1,2,3,4,10,11,12] O) (zA (zF ?_)))))))))))
 exact zL (zV (zL (zV (DC (.inl O) O  (λw hw=>⟨rfl,hw.out⟩)))))
theorem QY  (w:World)  :Calls prog 40 #[jj,(Value.func (.func 41) #[] #[])] w (Ac w (Value.tuple #[])):=by
 refine AV (args:=[jj,(Value.func (.func 41) #[] #[])]) func40 O O (leB O) (zI (sL [0,1] O) (q4 (AK O (st' (v:=(vI 0)) (AD O underlying72) O (asg' O (oNl' (zB (sL [0,1,4] O) (zA (zH (AK O (AK O ?_)))))))))))
 exact AK O (st' (Al (c:=(0:Int)) O underlying3 underlying164 jY) O (ck' call81 (eS) O (AK O (ck' call80 (Z8) O (oNl' (zB (sL [0] O) (DC (.inr O) O  (λw hw=>⟨rfl,hw.out⟩))))))))
end
section
theorem en {ops:Array Oper} {l:List Oper} (h:Oi l=true):∀(i:Nat) (o:Oper),l[i]?=some o->∀c,o.op≠.defer c:=by
  induction l with
  | nil=>intro i o hi;cases i<;>simp at hi
  | cons x l ih =>
    unfold Oi at h
    have h2:=(xZ _ _▸h:_/\_)
    intro i o hi c
    cases i with
    | zero =>
      simp only [List.getElem?_cons_zero,Option.some.injEq] at hi
      subst hi
      intro e
      have h3:=h2.1
      rw [e] at h3
      cases h3
    | succ i=>exact ih h2.2 i o (by simpa using hi) c
section
variable {r:Option Nat} {P:Program} {ops:Array Oper} {Q:Exit->Act->World->Prop} {S:World->Prop}
theorem bE {i:Nat} {a:Act} {w:World} {K K':Act->World->Prop} (hno:∀a w,¬Q .outgrown a w) (hnd:∀(i:Nat) (o:Oper),ops[i]?=some o->∀c,o.op≠.defer c) (hK:∀a w,K a w->K' a w) (h:wpOp P ops Q i K a w):wpOpIn (rF r) 0 P ops Q i K' a w:=by
  unfold wpOp at h
  unfold wpOpIn
  cases ho:ops[i]? with
  | none=>simp only [ho] at h ⊢;exact hK _ _ h
  | some o =>
    simp only [ho] at h ⊢
    split
    · rename_i hw
      rw [if_pos hw] at h
      rcases h with h|⟨_,a',w',h⟩
      · exact TD hK (λ_ _ k=>k) (λk=>k) (hnd i o ho) h
      · exact absurd h (hno a' w')
    · rename_i hw
      rw [if_neg hw] at h
      exact ⟨λ_ _=>trivial,hK _ _ h⟩
theorem N9 (hno:∀a w,¬Q .outgrown a w) (hnd:∀(i:Nat) (o:Oper),ops[i]?=some o->∀c,o.op≠.defer c):∀(fuel:Nat) (listed:Array Bool) (a:Act) (w:World),wpAnyH P .any ops Q S fuel listed a w->wpAnyIn (rF r) 0 P .any ops Q fuel listed a w
  | 0,_,_,_,h=>h
  | fuel+1,listed,a,w,h=>⟨h.1,λi hi=>bE hno hnd (λa' w' k=>N9 hno hnd fuel _ a' w' k.2) (h.2 i hi)⟩
end
section
variable {P:Program} {ops:Array Oper} {Q:Exit->Act->World->Prop} {n:Nat} {w0:Ay} {Lro L L':List As} {F F':List (Nat×Value)} {l:List Oper}
theorem VO {id:Nat} {r:Option Nat} {l:List Oper} (hno:∀a w,¬Q .outgrown a w) (hnd:Oi l=true) (hm:P.follows .mixedOrders=true) {k:Nat} (hk:k=l.length) (h:∀a w,Cg n a F->A_ w0 w L->wpAnyH P .any l.toArray Q (λw=>A_ w0 w Lro) k (Array.replicate l.length false) a w):BS r P (.region id l.toArray true) Q n F w0 L:=λa w ha hw=>by
  refine wpIn_region_any hm (N9 (S:=λw=>A_ w0 w Lro) hno (λi o ho=>en (ops:=#[]) hnd i o (by simpa using ho)) _ _ _ _ ?_)
  rw [show l.toArray.size=l.length by simp,<-hk]
  subst hk
  exact h a w.drew ha hw.drew
end
section
variable {P:Program} {ops:Array Oper} {Q:Exit->Act->World->Prop} {n:Nat} {w0:Ay} {Lro L L':List As} {F F':List (Nat×Value)} {l:List Oper} {N:List E3} {e2:List (Nat×Bool)}
theorem BS.chainN {id:Nat} {r:Option Nat} (hno:∀a w,¬Q .outgrown a w) (hnd:Oi l=true) (e1:List (Nat×Bool)) (N:List E3) (e2:List (Nat×Bool)) (hro:Lro.Sublist L) (hm:P.follows .mixedOrders=true) (hc:Tu l e1 N e2=true) (hN:∀x∈N,KD P l n x) (hk0:noK N F=true) (hQ:∀c a d v w,Q (.panic c) (a.put d v) w->Q (.panic c) a w)
    (h:Be P l.toArray Q n w0 Lro N e2 e1 F L):BS r P (.region id l.toArray true) Q n F w0 L:=by
  simp only [Tu,xZ] at hc
  obtain ⟨⟨⟨⟨⟨⟨⟨⟨h1,h2⟩,h3⟩,h4⟩,h5⟩,h6⟩,h7⟩,h8⟩,h9⟩:=hc
  have hlen:=Nat.eq_of_beq_eq_true h5
  have hdis:∀e∈e1,e.1 ∉ N.map (·.i):=λe he=>by
    have:=List.all_eq_true.1 h9 e he
    simpa using this
  refine VO (Lro:=Lro) hno hnd hm (k:=e1.length+e2.length+N.length) hlen λa w ha hw=>?_
  refine YJ ⟨hN,h6,Ei h7,Ei h8,λx hx=>List.all_eq_true.1 h2 x hx,h3⟩ hQ (e1.length+N.length) e1 [] none [] (λ_=>0) _ a w F L N.length O jX h1 O (λx=>?_) hdis jX (λi hi=>?_) ⟨Gb,by simp,List.nodup_nil,ha,by simp,by simpa [nL] using hw,hro,hk0⟩ h
  · rw [List.mem_append]
    refine or_congr Iff.rfl ⟨λhx=>.inr ?_,λhx=>?_⟩
    · obtain ⟨e,he,rfl⟩:=List.mem_map.1 hx
      exact List.any_eq_true.2 ⟨e,he,by simp⟩
    · rcases hx with hx|hx
      · cases hx
      · obtain ⟨e,he,rfl⟩:=Gx hx
        exact List.mem_map_of_mem he
  · have:=List.all_eq_true.1 h4 i (List.mem_range.2 hi)
    rw [xY] at this
    rcases this with h|h
    · exact .inl (by simpa using h)
    · exact .inr (.inr h)
theorem iN {id:Nat} {r:Option Nat} (e1:List (Nat×Bool)) (N:List E3) (e2:List (Nat×Bool)) (hro:Lro.Sublist L) (hc:Tu l e1 N e2=true) (hQ:∀c a d v w,Q (.panic c) (a.put d v) w->Q (.panic c) a w) (hN:∀x∈N,KD prog l n x) (hk0:noK N F=true) (hno:∀a w,¬Q .outgrown a w) (hnd:Oi l=true) (h:Be prog l.toArray Q n w0 Lro N e2 e1 F L):BS r prog (.region id l.toArray true) Q n F w0 L:=BS.chainN hno hnd e1 N e2 hro Dp hc hN hk0 hQ h
end
end
end Go.Proofs.YtcpkbjjmcleplaaGreatDoor
