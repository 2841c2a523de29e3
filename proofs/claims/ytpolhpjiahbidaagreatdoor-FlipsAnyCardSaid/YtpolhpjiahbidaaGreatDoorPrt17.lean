import Derived.Test.YtpolhpjiahbidaaGreatDoorPrt14
import Derived.Test.YtpolhpjiahbidaaGreatDoorPrt16
namespace Go.Proofs.YtpolhpjiahbidaaGreatDoor
open Go Go.RowKit Go.Proofs.Tryz
open Go.Value renaming slice→qz,bool→qa
set_option linter.unusedVariables false
set_option linter.unusedSimpArgs false
section
set_option maxRecDepth 100000
theorem Dy {x:Nat} (neg:Bool) (n:NX x) (w:World) {S:Nat->Prop} (hn:Ro S w n)  :Calls prog 163 #[(qa neg),(CL n)] w (Ai (ZX (EG neg x)) S w):=by
 have ln:=Bq (W:=w) hn
 refine AR (args:=[(qa neg),(CL n)]) (L:=[BM n]) func163 O O (leB O) (e7 hn Ae) (zM (sL [0,1] O) (q4 (al UW O λb1=>oNl' (q2 (AJ O (AJ O ?_))))))
 refine zg (FM:=[(0,(qa neg)),(1,(CL n)),(4,(pP b1 0)),(5,(qa neg)),(6,(qa neg)),(10,(qa (neg&&(decide (0<((dg x).length))))))]) (LM:=[AU b1 81 ([(qa false),jj]),BM n]) 4 ?_ ?_
 ·rcases xO neg with hg1|hg1
  ·refine zK (k:=6) (u:=qa true) O (by rw [hg1]) ?_
   have hg1':=hg1
   skip
   exact EV O (Au (v:=(vN ((dg x).length))) O (AD O underlying79) (Au (v:=(qa (decide (0<((dg x).length))))) O (B2 (c:=(decide (0<((dg x).length)))) O O (B_ (a:=0) (b:=(dg x).length))) (st' (v:=(qa (decide (0<((dg x).length))))) (ex_pick_true O O) O (oNl' (zS Bi (xP _))))))
  ·refine zK (k:=6) (u:=qa false) O (by rw [hg1]) ?_
   have hg1':=hg1
   skip
   exact Aw O (Aw O (Aw O (st' (v:=(qa false)) (AI O O) O (oNl' (zS Bi (xP _))))))
 exact AJ O (st' (v:=(aG ([(qa (neg&&(decide (0<((dg x).length))))),(CL n)]))) (AO (zs:=[(qa false),jj]) (vs:=[(qa (neg&&(decide (0<((dg x).length))))),(CL n)]) (pv:=[(0,(qa (neg&&(decide (0<((dg x).length)))))),(1,(CL n))]) (places:=[(0,1),(1,1)]) zeroValue81 underlying81 (λw=>by simp [sizeOf4,sizeOf79]) O O) O (Aj O sizeOf81 O (oNl' (zF (sL [4] O) (zC (zH (ret_one O (Ah (i:=0) (cs:=[(qa (neg&&(decide (0<((dg x).length))))),(CL n)]) O O isAgg81 sizeOf81 O) (λw hw=>DR (a:=bj neg n) hw (gZ (cI (inS hw 1 O ln))) (by rw [<-cz];rfl)))))))))
theorem cx (z:Int) (hz:-9223372036854775808<=z) (hz2:z<9223372036854775808) (w:World) {S:Nat->Prop}  :Calls prog 157 #[(vI z)] w (Ai (ZX z) S w):=by
 refine AS (args:=[(vI z)]) func157 O O (leB O) (zM (sL [0] O) (q4 (al UW O λb1=>oNl' (q1 (q4 (AJ O (st' (AW (c:=(decide (z<(0:Int)))) O O O) O (oNl' (zF (sL [0,2,4] O) (zC ?_))))))))))
 refine zO O (λhc0=>?_) (λhc0=>?_)
 ·replace hc0:=xR hc0
  refine q4 (AJ O (st' (AV (c:=(z+1)) O O (BZ Z Z)) O (st' (Vx (c:=(((-(z+1)).toNat:Nat):Int)) O (by rw [BZ Z Z];omega)) O (st' (A6 (c:=(((-(z+1)).toNat:Nat):Int)) O underlying2 underlying69 (BT Z)) O (st' (AV (c:=((z.natAbs:Nat):Int)) O O (by rw [Di Z Z];omega)) O (cN (S:=S) (x:=z.natAbs) (args:=[(vK .u64 z.natAbs)]) call207 (λw hw=>Rs z.natAbs (by first|omega|(simp only [Int.natAbs_neg];omega)) w) O O O λg1 lg1=>cZ (S:=S) (x:=z) (args:=[(qa true),(CL g1)]) call163 (λw hw=>(Ai.cast (T:=λi=>ZX i) (HB hc0) (Dy true g1 w (inS hw 0 O lg1)))) O O O λg2 lg2=>E_ O sizeOf81 O (oNl' (zF (sL [0,2] O) (zC ?_)))))))))
  exact zH (zI (ret_one O (Ah (i:=2) (cs:=DT g2) O O isAgg81 sizeOf81 O) (λw hw=>DR (a:=(g2:ZX z)) hw (inS hw 0 O lg2) O)))
 ·replace hc0:=xQ hc0
  exact zJ (q2 (AJ O (st' (A6 (c:=((z.natAbs:Nat):Int)) O underlying2 underlying69 (by rw [Di Z Z];omega)) O (cN (S:=S) (x:=z.natAbs) (args:=[(vK .u64 z.natAbs)]) call207 (λw hw=>Rs z.natAbs (by first|omega|(simp only [Int.natAbs_neg];omega)) w) O O O λg3 lg3=>cZ (S:=S) (x:=z) (args:=[(qa false),(CL g3)]) call163 (λw hw=>(Ai.cast (T:=λi=>ZX i) (M9 hc0) (Dy false g3 w (inS hw 0 O lg3)))) O O O λg4 lg4=>E_ O sizeOf81 O (oNl' (zF (sL [0,2] O) (zC (zH (ret_one O (Ah (i:=2) (cs:=DT g4) O O isAgg81 sizeOf81 O) (λw hw=>DR (a:=(g4:ZX z)) hw (inS hw 0 O lg4) O))))))))))
theorem X7 {x:Int} (a:ZX x) (w:World) {S:Nat->Prop} (ha:Ro S w a)  :Calls prog 180 #[(aG (DT a))] w (AX w (vI x.sign)):=by
 have la:=Bq (W:=w) ha
 refine AR (args:=[(aG (DT a))]) (L:=[BM a.n]) func180 O O (leB O) (Zq ha Ae) (zM (sL [0] O) (q4 (BG (cs:=DT a) O λb1=>asg' O (q6 (sL [1,2] O) (q4 (st' (v:=(pP b1 1)) (AA O underlying81 O sizeOf79 O) O (A_ 0 (CL a.n) GT O (st' (v:=(vN ((dg x.natAbs).length))) (AD O underlying79) O (st' (A9 (c:=(decide (((dg x.natAbs).length)=0))) O O (MA (a:=(dg x.natAbs).length) (b:=0))) O (oNl' ?_))))))))))
 refine zF (sL [1,2,6] O) (zC ?_)
 refine zO O (λhc0=>?_) (λhc0=>?_)
 ·replace hc0:=xR hc0
  have he:x.sign=0:=by rw [show x=0 by have:=PU hc0;omega];rfl
  exact q4 (asg' O (oNl' (zC (zH (zI (ret_one O (rd_tmp (v:=(vI 0)) O) (λw hw=>⟨by rw [he],hw.out⟩)))))))
 ·replace hc0:=xQ hc0
  have hx0:=Ie hc0
  refine zJ (q1 (q4 (st' (v:=(pP b1 0)) (AA O underlying81 O sizeOf4 O) O (A_ 0 (qa (decide (x<0))) Kc O (oNl' (zF (sL [1,2,8] O) (zC ?_)))))))
  refine zO O (λhc1=>?_) (λhc1=>?_)
  ·replace hc1:=xR hc1
   have he:x.sign = -1:=Int.sign_eq_neg_one_of_neg hc1
   exact q4 (asg' O (oNl' (zC (zH (zI (ret_one O (rd_tmp (v:=(vI (-1:Int))) O) (λw hw=>⟨by rw [he],hw.out⟩)))))))
  ·replace hc1:=xQ hc1
   have he:x.sign=1:=Int.sign_eq_one_of_pos Z
   exact zJ (q2 (asg' O (oNl' (zC (zH (ret_one O (rd_tmp (v:=(vI 1)) O) (λw hw=>⟨by rw [he],hw.out⟩)))))))
theorem Z8 {x:Int} (a:ZX x) (w:World) {S:Nat->Prop} (ha:Ro S w a)  :Calls prog 219 #[(aG (DT a))] w (Ai (ZX (-x)) S w):=by
 have la:=Bq (W:=w) ha
 refine AR (args:=[(aG (DT a))]) (L:=[BM a.n]) func219 O O (leB O) (Zq ha Ae) (zM (sL [0] O) (q4 (BG (cs:=DT a) O λb1=>al UW O λb2=>q3 (sL [1,2] O) (st' (v:=(pP b1 0)) (AA O underlying81 O sizeOf4 O) O (A_ 1 (qa (decide (x<0))) Kc O (st' (BB (c:=(!(decide (x<0)))) O O) O (st' (v:=(pP b1 1)) (AA O underlying81 O sizeOf79 O) O (A_ 1 (CL a.n) GT O (cZ (S:=S) (x:=(-x)) (args:=[(qa (!(decide (x<0)))),(CL a.n)]) call163 (λw hw=>(Ai.cast (T:=λi=>ZX i) (Sb x) (Dy (!(decide (x<0))) a.n w (Pl (inS hw 2 O la))))) O O O λg1 lg1=>?_)))))))))
 exact CP O sizeOf81 O (oNl' (zF (sL [2] O) (zC (zH (ret_one O (Ah (i:=1) (cs:=DT g1) O O isAgg81 sizeOf81 O) (λw hw=>DR (a:=(g1:ZX (-x))) hw (inS hw 0 O lg1) O))))))
theorem Z7 {x y:Int} (a:ZX x) (b:ZX y) (hx:nw x.natAbs<=67108864) (hy:nw y.natAbs<=67108864) (w:World) {S:Nat->Prop} (ha:Ro S w a) (hb:Ro S w b)  :Calls prog 159 #[(aG (DT a)),(aG (DT b))] w (Ai (ZX (x+y)) S w):=by
 have la:=Bq (W:=w) ha
 have lb:=Bq (W:=w) hb
 refine AR (args:=[(aG (DT a)),(aG (DT b))]) (L:=[BM a.n,BM b.n]) func159 O O (leB O) (Zq ha (Zq hb Ae)) (zM (sL [0,1] O) (q4 (BG (cs:=DT a) O λb1=>BG (cs:=DT b) O λb2=>al UW O λb3=>q6 (sL [2,3,4] O) (q4 (st' (v:=(pP b1 0)) (AA O underlying81 O sizeOf4 O) O (A_ 2 (qa (decide (x<0))) Kc O (st' (v:=(pP b2 0)) (AA O underlying81 O sizeOf4 O) O (A_ 1 (qa (decide (y<0))) Kc O ?_))))))))
 refine st' (Fu (c:=(decide (x<0) == decide (y<0))) O O underlying4 O) O (oNl' (zF (sL [2,3,4,9] O) (zC ?_)))
 refine zO O (λhc0=>?_) (λhc0=>?_)
 ·refine zf (CE (Dm 6++[(6,false),(7,false),(8,false)]) (sl sr) (Ag (v:=(pP b1 0)) O (AA O underlying81 O sizeOf4 O) (BC 1 (qa (decide (x<0))) Kc O (Ag (v:=(pP b1 1)) O (AA O underlying81 O sizeOf79 O) (BC 1 (CL a.n) GT O (Ag (v:=(pP b2 1)) O (AA O underlying81 O sizeOf79 O) (BC 0 (CL b.n) GT O (zL O (cN (S:=S) (x:=(x.natAbs+y.natAbs)) (args:=[(CL a.n),(CL b.n)]) call198 (λw hw=>S1 a.n b.n (by first|omega|(simp only [Int.natAbs_neg];omega)) (by first|omega|(simp only [Int.natAbs_neg];omega)) w (Pl (inS hw 3 O la)) (Pl (inS hw 4 O lb))) O O O λg1 lg1=>zG (sl (sl sr)) (zL O ?_))))))))))
  exact cZ (S:=S) (x:=(x+y)) (args:=[(qa (decide (x<0))),(CL g1)]) call163 (λw hw=>(Ai.cast (T:=λi=>ZX i) (Ih hc0) (Dy (decide (x<0)) g1 w (inS hw 0 O lg1)))) O O O λg2 lg2=>zG (sl (sl (sl sr))) (zL O (E_ O sizeOf81 O (zG (sl (sl (sl sr))) (zT (zF (sL [2,3,4] O) (zC (zH (zI (ret_one O (Ah (i:=2) (cs:=DT g2) O O isAgg81 sizeOf81 O) (λw hw=>DR (a:=(g2:ZX (x+y))) hw (inS hw 0 O lg2) O))))))))))
 ·have hc0:(decide (x<0) == decide (y<0))=false:=by simpa using hc0
  refine zJ (q1 (q4 (st' (v:=(pP b1 1)) (AA O underlying81 O sizeOf79 O) O (A_ 2 (CL a.n) GT O (st' (v:=(pP b2 1)) (AA O underlying81 O sizeOf79 O) O (A_ 1 (CL b.n) GT O (Bx call211 (λw hw=>Z5 a.n b.n (by first|omega|(simp only [Int.natAbs_neg];omega)) (by first|omega|(simp only [Int.natAbs_neg];omega)) w (Pl (inS hw 3 O la)) (Pl (inS hw 4 O lb))) O (st' (CU (c:=(decide ((0:Int)<=(DO x.natAbs y.natAbs)))) O O O) O (oNl' (zF (sL [2,3,4,23] O) (zC ?_)))))))))))
  refine zO O (λhc1=>?_) (λhc1=>?_)
  ·replace hc1:=xR hc1
   have hge:y.natAbs<=x.natAbs:=by exact Nat.le_of_not_lt λh=>by have:=(Fq (a:=x.natAbs) (b:=y.natAbs)).2 h;omega
   refine zf (CE (Dm 6++[(6,false),(7,false),(8,false)]) (sl sr) (Ag (v:=(pP b1 0)) O (AA O underlying81 O sizeOf4 O) (BC 1 (qa (decide (x<0))) Kc O (Ag (v:=(pP b1 1)) O (AA O underlying81 O sizeOf79 O) (BC 1 (CL a.n) GT O (Ag (v:=(pP b2 1)) O (AA O underlying81 O sizeOf79 O) (BC 0 (CL b.n) GT O (zL O (cN (S:=S) (x:=(x.natAbs-y.natAbs)) (args:=[(CL a.n),(CL b.n)]) call210 (λw hw=>OU a.n b.n (by first|omega|(simp only [Int.natAbs_neg];omega)) (by first|omega|(simp only [Int.natAbs_neg];omega)) w (Pl (inS hw 3 O la)) (Pl (inS hw 4 O lb))) O O O λg3 lg3=>zG (sl (sl sr)) (zL O ?_))))))))))
   exact cZ (S:=S) (x:=(x+y)) (args:=[(qa (decide (x<0))),(CL g3)]) call163 (λw hw=>(Ai.cast (T:=λi=>ZX i) (LU hc0 hge) (Dy (decide (x<0)) g3 w (inS hw 0 O lg3)))) O O O λg4 lg4=>zG (sl (sl (sl sr))) (zL O (E_ O sizeOf81 O (zG (sl (sl (sl sr))) (zT (zF (sL [2,3,4] O) (zC (zH (zI (ret_one O (Ah (i:=2) (cs:=DT g4) O O isAgg81 sizeOf81 O) (λw hw=>DR (a:=(g4:ZX (x+y))) hw (inS hw 0 O lg4) O))))))))))
  ·replace hc1:=xQ hc1
   have hge:¬y.natAbs<=x.natAbs:=by have:=(Fq (a:=x.natAbs) (b:=y.natAbs)).1 Z;omega
   refine zJ (q1 (CE (Dm 6++[(6,false),(7,false),(8,false)]) (sl sr) (Ag (v:=(pP b2 0)) O (AA O underlying81 O sizeOf4 O) (BC 0 (qa (decide (y<0))) Kc O (Ag (v:=(pP b2 1)) O (AA O underlying81 O sizeOf79 O) (BC 0 (CL b.n) GT O (Ag (v:=(pP b1 1)) O (AA O underlying81 O sizeOf79 O) (BC 1 (CL a.n) GT O (zL O (cN (S:=S) (x:=(y.natAbs-x.natAbs)) (args:=[(CL b.n),(CL a.n)]) call210 (λw hw=>OU b.n a.n (by first|omega|(simp only [Int.natAbs_neg];omega)) (by first|omega|(simp only [Int.natAbs_neg];omega)) w (Pl (inS hw 4 O lb)) (Pl (inS hw 3 O la))) O O O λg5 lg5=>zG (sl (sl sr)) ?_))))))))))
   exact zL O (cZ (S:=S) (x:=(x+y)) (args:=[(qa (decide (y<0))),(CL g5)]) call163 (λw hw=>(Ai.cast (T:=λi=>ZX i) (LV hc0 hge) (Dy (decide (y<0)) g5 w (inS hw 0 O lg5)))) O O O λg6 lg6=>zG (sl (sl (sl sr))) (zL O (E_ O sizeOf81 O (zG (sl (sl (sl sr))) (zT (zF (sL [2,3,4] O) (zC (zH (ret_one O (Ah (i:=2) (cs:=DT g6) O O isAgg81 sizeOf81 O) (λw hw=>DR (a:=(g6:ZX (x+y))) hw (inS hw 0 O lg6) O))))))))))
theorem OV {x y:Int} (a:ZX x) (b:ZX y) (hx:nw x.natAbs<=67108864) (hy:nw y.natAbs<=67108864) (w:World) {S:Nat->Prop} (ha:Ro S w a) (hb:Ro S w b)  :Calls prog 160 #[(aG (DT a)),(aG (DT b))] w (Ai (ZX (x*y)) S w):=by
 have la:=Bq (W:=w) ha
 have lb:=Bq (W:=w) hb
 refine AR (args:=[(aG (DT a)),(aG (DT b))]) (L:=[BM a.n,BM b.n]) func160 O O (leB O) (Zq ha (Zq hb Ae)) (zM (sL [0,1] O) (q4 (BG (cs:=DT a) O λb1=>BG (cs:=DT b) O λb2=>al UW O λb3=>q6 (sL [2,3,4] O) (CE (Dm 9++[(9,false),(10,false),(11,false)]) (sl sr) (Ag (v:=(pP b1 0)) O (AA O underlying81 O sizeOf4 O) (BC 1 (qa (decide (x<0))) Kc O (Ag (v:=(pP b2 0)) O (AA O underlying81 O sizeOf4 O) (BC 0 (qa (decide (y<0))) Kc O ?_))))))))
 refine Ag O (Ji (c:=(!(decide (x<0) == decide (y<0)))) O O underlying4 O) (Ag (v:=(pP b1 1)) O (AA O underlying81 O sizeOf79 O) (BC 1 (CL a.n) GT O (Ag (v:=(pP b2 1)) O (AA O underlying81 O sizeOf79 O) (BC 0 (CL b.n) GT O (zL O (cN (S:=S) (x:=(x.natAbs*y.natAbs)) (args:=[(CL a.n),(CL b.n)]) call162 (λw hw=>OT a.n b.n (by first|omega|(simp only [Int.natAbs_neg];omega)) (by first|omega|(simp only [Int.natAbs_neg];omega)) w (Pl (inS hw 3 O la)) (Pl (inS hw 4 O lb))) O O O λg1 lg1=>zG (sl (sl sr)) (zL O (cZ (S:=S) (x:=(x*y)) (args:=[(qa (!(decide (x<0) == decide (y<0)))),(CL g1)]) call163 (λw hw=>(Ai.cast (T:=λi=>ZX i) (Sa x y) (Dy (!(decide (x<0) == decide (y<0))) g1 w (inS hw 0 O lg1)))) O O O λg2 lg2=>zG (sl (sl (sl sr))) (zL O ?_)))))))))
 exact E_ O sizeOf81 O (zG (sl (sl (sl sr))) (zT (zF (sL [4] O) (zC (zH (ret_one O (Ah (i:=2) (cs:=DT g2) O O isAgg81 sizeOf81 O) (λw hw=>DR (a:=(g2:ZX (x*y))) hw (inS hw 0 O lg2) O)))))))
theorem QC {x:Int} (a:ZX x) (hx:nw x.natAbs<=67108864) (w:World) {S:Nat->Prop} (ha:Ro S w a)  :Calls prog 145 #[(aG (DT a))] w (AX w (Value.string (txB (txI x)))):=by
 have la:=Bq (W:=w) ha
 refine AR (args:=[(aG (DT a))]) (L:=[BM a.n]) func145 O O (leB O) (Zq ha Ae) (zM (sL [0] O) (q4 (BG (cs:=DT a) O λb1=>asg' O (q6 (sL [1,2] O) (q4 (st' (v:=(pP b1 0)) (AA O underlying81 O sizeOf4 O) O (A_ 0 (qa (decide (x<0))) Kc O (oNl' (zF (sL [1,2,4] O) (zC ?_))))))))))
 refine zO O (λhc0=>?_) (λhc0=>?_)
 ·replace hc0:=xR hc0
  have he:txI x=45::Lib.decDigits x.natAbs:=by unfold txI;rw [if_pos hc0]
  exact q4 (st' (v:=(pP b1 1)) (AA O underlying81 O sizeOf79 O) O (A_ 0 (CL a.n) GT O (Bx call146 (λw hw=>L_ a.n (by first|omega|(simp only [Int.natAbs_neg];omega)) w (Pl (inS hw 1 O la))) O (st' (v:=(Value.string (txB (45::Lib.decDigits x.natAbs)))) (Bw (r:=(txB (45::Lib.decDigits x.natAbs))) O O (by have:=JA x.natAbs;rw [CG];show 1+_<=_;omega) (Cj [45] _)) O (asg' O (oNl' (zF (sL [1,2] O) (zC (zH (zI (ret_one O (rd_tmp (v:=(Value.string (txB (45::Lib.decDigits x.natAbs)))) O) (λw hw=>⟨by rw [he],hw.out⟩))))))))))))
 ·replace hc0:=xQ hc0
  have he:txI x=Lib.decDigits x.natAbs:=by unfold txI;rw [if_neg hc0]
  exact zJ (q2 (st' (v:=(pP b1 1)) (AA O underlying81 O sizeOf79 O) O (A_ 0 (CL a.n) GT O (Bx call146 (λw hw=>L_ a.n (by first|omega|(simp only [Int.natAbs_neg];omega)) w (Pl (inS hw 1 O la))) O (asg' O (oNl' (zF (sL [1,2] O) (zC (zH (ret_one O (rd_tmp (v:=(Value.string (txB (Lib.decDigits x.natAbs)))) O) (λw hw=>⟨by rw [he],hw.out⟩)))))))))))
end
theorem Ix (n:Int):decide (n.sign<0)=decide (n<0):=by
  rcases Int.lt_trichotomy n 0 with h|h|h
  · rw [Int.sign_eq_neg_one_of_neg h];simp [h]
  · subst h;rfl
  · rw [Int.sign_eq_one_of_pos h];simp;omega
theorem WX {n:Int} {d:Nat} (hd:d≠0):EG (decide (n<0)) (n.natAbs/Nat.gcd n.natAbs d)=(mkRat n d).num:=by rw [N6 hd,Ix]
theorem WW {n:Int} {d:Nat} (hd:d≠0):d/Nat.gcd n.natAbs d-1=(mkRat n d).den-1:=by rw [SZ hd]
theorem fd {b:Rat} (h:b≠0):mkRat (EG (decide (b.num<0)) b.den) b.num.natAbs=b⁻¹:=by rw [<-JI h,Ix]
theorem Yh {a b:Rat}:a*b⁻¹=a/b:=(Rat.div_def a b).symm
theorem Vo {a b:Rat} (h:b.num.sign=0):(0:Rat)=a/b:=by
  have h1:b=0:=Rat.num_eq_zero.1 (Int.sign_eq_zero_iff_zero.1 h)
  rw [h1,Rat.div_def,Rat.inv_zero,Rat.mul_zero]
theorem fP (a b:Rat):(a-b).num.sign=E5 a b:=by
  rw [<-H6]
  rw [Rat.sub_eq_add_neg,<-HY a (-b),Rat.neg_num,Rat.neg_den,Int.neg_mul,<-Int.sub_eq_add_neg]
  have hd:a.den*b.den≠0:=Nat.mul_ne_zero a.den_nz b.den_nz
  rw [N6 hd]
  have h:∀z:Int,(EG (decide (z.sign<0)) (z.natAbs/Nat.gcd z.natAbs (a.den*b.den))).sign=z.sign:=λz=>by
    rcases Int.lt_trichotomy z 0 with h|h|h
    · have hg:0<z.natAbs/Nat.gcd z.natAbs (a.den*b.den):=Nat.div_pos (Nat.gcd_le_left _ Z) (Nat.gcd_pos_of_pos_left _ Z)
      rw [Ix,Int.sign_eq_neg_one_of_neg h]
      exact Int.sign_eq_neg_one_of_neg (by unfold EG;simp [h];omega)
    · subst h;simp [EG]
    · have hg:0<z.natAbs/Nat.gcd z.natAbs (a.den*b.den):=Nat.div_pos (Nat.gcd_le_left _ Z) (Nat.gcd_pos_of_pos_left _ Z)
      rw [Ix,Int.sign_eq_one_of_pos h]
      refine Int.sign_eq_one_of_pos ?_
      have:¬z<0:=by omega
      unfold EG;simp [this];omega
  exact h _
def FX.zero:FX 0:=⟨⟨NX.zero⟩,NX.zero⟩
theorem bJ {x0:Pt} (f0:PX x0):Instr.fill (λi=>some (i*6,6)) ((Array.range (1*6)).map ((Value.agg (#[(qa false),jj,jj,(qa false),jj,jj])).cells[·%(Value.agg (#[(qa false),jj,jj,(qa false),jj,jj])).cells.size]!)) [(0,.agg (BU f0).toArray)]=some (BU f0).toArray:=by kernel_rfl
def KA (q:Rat):List UInt8:=if q.den-1=0 then txI q.num else txI q.num++47::Lib.decDigits q.den
theorem Sx (z:Int):(txI z).length<=10*nw z.natAbs+2:=by
  have:=JA z.natAbs
  unfold txI;split<;>simp<;>omega
theorem Ll {α:Type} {enc:α->List Value} {z:Nat} (h:∀x,(enc x).length=z) (d:α) (xs:List α) (j r k:Nat) (hj:j<xs.length) (hr:r+k<=z) {vs:List Value} (hv:((enc (xs.getD j d)).drop r).take k=vs):((rowsL enc xs).drop (j*z+r)).take k=vs:=by
  have h1:=AZ h d xs j hj
  rw [<-hv,<-h1,List.drop_take,List.take_take,List.drop_drop,Nat.min_eq_left Z]
section
abbrev Z3:=Int×Int×Int
def Af (t:Z3):List Value:=[vI t.1,vI t.2.1,vI t.2.2]
theorem BF (t:Z3):(Af t).length=3:=rfl
theorem Gn (t:Z3):((Af t).all λu=>u.oneCell')=true:=rfl
structure MZ (ps:List Pt) (ts ss:List Z3) where
  a:RX (rowsL Ad ps) ps.length
  b:RX (rowsL Af ts) ts.length
  c:RX (rowsL Af ss) ss.length
def Cv {ps:List Pt} {ts ss:List Z3} (x:MZ ps ts ss):List Value:=[x.a.val,x.b.val,x.c.val]
theorem Sd {ps:List Pt} {ts ss:List Z3} {x:MZ ps ts ss} {y:As} (hy:y∈[x.a.row,x.b.row,x.c.row]):y.ro=true:=by
  simp only [xy,List.not_mem_nil,or_false] at hy
  rcases hy with rfl|rfl|rfl<;>rfl
instance {ps:List Pt} {ts ss:List Z3}:Cl (MZ ps ts ss):=⟨λx=>aG (Cv x),λx=>[x.a.row,x.b.row,x.c.row],λx y hy=>Sd hy⟩
structure RW where
  ds:List PD
  ts:List Z3
  ss:List Z3
  a:RX (rowsL F0 ds) ds.length
  b:RX (rowsL Af ts) ts.length
  c:RX (rowsL Af ss) ss.length
  hd:∀d∈ds,d.ok
def FN (x:RW):List Value:=[x.a.val,x.b.val,x.c.val]
theorem eH {x:RW} {y:As} (hy:y∈[x.a.row,x.b.row,x.c.row]):y.ro=true:=by
  simp only [xy,List.not_mem_nil,or_false] at hy
  rcases hy with rfl|rfl|rfl<;>rfl
instance:Cl RW:=⟨λx=>aG (FN x),λx=>[x.a.row,x.b.row,x.c.row],λx y hy=>eH hy⟩
def RW.ps (x:RW):List Pt:=x.ds.map HH
theorem Gg (d:PD):(F0 d).length=4:=rfl
def Ff:PD:=⟨⟨0,0⟩,⟨0,0⟩⟩
section
variable {S:Nat->Prop} {w:World} {ps:List Pt} {ts ss:List Z3} {x:MZ ps ts ss} {r:RW}
theorem cK (h:Ro S w x):Ro S w x.a:=λy hy=>by rcases xz.1 hy with rfl;exact h _ List.mem_cons_self
theorem cL (h:Ro S w x):Ro S w x.b:=λy hy=>by rcases xz.1 hy with rfl;exact h _ (List.mem_cons_of_mem _ List.mem_cons_self)
theorem cM (h:Ro S w x):Ro S w x.c:=λy hy=>by rcases xz.1 hy with rfl;exact h _ (List.mem_cons_of_mem _ (List.mem_cons_of_mem _ List.mem_cons_self))
end
structure RP where
  p:Pt
  x:PX p
def Cn:RP:=⟨⟨0,0⟩,⟨FX.zero,FX.zero⟩⟩
@[reducible] def CW (r:RP):List Value:=BU r.x
theorem Bd (r:RP):(CW r).length=6:=rfl
theorem Zm (r:RP):((CW r).all λu=>u.oneCell')=true:=rfl
def B5 (rs:List RP):List As:=rs.flatMap λr=>Cl.rows r.x
theorem OF {rs:List RP} {y:As} (h:y∈B5 rs):y.ro=true:=by
  obtain ⟨r,_,h⟩:=List.mem_flatMap.1 h
  exact Cl.ro r.x y h
theorem Pq (rs:List RP) (r:RP):B5 (rs++[r])=B5 rs++Cl.rows r.x:=by simp [B5]
theorem cB (r:RP) (A:List As) (rs:List RP):(Cl.rows r.x++(A++B5 rs)).Perm (A++B5 (rs++[r])):=by
  rw [Pq,<-List.append_assoc A]
  exact List.perm_append_comm
theorem Ld (A T L:List As):(A++(T++L)).Perm (A++(L++T)):=(List.Perm.refl A).append List.perm_append_comm
structure Hy (ps:List Pt) (ts ss:List Z3) where
  rs:List RP
  e:rs.map (·.p)=ps
  a:RX (rowsL CW rs) rs.length
  b:RX (rowsL Af ts) ts.length
  c:RX (rowsL Af ss) ss.length
def HN {ps:List Pt} {ts ss:List Z3} (x:Hy ps ts ss):List Value:=[x.a.val,x.b.val,x.c.val]
theorem XR {ps:List Pt} {ts ss:List Z3} {x:Hy ps ts ss} {y:As} (hy:y∈[x.a.row,x.b.row,x.c.row]++B5 x.rs):y.ro=true:=by
  rcases List.mem_append.1 hy with hy|hy
  · simp only [xy,List.not_mem_nil,or_false] at hy
    rcases hy with rfl|rfl|rfl<;>rfl
  · exact OF hy
instance {ps:List Pt} {ts ss:List Z3}:Cl (Hy ps ts ss):=⟨λx=>aG (HN x),λx=>[x.a.row,x.b.row,x.c.row]++B5 x.rs,λx y hy=>XR hy⟩
theorem Hy.at {ps:List Pt} {ts ss:List Z3} (x:Hy ps ts ss) {i:Nat} (h:i<x.rs.length):(x.rs.getD i Cn).p=ps.getD i ⟨0,0⟩:=by
  have h1:(x.rs.map (·.p)).getD i ⟨0,0⟩=ps.getD i ⟨0,0⟩:=congrArg (λl=>l.getD i ⟨0,0⟩) x.e
  rw [<-h1]
  simp [h]
theorem Hy.len {ps:List Pt} {ts ss:List Z3} (x:Hy ps ts ss):x.rs.length=ps.length:=by
  have h:=congrArg List.length x.e
  rwa [xv] at h
section
variable {P:Program} {ops:Array Oper} {rest:List Oper} {Q:Exit->Act->World->Prop} {n:Nat} {F:List (Nat×Value)} {w0:BA} {S:Nat->Prop} {L L2 A:List As} {w W:World} {rs:List RP} {i:Nat} {ps:List Pt} {ts ss:List Z3}
theorem yc (hp:L.Perm L2) (next:AQ P ops rest Q n F w0 L2):AQ P ops rest Q n F w0 L:=λa w ha hW=>next a w ha (hW.perm hp)
theorem bQ (hw:BE w0 w L) (hs:∀y∈B5 rs,y∈L) (hi:i<rs.length) (ha:∀y∈B5 rs,∀b,y.foot=some b->Nw w0 S b):Ro (SL w0 S L) w (rs.getD i Cn).x:=λy hy=>by
  have hm:y∈B5 rs:=List.mem_flatMap.2 ⟨rs[i],List.getElem_mem hi,by rw [List.getD,xN hi] at hy;exact hy⟩
  exact ⟨λb e=>(hw.2.1 y (hs y hm) b e).2,λb e=>⟨⟨y,hs y hm,OF hm,e⟩,ha y hm b e⟩⟩
theorem At.snoc {r:RP} (h:∀y∈B5 rs,∀b,y.foot=some b->Nw w0 S b) (k:At w0 S r.x):∀y∈B5 (rs++[r]),∀b,y.foot=some b->Nw w0 S b:=λy hy=>by
  rw [Pq] at hy
  rcases List.mem_append.1 hy with hy|hy
  · exact h y hy
  · exact k y hy
theorem At.rpt {x:Hy ps ts ss} (h:At w0 S x):∀y∈B5 x.rs,∀b,y.foot=some b->Nw w0 S b:=λy hy=>h y (xt [x.a.row,x.b.row,x.c.row] hy)
theorem XG (hw:BE ⟨W,none⟩ w (A++B5 rs)) (i j k:Nat) {p1 p2 p3:Option Addr} {T1 T2 T3 n1 n2 n3 c1 c2 c3:Nat} (h1:A[i]?=some (rowW p1 T1 6 n1 c1 (rowsL CW rs))) (h2:A[j]?=some (rowW p2 T2 3 n2 c2 (rowsL Af ts))) (h3:A[k]?=some (rowW p3 T3 3 n3 c3 (rowsL Af ss)))
    (o1:OwnOk p1 n1 c1) (o2:OwnOk p2 n2 c2) (o3:OwnOk p3 n3 c3) (e1:n1=rs.length) (e2:n2=ts.length) (e3:n3=ss.length) (he:rs.map (·.p)=ps) (hat:∀y∈B5 rs,∀b,y.foot=some b->Nw ⟨W,none⟩ S b)
    {v:Value} (hv:v=aG [.slice p1 n1 c1,.slice p2 n2 c2,.slice p3 n3 c3]):Ai (Hy ps ts ss) S W (.returned v) w:=by
  subst e1;subst e2;subst e3
  have up:∀{i:Nat} {x:As},A[i]?=some x->(A++B5 rs)[i]?=some x:=λ{i x} h=>by rw [List.getElem?_append_left (List.getElem?_eq_some_iff.1 h).1];exact h
  refine ⟨⟨rs,he,⟨p1,c1,o1.row⟩,⟨p2,c2,o2.row⟩,⟨p3,c3,o3.row⟩⟩,by rw [hv];rfl,hw.out,λy hy=>?_⟩
  have hy:y∈[AC p1 (rowsL CW rs),AC p2 (rowsL Af ts),AC p3 (rowsL Af ss)]++B5 rs:=hy
  rcases List.mem_append.1 hy with hy|hy
  · simp only [xy,List.not_mem_nil,or_false] at hy
    rcases hy with rfl|rfl|rfl
    · exact Fy hw i (up h1) o1 (Al Bd _)
    · exact Fy hw j (up h2) o2 (Al BF _)
    · exact Fy hw k (up h3) o3 (Al BF _)
  · exact ⟨λb e=>(hw.2.1 _ (xt _ hy) b e).2,hat y hy⟩
theorem d7 (hw:BE ⟨W,none⟩ w L) (i j k:Nat) {p1 p2 p3:Option Addr} {T1 T2 T3 n1 n2 n3 c1 c2 c3:Nat} (h1:L[i]?=some (rowW p1 T1 10 n1 c1 (rowsL Ad ps))) (h2:L[j]?=some (rowW p2 T2 3 n2 c2 (rowsL Af ts))) (h3:L[k]?=some (rowW p3 T3 3 n3 c3 (rowsL Af ss)))
    (o1:OwnOk p1 n1 c1) (o2:OwnOk p2 n2 c2) (o3:OwnOk p3 n3 c3) (e1:n1=ps.length) (e2:n2=ts.length) (e3:n3=ss.length)
    {v:Value} (hv:v=aG [.slice p1 n1 c1,.slice p2 n2 c2,.slice p3 n3 c3]):Ai (MZ ps ts ss) S W (.returned v) w:=by
  subst e1;subst e2;subst e3
  refine ⟨⟨⟨p1,c1,o1.row⟩,⟨p2,c2,o2.row⟩,⟨p3,c3,o3.row⟩⟩,by rw [hv];rfl,hw.out,λy hy=>?_⟩
  have hy:y∈[AC p1 (rowsL Ad ps),AC p2 (rowsL Af ts),AC p3 (rowsL Af ss)]:=hy
  simp only [xy,List.not_mem_nil,or_false] at hy
  rcases hy with rfl|rfl|rfl
  · exact Fy hw i h1 o1 (Al Az _)
  · exact Fy hw j h2 o2 (Al BF _)
  · exact Fy hw k h3 o3 (Al BF _)
end
theorem X6 (a b:Z3):((a.1 == b.1)&&((a.2.1 == b.2.1)&&((a.2.2 == b.2.2)&&true)))=decide (a=b):=by
  obtain ⟨a1,a2,a3⟩:=a
  obtain ⟨b1,b2,b3⟩:=b
  rw [Bool.eq_iff_iff]
  simp
theorem Vt (D:Nat) (a b:Z3):Fj prog (D+2) 105 (.agg (Af a).toArray) (.agg (Af b).toArray) (decide (a=b)):=by
  rw [<-X6]
  exact Fj.array underlying105 PP Mk (Rw.one isAgg3 O O (Fj.int underlying3) (Rw.one isAgg3 O O (Fj.int underlying3) (Rw.one isAgg3 O O (Fj.int underlying3) Rw.nil)))
theorem bG (D:Nat) (a b:Z3):Fj prog (D+2) 110 (.agg (Af a).toArray) (.agg (Af b).toArray) (decide (a=b)):=by
  rw [<-X6]
  exact Fj.struct underlying110 Tryz.stoodInHeld110 (I6.one jY isAgg3 O O (Fj.int underlying3) (I6.one jY isAgg3 O O (Fj.int underlying3) (I6.one jY isAgg3 O O (Fj.int underlying3) I6.nil)))
theorem GI {α:Type} {d:α} {xs ys:List α} (hl:xs.length=ys.length) (h:∀i,i<xs.length->xs.getD i d=ys.getD i d):xs=ys:=by
  refine List.ext_getElem hl λi h1 h2=>?_
  have:=h i h1
  rwa [List.getD,List.getD,xN h1,xN h2] at this
theorem Fx {α:Type} {d:α} {xs ys:List α} {i:Nat} (h:xs.getD i d≠ys.getD i d):xs≠ys:=λe=>h (by rw [e])
theorem W5 (r:RW) {i:Nat} (h:i<r.ds.length):r.ps.getD i ⟨0,0⟩=HH (r.ds.getD i Ff):=by
  unfold RW.ps
  simp [h]
theorem RW.pl (r:RW):r.ps.length=r.ds.length:=by unfold RW.ps;rw [xv]
theorem RW.ok (r:RW) {i:Nat} (h:i<r.ds.length):(r.ds.getD i Ff).ok:=by
  rw [List.getD,xN h]
  exact r.hd _ (List.getElem_mem h)
theorem RW.sz (r:RW) (i:Nat) (h:i<r.ps.length):BV (r.ps.getD i ⟨0,0⟩)<=4:=by
  rw [r.pl] at h
  rw [W5 r h]
  exact VD (r.ok h)
structure dF (ps:List Pt) (ts ss:List Z3) where
  a:OX 99 10 (rowsL Ad ps) ps.length
  b:OX 105 3 (rowsL Af ts) ts.length
  c:OX 110 3 (rowsL Af ss) ss.length
def gV {ps:List Pt} {ts ss:List Z3} (x:dF ps ts ss):List Value:=[Ul x.a,Ul x.b,Ul x.c]
@[reducible] def gW {ps:List Pt} {ts ss:List Z3} (x:dF ps ts ss):List As:=[rowW x.c.p 110 3 ss.length x.c.c (rowsL Af ss),rowW x.b.p 105 3 ts.length x.b.c (rowsL Af ts),rowW x.a.p 99 10 ps.length x.a.c (rowsL Ad ps)]
section
variable {S:Nat->Prop} {w:World} {w0:BA} {L:List As} {ps:List Pt} {ts ss:List Z3}
theorem Xk {α:Type} [Cl α] {a:α} (h:Ro S w a):∀y∈Cl.rows a,y.ro=true/\Holds w y:=λy k=>⟨Cl.ro a y k,(h y k).1⟩
abbrev dQ (_:Nat):Prop:=True
theorem Pm {α:Type} [Cl α] {a:α} (h:Ro S w a):Ro dQ w a:=h.mono λ_ _=>trivial
theorem fc {x:Hy ps ts ss} (hw:BE w0 w L) (i:Nat) (hi:(L.drop i).take 3=[x.a.row,x.b.row,x.c.row]) (hs:∀y∈B5 x.rs,y∈L):Ro dQ w x:=λy hy=>by
  have hy:y∈[x.a.row,x.b.row,x.c.row]++B5 x.rs:=hy
  have hm:y∈L:=by
    rcases List.mem_append.1 hy with hy|hy
    · exact List.mem_of_mem_drop (List.mem_of_mem_take (hi▸hy))
    · exact hs y hy
  exact ⟨λb e=>(hw.2.1 y hm b e).2,λ_ _=>trivial⟩
end
theorem Ph (r:RW) {i:Nat} (h:i<r.ds.length):r.ps.take (i+1)=r.ps.take i++[HH (r.ds.getD i Ff)]:=by
  rw [<-W5 r h,List.take_add_one,List.getD,xN (by rw [r.pl];exact h)]
  rfl
end
section
def BL (n:Nat) (p:Int):Bool:=decide (0<=p)&&decide (p<(n:Int))
def NA (n:Nat) (t:Z3):Bool:=BL n t.1&&BL n t.2.1&&BL n t.2.2&&!decide (t.1=t.2.1)&&!decide (t.2.1=t.2.2)&&!decide (t.2.2=t.1)
def DA (n:Nat) (ts:List Z3):Bool:=ts.all (NA n)
def idxZ (n:Nat):List Z3->Nat->Int
  | [],_ => -1
  | t::r,i=>if NA n t=true then idxZ n r (i+1) else (i:Int)
theorem Tc {n:Nat} {ts:List Z3} {j:Nat} (hj:j<ts.length) (h:NA n (ts.getD j (0,0,0))=true):idxZ n (ts.drop j) j=idxZ n (ts.drop (j+1)) (j+1):=by
  rw [Ft (d:=(0,0,0)) hj];exact if_pos h
theorem WC {n:Nat} {ts:List Z3} {j:Nat} (hj:j<ts.length) (h:NA n (ts.getD j (0,0,0))=false):idxZ n (ts.drop j) j=(j:Int):=by
  rw [Ft (d:=(0,0,0)) hj];exact if_neg (by rw [h];exact Bool.false_ne_true)
theorem WB {n:Nat} {ts:List Z3} {j:Nat} (hj:¬j<ts.length):idxZ n (ts.drop j) j = -1:=by
  rw [List.drop_of_length_le Z];rfl
theorem M5 (n:Nat):∀(ts:List Z3) (i:Nat),decide (0<=idxZ n ts i)=!DA n ts
  | [],i=>rfl
  | t::r,i=>by
    unfold idxZ DA
    rw [List.all_cons]
    cases h:NA n t with
    | true=>rw [if_pos rfl,Bool.true_and];exact M5 n r (i+1)
    | false=>rw [if_neg Bool.false_ne_true,Bool.false_and];simp
theorem Wp {n:Nat} {ts:List Z3} (h:∀j,j<ts.length->NA n (ts.getD j (0,0,0))=true):DA n ts=true:=List.all_eq_true.2 λt ht=>by
  obtain ⟨j,hj,rfl⟩:=List.getElem_of_mem ht
  have:=h j hj
  rwa [List.getD,xN hj] at this
theorem ZJ {n:Nat} {ts:List Z3} {j:Nat} (hj:j<ts.length) (h:NA n (ts.getD j (0,0,0))=false):DA n ts=false:=by
  cases e:DA n ts with
  | false=>rfl
  | true =>
    have h1:=List.all_eq_true.1 e _ (List.getElem_mem hj)
    rw [List.getD,xN hj] at h
    have h:NA n ts[j]=false:=h
    rw [h] at h1;cases h1
def HD (t:Z3):Tq3:=(t.1.toNat,t.2.1.toNat,t.2.2.toNat)
theorem Sh {n:Nat} {t:Z3} (h:NA n t=true):MV n (HD t)=true/\Af t=Am (HD t):=by
  obtain ⟨a,b,c⟩:=t
  unfold NA BL at h
  simp only [xZ,xV,xT,xS] at h
  obtain ⟨⟨⟨⟨⟨⟨h1,h2⟩,h3,h4⟩,h5,h6⟩,h7⟩,h8⟩,h9⟩:=h
  refine ⟨?_,?_⟩
  · unfold MV HD
    simp only [xZ,xV,xT,xS]
    refine ⟨⟨⟨⟨⟨?_,?_⟩,?_⟩,?_⟩,?_⟩,?_⟩<;>omega
  · show [vI a,vI b,vI c]=[vN a.toNat,vN b.toNat,vN c.toNat]
    rw [show vN a.toNat=vI a from congrArg vI (Int.toNat_of_nonneg h1),show vN b.toNat=vI b from congrArg vI (Int.toNat_of_nonneg h3),show vN c.toNat=vI c from congrArg vI (Int.toNat_of_nonneg h5)]
theorem Wq {n:Nat} {zs:List Z3} (h:DA n zs=true):Bn n (zs.map HD)=true/\rowsL Af zs=rowsL Am (zs.map HD):=by
  unfold DA Bn rowsL at *
  rw [List.all_eq_true] at h
  refine ⟨List.all_eq_true.2 λt ht=>?_,?_⟩
  · obtain ⟨z,hz,rfl⟩:=List.mem_map.1 ht
    exact (Sh (h z hz)).1
  · rw [List.flatMap_map]
    induction zs with
    | nil=>rfl
    | cons z r ih=>rw [List.flatMap_cons,List.flatMap_cons,(Sh (h z List.mem_cons_self)).2,ih λx hx=>h x (List.mem_cons_of_mem _ hx)]
structure RQ (N K:Nat) (zs:List Z3) where
  cs:List Value
  ds:List Value
  a:RX cs N
  b:RX (rowsL Af zs) zs.length
  c:RX ds K
def IK {N K:Nat} {zs:List Z3} (x:RQ N K zs):List Value:=[x.a.val,x.b.val,x.c.val]
theorem eE {N K:Nat} {zs:List Z3} {x:RQ N K zs} {y:As} (hy:y∈[x.a.row,x.b.row,x.c.row]):y.ro=true:=by
  simp only [xy,List.not_mem_nil,or_false] at hy
  rcases hy with rfl|rfl|rfl<;>rfl
instance {N K:Nat} {zs:List Z3}:Cl (RQ N K zs):=⟨λx=>aG (IK x),λx=>[x.a.row,x.b.row,x.c.row],λx y hy=>eE hy⟩
section
variable {S:Nat->Prop} {w:World} {N K:Nat} {zs ss:List Z3} {ps:List Pt}
theorem f5 {x:RQ N K zs} (h:Ro S w x):Ro S w x.b:=λy hy=>by rcases xz.1 hy with rfl;exact h _ (List.mem_cons_of_mem _ List.mem_cons_self)
def RQ.ru (x:RQ N K zs):RU N zs.length K:=⟨x.cs,rowsL Af zs,x.ds,x.a,x.b,x.c⟩
theorem cQ {x:RQ N K zs} (h:Ro S w x):Ro S w x.ru:=λy hy=>h y hy
def MZ.rq (x:MZ ps zs ss):RQ ps.length ss.length zs:=⟨rowsL Ad ps,rowsL Af ss,x.a,x.b,x.c⟩
theorem br {x:MZ ps zs ss} (h:Ro S w x):Ro S w x.rq:=λy hy=>h y hy
def Hy.rq (x:Hy ps zs ss):RQ x.rs.length ss.length zs:=⟨rowsL CW x.rs,rowsL Af ss,x.a,x.b,x.c⟩
theorem XS {x:Hy ps zs ss} (h:Ro S w x):Ro S w x.rq:=λy hy=>h y (List.mem_append_left _ hy)
end
end
def WZ (p q:Pt):Prop:=p.x<q.x\/(p.x=q.x/\p.y<q.y)
instance (p q:Pt):Decidable (WZ p q):=by unfold WZ;infer_instance
theorem bX {p q:Pt} (h:E5 p.x q.x≠0):decide (E5 p.x q.x<0)=decide (WZ p q):=by
  have h2:¬p.x=q.x:=λe=>h (R_.2 e)
  refine decide_eq_decide.2 ⟨λk=>.inl (KE.1 k),λk=>?_⟩
  rcases k with k|k
  · exact KE.2 k
  · exact absurd k.1 h2
theorem bY {p q:Pt} (h:E5 p.x q.x=0):decide (E5 p.y q.y<0)=decide (WZ p q):=by
  have h2:p.x=q.x:=R_.1 h
  refine decide_eq_decide.2 ⟨λk=>.inr ⟨h2,KE.1 k⟩,λk=>?_⟩
  rcases k with k|k
  · rw [h2] at k;exact absurd k (by grind)
  · exact KE.2 k.2
abbrev T2:=P2×P2×P2
section
def Gd (t:Tq3) (p:Nat):Bool:=t.1 == p||t.2.1 == p||t.2.2 == p
section
variable {ps:List Pt} {ts:List (Tq3)}
end
end
section
def WK (t:T3) (p:Nat):Int:=if p=t.1 then 0 else if p=t.2.1 then 1 else if p=t.2.2 then 2 else -1
theorem Y3 (t:T3) (p:Nat):decide (0<=WK t p)=Gd t p:=by
  unfold WK Gd
  by_cases h1:p=t.1
  · rw [if_pos h1,h1];simp
  · have h1':¬t.1=p:=λe=>h1 e.symm
    rw [if_neg h1]
    by_cases h2:p=t.2.1
    · rw [if_pos h2,h2];simp
    · have h2':¬t.2.1=p:=λe=>h2 e.symm
      rw [if_neg h2]
      by_cases h3:p=t.2.2
      · rw [if_pos h3,h3];simp
      · have h3':¬t.2.2=p:=λe=>h3 e.symm
        rw [if_neg h3];simp [h1',h2',h3']
abbrev Q3:=Pt×Pt×Pt
def IH (x:Q3):List Value:=Ad x.1++(Ad x.2.1++(Ad x.2.2++[]))
theorem dx (a b c:Pt):Ad a++Ad b++Ad c=IH (a,b,c):=by simp [IH]
def Bt (ps:List Pt) (t:T3):Q3:=(BQ ps t.1,BQ ps t.2.1,BQ ps t.2.2)
def OY (p q r:Pt):Bool:=decide (0<(Aa p q r).num.sign)
def WJ (p q:Pt) (B:Q3):Int:=if OY p q B.1=true then 0 else if OY p q B.2.1=true then 1 else if OY p q B.2.2=true then 2 else -1
def G7 (p q:Pt) (B:Q3):Bool:=OY p q B.1||OY p q B.2.1||OY p q B.2.2
theorem Y2 (p q:Pt) (B:Q3):decide (0<=WJ p q B)=G7 p q B:=by
  unfold WJ G7
  cases OY p q B.1<;>cases OY p q B.2.1<;>cases OY p q B.2.2<;>rfl
def Er (A B:Q3):Bool:=!G7 A.1 A.2.1 B||(!G7 A.2.1 A.2.2 B||!G7 A.2.2 A.1 B)
structure NU (ps:List Pt) (ts ss:List T3):Prop where
  pl:ps.length<=4096
  tl:ts.length<=8192
  t0:0<ts.length
  sl:ss.length<=24576
  sz:∀k,BV (BQ ps k)<=1000
  num:Bn ps.length ts=true
  pos:∀j,j<ts.length->(Aa (BQ ps (ts.getD j (0,0,0)).1) (BQ ps (ts.getD j (0,0,0)).2.1) (BQ ps (ts.getD j (0,0,0)).2.2)).num.sign=1
  sid:∀j,j<ss.length->(ss.getD j (0,0,0)).1<ps.length/\(ss.getD j (0,0,0)).2.1<ps.length/\(ss.getD j (0,0,0)).2.2<=255
  use:∀p,p<ps.length->∃j,j<ts.length/\Gd (ts.getD j (0,0,0)) p=true
  dst:ps.Nodup
  apart:∀i k,i<ts.length->k<i->(!Er (Bt ps (ts.getD i (0,0,0))) (Bt ps (ts.getD k (0,0,0)))&&!Er (Bt ps (ts.getD k (0,0,0))) (Bt ps (ts.getD i (0,0,0))))=false
  crn:∀i p,i<ts.length->p<ps.length->Gd (ts.getD i (0,0,0)) p=false->Rk ps (BQ ps p) (ts.getD i (0,0,0))=0
  rl:ss.length=(J3 ts).length
  rim:∀j,j<ss.length->(ss.getD j (0,0,0)).1=((J3 ts).getD j (0,0,0)).1/\(ss.getD j (0,0,0)).2.1=((J3 ts).getD j (0,0,0)).2.1
theorem NU.szM {ps:List Pt} {ts ss:List T3} (h:NU ps ts ss) (k:Nat):BV (BQ ps k)<=1000000:=xx (h.sz k) jY
def Ni (x y:Pt):Int:=if WZ x y then -1 else if WZ y x then 1 else 0
theorem GF {x y:Pt}:Ni x y<0↔WZ x y:=by
  unfold Ni
  split
  · exact ⟨λ_=>by assumption,λ_=>by decide⟩
  · rename_i h
    split<;>exact ⟨λk=>absurd k jY,λk=>absurd k h⟩
theorem Tu {ys:List Pt} (h:ys.Nodup) {k:Nat} (h1:1<=k) (hk:k<ys.length) (e:ys.getD k ⟨0,0⟩=ys.getD (k-1) ⟨0,0⟩):False:=by
  rw [List.getD,List.getD,xN hk,xN (show k-1<ys.length by omega)] at e
  have:=(List.getElem_inj h).1 e
  omega
def bL (us:List Bool):List Value:=us.map qa
theorem Nd (us:List Bool):(bL us).length=us.length:=xv _
theorem QS (us:List Bool) (j:Nat) (v:Bool):(bL us).set j (.bool v)=bL (us.set j v):=by unfold bL;rw [List.map_set]
theorem aw {us:List Bool} {j:Nat} (h:j<us.length):(bL us)[j*1]?=some (.bool (us.getD j false)):=by simp [bL,h]
def L3 (ts:List T3) (n i:Nat):List Bool:=(List.range n).map λp=>(ts.take i).any λt=>Gd t p
theorem HR (ts:List T3) (n i:Nat):(L3 ts n i).length=n:=by simp [L3]
theorem UZ (ts:List T3) (n:Nat):List.replicate n false=L3 ts n 0:=by
  unfold L3
  rw [List.take_zero]
  apply List.ext_getElem?
  intro j
  rcases Nat.lt_or_ge j n with h|h
  · simp [h]
  · rw [List.getElem?_eq_none (by simpa using h),List.getElem?_eq_none (by simpa using h)]
theorem UY {ts:List T3} {n i:Nat} (h:i<ts.length):(((L3 ts n i).set (ts.getD i (0,0,0)).1 true).set (ts.getD i (0,0,0)).2.1 true).set (ts.getD i (0,0,0)).2.2 true=L3 ts n (i+1):=by
  apply List.ext_getElem?
  intro j
  have e:ts.take (i+1)=ts.take i++[ts.getD i (0,0,0)]:=by rw [List.take_add_one,List.getD,xN h];rfl
  generalize ts.getD i (0,0,0)=T at *
  unfold L3
  rw [e]
  simp only [List.getElem?_set,List.length_set,xv,List.length_range,List.getElem?_map,List.any_append,List.any_cons,List.any_nil,Bool.or_false]
  rcases Nat.lt_or_ge j n with hj|hj
  · rw [List.getElem?_range hj]
    simp only [Option.map_some]
    unfold Gd
    by_cases h1:T.1=j<;>by_cases h2:T.2.1=j<;>by_cases h3:T.2.2=j<;>simp [h1,h2,h3]<;>try omega
  · rw [List.getElem?_eq_none (by simpa using hj)]
    simp only [Option.map_none]
    by_cases h1:T.1=j<;>by_cases h2:T.2.1=j<;>by_cases h3:T.2.2=j<;>simp [h1,h2,h3]<;>omega
theorem Xx {ts:List T3} {n p:Nat} (hp:p<n) (h:∃j,j<ts.length/\Gd (ts.getD j (0,0,0)) p=true):(L3 ts n ts.length).getD p false=true:=by
  unfold L3
  rw [List.getD,List.getElem?_map,List.getElem?_range hp,Option.map_some,Option.getD_some,List.take_length,List.any_eq_true]
  obtain ⟨j,hj,h⟩:=h
  exact ⟨_,List.getElem_mem hj,by rwa [List.getD,xN hj] at h⟩
section
variable {P:Program} {ops:Array Oper} {rest:List Oper} {Q:Exit->Act->World->Prop} {n d i z m c:Nat} {F:List (Nat×Value)} {w0:BA} {L L':List As} {t ty T:TypeId} {p:String} {af:Array Edge} {x y:Operand} {cs vs:List Value} {q:Option Addr} {v:Value}
theorem AQ.makeBool {ki kj:IntKind} {bytes:Nat} (ht:Oe P t T (.bool false) bytes) (hx:evF F x=some (.int ki (m:Nat))) (hy:evF F y=some (.int kj (m:Nat))) (hm:m<=1099511627776) (hb:Nat.ble bytes 16=true) (hd:Nat.ble (d+1) n=true)
    (next:∀b,OwnOk (jk b) m m->AQ P ops rest Q n ((d,.slice (jk b) m m)::F) w0 (rowW (jk b) T 1 m m (bL (List.replicate m false))::L)) :
    AQ P ops (⟨some d,.makeSlice t x y,ty,p,af,none⟩::rest) Q n F w0 L:=xF ht hx hy hm hb hd λb ho=>by
  have h:=next b ho
  unfold bL at h
  rw [List.map_replicate] at h
  exact h
end
section
variable {P:Program} {n:Nat} {F:List (Nat×Value)} {w0:BA} {L:List As} {x:Operand} {d:Option Tmp} {t:TypeId} {p:String} {af:Array Edge} {g:Option (Nat×Bool)}
theorem Nr {tx e:TypeId} {b off len k:Nat} (hx:evF F x=some (.pointer (some ⟨b,off,none⟩))) (hu:P.underlying tx=some (.array len e)) (hs:∀w,(sizeOf e).run P w=.ok k w) (h0:0<len) :
    Ex P n F w0 L ⟨d,.slice tx x none none none,t,p,af,g⟩ (.slice (some ⟨b,off,none⟩) len len):=λA w ha _=>by
  have e1:¬len=0:=by omega
  simp [execOp,ha.ev hx,Instr.sliceAt,run_underlying hu,Instr.sureAddr,Instr.sliceBounds,Instr.sliceBound,hs,e1,Addr.add_lit]
end
theorem Zj {S:Nat->Prop} {w:World} {ts:List T3} {x:RX (rowsL Am ts) ts.length} (h:Ro S w x) {j:Nat} (hj:j<ts.length) (ok:Ao (some ⟨pB x.p,pO x.p+j*3,none⟩) 3 3):Ro S w (⟨some ⟨pB x.p,pO x.p+j*3,none⟩,3,ok⟩:RX (Am (ts.getD j (0,0,0))) 3):=λy hy=>by
  rcases xz.1 hy with rfl
  obtain ⟨h1,h2⟩:=h (AC x.p (rowsL Am ts)) (xz.2 rfl)
  obtain ⟨a,hp⟩:∃a,x.p=some a:=by
    cases hp:x.p with
    | none=>have:=(x.ok.nil hp).1;omega
    | some a=>exact ⟨a,rfl⟩
  have e:(some (⟨pB x.p,pO x.p+j*3,none⟩:Addr)).map (·.block)=x.p.map (·.block):=by rw [hp];rfl
  refine ⟨λb hb=>?_,λb hb=>h2 b (e.symm.trans hb)⟩
  obtain ⟨o,ho,cur,T,fr,rfl,hc⟩:=h1 b (e.symm.trans hb)
  refine ⟨_,ho,cur,T,fr,rfl,?_⟩
  have hl:=AZ A8 (0,0,0) ts j hj
  have hz:=Al A8 ts
  show (cur.toList.drop (pO x.p+j*3)).take 3=_
  refine Eq.trans ?_ hl
  refine Eq.trans ?_ (congrArg (λl:List Value=>(l.drop (j*3)).take 3) hc)
  show _=(((cur.toList.drop (pO x.p)).take (rowsL Am ts).length).drop (j*3)).take 3
  rw [List.drop_take,List.take_take,List.drop_drop]
  congr 1
  omega
theorem cO (b o:Nat):Ao (some ⟨b,o,none⟩) 3 3:=⟨λe=>(by cases e),λa e=>(by injection e with e;subst e;rfl),Nat.le_refl _⟩
end
def Rh (ps:List Pt) (t:T3):Rat:=Aa (BQ ps t.1) (BQ ps t.2.1) (BQ ps t.2.2)*(1/2)
theorem Sw {ps:List Pt} (hz:∀k,BV (BQ ps k)<=1000) (t:T3):Sz (Rh ps t)<=8009:=by
  have h1:=EM (BQ ps t.1) (BQ ps t.2.1) (BQ ps t.2.2)
  have z1:=hz t.1
  have z2:=hz t.2.1
  have z3:=hz t.2.2
  have h2:=Bo (Aa (BQ ps t.1) (BQ ps t.2.1) (BQ ps t.2.2)) (1/2)
  have h3:=R2
  unfold Rh
  omega
section
section
variable {ts:List T3} {ps:List Pt} {p:Int} {i:Nat}
end
end
section
def dt (a b:Pt):Rat:=a.x*b.y-a.y*b.x
section
variable {p q r s u w:Pt}
end
section
variable {a b c d e f u:Pt}
def fH (u:Pt) (k:Rat) (a b c d e f:Pt):Prop:=(k<=dt u a/\k<=dt u b/\k<=dt u c)/\dt u d<=k/\dt u e<=k/\dt u f<=k
end
end
section
def Rf (ts:List T3):Nat->List (P2×Nat)
  | 0=>[]
  | s+1=>Br (Rf ts s) (CT ts s) (s/3)
section
variable {ts:List T3} {N t r s:Nat}
end
structure SX (ts:List T3) (o:Bool) where
  b:Nat
  kvs:List (P2×Nat)
  ok:Nb YE kvs
  fin:o=true->kvs=Rf ts (3*ts.length)
instance {ts:List T3} {o:Bool}:Cl (SX ts o):=⟨λx=>.tuple #[.map (some x.b),.bool o],λx=>[dp x.b J0 vN x.kvs],λx y hy=>by rcases xz.1 hy with rfl;rfl⟩
end
section
section
variable {P:Program} {Q:Exit->Act->World->Prop} {n:Nat} {F:List (Nat×Value)} {w0:BA} {L:List As} {c x y:Code}
def YS {α β γ δ ε ζ η:Type} (n:Nat) (w0:BA) (J:α->β->γ->δ->ε->ζ->η->Prop) (FI:α->β->γ->δ->ε->ζ->η->List (Nat×Value)) (LI:α->β->γ->δ->ε->ζ->η->List As) (m:α->β->γ->δ->ε->ζ->η->Nat) (i:α) (j:β) (k:γ) (l:δ) (o:ε) (q:ζ) (r:η) (Q:Exit->Act->World->Prop):Exit->Act->World->Prop :=
  Exit.then (λa w=>∃i' j' k' l' o' q' r',J i' j' k' l' o' q' r'/\m i' j' k' l' o' q' r'<m i j k l o q r/\C8 n a (FI i' j' k' l' o' q' r')/\BE w0 w (LI i' j' k' l' o' q' r')) Q
theorem OkC.loop7 {α β γ δ ε ζ η:Type} (J:α->β->γ->δ->ε->ζ->η->Prop) (FI:α->β->γ->δ->ε->ζ->η->List (Nat×Value)) (LI:α->β->γ->δ->ε->ζ->η->List As) (m:α->β->γ->δ->ε->ζ->η->Nat) (round:∀i j k l o q r,J i j k l o q r->OkC P c (YS n w0 J FI LI m i j k l o q r Q) n (FI i j k l o q r) w0 (LI i j k l o q r))
    (i:α) (j:β) (k:γ) (l:δ) (o:ε) (q:ζ) (r:η) (h:J i j k l o q r):OkC P (.loop c) Q n (FI i j k l o q r) w0 (LI i j k l o q r) :=
  yk (σ:=α×β×γ×δ×ε×ζ×η) (λs=>J s.1 s.2.1 s.2.2.1 s.2.2.2.1 s.2.2.2.2.1 s.2.2.2.2.2.1 s.2.2.2.2.2.2) (λs=>FI s.1 s.2.1 s.2.2.1 s.2.2.2.1 s.2.2.2.2.1 s.2.2.2.2.2.1 s.2.2.2.2.2.2) (λs=>LI s.1 s.2.1 s.2.2.1 s.2.2.2.1 s.2.2.2.2.1 s.2.2.2.2.2.1 s.2.2.2.2.2.2) (λs=>m s.1 s.2.1 s.2.2.1 s.2.2.2.1 s.2.2.2.2.1 s.2.2.2.2.2.1 s.2.2.2.2.2.2) (λs hs a w ha hw=>by
    refine Code.wp_mono (λe a' w' hq=>?_) (round s.1 s.2.1 s.2.2.1 s.2.2.2.1 s.2.2.2.2.1 s.2.2.2.2.2.1 s.2.2.2.2.2.2 hs a w ha hw)
    cases e<;>first
      | (obtain ⟨i',j',k',l',o',q',r',h1,h2,h3,h4⟩:=hq;exact ⟨(i',j',k',l',o',q',r'),h1,h2,h3,h4⟩)
      | exact hq) (i,j,k,l,o,q,r) h
theorem OkC.lp7 {α β γ δ ε ζ η:Type} {J:α->β->γ->δ->ε->ζ->η->Prop} {FI:α->β->γ->δ->ε->ζ->η->List (Nat×Value)} {LI:α->β->γ->δ->ε->ζ->η->List As} {m:α->β->γ->δ->ε->ζ->η->Nat} (_:Tg J) (_:Tg FI) (_:Tg LI) (_:Tg m) (i:α) (j:β) (k:γ) (l:δ) (o:ε) (q:ζ) (r:η) (h:J i j k l o q r) (hs:CM (FI i j k l o q r) F) (hl:(LI i j k l o q r).Sublist L)
    (round:∀i j k l o q r,J i j k l o q r->OkC P c (YS n w0 J FI LI m i j k l o q r Q) n (FI i j k l o q r) w0 (LI i j k l o q r)):OkC P (.loop c) Q n F w0 L:=ym hs hl (OkC.loop7 J FI LI m round i j k l o q r h)
theorem OkQ.round7 {α β γ δ ε ζ η:Type} {J:α->β->γ->δ->ε->ζ->η->Prop} {FI:α->β->γ->δ->ε->ζ->η->List (Nat×Value)} {LI:α->β->γ->δ->ε->ζ->η->List As} {m:α->β->γ->δ->ε->ζ->η->Nat} {i:α} {j:β} {k:γ} {l:δ} {o:ε} {q:ζ} {r:η} (i':α) (j':β) (k':γ) (l':δ) (o':ε) (q':ζ) (r':η) (hJ:J i' j' k' l' o' q' r') (hm:m i' j' k' l' o' q' r'<m i j k l o q r) (hs:CM (FI i' j' k' l' o' q' r') F) (hl:(LI i' j' k' l' o' q' r').Sublist L):OkQ (YS n w0 J FI LI m i j k l o q r Q) .normal n F w0 L:=λ_ _ ha hw=>⟨i',j',k',l',o',q',r',hJ,hm,ha.sub hs,hw.weak hl⟩
theorem OkQ.round7_exit {α β γ δ ε ζ η:Type} {J:α->β->γ->δ->ε->ζ->η->Prop} {FI:α->β->γ->δ->ε->ζ->η->List (Nat×Value)} {LI:α->β->γ->δ->ε->ζ->η->List As} {m:α->β->γ->δ->ε->ζ->η->Nat} {i:α} {j:β} {k:γ} {l:δ} {o:ε} {q:ζ} {r:η} {id:Nat} (h:OkQ Q (.exit id) n F w0 L):OkQ (YS n w0 J FI LI m i j k l o q r Q) (.exit id) n F w0 L:=h
end
end
section
abbrev iB (ts:List T3):List (P2×Nat):=Rf ts (3*ts.length)
def iM (k:P2):P2:=(k.2,k.1)
def ep (ts:List T3) (k:P2):Prop:=(Bb (iB ts) k).isSome=true
def gv (ts:List T3) (k:P2):Prop:=ep ts k/\¬ep ts (iM k)
section
variable {ts:List T3} {N:Nat} {k k0:P2} {i:Nat}
theorem NM {n:Nat}:∀s,Bb (Rf ts s) k=some n->∃u,u<s/\CT ts u=k/\n=u/3
  | 0,h=>by cases h
  | s+1,h=>by
    have h:Bb (Br (Rf ts s) (CT ts s) (s/3)) k=some n:=h
    rw [GJ] at h
    split at h
    · rename_i e
      injection h with h
      exact ⟨s,Z,e.symm,h.symm⟩
    · obtain ⟨u,h1,h2,h3⟩:=NM s h
      exact ⟨u,Z,h2,h3⟩
theorem Ps {u:Nat}:∀s,u<s->(Bb (Rf ts s) (CT ts u)).isSome=true
  | 0,h=>absurd h (Nat.not_lt_zero _)
  | s+1,h=>by
    show (Bb (Br (Rf ts s) (CT ts s) (s/3)) (CT ts u)).isSome=true
    rw [GJ]
    split
    · rfl
    · rename_i e
      rcases Nat.lt_or_ge u s with h1|h1
      · exact Ps s h1
      · exact absurd (by rw [show u=s by omega]) e
theorem Y1:ep ts k↔∃u,u<3*ts.length/\CT ts u=k:=by
  constructor
  · intro h
    obtain ⟨n,h⟩:=Option.isSome_iff_exists.1 h
    obtain ⟨u,h1,h2,_⟩:=NM _ h
    exact ⟨u,h1,h2⟩
  · rintro ⟨u,h1,rfl⟩
    exact Ps _ h1
theorem Tt {α:Type} [DecidableEq α] {l m:List α} (hn:l.Nodup) (hs:∀x∈l,x∈m):l.length<=m.length:=by
  induction l generalizing m with
  | nil=>exact xu _
  | cons x r ih =>
    have hx:=hs x List.mem_cons_self
    have hn2:=List.nodup_cons.1 hn
    have h:=ih (m:=m.erase x) hn2.2 λy hy=>by
      have:y≠x:=λe=>hn2.1 (e▸hy)
      exact (List.mem_erase_of_ne this).2 (hs y (List.mem_cons_of_mem _ hy))
    rw [List.length_erase_of_mem hx] at h
    have:=List.length_pos_of_mem hx
    simp only [List.length_cons];omega
def YU (ts:List T3):List P2:=(List.range (3*ts.length)).map (CT ts)
theorem VJ (h:ep ts k):k∈YU ts:=by
  obtain ⟨u,hu,rfl⟩:=Y1.1 h
  exact List.mem_map.2 ⟨u,List.mem_range.2 hu,rfl⟩
theorem VI:(YU ts).length=3*ts.length:=by simp [YU]
end
structure gL (ts:List T3) (dn:List (P2×Nat)):Prop where
  ok:Nb YE dn
  bd:∀k n,Bb dn k=some n->gv ts k/\n=1
section
variable {ts:List T3} {N:Nat} {k k0:P2} {i:Nat} {dn dn0:List (P2×Nat)} {l:List Nat}
theorem gL.len (h:gL ts dn):dn.length<=3*ts.length:=by
  have h1:(dn.map (·.1)).Nodup:=List.pairwise_map.2 (h.ok.once.imp λ{a b} h e=>h e)
  have h2:=Tt (m:=YU ts) h1 λx hx=>by
    obtain ⟨p,hp,rfl⟩:=List.mem_map.1 hx
    obtain ⟨j,hj,h3⟩:=List.getElem_of_mem hp
    exact VJ (h.bd _ _ (KQ (x:=p.1) (v:=p.2) h.ok.once (by rw [xN hj,h3]))).1.1
  rwa [VI,xv] at h2
end
section
variable {ts:List T3} {N i:Nat} {dn dn2:List (P2×Nat)} {wq:T3} {l:List Nat}
end
end
section
section
variable {ps:List Pt} {ts:List T3}
end
end
section
def Ln (ps:List Pt) (s t:T3):Prop:=∃(u:Pt) (k:Rat),u≠⟨0,0⟩/\fH u k (BQ ps s.1) (BQ ps s.2.1) (BQ ps s.2.2) (BQ ps t.1) (BQ ps t.2.1) (BQ ps t.2.2)
theorem Ln.symm {ps:List Pt} {s t:T3} (h:Ln ps s t):Ln ps t s:=by
  obtain ⟨u,k,hu,⟨h1,h2,h3⟩,h4,h5,h6⟩:=h
  have ng:∀a,dt ⟨-u.x,-u.y⟩ a = -dt u a:=λa=>by unfold dt;grind
  refine ⟨⟨-u.x,-u.y⟩,-k,λe=>hu ?_,⟨?_,?_,?_⟩,?_,?_,?_⟩
  · obtain ⟨x,y⟩:=u
    injection e with e1 e2
    simp only at e1 e2
    rw [show x=0 by grind,show y=0 by grind]
  all_goals rw [ng];grind
section
variable {ps:List Pt} {ts:List T3}
end
end
section
section
variable {md:List (P2×Nat)} {N M n a b c e p:Nat} {k κ:P2} {T:T3} {ts ts':List T3}
end
end
section
def bz (l:Nat):Int×Int×Int:=if l=0 then (2,0,0) else if l=1 then (0,2,0) else if l=2 then (0,0,2) else if l=3 then (1,1,0) else if l=4 then (0,1,1) else (1,0,1)
def D3 (i j k:Nat):Int:=(bz i).1*((bz j).2.1*(bz k).2.2-(bz j).2.2*(bz k).2.1)-(bz i).2.1*((bz j).1*(bz k).2.2-(bz j).2.2*(bz k).1)+(bz i).2.2*((bz j).1*(bz k).2.1-(bz j).2.1*(bz k).1)
def gF (fam:List T3) (l:Nat):Bool:=fam.any λL=>Gd L l
def fO (L:T3) (l:Nat):Bool:=decide (0<=D3 l L.2.1 L.2.2)&&decide (0<=D3 L.1 l L.2.2)&&decide (0<=D3 L.1 L.2.1 l)
instance (fam:List T3):Decidable (∀l,l<6->gF fam l=true->∀L∈fam,fO L l=true->Gd L l=true):=inferInstance
section
variable {a b c q:Pt} {l i j k:Nat}
end
end
section
section
variable {ps ps':List Pt} {ts ts':List T3} {mv:Nat->Nat->Nat} {fam:T3->List T3} {t s c L:T3} {l k p:Nat}
end
end
section
section
variable {ps:List Pt} {ts ss:List T3} {c:T3}
theorem RN {W w:World} {L:List As} (hw:BE ⟨W,none⟩ w L) (i:Nat) {p:Option Addr} {T:TypeId} {z n c c':Nat} {cs:List Value} (hi:L[i]?=some (rowW p T z n c cs)) (ho:OwnOk p n c) (hl:cs.length=n*z) (ok:Ao p n c'):Ro (λ_=>True) w (⟨p,c',ok⟩:RX cs n):=λy hy=>by
  rcases xz.1 hy with rfl
  exact ⟨(Fy (S:=λ_=>True) hw i hi ho hl).1,λ_ _=>trivial⟩
end
end
section
section
variable {ps:List Pt} {ts us ss:List T3} {N:Nat}
def ef (ps:List Pt) (s t:T3):Prop:=(!Er (Bt ps s) (Bt ps t)&&!Er (Bt ps t) (Bt ps s))=false
theorem ef.symm {s t:T3} (h:ef ps s t):ef ps t s:=by unfold ef at *;rw [Bool.and_comm];exact h
end
end
section
def GU (t:T3) (a b:Nat):Bool:=(decide (t.1=a)&&decide (t.2.1=b))||((decide (t.2.1=a)&&decide (t.2.2=b))||(decide (t.2.2=a)&&decide (t.1=b)))
def Ib (ts:List T3) (a b:Nat):Nat->Int
  | 0 => -1
  | n+1=>if Ib ts a b n = -1 then (if GU (ts.getD n (0,0,0)) a b=true then (n:Int) else -1) else Ib ts a b n
section
variable {ts:List T3} {a b t:Nat}
theorem KP:∀n,(∀j,j<n->GU (ts.getD j (0,0,0)) a b=false)->Ib ts a b n = -1
  | 0,_=>rfl
  | n+1,h=>by
    rw [Ib,KP n λj hj=>h j Z,if_pos rfl,h n Z]
    rfl
theorem PJ:∀n,t<n->GU (ts.getD t (0,0,0)) a b=true->(∀j,j<t->GU (ts.getD j (0,0,0)) a b=false)->Ib ts a b n=(t:Int)
  | 0,h,_,_=>absurd h (Nat.not_lt_zero _)
  | n+1,h,h1,h2=>by
    rw [Ib]
    rcases Nat.lt_or_ge t n with k|k
    · rw [PJ n k h1 h2,if_neg Z]
    · have e:n=t:=by omega
      subst e
      rw [KP n h2,if_pos rfl,if_pos h1]
end
section
variable {ts:List T3} {a b N t:Nat}
end
section
variable {ts:List T3} {a b N t i:Nat}
end
section
variable {ts:List T3} {p n:Nat}
end
end
section
abbrev EZ:=Int×Int×Int×Int
abbrev KI:=List (P2×Int)
def gz (a b:Int):P2:=D8 a.toNat b.toNat
def cV (N:Nat) (ss:List Z3):Nat->KI
  | 0=>[]
  | k+1=>if BL N (ss.getD (ss.length-1-k) (0,0,0)).1=true/\BL N (ss.getD (ss.length-1-k) (0,0,0)).2.1=true then Br (cV N ss k) (gz (ss.getD (ss.length-1-k) (0,0,0)).1 (ss.getD (ss.length-1-k) (0,0,0)).2.1) (ss.getD (ss.length-1-k) (0,0,0)).2.2 else cV N ss k
def bh (m:KI) (a b:Nat):Int:=(Bb m (D8 a b)).getD 0
def fU (N:Nat) (st:KI×Nat) (v:P2):KI×Nat:=(Br (Br st.1 (D8 v.1 (N+st.2)) (bh st.1 v.1 v.2)) (D8 v.2 (N+st.2)) (bh st.1 v.1 v.2),st.2+1)
def fV (N:Nat) (ss:List Z3) (vs:List P2):KI:=(vs.foldl (fU N) (cV N ss ss.length,0)).1
def fp (N:Nat) (e:EZ):Bool:=BL N e.1&&BL N e.2.1
def fm (e:EZ):P2:=(e.1.toNat,e.2.1.toNat)
def iP (N:Nat) (es:List EZ) (i:Nat):List P2:=((es.take i).filter (fp N)).map fm
def du (ps:List Pt) (v:P2):Pt:=IL (ps.getD v.1 ⟨0,0⟩+ps.getD v.2 ⟨0,0⟩) (1/2)
def iG (ps:List Pt) (vs:List P2):List Pt:=vs.foldl (λl v=>l++[du ps v]) ps
def CH (s:Tq3):Z3:=((s.1:Int),(s.2.1:Int),(s.2.2:Int))
def fv (n:Nat) (us:List Z3):List T3:=if DA n us=true then J3 (us.map HD) else []
section
variable {N:Nat} {ss:List Z3} {vs:List P2} {v:P2} {es:List EZ} {i j k a b:Nat} {m:KI} {rs:List T3} {ps:List Pt}
theorem C6 (rs:List T3):rowsL Am rs=rowsL Af (rs.map CH):=by unfold rowsL;rw [List.flatMap_map];rfl
end
def fX (N:Nat) (ss:List Z3) (vs:List P2) (us:List Z3):List Z3:=(fv (N+vs.length) us).map λs=>((s.1:Int),(s.2.1:Int),bh (fV N ss vs) s.1 s.2.1)
structure fF (N M:Nat) (ss:List Z3) where
  cs:List Value
  es:List Value
  a:RX cs N
  b:RX es M
  c:RX (rowsL Af ss) ss.length
def iK {N M:Nat} {ss:List Z3} (x:fF N M ss):List Value:=[x.a.val,x.b.val,x.c.val]
theorem eF {N M:Nat} {ss:List Z3} {x:fF N M ss} {y:As} (hy:y∈[x.a.row,x.b.row,x.c.row]):y.ro=true:=by
  simp only [xy,List.not_mem_nil,or_false] at hy
  rcases hy with rfl|rfl|rfl<;>rfl
instance {N M:Nat} {ss:List Z3}:Cl (fF N M ss):=⟨λx=>aG (iK x),λx=>[x.a.row,x.b.row,x.c.row],λx y hy=>eF hy⟩
section
variable {S:Nat->Prop} {w:World} {N M:Nat} {zs ss:List Z3} {ps:List Pt} {a b:Int} {i:Nat}
end
section
variable {f:Nat->Nat->Int} {rs:List T3} {i:Nat}
end
section
variable {rs qs:List RP} {q:RP} {N i k:Nat} {es:List EZ}
theorem DC.any {α:Type} {V:α->Value} {LW:α->List As} {S S':Nat->Prop} {W w:World} {e:Ending} (h:DC V LW S W e w) (hr:∀a,∀y∈LW a,y.ro=false):DC V LW S' W e w:=by
  obtain ⟨a,h1,h2,h3,h4⟩:=h
  refine ⟨a,h1,h2,λx hx b e=>?_,h4⟩
  obtain ⟨k1,k2⟩:=h3 x hx b e
  refine ⟨.inl ?_,k2⟩
  rcases k1 with k1|⟨k1,_⟩
  · exact k1
  · rw [hr a x hx] at k1;cases k1
end
theorem dl {w0:BA} {S:Nat->Prop} {L:List As} {w:World} {ps:List Pt} {ts ss:List Z3} {x:Hy ps ts ss} (hw:BE w0 w L) (i:Nat) (hi:(L.drop i).take 3=[x.a.row,x.b.row,x.c.row]) (hs:∀y∈B5 x.rs,y∈L) (ha:At w0 S x):Ro (SL w0 S L) w x:=λy hy=>by
  have hy':y∈[x.a.row,x.b.row,x.c.row]++B5 x.rs:=hy
  have hm:y∈L:=by
    rcases List.mem_append.1 hy' with hy|hy
    · exact List.mem_of_mem_drop (List.mem_of_mem_take (hi▸hy))
    · exact hs y hy
  exact ⟨λb e=>(hw.2.1 y hm b e).2,λb e=>⟨⟨y,hm,Cl.ro x y hy,e⟩,ha y hy b e⟩⟩
section
variable {N i:Nat} {es:List EZ}
end
end
end Go.Proofs.YtpolhpjiahbidaaGreatDoor
