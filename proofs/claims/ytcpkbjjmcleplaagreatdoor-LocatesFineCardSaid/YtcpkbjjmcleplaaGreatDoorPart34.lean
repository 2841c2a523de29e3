import Derived.Test.YtcpkbjjmcleplaaGreatDoorPart29
import Derived.Test.YtcpkbjjmcleplaaGreatDoorPart33
namespace Go.Proofs.YtcpkbjjmcleplaaGreatDoor
open Go Go.RowKit Go.Proofs.Tryz
open Go.Value renaming slice→qz,bool→qa
set_option linter.unusedVariables false
set_option linter.unusedSimpArgs false
section
set_option maxRecDepth 100000
theorem EX {x:Nat} (neg:Bool) (n:NX x) (w:World) {S:Nat->Prop} (hn:Ro S w n)  :Calls prog 157 #[(qa neg),(Ce n)] w (Aj (ZX (Eh neg x)) S w):=by
 have ln:=Bx (W:=w) hn
 refine AZ (args:=[(qa neg),(Ce n)]) (L:=[AM n]) func157 O O (leB O) (gD hn Ao) (zI (sL [0,1] O) (q4 (al VE O λb1=>oNl' (q2 (AK O (AK O ?_))))))
 refine zg (FM:=[(0,(qa neg)),(1,(Ce n)),(4,(pP b1 0)),(5,(qa neg)),(6,(qa neg)),(10,(qa (neg&&(decide (0<((dg x).length))))))]) (LM:=[AO b1 82 ([(qa false),jj]),AM n]) 4 ?_ ?_
 ·rcases xO neg with hg1|hg1
  ·refine zN (k:=6) (u:=qa true) O (by rw [hg1]) ?_
   have hg1':=hg1
   skip
   exact FR O (BV (v:=(vN ((dg x).length))) O (AD O underlying80) (BV (v:=(qa (decide (0<((dg x).length))))) O (CC (c:=(decide (0<((dg x).length)))) O O (DE (a:=0) (b:=(dg x).length))) (st' (v:=(qa (decide (0<((dg x).length))))) (ex_pick_true O O) O (oNl' (zT CT (xP _))))))
  ·refine zN (k:=6) (u:=qa false) O (by rw [hg1]) ?_
   have hg1':=hg1
   skip
   exact BP O (BP O (BP O (st' (v:=(qa false)) (AN O O) O (oNl' (zT CT (xP _))))))
 exact AK O (st' (v:=(aG ([(qa (neg&&(decide (0<((dg x).length))))),(Ce n)]))) (AS (zs:=[(qa false),jj]) (vs:=[(qa (neg&&(decide (0<((dg x).length))))),(Ce n)]) (pv:=[(0,(qa (neg&&(decide (0<((dg x).length)))))),(1,(Ce n))]) (places:=[(0,1),(1,1)]) zeroValue82 underlying82 (λw=>by simp [sizeOf4,sizeOf80]) O O) O (An O sizeOf82 O (oNl' (zB (sL [4] O) (zA (zF (ret_one O (Ab (i:=0) (cs:=[(qa (neg&&(decide (0<((dg x).length))))),(Ce n)]) O O isAgg82 sizeOf82 O) (λw hw=>DU (a:=cf neg n) hw (dx (dM (inS hw 1 O ln))) (by rw [<-dq];rfl)))))))))
theorem dp (z:Int) (hz:-9223372036854775808<=z) (hz2:z<9223372036854775808) (w:World) {S:Nat->Prop}  :Calls prog 150 #[(vI z)] w (Aj (ZX z) S w):=by
 refine AV (args:=[(vI z)]) func150 O O (leB O) (zI (sL [0] O) (q4 (al VE O λb1=>oNl' (q1 (q4 (AK O (st' (Aa (c:=(decide (z<(0:Int)))) O O O) O (oNl' (zB (sL [0,2,4] O) (zA ?_))))))))))
 refine zK O (λhc0=>?_) (λhc0=>?_)
 ·replace hc0:=xR hc0
  refine q4 (AK O (st' (AX (c:=(z+1)) O O (A6 Z Z)) O (st' (Jo (c:=(((-(z+1)).toNat:Nat):Int)) O (by rw [A6 Z Z];omega)) O (st' (Al (c:=(((-(z+1)).toNat:Nat):Int)) O underlying2 underlying52 (BW Z)) O (st' (AX (c:=((z.natAbs:Nat):Int)) O O (by rw [ED Z Z];omega)) O (cN (S:=S) (x:=z.natAbs) (args:=[(vK .u64 z.natAbs)]) call188 (λw hw=>SS z.natAbs (by first|omega|(simp only [Int.natAbs_neg];omega)) w) O O O λg1 lg1=>cZ (S:=S) (x:=z) (args:=[(qa true),(Ce g1)]) call157 (λw hw=>(Aj.cast (T:=λi=>ZX i) (Hp hc0) (EX true g1 w (inS hw 0 O lg1)))) O O O λg2 lg2=>E7 O sizeOf82 O (oNl' (zB (sL [0,2] O) (zA ?_)))))))))
  exact zF (zL (ret_one O (Ab (i:=2) (cs:=Dx g2) O O isAgg82 sizeOf82 O) (λw hw=>DU (a:=(g2:ZX z)) hw (inS hw 0 O lg2) O)))
 ·replace hc0:=xQ hc0
  exact zG (q2 (AK O (st' (Al (c:=((z.natAbs:Nat):Int)) O underlying2 underlying52 (by rw [ED Z Z];omega)) O (cN (S:=S) (x:=z.natAbs) (args:=[(vK .u64 z.natAbs)]) call188 (λw hw=>SS z.natAbs (by first|omega|(simp only [Int.natAbs_neg];omega)) w) O O O λg3 lg3=>cZ (S:=S) (x:=z) (args:=[(qa false),(Ce g3)]) call157 (λw hw=>(Aj.cast (T:=λi=>ZX i) (Ns hc0) (EX false g3 w (inS hw 0 O lg3)))) O O O λg4 lg4=>E7 O sizeOf82 O (oNl' (zB (sL [0,2] O) (zA (zF (ret_one O (Ab (i:=2) (cs:=Dx g4) O O isAgg82 sizeOf82 O) (λw hw=>DU (a:=(g4:ZX z)) hw (inS hw 0 O lg4) O))))))))))
theorem YP {x:Int} (a:ZX x) (w:World) {S:Nat->Prop} (ha:Ro S w a)  :Calls prog 162 #[(aG (Dx a))] w (Ac w (vI x.sign)):=by
 have la:=Bx (W:=w) ha
 refine AZ (args:=[(aG (Dx a))]) (L:=[AM a.n]) func162 O O (leB O) (au ha Ao) (zI (sL [0] O) (q4 (BH (cs:=Dx a) O λb1=>asg' O (q6 (sL [1,2] O) (q4 (st' (v:=(pP b1 1)) (AA O underlying82 O sizeOf80 O) O (BL 0 (Ce a.n) Gj O (st' (v:=(vN ((dg x.natAbs).length))) (AD O underlying80) O (st' (Au (c:=(decide (((dg x.natAbs).length)=0))) O O (K0 (a:=(dg x.natAbs).length) (b:=0))) O (oNl' ?_))))))))))
 refine zB (sL [1,2,6] O) (zA ?_)
 refine zK O (λhc0=>?_) (λhc0=>?_)
 ·replace hc0:=xR hc0
  have he:x.sign=0:=by rw [show x=0 by have:=QE hc0;omega];rfl
  exact q4 (asg' O (oNl' (zA (zF (zL (ret_one O (rd_tmp (v:=(vI 0)) O) (λw hw=>⟨by rw [he],hw.out⟩)))))))
 ·replace hc0:=xQ hc0
  have hx0:=I8 hc0
  refine zG (q1 (q4 (st' (v:=(pP b1 0)) (AA O underlying82 O sizeOf4 O) O (BL 0 (qa (decide (x<0))) Mj O (oNl' (zB (sL [1,2,8] O) (zA ?_)))))))
  refine zK O (λhc1=>?_) (λhc1=>?_)
  ·replace hc1:=xR hc1
   have he:x.sign = -1:=Int.sign_eq_neg_one_of_neg hc1
   exact q4 (asg' O (oNl' (zA (zF (zL (ret_one O (rd_tmp (v:=(vI (-1:Int))) O) (λw hw=>⟨by rw [he],hw.out⟩)))))))
  ·replace hc1:=xQ hc1
   have he:x.sign=1:=Int.sign_eq_one_of_pos Z
   exact zG (q2 (asg' O (oNl' (zA (zF (ret_one O (rd_tmp (v:=(vI 1)) O) (λw hw=>⟨by rw [he],hw.out⟩)))))))
theorem bI {x:Int} (a:ZX x) (w:World) {S:Nat->Prop} (ha:Ro S w a)  :Calls prog 195 #[(aG (Dx a))] w (Aj (ZX (-x)) S w):=by
 have la:=Bx (W:=w) ha
 refine AZ (args:=[(aG (Dx a))]) (L:=[AM a.n]) func195 O O (leB O) (au ha Ao) (zI (sL [0] O) (q4 (BH (cs:=Dx a) O λb1=>al VE O λb2=>q3 (sL [1,2] O) (st' (v:=(pP b1 0)) (AA O underlying82 O sizeOf4 O) O (BL 1 (qa (decide (x<0))) Mj O (st' (Bs (c:=(!(decide (x<0)))) O O) O (st' (v:=(pP b1 1)) (AA O underlying82 O sizeOf80 O) O (BL 1 (Ce a.n) Gj O (cZ (S:=S) (x:=(-x)) (args:=[(qa (!(decide (x<0)))),(Ce a.n)]) call157 (λw hw=>(Aj.cast (T:=λi=>ZX i) (S4 x) (EX (!(decide (x<0))) a.n w (QT (inS hw 2 O la))))) O O O λg1 lg1=>?_)))))))))
 exact DK O sizeOf82 O (oNl' (zB (sL [2] O) (zA (zF (ret_one O (Ab (i:=1) (cs:=Dx g1) O O isAgg82 sizeOf82 O) (λw hw=>DU (a:=(g1:ZX (-x))) hw (inS hw 0 O lg1) O))))))
theorem bH {x y:Int} (a:ZX x) (b:ZX y) (hx:nw x.natAbs<=67108864) (hy:nw y.natAbs<=67108864) (w:World) {S:Nat->Prop} (ha:Ro S w a) (hb:Ro S w b)  :Calls prog 158 #[(aG (Dx a)),(aG (Dx b))] w (Aj (ZX (x+y)) S w):=by
 have la:=Bx (W:=w) ha
 have lb:=Bx (W:=w) hb
 refine AZ (args:=[(aG (Dx a)),(aG (Dx b))]) (L:=[AM a.n,AM b.n]) func158 O O (leB O) (au ha (au hb Ao)) (zI (sL [0,1] O) (q4 (BH (cs:=Dx a) O λb1=>BH (cs:=Dx b) O λb2=>al VE O λb3=>q6 (sL [2,3,4] O) (q4 (st' (v:=(pP b1 0)) (AA O underlying82 O sizeOf4 O) O (BL 2 (qa (decide (x<0))) Mj O (st' (v:=(pP b2 0)) (AA O underlying82 O sizeOf4 O) O (BL 1 (qa (decide (y<0))) Mj O ?_))))))))
 refine st' (KL (c:=(decide (x<0) == decide (y<0))) O O underlying4 O) O (oNl' (zB (sL [2,3,4,9] O) (zA ?_)))
 refine zK O (λhc0=>?_) (λhc0=>?_)
 ·refine zS (B9 (EV 6++[(6,false),(7,false),(8,false)]) (sl sr) (Am (v:=(pP b1 0)) O (AA O underlying82 O sizeOf4 O) (CL 1 (qa (decide (x<0))) Mj O (Am (v:=(pP b1 1)) O (AA O underlying82 O sizeOf80 O) (CL 1 (Ce a.n) Gj O (Am (v:=(pP b2 1)) O (AA O underlying82 O sizeOf80 O) (CL 0 (Ce b.n) Gj O (zD O (cN (S:=S) (x:=(x.natAbs+y.natAbs)) (args:=[(Ce a.n),(Ce b.n)]) call164 (λw hw=>Td a.n b.n (by first|omega|(simp only [Int.natAbs_neg];omega)) (by first|omega|(simp only [Int.natAbs_neg];omega)) w (QT (inS hw 3 O la)) (QT (inS hw 4 O lb))) O O O λg1 lg1=>zC (sl (sl sr)) (zD O ?_))))))))))
  exact cZ (S:=S) (x:=(x+y)) (args:=[(qa (decide (x<0))),(Ce g1)]) call157 (λw hw=>(Aj.cast (T:=λi=>ZX i) (JB hc0) (EX (decide (x<0)) g1 w (inS hw 0 O lg1)))) O O O λg2 lg2=>zC (sl (sl (sl sr))) (zD O (E7 O sizeOf82 O (zC (sl (sl (sl sr))) (zP (zB (sL [2,3,4] O) (zA (zF (zL (ret_one O (Ab (i:=2) (cs:=Dx g2) O O isAgg82 sizeOf82 O) (λw hw=>DU (a:=(g2:ZX (x+y))) hw (inS hw 0 O lg2) O))))))))))
 ·have hc0:(decide (x<0) == decide (y<0))=false:=by simpa using hc0
  refine zG (q1 (q4 (st' (v:=(pP b1 1)) (AA O underlying82 O sizeOf80 O) O (BL 2 (Ce a.n) Gj O (st' (v:=(pP b2 1)) (AA O underlying82 O sizeOf80 O) O (BL 1 (Ce b.n) Gj O (CQ call192 (λw hw=>bF a.n b.n (by first|omega|(simp only [Int.natAbs_neg];omega)) (by first|omega|(simp only [Int.natAbs_neg];omega)) w (QT (inS hw 3 O la)) (QT (inS hw 4 O lb))) O (st' (Cy (c:=(decide ((0:Int)<=(Dv x.natAbs y.natAbs)))) O O O) O (oNl' (zB (sL [2,3,4,23] O) (zA ?_)))))))))))
  refine zK O (λhc1=>?_) (λhc1=>?_)
  ·replace hc1:=xR hc1
   have hge:y.natAbs<=x.natAbs:=by exact Nat.le_of_not_lt λh=>by have:=(GG (a:=x.natAbs) (b:=y.natAbs)).2 h;omega
   refine zS (B9 (EV 6++[(6,false),(7,false),(8,false)]) (sl sr) (Am (v:=(pP b1 0)) O (AA O underlying82 O sizeOf4 O) (CL 1 (qa (decide (x<0))) Mj O (Am (v:=(pP b1 1)) O (AA O underlying82 O sizeOf80 O) (CL 1 (Ce a.n) Gj O (Am (v:=(pP b2 1)) O (AA O underlying82 O sizeOf80 O) (CL 0 (Ce b.n) Gj O (zD O (cN (S:=S) (x:=(x.natAbs-y.natAbs)) (args:=[(Ce a.n),(Ce b.n)]) call191 (λw hw=>PC a.n b.n (by first|omega|(simp only [Int.natAbs_neg];omega)) (by first|omega|(simp only [Int.natAbs_neg];omega)) w (QT (inS hw 3 O la)) (QT (inS hw 4 O lb))) O O O λg3 lg3=>zC (sl (sl sr)) (zD O ?_))))))))))
   exact cZ (S:=S) (x:=(x+y)) (args:=[(qa (decide (x<0))),(Ce g3)]) call157 (λw hw=>(Aj.cast (T:=λi=>ZX i) (L0 hc0 hge) (EX (decide (x<0)) g3 w (inS hw 0 O lg3)))) O O O λg4 lg4=>zC (sl (sl (sl sr))) (zD O (E7 O sizeOf82 O (zC (sl (sl (sl sr))) (zP (zB (sL [2,3,4] O) (zA (zF (zL (ret_one O (Ab (i:=2) (cs:=Dx g4) O O isAgg82 sizeOf82 O) (λw hw=>DU (a:=(g4:ZX (x+y))) hw (inS hw 0 O lg4) O))))))))))
  ·replace hc1:=xQ hc1
   have hge:¬y.natAbs<=x.natAbs:=by have:=(GG (a:=x.natAbs) (b:=y.natAbs)).1 Z;omega
   refine zG (q1 (B9 (EV 6++[(6,false),(7,false),(8,false)]) (sl sr) (Am (v:=(pP b2 0)) O (AA O underlying82 O sizeOf4 O) (CL 0 (qa (decide (y<0))) Mj O (Am (v:=(pP b2 1)) O (AA O underlying82 O sizeOf80 O) (CL 0 (Ce b.n) Gj O (Am (v:=(pP b1 1)) O (AA O underlying82 O sizeOf80 O) (CL 1 (Ce a.n) Gj O (zD O (cN (S:=S) (x:=(y.natAbs-x.natAbs)) (args:=[(Ce b.n),(Ce a.n)]) call191 (λw hw=>PC b.n a.n (by first|omega|(simp only [Int.natAbs_neg];omega)) (by first|omega|(simp only [Int.natAbs_neg];omega)) w (QT (inS hw 4 O lb)) (QT (inS hw 3 O la))) O O O λg5 lg5=>zC (sl (sl sr)) ?_))))))))))
   exact zD O (cZ (S:=S) (x:=(x+y)) (args:=[(qa (decide (y<0))),(Ce g5)]) call157 (λw hw=>(Aj.cast (T:=λi=>ZX i) (L3 hc0 hge) (EX (decide (y<0)) g5 w (inS hw 0 O lg5)))) O O O λg6 lg6=>zC (sl (sl (sl sr))) (zD O (E7 O sizeOf82 O (zC (sl (sl (sl sr))) (zP (zB (sL [2,3,4] O) (zA (zF (ret_one O (Ab (i:=2) (cs:=Dx g6) O O isAgg82 sizeOf82 O) (λw hw=>DU (a:=(g6:ZX (x+y))) hw (inS hw 0 O lg6) O))))))))))
theorem PF {x y:Int} (a:ZX x) (b:ZX y) (hx:nw x.natAbs<=67108864) (hy:nw y.natAbs<=67108864) (w:World) {S:Nat->Prop} (ha:Ro S w a) (hb:Ro S w b)  :Calls prog 159 #[(aG (Dx a)),(aG (Dx b))] w (Aj (ZX (x*y)) S w):=by
 have la:=Bx (W:=w) ha
 have lb:=Bx (W:=w) hb
 refine AZ (args:=[(aG (Dx a)),(aG (Dx b))]) (L:=[AM a.n,AM b.n]) func159 O O (leB O) (au ha (au hb Ao)) (zI (sL [0,1] O) (q4 (BH (cs:=Dx a) O λb1=>BH (cs:=Dx b) O λb2=>al VE O λb3=>q6 (sL [2,3,4] O) (B9 (EV 9++[(9,false),(10,false),(11,false)]) (sl sr) (Am (v:=(pP b1 0)) O (AA O underlying82 O sizeOf4 O) (CL 1 (qa (decide (x<0))) Mj O (Am (v:=(pP b2 0)) O (AA O underlying82 O sizeOf4 O) (CL 0 (qa (decide (y<0))) Mj O ?_))))))))
 refine Am O (KM (c:=(!(decide (x<0) == decide (y<0)))) O O underlying4 O) (Am (v:=(pP b1 1)) O (AA O underlying82 O sizeOf80 O) (CL 1 (Ce a.n) Gj O (Am (v:=(pP b2 1)) O (AA O underlying82 O sizeOf80 O) (CL 0 (Ce b.n) Gj O (zD O (cN (S:=S) (x:=(x.natAbs*y.natAbs)) (args:=[(Ce a.n),(Ce b.n)]) call161 (λw hw=>PB a.n b.n (by first|omega|(simp only [Int.natAbs_neg];omega)) (by first|omega|(simp only [Int.natAbs_neg];omega)) w (QT (inS hw 3 O la)) (QT (inS hw 4 O lb))) O O O λg1 lg1=>zC (sl (sl sr)) (zD O (cZ (S:=S) (x:=(x*y)) (args:=[(qa (!(decide (x<0) == decide (y<0)))),(Ce g1)]) call157 (λw hw=>(Aj.cast (T:=λi=>ZX i) (S2 x y) (EX (!(decide (x<0) == decide (y<0))) g1 w (inS hw 0 O lg1)))) O O O λg2 lg2=>zC (sl (sl (sl sr))) (zD O ?_)))))))))
 exact E7 O sizeOf82 O (zC (sl (sl (sl sr))) (zP (zB (sL [4] O) (zA (zF (ret_one O (Ab (i:=2) (cs:=Dx g2) O O isAgg82 sizeOf82 O) (λw hw=>DU (a:=(g2:ZX (x*y))) hw (inS hw 0 O lg2) O)))))))
theorem Qt {x:Int} (a:ZX x) (hx:nw x.natAbs<=67108864) (w:World) {S:Nat->Prop} (ha:Ro S w a)  :Calls prog 109 #[(aG (Dx a))] w (Ac w (Value.string (txB (txI x)))):=by
 have la:=Bx (W:=w) ha
 refine AZ (args:=[(aG (Dx a))]) (L:=[AM a.n]) func109 O O (leB O) (au ha Ao) (zI (sL [0] O) (q4 (BH (cs:=Dx a) O λb1=>asg' O (q6 (sL [1,2] O) (q4 (st' (v:=(pP b1 0)) (AA O underlying82 O sizeOf4 O) O (BL 0 (qa (decide (x<0))) Mj O (oNl' (zB (sL [1,2,4] O) (zA ?_))))))))))
 refine zK O (λhc0=>?_) (λhc0=>?_)
 ·replace hc0:=xR hc0
  have he:txI x=45::Lib.decDigits x.natAbs:=by unfold txI;rw [if_pos hc0]
  exact q4 (st' (v:=(pP b1 1)) (AA O underlying82 O sizeOf80 O) O (BL 0 (Ce a.n) Gj O (CQ call110 (λw hw=>M1 a.n (by first|omega|(simp only [Int.natAbs_neg];omega)) w (QT (inS hw 1 O la))) O (st' (v:=(Value.string (txB (45::Lib.decDigits x.natAbs)))) (Bz (r:=(txB (45::Lib.decDigits x.natAbs))) O O (by have:=Jl x.natAbs;rw [DW];show 1+_<=_;omega) (EB [45] _)) O (asg' O (oNl' (zB (sL [1,2] O) (zA (zF (zL (ret_one O (rd_tmp (v:=(Value.string (txB (45::Lib.decDigits x.natAbs)))) O) (λw hw=>⟨by rw [he],hw.out⟩))))))))))))
 ·replace hc0:=xQ hc0
  have he:txI x=Lib.decDigits x.natAbs:=by unfold txI;rw [if_neg hc0]
  exact zG (q2 (st' (v:=(pP b1 1)) (AA O underlying82 O sizeOf80 O) O (BL 0 (Ce a.n) Gj O (CQ call110 (λw hw=>M1 a.n (by first|omega|(simp only [Int.natAbs_neg];omega)) w (QT (inS hw 1 O la))) O (asg' O (oNl' (zB (sL [1,2] O) (zA (zF (ret_one O (rd_tmp (v:=(Value.string (txB (Lib.decDigits x.natAbs)))) O) (λw hw=>⟨by rw [he],hw.out⟩)))))))))))
end
theorem JW (n:Int):decide (n.sign<0)=decide (n<0):=by
  rcases Int.lt_trichotomy n 0 with h|h|h
  · rw [Int.sign_eq_neg_one_of_neg h];simp [h]
  · subst h;rfl
  · rw [Int.sign_eq_one_of_pos h];simp;omega
theorem Wm {n:Int} {d:Nat} (hd:d≠0):Eh (decide (n<0)) (n.natAbs/Nat.gcd n.natAbs d)=(mkRat n d).num:=by rw [Oe hd,JW]
theorem Wl {n:Int} {d:Nat} (hd:d≠0):d/Nat.gcd n.natAbs d-1=(mkRat n d).den-1:=by rw [S1 hd]
theorem gg {b:Rat} (h:b≠0):mkRat (Eh (decide (b.num<0)) b.den) b.num.natAbs=b⁻¹:=by rw [<-Jr h,JW]
theorem Y8 {a b:Rat}:a*b⁻¹=a/b:=(Rat.div_def a b).symm
theorem WF {a b:Rat} (h:b.num.sign=0):(0:Rat)=a/b:=by
  have h1:b=0:=Rat.num_eq_zero.1 (Int.sign_eq_zero_iff_zero.1 h)
  rw [h1,Rat.div_def,Rat.inv_zero,Rat.mul_zero]
theorem gS (a b:Rat):(a-b).num.sign=BR a b:=by
  rw [<-Id]
  rw [Rat.sub_eq_add_neg,<-H7 a (-b),Rat.neg_num,Rat.neg_den,Int.neg_mul,<-Int.sub_eq_add_neg]
  have hd:a.den*b.den≠0:=Nat.mul_ne_zero a.den_nz b.den_nz
  rw [Oe hd]
  have h:∀z:Int,(Eh (decide (z.sign<0)) (z.natAbs/Nat.gcd z.natAbs (a.den*b.den))).sign=z.sign:=λz=>by
    rcases Int.lt_trichotomy z 0 with h|h|h
    · have hg:0<z.natAbs/Nat.gcd z.natAbs (a.den*b.den):=Nat.div_pos (Nat.gcd_le_left _ Z) (Nat.gcd_pos_of_pos_left _ Z)
      rw [JW,Int.sign_eq_neg_one_of_neg h]
      exact Int.sign_eq_neg_one_of_neg (by unfold Eh;simp [h];omega)
    · subst h;simp [Eh]
    · have hg:0<z.natAbs/Nat.gcd z.natAbs (a.den*b.den):=Nat.div_pos (Nat.gcd_le_left _ Z) (Nat.gcd_pos_of_pos_left _ Z)
      rw [JW,Int.sign_eq_one_of_pos h]
      refine Int.sign_eq_one_of_pos ?_
      have:¬z<0:=by omega
      unfold Eh;simp [this];omega
  exact h _
def FX.zero:FX 0:=⟨⟨NX.zero⟩,NX.zero⟩
theorem Lk {x0:Pt} (f0:PX x0):Instr.fill (λi=>some (i*6,6)) ((Array.range (1*6)).map ((Value.agg (#[(qa false),jj,jj,(qa false),jj,jj])).cells[·%(Value.agg (#[(qa false),jj,jj,(qa false),jj,jj])).cells.size]!)) [(0,.agg (Ae f0).toArray)]=some (Ae f0).toArray:=by kernel_rfl
def Ya (q:Rat):List UInt8:=if q.den-1=0 then txI q.num else txI q.num++47::Lib.decDigits q.den
theorem TZ (z:Int):(txI z).length<=10*nw z.natAbs+2:=by
  have:=Jl z.natAbs
  unfold txI;split<;>simp<;>omega
structure CX (cs:List Value) (n:Nat) where
  p:Option Addr
  ok:BG p n n
instance {cs:List Value} {n:Nat}:Cl (CX cs n):=⟨λa=>.slice a.p n n,λa=>[AI a.p cs],λa y hy=>by rcases xM.1 hy with rfl;rfl⟩
theorem fC {S:Nat->Prop} {W w:World} {L:List As} (hw:A_ ⟨W,none⟩ w L) (i:Nat) {p:Option Addr} {T:TypeId} {z n c:Nat} {cs:List Value} (hi:L[i]?=some (rowW p T z n c cs)) (ho:OwnOk p n c) (hl:cs.length=n*z) {v:Value} (hv:v=.slice p n n):Aj (CX cs n) S W (.returned v) w :=
  ⟨⟨p,⟨λe=>⟨(ho.nil e).1,(ho.nil e).1⟩,λa e=>by rw [ho.at0 a e],Nat.le_refl _⟩⟩,by rw [hv];rfl,hw.out,λy hy=>by rcases xM.1 hy with rfl;exact Fp hw i hi ho hl⟩
section
abbrev Z3:=Int×Int×Int
def Bn (t:Z3):List Value:=[vI t.1,vI t.2.1,vI t.2.2]
theorem LE (t:Z3):(Bn t).length=3:=rfl
structure MZ (ps:List Pt) (ts ss:List Z3) where
  a:RX (rowsL Ah ps) ps.length
  b:RX (rowsL Bn ts) ts.length
  c:RX (rowsL Bn ss) ss.length
def EU {ps:List Pt} {ts ss:List Z3} (x:MZ ps ts ss):List Value:=[x.a.val,x.b.val,x.c.val]
theorem Wu {ps:List Pt} {ts ss:List Z3} {x:MZ ps ts ss} {y:As} (hy:y∈[x.a.row,x.b.row,x.c.row]):y.ro=true:=by
  simp only [xL,List.not_mem_nil,or_false] at hy
  rcases hy with rfl|rfl|rfl<;>rfl
instance {ps:List Pt} {ts ss:List Z3}:Cl (MZ ps ts ss):=⟨λx=>aG (EU x),λx=>[x.a.row,x.b.row,x.c.row],λx y hy=>Wu hy⟩
structure RW where
  ds:List PD
  ts:List Z3
  ss:List Z3
  a:RX (rowsL EI ds) ds.length
  b:RX (rowsL Bn ts) ts.length
  c:RX (rowsL Bn ss) ss.length
  hd:∀d∈ds,d.ok
def i9 (x:RW):List Value:=[x.a.val,x.b.val,x.c.val]
theorem fQ {x:RW} {y:As} (hy:y∈[x.a.row,x.b.row,x.c.row]):y.ro=true:=by
  simp only [xL,List.not_mem_nil,or_false] at hy
  rcases hy with rfl|rfl|rfl<;>rfl
instance:Cl RW:=⟨λx=>aG (i9 x),λx=>[x.a.row,x.b.row,x.c.row],λx y hy=>fQ hy⟩
def ix:PD:=⟨⟨0,0⟩,⟨0,0⟩⟩
section
variable {S:Nat->Prop} {w:World} {ps:List Pt} {ts ss:List Z3} {x:MZ ps ts ss} {r:RW}
end
structure RP where
  p:Pt
  x:PX p
def EP:RP:=⟨⟨0,0⟩,⟨FX.zero,FX.zero⟩⟩
@[reducible] def EE (r:RP):List Value:=Ae r.x
theorem Bq (r:RP):(EE r).length=6:=rfl
def DJ (rs:List RP):List As:=rs.flatMap λr=>Cl.rows r.x
theorem Oy {rs:List RP} {y:As} (h:y∈DJ rs):y.ro=true:=by
  obtain ⟨r,_,h⟩:=List.mem_flatMap.1 h
  exact Cl.ro r.x y h
theorem QX (rs:List RP) (r:RP):DJ (rs++[r])=DJ rs++Cl.rows r.x:=by simp [DJ]
theorem cw (r:RP) (A:List As) (rs:List RP):(Cl.rows r.x++(A++DJ rs)).Perm (A++DJ (rs++[r])):=by
  rw [QX,<-xC A]
  exact List.perm_append_comm
theorem XK (A T L:List As):(A++(T++L)).Perm (A++(L++T)):=(List.Perm.refl A).append List.perm_append_comm
structure Ku (ps:List Pt) (ts ss:List Z3) where
  rs:List RP
  e:rs.map (·.p)=ps
  a:RX (rowsL EE rs) rs.length
  b:RX (rowsL Bn ts) ts.length
  c:RX (rowsL Bn ss) ss.length
def HI {ps:List Pt} {ts ss:List Z3} (x:Ku ps ts ss):List Value:=[x.a.val,x.b.val,x.c.val]
theorem ba {ps:List Pt} {ts ss:List Z3} {x:Ku ps ts ss} {y:As} (hy:y∈[x.a.row,x.b.row,x.c.row]++DJ x.rs):y.ro=true:=by
  rcases List.mem_append.1 hy with hy|hy
  · simp only [xL,List.not_mem_nil,or_false] at hy
    rcases hy with rfl|rfl|rfl<;>rfl
  · exact Oy hy
instance {ps:List Pt} {ts ss:List Z3}:Cl (Ku ps ts ss):=⟨λx=>aG (HI x),λx=>[x.a.row,x.b.row,x.c.row]++DJ x.rs,λx y hy=>ba hy⟩
theorem Ku.at {ps:List Pt} {ts ss:List Z3} (x:Ku ps ts ss) {i:Nat} (h:i<x.rs.length):(x.rs.getD i EP).p=ps.getD i ⟨0,0⟩:=by
  have h1:(x.rs.map (·.p)).getD i ⟨0,0⟩=ps.getD i ⟨0,0⟩:=congrArg (λl=>l.getD i ⟨0,0⟩) x.e
  rw [<-h1]
  simp [h]
theorem Ku.len {ps:List Pt} {ts ss:List Z3} (x:Ku ps ts ss):x.rs.length=ps.length:=by
  have h:=congrArg List.length x.e
  rwa [xI] at h
section
variable {P:Program} {ops:Array Oper} {rest:List Oper} {Q:Exit->Act->World->Prop} {n:Nat} {F:List (Nat×Value)} {w0:Ay} {S:Nat->Prop} {L L2 A:List As} {w W:World} {rs:List RP} {i:Nat} {ps:List Pt} {ts ss:List Z3}
theorem yS (hp:L.Perm L2) (next:AP P ops rest Q n F w0 L2):AP P ops rest Q n F w0 L:=λa w ha hW=>next a w ha (hW.perm hp)
theorem gZ (hw:A_ w0 w L) (hs:∀y∈DJ rs,y∈L) (hi:i<rs.length) (ha:∀y∈DJ rs,∀b,y.foot=some b->Nw w0 S b):Ro (SL w0 S L) w (rs.getD i EP).x:=λy hy=>by
  have hm:y∈DJ rs:=List.mem_flatMap.2 ⟨rs[i],List.getElem_mem hi,by rw [List.getD,xN hi] at hy;exact hy⟩
  exact ⟨λb e=>(hw.2.1 y (hs y hm) b e).2,λb e=>⟨⟨y,hs y hm,Oy hm,e⟩,ha y hm b e⟩⟩
theorem At.snoc {r:RP} (h:∀y∈DJ rs,∀b,y.foot=some b->Nw w0 S b) (k:At w0 S r.x):∀y∈DJ (rs++[r]),∀b,y.foot=some b->Nw w0 S b:=λy hy=>by
  rw [QX] at hy
  rcases List.mem_append.1 hy with hy|hy
  · exact h y hy
  · exact k y hy
theorem At.rpt {x:Ku ps ts ss} (h:At w0 S x):∀y∈DJ x.rs,∀b,y.foot=some b->Nw w0 S b:=λy hy=>h y (xG [x.a.row,x.b.row,x.c.row] hy)
end
theorem RW.ok (r:RW) {i:Nat} (h:i<r.ds.length):(r.ds.getD i ix).ok:=by
  rw [List.getD,xN h]
  exact r.hd _ (List.getElem_mem h)
structure ic (ps:List Pt) (ts ss:List Z3) where
  a:OX 62 10 (rowsL Ah ps) ps.length
  b:OX 64 3 (rowsL Bn ts) ts.length
  c:OX 96 3 (rowsL Bn ss) ss.length
@[reducible] def jE {ps:List Pt} {ts ss:List Z3} (x:ic ps ts ss):List As:=[rowW x.c.p 96 3 ss.length x.c.c (rowsL Bn ss),rowW x.b.p 64 3 ts.length x.b.c (rowsL Bn ts),rowW x.a.p 62 10 ps.length x.a.c (rowsL Ah ps)]
section
variable {S:Nat->Prop} {w:World} {w0:Ay} {L:List As} {ps:List Pt} {ts ss:List Z3}
theorem YZ {α:Type} [Cl α] {a:α} (h:Ro S w a):∀y∈Cl.rows a,y.ro=true/\Holds w y:=λy k=>⟨Cl.ro a y k,(h y k).1⟩
end
end
section
def BQ (n:Nat) (p:Int):Bool:=decide (0<=p)&&decide (p<(n:Int))
def Nv (n:Nat) (t:Z3):Bool:=BQ n t.1&&BQ n t.2.1&&BQ n t.2.2&&!decide (t.1=t.2.1)&&!decide (t.2.1=t.2.2)&&!decide (t.2.2=t.1)
def EO (n:Nat) (ts:List Z3):Bool:=ts.all (Nv n)
def idxZ (n:Nat):List Z3->Nat->Int
  | [],_ => -1
  | t::r,i=>if Nv n t=true then idxZ n r (i+1) else (i:Int)
theorem UK {n:Nat} {ts:List Z3} {j:Nat} (hj:j<ts.length) (h:Nv n (ts.getD j (0,0,0))=true):idxZ n (ts.drop j) j=idxZ n (ts.drop (j+1)) (j+1):=by
  rw [H8 (d:=(0,0,0)) hj];exact if_pos h
theorem WY {n:Nat} {ts:List Z3} {j:Nat} (hj:j<ts.length) (h:Nv n (ts.getD j (0,0,0))=false):idxZ n (ts.drop j) j=(j:Int):=by
  rw [H8 (d:=(0,0,0)) hj];exact if_neg (by rw [h];exact Bool.false_ne_true)
theorem WX {n:Nat} {ts:List Z3} {j:Nat} (hj:¬j<ts.length):idxZ n (ts.drop j) j = -1:=by
  rw [List.drop_of_length_le Z];rfl
theorem Nl (n:Nat):∀(ts:List Z3) (i:Nat),decide (0<=idxZ n ts i)=!EO n ts
  | [],i=>rfl
  | t::r,i=>by
    unfold idxZ EO
    rw [List.all_cons]
    cases h:Nv n t with
    | true=>rw [if_pos rfl,Bool.true_and];exact Nl n r (i+1)
    | false=>rw [if_neg Bool.false_ne_true,Bool.false_and];simp
theorem W6 {n:Nat} {ts:List Z3} (h:∀j,j<ts.length->Nv n (ts.getD j (0,0,0))=true):EO n ts=true:=List.all_eq_true.2 λt ht=>by
  obtain ⟨j,hj,rfl⟩:=List.getElem_of_mem ht
  have:=h j hj
  rwa [List.getD,xN hj] at this
theorem Zx {n:Nat} {ts:List Z3} {j:Nat} (hj:j<ts.length) (h:Nv n (ts.getD j (0,0,0))=false):EO n ts=false:=by
  cases e:EO n ts with
  | false=>rfl
  | true =>
    have h1:=List.all_eq_true.1 e _ (List.getElem_mem hj)
    rw [List.getD,xN hj] at h
    have h:Nv n ts[j]=false:=h
    rw [h] at h1;cases h1
def natT (t:Z3):Tq3:=(t.1.toNat,t.2.1.toNat,t.2.2.toNat)
theorem TB {n:Nat} {t:Z3} (h:Nv n t=true):PP n (natT t)=true/\Bn t=BC (natT t):=by
  obtain ⟨a,b,c⟩:=t
  unfold Nv BQ at h
  simp only [xZ,xV,xT,xS] at h
  obtain ⟨⟨⟨⟨⟨⟨h1,h2⟩,h3,h4⟩,h5,h6⟩,h7⟩,h8⟩,h9⟩:=h
  refine ⟨?_,?_⟩
  · unfold PP natT
    simp only [xZ,xV,xT,xS]
    refine ⟨⟨⟨⟨⟨?_,?_⟩,?_⟩,?_⟩,?_⟩,?_⟩<;>omega
  · show [vI a,vI b,vI c]=[vN a.toNat,vN b.toNat,vN c.toNat]
    rw [show vN a.toNat=vI a from congrArg vI (Int.toNat_of_nonneg h1),show vN b.toNat=vI b from congrArg vI (Int.toNat_of_nonneg h3),show vN c.toNat=vI c from congrArg vI (Int.toNat_of_nonneg h5)]
theorem W7 {n:Nat} {zs:List Z3} (h:EO n zs=true):Ek n (zs.map natT)=true/\rowsL Bn zs=rowsL BC (zs.map natT):=by
  unfold EO Ek rowsL at *
  rw [List.all_eq_true] at h
  refine ⟨List.all_eq_true.2 λt ht=>?_,?_⟩
  · obtain ⟨z,hz,rfl⟩:=List.mem_map.1 ht
    exact (TB (h z hz)).1
  · rw [List.flatMap_map]
    induction zs with
    | nil=>rfl
    | cons z r ih=>rw [List.flatMap_cons,List.flatMap_cons,(TB (h z List.mem_cons_self)).2,ih λx hx=>h x (List.mem_cons_of_mem _ hx)]
structure RQ (N K:Nat) (zs:List Z3) where
  cs:List Value
  ds:List Value
  a:RX cs N
  b:RX (rowsL Bn zs) zs.length
  c:RX ds K
def Iu {N K:Nat} {zs:List Z3} (x:RQ N K zs):List Value:=[x.a.val,x.b.val,x.c.val]
theorem fN {N K:Nat} {zs:List Z3} {x:RQ N K zs} {y:As} (hy:y∈[x.a.row,x.b.row,x.c.row]):y.ro=true:=by
  simp only [xL,List.not_mem_nil,or_false] at hy
  rcases hy with rfl|rfl|rfl<;>rfl
instance {N K:Nat} {zs:List Z3}:Cl (RQ N K zs):=⟨λx=>aG (Iu x),λx=>[x.a.row,x.b.row,x.c.row],λx y hy=>fN hy⟩
section
variable {S:Nat->Prop} {w:World} {N K:Nat} {zs ss:List Z3} {ps:List Pt}
theorem gw {x:RQ N K zs} (h:Ro S w x):Ro S w x.b:=λy hy=>by rcases xM.1 hy with rfl;exact h _ (List.mem_cons_of_mem _ List.mem_cons_self)
def MZ.rq (x:MZ ps zs ss):RQ ps.length ss.length zs:=⟨rowsL Ah ps,rowsL Bn ss,x.a,x.b,x.c⟩
theorem gl {x:MZ ps zs ss} (h:Ro S w x):Ro S w x.rq:=λy hy=>h y hy
def Ku.rq (x:Ku ps zs ss):RQ x.rs.length ss.length zs:=⟨rowsL EE x.rs,rowsL Bn ss,x.a,x.b,x.c⟩
theorem aX {x:Ku ps zs ss} (h:Ro S w x):Ro S w x.rq:=λy hy=>h y (xF _ hy)
end
end
end Go.Proofs.YtcpkbjjmcleplaaGreatDoor
