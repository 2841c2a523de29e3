import Derived.Test.YtcpkbjjmcleplaaGreatDoorPart25
import Derived.Test.YtcpkbjjmcleplaaGreatDoorPart29
namespace Go.Proofs.YtcpkbjjmcleplaaGreatDoor
open Go Go.RowKit Go.Proofs.Tryz
open Go.Value renaming slice→qz,bool→qa
set_option linter.unusedVariables false
set_option linter.unusedSimpArgs false
section
set_option maxRecDepth 100000
theorem Dz {x:Nat} (neg:Bool) (n:NX x) (w:World) {S:Nat->Prop} (hn:Ro S w n)  :Calls prog 157 #[(qa neg),(CN n)] w (Ai (ZX (EB neg x)) S w):=by
 have ln:=Bs (W:=w) hn
 refine AX (args:=[(qa neg),(CN n)]) (L:=[AM n]) func157 O O (leB O) (dv hn Al) (zG (sL [0,1] O) (q4 (al Ty O λb1=>oNl' (q2 (AL O (AL O ?_))))))
 refine zg (FM:=[(0,(qa neg)),(1,(CN n)),(4,(pP b1 0)),(5,(qa neg)),(6,(qa neg)),(10,(qa (neg&&(decide (0<((dg x).length))))))]) (LM:=[AQ b1 82 ([(qa false),jj]),AM n]) 4 ?_ ?_
 ·rcases xO neg with hg1|hg1
  ·refine zJ (k:=6) (u:=qa true) O (by rw [hg1]) ?_
   have hg1':=hg1
   skip
   exact FV O (BN (v:=(vN ((dg x).length))) O (AD O underlying80) (BN (v:=(qa (decide (0<((dg x).length))))) O (Bu (c:=(decide (0<((dg x).length)))) O O (DL (a:=0) (b:=(dg x).length))) (st' (v:=(qa (decide (0<((dg x).length))))) (ex_pick_true O O) O (oNl' (zS CK (xP _))))))
  ·refine zJ (k:=6) (u:=qa false) O (by rw [hg1]) ?_
   have hg1':=hg1
   skip
   exact BF O (BF O (BF O (st' (v:=(qa false)) (AN O O) O (oNl' (zS CK (xP _))))))
 exact AL O (st' (v:=(aG ([(qa (neg&&(decide (0<((dg x).length))))),(CN n)]))) (AR (zs:=[(qa false),jj]) (vs:=[(qa (neg&&(decide (0<((dg x).length))))),(CN n)]) (pv:=[(0,(qa (neg&&(decide (0<((dg x).length)))))),(1,(CN n))]) (places:=[(0,1),(1,1)]) zeroValue82 underlying82 (λw=>by simp [sizeOf4,sizeOf80]) O O) O (Am O sizeOf82 O (oNl' (zB (sL [4] O) (zA (zF (ret_one O (Aa (i:=0) (cs:=[(qa (neg&&(decide (0<((dg x).length))))),(CN n)]) O O isAgg82 sizeOf82 O) (λw hw=>DC (a:=aU neg n) hw (bP (aw (inS hw 1 O ln))) (by rw [<-bL];rfl)))))))))
theorem bK (z:Int) (hz:-9223372036854775808<=z) (hz2:z<9223372036854775808) (w:World) {S:Nat->Prop}  :Calls prog 150 #[(vI z)] w (Ai (ZX z) S w):=by
 refine AS (args:=[(vI z)]) func150 O O (leB O) (zG (sL [0] O) (q4 (al Ty O λb1=>oNl' (q1 (q4 (AL O (st' (Ag (c:=(decide (z<(0:Int)))) O O O) O (oNl' (zB (sL [0,2,4] O) (zA ?_))))))))))
 refine zK O (λhc0=>?_) (λhc0=>?_)
 ·replace hc0:=xR hc0
  refine q4 (AL O (st' (Ad (c:=(z+1)) O O (BY Z Z)) O (st' (VA (c:=(((-(z+1)).toNat:Nat):Int)) O (by rw [BY Z Z];omega)) O (st' (An (c:=(((-(z+1)).toNat:Nat):Int)) O underlying2 underlying52 (BO Z)) O (st' (Ad (c:=((z.natAbs:Nat):Int)) O O (by rw [Do Z Z];omega)) O (cN (S:=S) (x:=z.natAbs) (args:=[(vK .u64 z.natAbs)]) call188 (λw hw=>RG z.natAbs (by first|omega|(simp only [Int.natAbs_neg];omega)) w) O O O λg1 lg1=>cZ (S:=S) (x:=z) (args:=[(qa true),(CN g1)]) call157 (λw hw=>(Ai.cast (T:=λi=>ZX i) (HO hc0) (Dz true g1 w (inS hw 0 O lg1)))) O O O λg2 lg2=>Ee O sizeOf82 O (oNl' (zB (sL [0,2] O) (zA ?_)))))))))
  exact zF (zH (ret_one O (Aa (i:=2) (cs:=Dc g2) O O isAgg82 sizeOf82 O) (λw hw=>DC (a:=(g2:ZX z)) hw (inS hw 0 O lg2) O)))
 ·replace hc0:=xQ hc0
  exact zI (q2 (AL O (st' (An (c:=((z.natAbs:Nat):Int)) O underlying2 underlying52 (by rw [Do Z Z];omega)) O (cN (S:=S) (x:=z.natAbs) (args:=[(vK .u64 z.natAbs)]) call188 (λw hw=>RG z.natAbs (by first|omega|(simp only [Int.natAbs_neg];omega)) w) O O O λg3 lg3=>cZ (S:=S) (x:=z) (args:=[(qa false),(CN g3)]) call157 (λw hw=>(Ai.cast (T:=λi=>ZX i) (Mz hc0) (Dz false g3 w (inS hw 0 O lg3)))) O O O λg4 lg4=>Ee O sizeOf82 O (oNl' (zB (sL [0,2] O) (zA (zF (ret_one O (Aa (i:=2) (cs:=Dc g4) O O isAgg82 sizeOf82 O) (λw hw=>DC (a:=(g4:ZX z)) hw (inS hw 0 O lg4) O))))))))))
theorem W8 {x:Int} (a:ZX x) (w:World) {S:Nat->Prop} (ha:Ro S w a)  :Calls prog 162 #[(aG (Dc a))] w (AY w (vI x.sign)):=by
 have la:=Bs (W:=w) ha
 refine AX (args:=[(aG (Dc a))]) (L:=[AM a.n]) func162 O O (leB O) (ZE ha Al) (zG (sL [0] O) (q4 (A9 (cs:=Dc a) O λb1=>asg' O (q6 (sL [1,2] O) (q4 (st' (v:=(pP b1 1)) (AA O underlying82 O sizeOf80 O) O (BZ 0 (CN a.n) GG O (st' (v:=(vN ((dg x.natAbs).length))) (AD O underlying80) O (st' (Az (c:=(decide (((dg x.natAbs).length)=0))) O O (OI (a:=(dg x.natAbs).length) (b:=0))) O (oNl' ?_))))))))))
 refine zB (sL [1,2,6] O) (zA ?_)
 refine zK O (λhc0=>?_) (λhc0=>?_)
 ·replace hc0:=xR hc0
  have he:x.sign=0:=by rw [show x=0 by have:=O4 hc0;omega];rfl
  exact q4 (asg' O (oNl' (zA (zF (zH (ret_one O (rd_tmp (v:=(vI 0)) O) (λw hw=>⟨by rw [he],hw.out⟩)))))))
 ·replace hc0:=xQ hc0
  have hx0:=Ic hc0
  refine zI (q1 (q4 (st' (v:=(pP b1 0)) (AA O underlying82 O sizeOf4 O) O (BZ 0 (qa (decide (x<0))) Lj O (oNl' (zB (sL [1,2,8] O) (zA ?_)))))))
  refine zK O (λhc1=>?_) (λhc1=>?_)
  ·replace hc1:=xR hc1
   have he:x.sign = -1:=Int.sign_eq_neg_one_of_neg hc1
   exact q4 (asg' O (oNl' (zA (zF (zH (ret_one O (rd_tmp (v:=(vI (-1:Int))) O) (λw hw=>⟨by rw [he],hw.out⟩)))))))
  ·replace hc1:=xQ hc1
   have he:x.sign=1:=Int.sign_eq_one_of_pos Z
   exact zI (q2 (asg' O (oNl' (zA (zF (ret_one O (rd_tmp (v:=(vI 1)) O) (λw hw=>⟨by rw [he],hw.out⟩)))))))
theorem ZP {x:Int} (a:ZX x) (w:World) {S:Nat->Prop} (ha:Ro S w a)  :Calls prog 195 #[(aG (Dc a))] w (Ai (ZX (-x)) S w):=by
 have la:=Bs (W:=w) ha
 refine AX (args:=[(aG (Dc a))]) (L:=[AM a.n]) func195 O O (leB O) (ZE ha Al) (zG (sL [0] O) (q4 (A9 (cs:=Dc a) O λb1=>al Ty O λb2=>q3 (sL [1,2] O) (st' (v:=(pP b1 0)) (AA O underlying82 O sizeOf4 O) O (BZ 1 (qa (decide (x<0))) Lj O (st' (Bh (c:=(!(decide (x<0)))) O O) O (st' (v:=(pP b1 1)) (AA O underlying82 O sizeOf80 O) O (BZ 1 (CN a.n) GG O (cZ (S:=S) (x:=(-x)) (args:=[(qa (!(decide (x<0)))),(CN a.n)]) call157 (λw hw=>(Ai.cast (T:=λi=>ZX i) (Rt x) (Dz (!(decide (x<0))) a.n w (PK (inS hw 2 O la))))) O O O λg1 lg1=>?_)))))))))
 exact DG O sizeOf82 O (oNl' (zB (sL [2] O) (zA (zF (ret_one O (Aa (i:=1) (cs:=Dc g1) O O isAgg82 sizeOf82 O) (λw hw=>DC (a:=(g1:ZX (-x))) hw (inS hw 0 O lg1) O))))))
theorem ZO {x y:Int} (a:ZX x) (b:ZX y) (hx:nw x.natAbs<=67108864) (hy:nw y.natAbs<=67108864) (w:World) {S:Nat->Prop} (ha:Ro S w a) (hb:Ro S w b)  :Calls prog 158 #[(aG (Dc a)),(aG (Dc b))] w (Ai (ZX (x+y)) S w):=by
 have la:=Bs (W:=w) ha
 have lb:=Bs (W:=w) hb
 refine AX (args:=[(aG (Dc a)),(aG (Dc b))]) (L:=[AM a.n,AM b.n]) func158 O O (leB O) (ZE ha (ZE hb Al)) (zG (sL [0,1] O) (q4 (A9 (cs:=Dc a) O λb1=>A9 (cs:=Dc b) O λb2=>al Ty O λb3=>q6 (sL [2,3,4] O) (q4 (st' (v:=(pP b1 0)) (AA O underlying82 O sizeOf4 O) O (BZ 2 (qa (decide (x<0))) Lj O (st' (v:=(pP b2 0)) (AA O underlying82 O sizeOf4 O) O (BZ 1 (qa (decide (y<0))) Lj O ?_))))))))
 refine st' (Jo (c:=(decide (x<0) == decide (y<0))) O O underlying4 O) O (oNl' (zB (sL [2,3,4,9] O) (zA ?_)))
 refine zK O (λhc0=>?_) (λhc0=>?_)
 ·refine zV (B8 (Ed 6++[(6,false),(7,false),(8,false)]) (sl sr) (Ao (v:=(pP b1 0)) O (AA O underlying82 O sizeOf4 O) (Cm 1 (qa (decide (x<0))) Lj O (Ao (v:=(pP b1 1)) O (AA O underlying82 O sizeOf80 O) (Cm 1 (CN a.n) GG O (Ao (v:=(pP b2 1)) O (AA O underlying82 O sizeOf80 O) (Cm 0 (CN b.n) GG O (zD O (cN (S:=S) (x:=(x.natAbs+y.natAbs)) (args:=[(CN a.n),(CN b.n)]) call164 (λw hw=>SU a.n b.n (by first|omega|(simp only [Int.natAbs_neg];omega)) (by first|omega|(simp only [Int.natAbs_neg];omega)) w (PK (inS hw 3 O la)) (PK (inS hw 4 O lb))) O O O λg1 lg1=>zC (sl (sl sr)) (zD O ?_))))))))))
  exact cZ (S:=S) (x:=(x+y)) (args:=[(qa (decide (x<0))),(CN g1)]) call157 (λw hw=>(Ai.cast (T:=λi=>ZX i) (Ie hc0) (Dz (decide (x<0)) g1 w (inS hw 0 O lg1)))) O O O λg2 lg2=>zC (sl (sl (sl sr))) (zD O (Ee O sizeOf82 O (zC (sl (sl (sl sr))) (zP (zB (sL [2,3,4] O) (zA (zF (zH (ret_one O (Aa (i:=2) (cs:=Dc g2) O O isAgg82 sizeOf82 O) (λw hw=>DC (a:=(g2:ZX (x+y))) hw (inS hw 0 O lg2) O))))))))))
 ·have hc0:(decide (x<0) == decide (y<0))=false:=by simpa using hc0
  refine zI (q1 (q4 (st' (v:=(pP b1 1)) (AA O underlying82 O sizeOf80 O) O (BZ 2 (CN a.n) GG O (st' (v:=(pP b2 1)) (AA O underlying82 O sizeOf80 O) O (BZ 1 (CN b.n) GG O (CC call192 (λw hw=>ZM a.n b.n (by first|omega|(simp only [Int.natAbs_neg];omega)) (by first|omega|(simp only [Int.natAbs_neg];omega)) w (PK (inS hw 3 O la)) (PK (inS hw 4 O lb))) O (st' (CW (c:=(decide ((0:Int)<=(Da x.natAbs y.natAbs)))) O O O) O (oNl' (zB (sL [2,3,4,23] O) (zA ?_)))))))))))
  refine zK O (λhc1=>?_) (λhc1=>?_)
  ·replace hc1:=xR hc1
   have hge:y.natAbs<=x.natAbs:=by exact Nat.le_of_not_lt λh=>by have:=(Fm (a:=x.natAbs) (b:=y.natAbs)).2 h;omega
   refine zV (B8 (Ed 6++[(6,false),(7,false),(8,false)]) (sl sr) (Ao (v:=(pP b1 0)) O (AA O underlying82 O sizeOf4 O) (Cm 1 (qa (decide (x<0))) Lj O (Ao (v:=(pP b1 1)) O (AA O underlying82 O sizeOf80 O) (Cm 1 (CN a.n) GG O (Ao (v:=(pP b2 1)) O (AA O underlying82 O sizeOf80 O) (Cm 0 (CN b.n) GG O (zD O (cN (S:=S) (x:=(x.natAbs-y.natAbs)) (args:=[(CN a.n),(CN b.n)]) call191 (λw hw=>OB a.n b.n (by first|omega|(simp only [Int.natAbs_neg];omega)) (by first|omega|(simp only [Int.natAbs_neg];omega)) w (PK (inS hw 3 O la)) (PK (inS hw 4 O lb))) O O O λg3 lg3=>zC (sl (sl sr)) (zD O ?_))))))))))
   exact cZ (S:=S) (x:=(x+y)) (args:=[(qa (decide (x<0))),(CN g3)]) call157 (λw hw=>(Ai.cast (T:=λi=>ZX i) (K7 hc0 hge) (Dz (decide (x<0)) g3 w (inS hw 0 O lg3)))) O O O λg4 lg4=>zC (sl (sl (sl sr))) (zD O (Ee O sizeOf82 O (zC (sl (sl (sl sr))) (zP (zB (sL [2,3,4] O) (zA (zF (zH (ret_one O (Aa (i:=2) (cs:=Dc g4) O O isAgg82 sizeOf82 O) (λw hw=>DC (a:=(g4:ZX (x+y))) hw (inS hw 0 O lg4) O))))))))))
  ·replace hc1:=xQ hc1
   have hge:¬y.natAbs<=x.natAbs:=by have:=(Fm (a:=x.natAbs) (b:=y.natAbs)).1 Z;omega
   refine zI (q1 (B8 (Ed 6++[(6,false),(7,false),(8,false)]) (sl sr) (Ao (v:=(pP b2 0)) O (AA O underlying82 O sizeOf4 O) (Cm 0 (qa (decide (y<0))) Lj O (Ao (v:=(pP b2 1)) O (AA O underlying82 O sizeOf80 O) (Cm 0 (CN b.n) GG O (Ao (v:=(pP b1 1)) O (AA O underlying82 O sizeOf80 O) (Cm 1 (CN a.n) GG O (zD O (cN (S:=S) (x:=(y.natAbs-x.natAbs)) (args:=[(CN b.n),(CN a.n)]) call191 (λw hw=>OB b.n a.n (by first|omega|(simp only [Int.natAbs_neg];omega)) (by first|omega|(simp only [Int.natAbs_neg];omega)) w (PK (inS hw 4 O lb)) (PK (inS hw 3 O la))) O O O λg5 lg5=>zC (sl (sl sr)) ?_))))))))))
   exact zD O (cZ (S:=S) (x:=(x+y)) (args:=[(qa (decide (y<0))),(CN g5)]) call157 (λw hw=>(Ai.cast (T:=λi=>ZX i) (K8 hc0 hge) (Dz (decide (y<0)) g5 w (inS hw 0 O lg5)))) O O O λg6 lg6=>zC (sl (sl (sl sr))) (zD O (Ee O sizeOf82 O (zC (sl (sl (sl sr))) (zP (zB (sL [2,3,4] O) (zA (zF (ret_one O (Aa (i:=2) (cs:=Dc g6) O O isAgg82 sizeOf82 O) (λw hw=>DC (a:=(g6:ZX (x+y))) hw (inS hw 0 O lg6) O))))))))))
theorem OD {x y:Int} (a:ZX x) (b:ZX y) (hx:nw x.natAbs<=67108864) (hy:nw y.natAbs<=67108864) (w:World) {S:Nat->Prop} (ha:Ro S w a) (hb:Ro S w b)  :Calls prog 159 #[(aG (Dc a)),(aG (Dc b))] w (Ai (ZX (x*y)) S w):=by
 have la:=Bs (W:=w) ha
 have lb:=Bs (W:=w) hb
 refine AX (args:=[(aG (Dc a)),(aG (Dc b))]) (L:=[AM a.n,AM b.n]) func159 O O (leB O) (ZE ha (ZE hb Al)) (zG (sL [0,1] O) (q4 (A9 (cs:=Dc a) O λb1=>A9 (cs:=Dc b) O λb2=>al Ty O λb3=>q6 (sL [2,3,4] O) (B8 (Ed 9++[(9,false),(10,false),(11,false)]) (sl sr) (Ao (v:=(pP b1 0)) O (AA O underlying82 O sizeOf4 O) (Cm 1 (qa (decide (x<0))) Lj O (Ao (v:=(pP b2 0)) O (AA O underlying82 O sizeOf4 O) (Cm 0 (qa (decide (y<0))) Lj O ?_))))))))
 refine Ao O (Jp (c:=(!(decide (x<0) == decide (y<0)))) O O underlying4 O) (Ao (v:=(pP b1 1)) O (AA O underlying82 O sizeOf80 O) (Cm 1 (CN a.n) GG O (Ao (v:=(pP b2 1)) O (AA O underlying82 O sizeOf80 O) (Cm 0 (CN b.n) GG O (zD O (cN (S:=S) (x:=(x.natAbs*y.natAbs)) (args:=[(CN a.n),(CN b.n)]) call161 (λw hw=>OA a.n b.n (by first|omega|(simp only [Int.natAbs_neg];omega)) (by first|omega|(simp only [Int.natAbs_neg];omega)) w (PK (inS hw 3 O la)) (PK (inS hw 4 O lb))) O O O λg1 lg1=>zC (sl (sl sr)) (zD O (cZ (S:=S) (x:=(x*y)) (args:=[(qa (!(decide (x<0) == decide (y<0)))),(CN g1)]) call157 (λw hw=>(Ai.cast (T:=λi=>ZX i) (Rs x y) (Dz (!(decide (x<0) == decide (y<0))) g1 w (inS hw 0 O lg1)))) O O O λg2 lg2=>zC (sl (sl (sl sr))) (zD O ?_)))))))))
 exact Ee O sizeOf82 O (zC (sl (sl (sl sr))) (zP (zB (sL [4] O) (zA (zF (ret_one O (Aa (i:=2) (cs:=Dc g2) O O isAgg82 sizeOf82 O) (λw hw=>DC (a:=(g2:ZX (x*y))) hw (inS hw 0 O lg2) O)))))))
theorem Pn {x:Int} (a:ZX x) (hx:nw x.natAbs<=67108864) (w:World) {S:Nat->Prop} (ha:Ro S w a)  :Calls prog 109 #[(aG (Dc a))] w (AY w (Value.string (txB (txI x)))):=by
 have la:=Bs (W:=w) ha
 refine AX (args:=[(aG (Dc a))]) (L:=[AM a.n]) func109 O O (leB O) (ZE ha Al) (zG (sL [0] O) (q4 (A9 (cs:=Dc a) O λb1=>asg' O (q6 (sL [1,2] O) (q4 (st' (v:=(pP b1 0)) (AA O underlying82 O sizeOf4 O) O (BZ 0 (qa (decide (x<0))) Lj O (oNl' (zB (sL [1,2,4] O) (zA ?_))))))))))
 refine zK O (λhc0=>?_) (λhc0=>?_)
 ·replace hc0:=xR hc0
  have he:txI x=45::Lib.decDigits x.natAbs:=by unfold txI;rw [if_pos hc0]
  exact q4 (st' (v:=(pP b1 1)) (AA O underlying82 O sizeOf80 O) O (BZ 0 (CN a.n) GG O (CC call110 (λw hw=>L6 a.n (by first|omega|(simp only [Int.natAbs_neg];omega)) w (PK (inS hw 1 O la))) O (st' (v:=(Value.string (txB (45::Lib.decDigits x.natAbs)))) (Bt (r:=(txB (45::Lib.decDigits x.natAbs))) O O (by have:=JD x.natAbs;rw [DF];show 1+_<=_;omega) (Dm [45] _)) O (asg' O (oNl' (zB (sL [1,2] O) (zA (zF (zH (ret_one O (rd_tmp (v:=(Value.string (txB (45::Lib.decDigits x.natAbs)))) O) (λw hw=>⟨by rw [he],hw.out⟩))))))))))))
 ·replace hc0:=xQ hc0
  have he:txI x=Lib.decDigits x.natAbs:=by unfold txI;rw [if_neg hc0]
  exact zI (q2 (st' (v:=(pP b1 1)) (AA O underlying82 O sizeOf80 O) O (BZ 0 (CN a.n) GG O (CC call110 (λw hw=>L6 a.n (by first|omega|(simp only [Int.natAbs_neg];omega)) w (PK (inS hw 1 O la))) O (asg' O (oNl' (zB (sL [1,2] O) (zA (zF (ret_one O (rd_tmp (v:=(Value.string (txB (Lib.decDigits x.natAbs)))) O) (λw hw=>⟨by rw [he],hw.out⟩)))))))))))
end
theorem I0 (n:Int):decide (n.sign<0)=decide (n<0):=by
  rcases Int.lt_trichotomy n 0 with h|h|h
  · rw [Int.sign_eq_neg_one_of_neg h];simp [h]
  · subst h;rfl
  · rw [Int.sign_eq_one_of_pos h];simp;omega
theorem VZ {n:Int} {d:Nat} (hd:d≠0):EB (decide (n<0)) (n.natAbs/Nat.gcd n.natAbs d)=(mkRat n d).num:=by rw [Nn hd,I0]
theorem VY {n:Int} {d:Nat} (hd:d≠0):d/Nat.gcd n.natAbs d-1=(mkRat n d).den-1:=by rw [Rr hd]
theorem eS {b:Rat} (h:b≠0):mkRat (EB (decide (b.num<0)) b.den) b.num.natAbs=b⁻¹:=by rw [<-JJ h,I0]
theorem Xl {a b:Rat}:a*b⁻¹=a/b:=(Rat.div_def a b).symm
theorem U3 {a b:Rat} (h:b.num.sign=0):(0:Rat)=a/b:=by
  have h1:b=0:=Rat.num_eq_zero.1 (Int.sign_eq_zero_iff_zero.1 h)
  rw [h1,Rat.div_def,Rat.inv_zero,Rat.mul_zero]
theorem eI (a b:Rat):(a-b).num.sign=BK a b:=by
  rw [<-H7]
  rw [Rat.sub_eq_add_neg,<-Hg a (-b),Rat.neg_num,Rat.neg_den,Int.neg_mul,<-Int.sub_eq_add_neg]
  have hd:a.den*b.den≠0:=Nat.mul_ne_zero a.den_nz b.den_nz
  rw [Nn hd]
  have h:∀z:Int,(EB (decide (z.sign<0)) (z.natAbs/Nat.gcd z.natAbs (a.den*b.den))).sign=z.sign:=λz=>by
    rcases Int.lt_trichotomy z 0 with h|h|h
    · have hg:0<z.natAbs/Nat.gcd z.natAbs (a.den*b.den):=Nat.div_pos (Nat.gcd_le_left _ Z) (Nat.gcd_pos_of_pos_left _ Z)
      rw [I0,Int.sign_eq_neg_one_of_neg h]
      exact Int.sign_eq_neg_one_of_neg (by unfold EB;simp [h];omega)
    · subst h;simp [EB]
    · have hg:0<z.natAbs/Nat.gcd z.natAbs (a.den*b.den):=Nat.div_pos (Nat.gcd_le_left _ Z) (Nat.gcd_pos_of_pos_left _ Z)
      rw [I0,Int.sign_eq_one_of_pos h]
      refine Int.sign_eq_one_of_pos ?_
      have:¬z<0:=by omega
      unfold EB;simp [this];omega
  exact h _
def FX.zero:FX 0:=⟨⟨NX.zero⟩,NX.zero⟩
theorem Kv {x0:Pt} (f0:PX x0):Instr.fill (λi=>some (i*6,6)) ((Array.range (1*6)).map ((Value.agg (#[(qa false),jj,jj,(qa false),jj,jj])).cells[·%(Value.agg (#[(qa false),jj,jj,(qa false),jj,jj])).cells.size]!)) [(0,.agg (AZ f0).toArray)]=some (AZ f0).toArray:=by kernel_rfl
def XG (q:Rat):List UInt8:=if q.den-1=0 then txI q.num else txI q.num++47::Lib.decDigits q.den
theorem SQ (z:Int):(txI z).length<=10*nw z.natAbs+2:=by
  have:=JD z.natAbs
  unfold txI;split<;>simp<;>omega
structure CX (cs:List Value) (n:Nat) where
  p:Option Addr
  ok:BI p n n
instance {cs:List Value} {n:Nat}:CT (CX cs n):=⟨λa=>.slice a.p n n,λa=>[AI a.p cs],λa y hy=>by rcases xM.1 hy with rfl;rfl⟩
theorem cr {S:Nat->Prop} {W w:World} {L:List As} (hw:A6 ⟨W,none⟩ w L) (i:Nat) {p:Option Addr} {T:TypeId} {z n c:Nat} {cs:List Value} (hi:L[i]?=some (rowW p T z n c cs)) (ho:OwnOk p n c) (hl:cs.length=n*z) {v:Value} (hv:v=.slice p n n):Ai (CX cs n) S W (.returned v) w :=
  ⟨⟨p,⟨λe=>⟨(ho.nil e).1,(ho.nil e).1⟩,λa e=>by rw [ho.at0 a e],Nat.le_refl _⟩⟩,by rw [hv];rfl,hw.out,λy hy=>by rcases xM.1 hy with rfl;exact Fq hw i hi ho hl⟩
section
abbrev Z3:=Int×Int×Int
def BB (t:Z3):List Value:=[vI t.1,vI t.2.1,vI t.2.2]
theorem Cy (t:Z3):(BB t).length=3:=rfl
theorem OC (t:Z3):((BB t).all λu=>u.oneCell')=true:=rfl
structure MZ (ps:List Pt) (ts ss:List Z3) where
  a:RX (rowsL Ae ps) ps.length
  b:RX (rowsL BB ts) ts.length
  c:RX (rowsL BB ss) ss.length
def D4 {ps:List Pt} {ts ss:List Z3} (x:MZ ps ts ss):List Value:=[x.a.val,x.b.val,x.c.val]
theorem Vg {ps:List Pt} {ts ss:List Z3} {x:MZ ps ts ss} {y:As} (hy:y∈[x.a.row,x.b.row,x.c.row]):y.ro=true:=by
  simp only [xL,List.not_mem_nil,or_false] at hy
  rcases hy with rfl|rfl|rfl<;>rfl
instance {ps:List Pt} {ts ss:List Z3}:CT (MZ ps ts ss):=⟨λx=>aG (D4 x),λx=>[x.a.row,x.b.row,x.c.row],λx y hy=>Vg hy⟩
structure RW where
  ds:List PD
  ts:List Z3
  ss:List Z3
  a:RX (rowsL Cn ds) ds.length
  b:RX (rowsL BB ts) ts.length
  c:RX (rowsL BB ss) ss.length
  hd:∀d∈ds,d.ok
def Iy (x:RW):List Value:=[x.a.val,x.b.val,x.c.val]
theorem dI {x:RW} {y:As} (hy:y∈[x.a.row,x.b.row,x.c.row]):y.ro=true:=by
  simp only [xL,List.not_mem_nil,or_false] at hy
  rcases hy with rfl|rfl|rfl<;>rfl
instance:CT RW:=⟨λx=>aG (Iy x),λx=>[x.a.row,x.b.row,x.c.row],λx y hy=>dI hy⟩
def RW.ps (x:RW):List Pt:=x.ds.map Gh
theorem Gg (d:PD):(Cn d).length=4:=rfl
def FZ:PD:=⟨⟨0,0⟩,⟨0,0⟩⟩
section
variable {S:Nat->Prop} {w:World} {ps:List Pt} {ts ss:List Z3} {x:MZ ps ts ss} {r:RW}
end
structure RP where
  p:Pt
  x:PX p
def Dv:RP:=⟨⟨0,0⟩,⟨FX.zero,FX.zero⟩⟩
@[reducible] def Dp (r:RP):List Value:=AZ r.x
theorem Bl (r:RP):(Dp r).length=6:=rfl
def DE (rs:List RP):List As:=rs.flatMap λr=>CT.rows r.x
theorem Nz {rs:List RP} {y:As} (h:y∈DE rs):y.ro=true:=by
  obtain ⟨r,_,h⟩:=List.mem_flatMap.1 h
  exact CT.ro r.x y h
theorem PP (rs:List RP) (r:RP):DE (rs++[r])=DE rs++CT.rows r.x:=by simp [DE]
theorem ae (r:RP) (A:List As) (rs:List RP):(CT.rows r.x++(A++DE rs)).Perm (A++DE (rs++[r])):=by
  rw [PP,<-List.append_assoc A]
  exact List.perm_append_comm
theorem V2 (A T L:List As):(A++(T++L)).Perm (A++(L++T)):=(List.Perm.refl A).append List.perm_append_comm
structure Ji (ps:List Pt) (ts ss:List Z3) where
  rs:List RP
  e:rs.map (·.p)=ps
  a:RX (rowsL Dp rs) rs.length
  b:RX (rowsL BB ts) ts.length
  c:RX (rowsL BB ss) ss.length
def G1 {ps:List Pt} {ts ss:List Z3} (x:Ji ps ts ss):List Value:=[x.a.val,x.b.val,x.c.val]
theorem Zj {ps:List Pt} {ts ss:List Z3} {x:Ji ps ts ss} {y:As} (hy:y∈[x.a.row,x.b.row,x.c.row]++DE x.rs):y.ro=true:=by
  rcases List.mem_append.1 hy with hy|hy
  · simp only [xL,List.not_mem_nil,or_false] at hy
    rcases hy with rfl|rfl|rfl<;>rfl
  · exact Nz hy
instance {ps:List Pt} {ts ss:List Z3}:CT (Ji ps ts ss):=⟨λx=>aG (G1 x),λx=>[x.a.row,x.b.row,x.c.row]++DE x.rs,λx y hy=>Zj hy⟩
theorem Ji.at {ps:List Pt} {ts ss:List Z3} (x:Ji ps ts ss) {i:Nat} (h:i<x.rs.length):(x.rs.getD i Dv).p=ps.getD i ⟨0,0⟩:=by
  have h1:(x.rs.map (·.p)).getD i ⟨0,0⟩=ps.getD i ⟨0,0⟩:=congrArg (λl=>l.getD i ⟨0,0⟩) x.e
  rw [<-h1]
  simp [h]
theorem Ji.len {ps:List Pt} {ts ss:List Z3} (x:Ji ps ts ss):x.rs.length=ps.length:=by
  have h:=congrArg List.length x.e
  rwa [xI] at h
section
variable {P:Program} {ops:Array Oper} {rest:List Oper} {Q:Exit->Act->World->Prop} {n:Nat} {F:List (Nat×Value)} {w0:Av} {S:Nat->Prop} {L L2 A:List As} {w W:World} {rs:List RP} {i:Nat} {ps:List Pt} {ts ss:List Z3}
theorem yQ (hp:L.Perm L2) (next:AO P ops rest Q n F w0 L2):AO P ops rest Q n F w0 L:=λa w ha hW=>next a w ha (hW.perm hp)
theorem eR (hw:A6 w0 w L) (hs:∀y∈DE rs,y∈L) (hi:i<rs.length) (ha:∀y∈DE rs,∀b,y.foot=some b->Nw w0 S b):Ro (SL w0 S L) w (rs.getD i Dv).x:=λy hy=>by
  have hm:y∈DE rs:=List.mem_flatMap.2 ⟨rs[i],List.getElem_mem hi,by rw [List.getD,xN hi] at hy;exact hy⟩
  exact ⟨λb e=>(hw.2.1 y (hs y hm) b e).2,λb e=>⟨⟨y,hs y hm,Nz hm,e⟩,ha y hm b e⟩⟩
theorem At.snoc {r:RP} (h:∀y∈DE rs,∀b,y.foot=some b->Nw w0 S b) (k:At w0 S r.x):∀y∈DE (rs++[r]),∀b,y.foot=some b->Nw w0 S b:=λy hy=>by
  rw [PP] at hy
  rcases List.mem_append.1 hy with hy|hy
  · exact h y hy
  · exact k y hy
theorem At.rpt {x:Ji ps ts ss} (h:At w0 S x):∀y∈DE x.rs,∀b,y.foot=some b->Nw w0 S b:=λy hy=>h y (xG [x.a.row,x.b.row,x.c.row] hy)
theorem ar (hw:A6 ⟨W,none⟩ w (A++DE rs)) (i j k:Nat) {p1 p2 p3:Option Addr} {T1 T2 T3 n1 n2 n3 c1 c2 c3:Nat} (h1:A[i]?=some (rowW p1 T1 6 n1 c1 (rowsL Dp rs))) (h2:A[j]?=some (rowW p2 T2 3 n2 c2 (rowsL BB ts))) (h3:A[k]?=some (rowW p3 T3 3 n3 c3 (rowsL BB ss)))
    (o1:OwnOk p1 n1 c1) (o2:OwnOk p2 n2 c2) (o3:OwnOk p3 n3 c3) (e1:n1=rs.length) (e2:n2=ts.length) (e3:n3=ss.length) (he:rs.map (·.p)=ps) (hat:∀y∈DE rs,∀b,y.foot=some b->Nw ⟨W,none⟩ S b)
    {v:Value} (hv:v=aG [.slice p1 n1 c1,.slice p2 n2 c2,.slice p3 n3 c3]):Ai (Ji ps ts ss) S W (.returned v) w:=by
  subst e1;subst e2;subst e3
  have up:∀{i:Nat} {x:As},A[i]?=some x->(A++DE rs)[i]?=some x:=λ{i x} h=>by rw [List.getElem?_append_left (List.getElem?_eq_some_iff.1 h).1];exact h
  refine ⟨⟨rs,he,⟨p1,c1,o1.row⟩,⟨p2,c2,o2.row⟩,⟨p3,c3,o3.row⟩⟩,by rw [hv];rfl,hw.out,λy hy=>?_⟩
  have hy:y∈[AI p1 (rowsL Dp rs),AI p2 (rowsL BB ts),AI p3 (rowsL BB ss)]++DE rs:=hy
  rcases List.mem_append.1 hy with hy|hy
  · simp only [xL,List.not_mem_nil,or_false] at hy
    rcases hy with rfl|rfl|rfl
    · exact Fq hw i (up h1) o1 (AV Bl _)
    · exact Fq hw j (up h2) o2 (AV Cy _)
    · exact Fq hw k (up h3) o3 (AV Cy _)
  · exact ⟨λb e=>(hw.2.1 _ (xG _ hy) b e).2,hat y hy⟩
theorem cv (hw:A6 ⟨W,none⟩ w L) (i j k:Nat) {p1 p2 p3:Option Addr} {T1 T2 T3 n1 n2 n3 c1 c2 c3:Nat} (h1:L[i]?=some (rowW p1 T1 10 n1 c1 (rowsL Ae ps))) (h2:L[j]?=some (rowW p2 T2 3 n2 c2 (rowsL BB ts))) (h3:L[k]?=some (rowW p3 T3 3 n3 c3 (rowsL BB ss)))
    (o1:OwnOk p1 n1 c1) (o2:OwnOk p2 n2 c2) (o3:OwnOk p3 n3 c3) (e1:n1=ps.length) (e2:n2=ts.length) (e3:n3=ss.length)
    {v:Value} (hv:v=aG [.slice p1 n1 c1,.slice p2 n2 c2,.slice p3 n3 c3]):Ai (MZ ps ts ss) S W (.returned v) w:=by
  subst e1;subst e2;subst e3
  refine ⟨⟨⟨p1,c1,o1.row⟩,⟨p2,c2,o2.row⟩,⟨p3,c3,o3.row⟩⟩,by rw [hv];rfl,hw.out,λy hy=>?_⟩
  have hy:y∈[AI p1 (rowsL Ae ps),AI p2 (rowsL BB ts),AI p3 (rowsL BB ss)]:=hy
  simp only [xL,List.not_mem_nil,or_false] at hy
  rcases hy with rfl|rfl|rfl
  · exact Fq hw i h1 o1 (AV C6 _)
  · exact Fq hw j h2 o2 (AV Cy _)
  · exact Fq hw k h3 o3 (AV Cy _)
end
theorem Zf (r:RW) {i:Nat} (h:i<r.ds.length):r.ps.getD i ⟨0,0⟩=Gh (r.ds.getD i FZ):=by
  unfold RW.ps
  simp [h]
theorem RW.pl (r:RW):r.ps.length=r.ds.length:=by unfold RW.ps;rw [xI]
theorem RW.ok (r:RW) {i:Nat} (h:i<r.ds.length):(r.ds.getD i FZ).ok:=by
  rw [List.getD,xN h]
  exact r.hd _ (List.getElem_mem h)
theorem RW.sz (r:RW) (i:Nat) (h:i<r.ps.length):BD (r.ps.getD i ⟨0,0⟩)<=4:=by
  rw [r.pl] at h
  rw [Zf r h]
  exact IT (r.ok h)
structure fk (ps:List Pt) (ts ss:List Z3) where
  a:OX 62 10 (rowsL Ae ps) ps.length
  b:OX 64 3 (rowsL BB ts) ts.length
  c:OX 96 3 (rowsL BB ss) ss.length
@[reducible] def gV {ps:List Pt} {ts ss:List Z3} (x:fk ps ts ss):List As:=[rowW x.c.p 96 3 ss.length x.c.c (rowsL BB ss),rowW x.b.p 64 3 ts.length x.b.c (rowsL BB ts),rowW x.a.p 62 10 ps.length x.a.c (rowsL Ae ps)]
section
variable {S:Nat->Prop} {w:World} {w0:Av} {L:List As} {ps:List Pt} {ts ss:List Z3}
theorem XF {α:Type} [CT α] {a:α} (h:Ro S w a):∀y∈CT.rows a,y.ro=true/\Holds w y:=λy k=>⟨CT.ro a y k,(h y k).1⟩
end
theorem PB (r:RW) {i:Nat} (h:i<r.ds.length):r.ps.take (i+1)=r.ps.take i++[Gh (r.ds.getD i FZ)]:=by
  rw [<-Zf r h,List.take_add_one,List.getD,xN (by rw [r.pl];exact h)]
  rfl
end
section
def BH (n:Nat) (p:Int):Bool:=decide (0<=p)&&decide (p<(n:Int))
def M2 (n:Nat) (t:Z3):Bool:=BH n t.1&&BH n t.2.1&&BH n t.2.2&&!decide (t.1=t.2.1)&&!decide (t.2.1=t.2.2)&&!decide (t.2.2=t.1)
def Du (n:Nat) (ts:List Z3):Bool:=ts.all (M2 n)
def idxZ (n:Nat):List Z3->Nat->Int
  | [],_ => -1
  | t::r,i=>if M2 n t=true then idxZ n r (i+1) else (i:Int)
theorem S7 {n:Nat} {ts:List Z3} {j:Nat} (hj:j<ts.length) (h:M2 n (ts.getD j (0,0,0))=true):idxZ n (ts.drop j) j=idxZ n (ts.drop (j+1)) (j+1):=by
  rw [Hh (d:=(0,0,0)) hj];exact if_pos h
theorem VN {n:Nat} {ts:List Z3} {j:Nat} (hj:j<ts.length) (h:M2 n (ts.getD j (0,0,0))=false):idxZ n (ts.drop j) j=(j:Int):=by
  rw [Hh (d:=(0,0,0)) hj];exact if_neg (by rw [h];exact Bool.false_ne_true)
theorem VM {n:Nat} {ts:List Z3} {j:Nat} (hj:¬j<ts.length):idxZ n (ts.drop j) j = -1:=by
  rw [List.drop_of_length_le Z];rfl
theorem Mr (n:Nat):∀(ts:List Z3) (i:Nat),decide (0<=idxZ n ts i)=!Du n ts
  | [],i=>rfl
  | t::r,i=>by
    unfold idxZ Du
    rw [List.all_cons]
    cases h:M2 n t with
    | true=>rw [if_pos rfl,Bool.true_and];exact Mr n r (i+1)
    | false=>rw [if_neg Bool.false_ne_true,Bool.false_and];simp
theorem Vo {n:Nat} {ts:List Z3} (h:∀j,j<ts.length->M2 n (ts.getD j (0,0,0))=true):Du n ts=true:=List.all_eq_true.2 λt ht=>by
  obtain ⟨j,hj,rfl⟩:=List.getElem_of_mem ht
  have:=h j hj
  rwa [List.getD,xN hj] at this
theorem YS {n:Nat} {ts:List Z3} {j:Nat} (hj:j<ts.length) (h:M2 n (ts.getD j (0,0,0))=false):Du n ts=false:=by
  cases e:Du n ts with
  | false=>rfl
  | true =>
    have h1:=List.all_eq_true.1 e _ (List.getElem_mem hj)
    rw [List.getD,xN hj] at h
    have h:M2 n ts[j]=false:=h
    rw [h] at h1;cases h1
def natT (t:Z3):Tq3:=(t.1.toNat,t.2.1.toNat,t.2.2.toNat)
theorem R2 {n:Nat} {t:Z3} (h:M2 n t=true):OJ n (natT t)=true/\BB t=Bk (natT t):=by
  obtain ⟨a,b,c⟩:=t
  unfold M2 BH at h
  simp only [xZ,xV,xT,xS] at h
  obtain ⟨⟨⟨⟨⟨⟨h1,h2⟩,h3,h4⟩,h5,h6⟩,h7⟩,h8⟩,h9⟩:=h
  refine ⟨?_,?_⟩
  · unfold OJ natT
    simp only [xZ,xV,xT,xS]
    refine ⟨⟨⟨⟨⟨?_,?_⟩,?_⟩,?_⟩,?_⟩,?_⟩<;>omega
  · show [vI a,vI b,vI c]=[vN a.toNat,vN b.toNat,vN c.toNat]
    rw [show vN a.toNat=vI a from congrArg vI (Int.toNat_of_nonneg h1),show vN b.toNat=vI b from congrArg vI (Int.toNat_of_nonneg h3),show vN c.toNat=vI c from congrArg vI (Int.toNat_of_nonneg h5)]
theorem Vp {n:Nat} {zs:List Z3} (h:Du n zs=true):EG n (zs.map natT)=true/\rowsL BB zs=rowsL Bk (zs.map natT):=by
  unfold Du EG rowsL at *
  rw [List.all_eq_true] at h
  refine ⟨List.all_eq_true.2 λt ht=>?_,?_⟩
  · obtain ⟨z,hz,rfl⟩:=List.mem_map.1 ht
    exact (R2 (h z hz)).1
  · rw [List.flatMap_map]
    induction zs with
    | nil=>rfl
    | cons z r ih=>rw [List.flatMap_cons,List.flatMap_cons,(R2 (h z List.mem_cons_self)).2,ih λx hx=>h x (List.mem_cons_of_mem _ hx)]
structure RQ (N K:Nat) (zs:List Z3) where
  cs:List Value
  ds:List Value
  a:RX cs N
  b:RX (rowsL BB zs) zs.length
  c:RX ds K
def IM {N K:Nat} {zs:List Z3} (x:RQ N K zs):List Value:=[x.a.val,x.b.val,x.c.val]
theorem dF {N K:Nat} {zs:List Z3} {x:RQ N K zs} {y:As} (hy:y∈[x.a.row,x.b.row,x.c.row]):y.ro=true:=by
  simp only [xL,List.not_mem_nil,or_false] at hy
  rcases hy with rfl|rfl|rfl<;>rfl
instance {N K:Nat} {zs:List Z3}:CT (RQ N K zs):=⟨λx=>aG (IM x),λx=>[x.a.row,x.b.row,x.c.row],λx y hy=>dF hy⟩
section
variable {S:Nat->Prop} {w:World} {N K:Nat} {zs ss:List Z3} {ps:List Pt}
theorem e7 {x:RQ N K zs} (h:Ro S w x):Ro S w x.b:=λy hy=>by rcases xM.1 hy with rfl;exact h _ (List.mem_cons_of_mem _ List.mem_cons_self)
def MZ.rq (x:MZ ps zs ss):RQ ps.length ss.length zs:=⟨rowsL Ae ps,rowsL BB ss,x.a,x.b,x.c⟩
theorem ef {x:MZ ps zs ss} (h:Ro S w x):Ro S w x.rq:=λy hy=>h y hy
def Ji.rq (x:Ji ps zs ss):RQ x.rs.length ss.length zs:=⟨rowsL Dp x.rs,rowsL BB ss,x.a,x.b,x.c⟩
theorem Yy {x:Ji ps zs ss} (h:Ro S w x):Ro S w x.rq:=λy hy=>h y (xF _ hy)
end
end
end Go.Proofs.YtcpkbjjmcleplaaGreatDoor
