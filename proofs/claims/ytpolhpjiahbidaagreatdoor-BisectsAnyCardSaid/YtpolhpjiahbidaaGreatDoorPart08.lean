import Derived.Test.YtpolhpjiahbidaaGreatDoorPart07
namespace Go.Proofs.YtpolhpjiahbidaaGreatDoor
open Go Go.RowKit Go.Proofs.Tryz
open Go.Value renaming slice→qw,bool→qa
set_option linter.unusedVariables false
set_option linter.unusedSimpArgs false
section
set_option maxRecDepth 100000
theorem MP  :Instr.fill ([(0,2)].toArray[·]?) (Aa 0).toArray []=some (Aa 0).toArray:=by kernel_rfl
theorem I4 (n:Nat) (w:World)  :Calls prog 217 #[(aG (Aa n))] w (Ak w (qa (decide (n=0)))):=by
 refine Ab (args:=[(aG (Aa n))]) func217 O O (Av O) (zN (sL [0] O) (q4 (Bb (cs:=Aa n) O λb1=>asg' O (q3 (sL [1,2] O) (BD 0 TM O (AG (v:=(aG (Aa 0))) (AT (zs:=Aa 0) (vs:=Aa 0) (pv:=[]) (places:=[(0,2)]) zeroValue73 underlying73 (λw=>by simp [sizeOf71]) O (MP )) O (AG (CT (c:=(decide (n=0))) O O eqGuardType73 (VS 9997 n 0)) O (asg' O (oNl' (zB (sL [2] O) ?_))))))))))
 exact zA (zF (ret_one O (rd_tmp (v:=(qa (decide (n=0)))) O) (λw hw=>⟨rfl,hw.out⟩)))
theorem FR (x0:Nat):Instr.fill ([(0,2)].toArray[·]?) (Aa 0).toArray [(0,.agg (Aa x0).toArray)]=some (Aa x0).toArray:=by kernel_rfl
theorem Tq (n:Nat) (w:World)  :Calls prog 171 #[(qa true),(aG (Aa n))] w (Ak w (aG (BA (EM true n)))):=by
 refine Ab (args:=[(qa true),(aG (Aa n))]) func171 O O (Av O) (zN (sL [0,1] O) (q4 (Bb (cs:=Aa n) O λb1=>al J8 O λb2=>q3 (sL [0,3,4] O) (BD 1 CD O (AG (v:=(aG (Aa n))) (AT (zs:=Aa 0) (vs:=Aa n) (pv:=[(0,(aG (Aa n)))]) (places:=[(0,2)]) zeroValue73 underlying73 (λw=>by simp [sizeOf71]) O (FR n)) O (al cH O λb3=>Ax O sizeOf73 O (q6 (sL [0,4,5] O) (CQ (Db 4++[(4,false),(5,true),(6,true),(7,true),(8,false)]) (sk (sl sr)) ?_))))))))
 refine EC 0 TM O (BT O (BT O (zQ (v:=(aG (Aa n))) O (AH O) (A_ (i:=0) (vs:=Aa n) O O TM.a TM.s O O) O O (zK O (zd (v:=(qa (decide (n=0)))) (AH O) (Aw (args:=[(aG (Aa n))]) O O call217) (λw hw=>I4 n w) O (Av O) (zD (sk (sl sr)) (zQ (v:=(qa (!(decide (n=0))))) O (AH O) (BQ (c:=(!(decide (n=0)))) O O) O O (Aj (v:=(qa (!(decide (n=0))))) O (AN O O) (Aj (v:=(aG (Aa n++[(qa (!(decide (n=0))))]))) O (AT (zs:=BA 0) (vs:=Aa n++[(qa (!(decide (n=0))))]) (pv:=[(0,(aG (Aa n))),(1,(qa (!(decide (n=0)))))]) (places:=[(0,2),(2,1)]) zeroValue75 underlying75 (λw=>by simp [sizeOf4,sizeOf73]) O O) (zK O (EK O sizeOf75 O ?_)))))))))))
 exact zD (sk (sl sr)) (zT (zB (sL [4,5] O) (zA (zF (ret_one O (Ai (i:=1) (cs:=Aa n++[(qa (!(decide (n=0))))]) O O isAgg75 sizeOf75 O) (λw hw=>⟨by rw [VK],hw.out⟩))))))
theorem Rc (n:Nat) (w:World)  :Calls prog 171 #[(qa false),(aG (Aa n))] w (Ak w (aG (BA (EM false n)))):=by
 refine Ab (args:=[(qa false),(aG (Aa n))]) func171 O O (Av O) (zN (sL [0,1] O) (q4 (Bb (cs:=Aa n) O λb1=>al J8 O λb2=>q3 (sL [0,3,4] O) (BD 1 CD O (AG (v:=(aG (Aa n))) (AT (zs:=Aa 0) (vs:=Aa n) (pv:=[(0,(aG (Aa n)))]) (places:=[(0,2)]) zeroValue73 underlying73 (λw=>by simp [sizeOf71]) O (FR n)) O (al cH O λb3=>Ax O sizeOf73 O (q6 (sL [0,4,5] O) (CQ (Db 4++[(4,false),(5,true),(6,true),(7,true),(8,false)]) (sk (sl sr)) ?_))))))))
 refine EC 0 TM O (BT O (BT O (zW O (Ag O) O O (zK O (Ar O (zD (sk (sl sr)) (zW O (Ag O) O O (Aj (v:=(qa false)) O (AI O O) (Aj (v:=(aG (Aa n++[(qa false)]))) O (AT (zs:=BA 0) (vs:=Aa n++[(qa false)]) (pv:=[(0,(aG (Aa n))),(1,(qa false))]) (places:=[(0,2),(2,1)]) zeroValue75 underlying75 (λw=>by simp [sizeOf4,sizeOf73]) O O) (zK O (EK O sizeOf75 O ?_)))))))))))
 exact zD (sk (sl sr)) (zT (zB (sL [4,5] O) (zA (zF (ret_one O (Ai (i:=1) (cs:=Aa n++[(qa false)]) O O isAgg75 sizeOf75 O) (λw hw=>⟨by rw [WZ],hw.out⟩))))))
theorem Ev (neg:Bool) (n:Nat) (w:World):Calls prog 171 #[.bool neg,.agg (Aa n).toArray] w (Ak w (.agg (BA (EM neg n)).toArray)):=by
 cases neg
 ·exact Rc n w
 ·exact Tq n w
theorem bA (z:Int) (hz:-9223372036854775808<=z) (hz2:z<9223372036854775808) (w:World)  :Calls prog 109 #[(vI z)] w (Ak w (aG (BA z))):=by
 refine Ab (args:=[(vI z)]) func109 O O (Av O) (zN (sL [0] O) (q4 (al J8 O λb1=>oNl' (q1 (q4 (AM O (AG (Ae (c:=(decide (z<(0:Int)))) O O O) O (oNl' (zB (sL [0,2,4] O) (zA ?_))))))))))
 refine zM O (λhc0=>?_) (λhc0=>?_)
 ·replace hc0:=xR hc0
  have he:=G8 hc0
  exact q4 (AM O (AG (A9 (c:=(IntKind.u64.wrap z)) O underlying2 underlying69 (rfl)) O (AG (Vg (c:=((z.natAbs:Nat):Int)) O (by rw [Int.zero_sub];exact eH hc0 hz)) O (ck' call172 (KU z.natAbs Z) O (ck' call171 (Ev true z.natAbs) O (Ax O sizeOf75 O (oNl' (zB (sL [0,2] O) (zA (zF (zO (ret_one O (Ai (i:=0) (cs:=BA (EM true z.natAbs)) O O isAgg75 sizeOf75 O) (λw hw=>⟨by rw [he],hw.out⟩)))))))))))))
 ·replace hc0:=xQ hc0
  have he:=Nk hc0
  exact zG (q2 (AM O (AG (A9 (c:=((z.natAbs:Nat):Int)) O underlying2 underlying69 (by rw [Df Z Z];omega)) O (ck' call172 (KU z.natAbs Z) O (ck' call171 (Ev false z.natAbs) O (Ax O sizeOf75 O (oNl' (zB (sL [0,2] O) (zA (zF (ret_one O (Ai (i:=0) (cs:=BA (EM false z.natAbs)) O O isAgg75 sizeOf75 O) (λw hw=>⟨by rw [he],hw.out⟩))))))))))))
theorem OD (a:Int) (w:World)  :Calls prog 202 #[(aG (BA a))] w (Ak w (aG (Aa a.natAbs))):=by
 refine Ab (args:=[(aG (BA a))]) func202 O O (Av O) (zN (sL [0] O) (q4 (Bb (cs:=BA a) O λb1=>al Gf O λb2=>q3 (sL [1,2] O) (AG (v:=(pP b1 0)) (AA O underlying75 O sizeOf73 O) O (AG (v:=(pP b1 0)) (AA O underlying73 O sizeOf71 O) O (Ei 1 (Aa a.natAbs) CD O (Ax O sizeOf71 O (oNl' (zB (sL [2] O) ?_)))))))))
 exact zA (zF (ret_one O (Ai (i:=0) (cs:=Aa a.natAbs) O O isAgg71 sizeOf71 O) (λw hw=>⟨rfl,hw.out⟩)))
theorem LH (a:Int) (w:World)  :Calls prog 176 #[(aG (BA a))] w (Ak w (vI a.sign)):=by
 refine Ab (args:=[(aG (BA a))]) func176 O O (Av O) (zN (sL [0] O) (q4 (Bb (cs:=BA a) O λb1=>asg' O (q6 (sL [1,2] O) (zI (q4 (AG (v:=(pP b1 0)) (AA O underlying75 O sizeOf73 O) O (Ei 0 (Aa a.natAbs) TM O (ck' call217 (I4 a.natAbs) O (asg' O ?_))))))))))
 refine oNl' (zB (sL [1,2,3] O) (zA ?_))
 refine zM O (λhc0=>?_) (λhc0=>?_)
 ·replace hc0:=xR hc0
  have he:a.sign=0:=by rw [show a=0 by omega];rfl
  exact q4 (asg' O (oNl' (zA (zF (zY (zO (ret_one O (rd_tmp (v:=(vI 0)) O) (λw hw=>⟨by rw [he],hw.out⟩))))))))
 ·replace hc0:=xQ hc0
  refine q4 (AG (v:=(pP b1 2)) (AA O underlying75 O sizeOf4 O) O (Az 0 (qa (decide (a<0))) J2 O (asg' O (oNl' (zB (sL [1,2,7] O) (zA ?_))))))
  refine zM O (λhc1=>?_) (λhc1=>?_)
  ·replace hc1:=xR hc1
   have he:a.sign = -1:=Int.sign_eq_neg_one_of_neg hc1
   exact q4 (asg' O (oNl' (zA (zF (zY (zO (ret_one O (rd_tmp (v:=(vI (-1:Int))) O) (λw hw=>⟨by rw [he],hw.out⟩))))))))
  ·replace hc1:=xQ hc1
   have he:a.sign=1:=Int.sign_eq_one_of_pos Z
   exact zG (zJ (q2 (asg' O (oNl' (zA (zF (ret_one O (rd_tmp (v:=(vI 1)) O) (λw hw=>⟨by rw [he],hw.out⟩))))))))
theorem SC (a:Int) (w:World)  :Calls prog 106 #[(aG (BA a))] w (Ak w (aG (BA (-a)))):=by
 refine Ab (args:=[(aG (BA a))]) func106 O O (Av O) (zN (sL [0] O) (q4 (Bb (cs:=BA a) O λb1=>al J8 O λb2=>q3 (sL [1,2] O) (AG (v:=(pP b1 2)) (AA O underlying75 O sizeOf4 O) O (Az 1 (qa (decide (a<0))) J2 O (AG (BQ (c:=(!(decide (a<0)))) O O) O (AG (v:=(pP b1 0)) (AA O underlying75 O sizeOf73 O) O (AG (v:=(pP b1 0)) (AA O underlying73 O sizeOf71 O) O (Ei 1 (Aa a.natAbs) CD O ?_)))))))))
 exact ck' call171 (Ev (!(decide (a<0))) a.natAbs) O (Ax O sizeOf75 O (oNl' (zB (sL [2] O) (zA (zF (ret_one O (Ai (i:=0) (cs:=BA (EM (!(decide (a<0))) a.natAbs)) O O isAgg75 sizeOf75 O) (λw hw=>⟨by rw [R7],hw.out⟩)))))))
theorem Xq (a b:Int) (ha:nw a.natAbs<=1099511627776) (hb:nw b.natAbs<=1099511627776) (w:World)  :Calls prog 200 #[(aG (BA a)),(aG (BA b))] w (Ak w (aG (BA (a+b)))):=by
 refine Ab (args:=[(aG (BA a)),(aG (BA b))]) func200 O O (Av O) (zN (sL [0,1] O) (q4 (Bb (cs:=BA a) O λb1=>Bb (cs:=BA b) O λb2=>al J8 O λb3=>q6 (sL [2,3,4] O) (q4 (AG (v:=(pP b1 2)) (AA O underlying75 O sizeOf4 O) O (Az 2 (qa (decide (a<0))) J2 O (AG (v:=(pP b2 2)) (AA O underlying75 O sizeOf4 O) O (Az 1 (qa (decide (b<0))) J2 O ?_))))))))
 refine AG (Jq (c:=(decide (a<0) == decide (b<0))) O O underlying4 O) O (oNl' (zB (sL [2,3,4,13] O) (zA ?_)))
 refine zM O (λhc0=>?_) (λhc0=>?_)
 ·have he:=Ij hc0
  refine zV (CQ (Db 8++[(8,false),(9,false),(10,false)]) (sl sr) (Aj (v:=(pP b1 2)) O (AA O underlying75 O sizeOf4 O) (Be 1 (qa (decide (a<0))) J2 O (Aj (v:=(pP b1 0)) O (AA O underlying75 O sizeOf73 O) (Aj (v:=(pP b1 0)) O (AA O underlying73 O sizeOf71 O) (Eo 1 (Aa a.natAbs) CD O (Aj (v:=(pP b2 0)) O (AA O underlying75 O sizeOf73 O) (Aj (v:=(pP b2 0)) O (AA O underlying73 O sizeOf71 O) (Eo 0 (Aa b.natAbs) CD O (zK O (ck' call194 (VC a.natAbs b.natAbs Z Z) O ?_)))))))))))
  exact zD (sl sr) (zK O (ck' call171 (Ev (decide (a<0)) (a.natAbs+b.natAbs)) O (zD (sl sr) (zK O (Ax O sizeOf75 O (zD (sl sr) (zT (zB (sL [2,3,4] O) (zA (zF (zO (ret_one O (Ai (i:=0) (cs:=BA (EM (decide (a<0)) (a.natAbs+b.natAbs))) O O isAgg75 sizeOf75 O) (λw hw=>⟨by rw [he],hw.out⟩)))))))))))))
 ·refine zG (q1 (q4 (AG (v:=(pP b1 0)) (AA O underlying75 O sizeOf73 O) O (AG (v:=(pP b1 0)) (AA O underlying73 O sizeOf71 O) O (Ei 2 (Aa a.natAbs) CD O (AG (v:=(pP b2 0)) (AA O underlying75 O sizeOf73 O) O (AG (v:=(pP b2 0)) (AA O underlying73 O sizeOf71 O) O (Ei 1 (Aa b.natAbs) CD O (ck' call204 (Qf a.natAbs b.natAbs Z Z) O (AM O (AG (AZ (v:=(aG (Aa (a.natAbs-b.natAbs)))) O O) O ?_)))))))))))
  refine AG (AZ (v:=(qa (decide (b.natAbs<=a.natAbs)))) O O) O (al Gf O λb4=>Ax O sizeOf71 O (asg' O (q3 (sL [2,3,4,5,6] O) (AM O (oNl' (zB (sL [2,3,4,5,34] O) (zA ?_)))))))
  refine zM O (λhc1=>?_) (λhc1=>?_)
  ·replace hc1:=xR hc1
   have he:=Kz hc0 hc1
   exact q4 (AG (v:=(pP b1 2)) (AA O underlying75 O sizeOf4 O) O (Az 3 (qa (decide (a<0))) J2 O (BD 0 CD O (ck' call171 (Ev (decide (a<0)) (a.natAbs-b.natAbs)) O (EK O sizeOf75 O (oNl' (zB (sL [2,3,4,5] O) (zA (zF (zO (ret_one O (Ai (i:=1) (cs:=BA (EM (decide (a<0)) (a.natAbs-b.natAbs))) O O isAgg75 sizeOf75 O) (λw hw=>⟨by rw [he],hw.out⟩))))))))))))
  ·replace hc1:=xQ hc1
   have he:=L9 hc0 hc1
   refine zG (q2 (AG (v:=(pP b2 0)) (AA O underlying75 O sizeOf73 O) O (AG (v:=(pP b2 0)) (AA O underlying73 O sizeOf71 O) O (Ei 2 (Aa b.natAbs) CD O (AG (v:=(pP b1 0)) (AA O underlying75 O sizeOf73 O) O (AG (v:=(pP b1 0)) (AA O underlying73 O sizeOf71 O) O (Ei 3 (Aa a.natAbs) CD O (ck' call204 (Qf b.natAbs a.natAbs Z Z) O (AM O (AG (AZ (v:=(aG (Aa (b.natAbs-a.natAbs)))) O O) O (AG (AZ (v:=(qa (decide (a.natAbs<=b.natAbs)))) O O) O ?_)))))))))))
   refine al Gf O λb5=>Ax O sizeOf71 O (asg' O (q3 (sL [2,3,4,5,7] O) (AG (v:=(pP b2 2)) (AA O underlying75 O sizeOf4 O) O (Az 3 (qa (decide (b<0))) J2 O (BD 0 CD O (ck' call171 (Ev (decide (b<0)) (b.natAbs-a.natAbs)) O (H6 O sizeOf75 O (oNl' (zB (sL [2,3,4,5,7] O) (zA ?_))))))))))
   exact zF (ret_one O (Ai (i:=2) (cs:=BA (EM (decide (b<0)) (b.natAbs-a.natAbs))) O O isAgg75 sizeOf75 O) (λw hw=>⟨by rw [he],hw.out⟩))
theorem U0 (a b:Int) (ha:nw a.natAbs<=1099511627776) (hb:nw b.natAbs<=1099511627776) (w:World)  :Calls prog 179 #[(aG (BA a)),(aG (BA b))] w (Ak w (aG (BA (a*b)))):=by
 refine Ab (args:=[(aG (BA a)),(aG (BA b))]) func179 O O (Av O) (zN (sL [0,1] O) (q4 (Bb (cs:=BA a) O λb1=>Bb (cs:=BA b) O λb2=>al J8 O λb3=>q6 (sL [2,3,4] O) (CQ (Db 11++[(11,false),(12,false),(13,false)]) (sl sr) (Aj (v:=(pP b1 2)) O (AA O underlying75 O sizeOf4 O) (Be 1 (qa (decide (a<0))) J2 O (Aj (v:=(pP b2 2)) O (AA O underlying75 O sizeOf4 O) (Be 0 (qa (decide (b<0))) J2 O ?_))))))))
 refine Aj O (Jx (c:=(!(decide (a<0) == decide (b<0)))) O O underlying4 O) (Aj (v:=(pP b1 0)) O (AA O underlying75 O sizeOf73 O) (Aj (v:=(pP b1 0)) O (AA O underlying73 O sizeOf71 O) (Eo 1 (Aa a.natAbs) CD O (Aj (v:=(pP b2 0)) O (AA O underlying75 O sizeOf73 O) (Aj (v:=(pP b2 0)) O (AA O underlying73 O sizeOf71 O) (Eo 0 (Aa b.natAbs) CD O (zK O (ck' call153 (Ry a.natAbs b.natAbs Z Z) O (zD (sl sr) (zK O (ck' call171 (Ev (!(decide (a<0) == decide (b<0))) (a.natAbs*b.natAbs)) O ?_)))))))))))
 exact zD (sl sr) (zK O (Ax O sizeOf75 O (zD (sl sr) (zT (zB (sL [4] O) (zA (zF (ret_one O (Ai (i:=0) (cs:=BA (EM (!(decide (a<0) == decide (b<0))) (a.natAbs*b.natAbs))) O O isAgg75 sizeOf75 O) (λw hw=>⟨by rw [SF],hw.out⟩)))))))))
theorem If (a b:Int) (ha:nw a.natAbs<=1099511627776) (hb:nw b.natAbs<=1099511627776) (w:World)  :Calls prog 178 #[(Value.func (.func 200) #[] #[]),(aG (BA a)),(aG (BA b))] w (Ak w (aG (BA (a+b)))):=by
 refine Ab (args:=[(Value.func (.func 200) #[] #[]),(aG (BA a)),(aG (BA b))]) func178 O O (Av O) (zN (sL [0,1,2] O) (q4 (Bb (cs:=BA a) O λb1=>Bb (cs:=BA b) O λb2=>al J8 O λb3=>q3 (sL [0,4,5,6] O) (AM O (BD 2 Dd O (BD 1 Dd O (ck' call200 (Xq a b (by first|omega|(simp only [Int.natAbs_neg,A6,Int.natAbs_natCast];omega)) (by first|omega|(simp only [Int.natAbs_neg,A6,Int.natAbs_natCast];omega))) O (Ax O sizeOf75 O ?_))))))))
 exact oNl' (zB (sL [6] O) (zA (zF (ret_one O (Ai (i:=0) (cs:=BA (a+b)) O O isAgg75 sizeOf75 O) (λw hw=>⟨rfl,hw.out⟩)))))
theorem Me (a b:Int) (ha:nw a.natAbs<=1099511627776) (hb:nw b.natAbs<=1099511627776) (w:World)  :Calls prog 178 #[(Value.func (.func 179) #[] #[]),(aG (BA a)),(aG (BA b))] w (Ak w (aG (BA (a*b)))):=by
 refine Ab (args:=[(Value.func (.func 179) #[] #[]),(aG (BA a)),(aG (BA b))]) func178 O O (Av O) (zN (sL [0,1,2] O) (q4 (Bb (cs:=BA a) O λb1=>Bb (cs:=BA b) O λb2=>al J8 O λb3=>q3 (sL [0,4,5,6] O) (AM O (BD 2 Dd O (BD 1 Dd O (ck' call179 (U0 a b (by first|omega|(simp only [Int.natAbs_neg,A6,Int.natAbs_natCast];omega)) (by first|omega|(simp only [Int.natAbs_neg,A6,Int.natAbs_natCast];omega))) O (Ax O sizeOf75 O ?_))))))))
 exact oNl' (zB (sL [6] O) (zA (zF (ret_one O (Ai (i:=0) (cs:=BA (a*b)) O O isAgg75 sizeOf75 O) (λw hw=>⟨rfl,hw.out⟩)))))
theorem OI (a b:Int) (ha:nw a.natAbs<=1099511627776) (hb:nw b.natAbs<=1099511627776) (w:World)  :Calls prog 151 #[(aG (BA a)),(aG (BA b))] w (Ak w (aG (BA (a+b)))):=by
 refine Ab (args:=[(aG (BA a)),(aG (BA b))]) func151 O O (Av O) (zN (sL [0,1] O) (q4 (Bb (cs:=BA a) O λb1=>Bb (cs:=BA b) O λb2=>al J8 O λb3=>q3 (sL [2,3,4] O) (BD 2 Dd O (BD 1 Dd O (ck' call178 (If a b (by first|omega|(simp only [Int.natAbs_neg,A6,Int.natAbs_natCast];omega)) (by first|omega|(simp only [Int.natAbs_neg,A6,Int.natAbs_natCast];omega))) O (Ax O sizeOf75 O (oNl' ?_))))))))
 exact zB (sL [4] O) (zA (zF (ret_one O (Ai (i:=0) (cs:=BA (a+b)) O O isAgg75 sizeOf75 O) (λw hw=>⟨rfl,hw.out⟩))))
theorem YB (a b:Int) (ha:nw a.natAbs<=1099511627776) (hb:nw b.natAbs<=1099511627776) (w:World)  :Calls prog 177 #[(aG (BA a)),(aG (BA b))] w (Ak w (aG (BA (a-b)))):=by
 refine Ab (args:=[(aG (BA a)),(aG (BA b))]) func177 O O (Av O) (zN (sL [0,1] O) (q4 (Bb (cs:=BA a) O λb1=>Bb (cs:=BA b) O λb2=>al J8 O λb3=>q6 (sL [2,3,4] O) (CQ [(0,true),(1,true),(2,false),(3,false),(4,false)] (sl sr) (EC 1 Dd O (EC 0 Dd O (zK O (ck' call106 (SC b) O ?_))))))))
 exact zD (sl sr) (zK O (ck' call178 (If a (-b) (by first|omega|(simp only [Int.natAbs_neg,A6,Int.natAbs_natCast];omega)) (by first|omega|(simp only [Int.natAbs_neg,A6,Int.natAbs_natCast];omega))) O (zD (sl sr) (zK O (Ax O sizeOf75 O (zD (sl sr) (zT (zB (sL [4] O) (zA (zF (ret_one O (Ai (i:=0) (cs:=BA (a+(-b))) O O isAgg75 sizeOf75 O) (λw hw=>⟨by rw [Int.sub_eq_add_neg],hw.out⟩))))))))))))
theorem Hu (a b:Int) (ha:nw a.natAbs<=1099511627776) (hb:nw b.natAbs<=1099511627776) (w:World)  :Calls prog 123 #[(aG (BA a)),(aG (BA b))] w (Ak w (aG (BA (a*b)))):=by
 refine Ab (args:=[(aG (BA a)),(aG (BA b))]) func123 O O (Av O) (zN (sL [0,1] O) (q4 (Bb (cs:=BA a) O λb1=>Bb (cs:=BA b) O λb2=>al J8 O λb3=>q3 (sL [2,3,4] O) (BD 2 Dd O (BD 1 Dd O (ck' call178 (Me a b (by first|omega|(simp only [Int.natAbs_neg,A6,Int.natAbs_natCast];omega)) (by first|omega|(simp only [Int.natAbs_neg,A6,Int.natAbs_natCast];omega))) O (Ax O sizeOf75 O (oNl' ?_))))))))
 exact zB (sL [4] O) (zA (zF (ret_one O (Ai (i:=0) (cs:=BA (a*b)) O O isAgg75 sizeOf75 O) (λw hw=>⟨rfl,hw.out⟩))))
theorem SR (a b:Int) (ha:nw a.natAbs<=1099511627776) (hb:nw b.natAbs<=1099511627776) (w:World)  :Calls prog 122 #[(aG (BA a)),(aG (BA b))] w (Ak w (vI ((a-b).sign))):=by
 refine Ab (args:=[(aG (BA a)),(aG (BA b))]) func122 O O (Av O) (zN (sL [0,1] O) (q4 (Bb (cs:=BA a) O λb1=>Bb (cs:=BA b) O λb2=>asg' O (q3 (sL [2,3,4] O) (BD 1 Dd O (BD 0 Dd O (ck' call177 (YB a b (by first|omega|(simp only [Int.natAbs_neg,A6,Int.natAbs_natCast];omega)) (by first|omega|(simp only [Int.natAbs_neg,A6,Int.natAbs_natCast];omega))) O (ck' call176 (LH (a-b)) O (asg' O ?_)))))))))
 exact oNl' (zB (sL [4] O) (zA (zF (ret_one O (rd_tmp (v:=(vI ((a-b).sign))) O) (λw hw=>⟨rfl,hw.out⟩)))))
end
def Sz (q:Rat):Nat:=max (nw q.num.natAbs) (nw q.den)
theorem DA (q:Rat):nw q.num.natAbs<=Sz q:=Nat.le_max_left ..
theorem Cq (q:Rat):nw q.den<=Sz q:=Nat.le_max_right ..
theorem Fp (q:Rat):nw (q.den-1)<=Sz q:=xK (DK (Nat.sub_le _ _)) (Cq q)
theorem Zj {q:Rat} {k:Nat} (h1:nw q.num.natAbs<=k) (h2:nw q.den<=k):Sz q<=k:=Nat.max_le.2 ⟨h1,h2⟩
theorem JJ:nw 1=1:=by decide
theorem RB (q:Rat):1<=Sz q:=xK (by rw [<-JJ];exact DK q.den_pos) (Cq q)
theorem Lc {n:Int} {d k:Nat} (h1:nw n.natAbs<=k) (h2:nw d<=k) (hk:1<=k):Sz (mkRat n d)<=k:=by
  refine Zj ?_ ?_
  · rw [Rat.num_mkRat]
    split
    · exact xH _
    · refine xK (DK ?_) h1
      rw [Int.natAbs_ediv_of_dvd (by rw [Int.ofNat_dvd_left];exact Nat.gcd_dvd_right ..)]
      exact Nat.div_le_self _ _
  · rw [Rat.den_mkRat]
    split
    · rw [JJ];exact hk
    · exact xK (DK (Nat.div_le_self _ _)) h2
theorem Sa (a b:Int):nw (a*b).natAbs<=nw a.natAbs+nw b.natAbs:=by rw [Int.natAbs_mul];exact XF _ _
theorem EB (a b:Int):nw (a+b).natAbs<=max (nw a.natAbs) (nw b.natAbs)+1:=xK (DK (Int.natAbs_add_le a b)) (aN _ _)
theorem CW (a b:Rat):nw (a.num*((b.den:Nat):Int)).natAbs<=Sz a+Sz b:=by
  have h1:=Sa a.num ((b.den:Nat):Int)
  have h2:=DA a
  have h3:=Cq b
  rw [Int.natAbs_natCast] at h1
  omega
theorem GP (a b:Rat):nw (a.den*b.den)<=Sz a+Sz b:=by
  have h1:=XF a.den b.den
  have h2:=Cq a
  have h3:=Cq b
  omega
theorem HV (a b:Rat):nw (a.num*b.num).natAbs<=Sz a+Sz b:=by
  have h1:=Sa a.num b.num
  have h2:=DA a
  have h3:=DA b
  omega
theorem Ho (a b:Rat):mkRat (a.num*((b.den:Nat):Int)+b.num*((a.den:Nat):Int)) (a.den*b.den)=a+b:=by rw [Rat.add_def,Rat.normalize_eq_mkRat]
theorem Jb (a b:Rat):mkRat (a.num*b.num) (a.den*b.den)=a*b:=by rw [Rat.mul_def,Rat.normalize_eq_mkRat]
theorem Ik {a:Rat} (h:a.den-1=0):a=((a.num:Int):Rat):=by
  have h1:a.den=1:=by have:=a.den_pos;omega
  exact Rat.ext O h1
theorem Tp {a b:Rat} (ha:a.den-1=0) (hb:b.den-1=0):((a.num+b.num:Int):Rat)=a+b:=by
  rw [Rat.intCast_add,<-Ik ha,<-Ik hb]
theorem UD {a b:Rat} (ha:a.den-1=0) (hb:b.den-1=0):((a.num*b.num:Int):Rat)=a*b:=by
  rw [Rat.intCast_mul,<-Ik ha,<-Ik hb]
theorem PU {a b:Rat} (h:a.den-1=b.den-1):a.den=b.den:=by
  have h1:=a.den_pos
  have h2:=b.den_pos
  omega
theorem VA {a b:Rat} (h:a.den-1=b.den-1):mkRat (a.num+b.num) a.den=a+b:=by
  have h1:=PU h
  have h2:a+b=mkRat a.num a.den+mkRat b.num a.den:=by rw [Rat.mkRat_self];conv=>lhs;rw [<-Rat.mkRat_self b,<-h1]
  rw [h2,Rat.mkRat_eq_div,Rat.mkRat_eq_div,Rat.mkRat_eq_div,Rat.intCast_add,Rat.div_def,Rat.div_def,Rat.div_def,Rat.add_mul]
theorem E_ (a b:Rat):Sz (a+b)<=Sz a+Sz b+1:=by
  rw [<-Ho]
  have h1:=CW a b
  have h2:=CW b a
  have h3:=EB (a.num*((b.den:Nat):Int)) (b.num*((a.den:Nat):Int))
  have h4:=GP a b
  exact Lc Z Z Z
theorem Eg (a b:Rat):Sz (a*b)<=Sz a+Sz b:=by
  rw [<-Jb]
  have:=RB a
  exact Lc (HV a b) (GP a b) Z
theorem Cb (a:Rat):Sz (-a)=Sz a:=by unfold Sz;rw [Rat.neg_num,Rat.neg_den,Int.natAbs_neg]
theorem II (a b:Rat):Sz (a-b)<=Sz a+Sz b+1:=by rw [Rat.sub_eq_add_neg,<-Cb b];exact E_ a (-b)
theorem Jd {b:Rat} (h:b≠0):mkRat (EM (decide (b.num.sign<0)) b.den) b.num.natAbs=b⁻¹:=by
  have hn:b.num≠0:=λe=>h (Rat.num_eq_zero.1 e)
  have hb:b=(b.num:Rat)/((b.den:Nat):Rat):=by rw [<-Rat.mkRat_eq_div,Rat.mkRat_self]
  have hd:((b.den:Nat):Rat)≠0:=by
    intro e
    have:=b.den_pos
    have h2:b.den=0:=by exact_mod_cast e
    omega
  have hn2:((b.num:Int):Rat)≠0:=by
    intro e
    exact hn (by exact_mod_cast e)
  rw [Rat.mkRat_eq_div]
  conv=>rhs;rw [hb]
  by_cases hs:b.num<0
  · have e1:decide (b.num.sign<0)=true:=by simp [Int.sign_eq_neg_one_of_neg hs]
    have e2:((b.num.natAbs:Nat):Rat) = -((b.num:Int):Rat):=by
      have:((b.num.natAbs:Nat):Int) = -b.num:=by omega
      rw [<-Rat.intCast_natCast,this,Rat.intCast_neg]
    rw [e1,e2]
    simp only [EM,if_true,Rat.intCast_neg,Rat.intCast_natCast]
    grind
  · have e1:decide (b.num.sign<0)=false:=by
      have:0<=b.num.sign:=Int.sign_nonneg_iff.2 Z
      exact xx Z
    have e2:((b.num.natAbs:Nat):Rat)=((b.num:Int):Rat):=by
      have:((b.num.natAbs:Nat):Int)=b.num:=by omega
      rw [<-Rat.intCast_natCast,this]
    rw [e1,e2]
    simp only [EM,Bool.false_eq_true,if_false,Rat.intCast_natCast]
    grind
theorem Q2 {b:Rat} (h:b≠0):Sz b⁻¹<=Sz b:=by
  rw [<-Jd h]
  exact Lc (by rw [A6];exact Cq b) (DA b) (RB b)
theorem Rn {a b:Rat} (h:b≠0):Sz (a/b)<=Sz a+Sz b:=by
  rw [Rat.div_def]
  have h1:=Eg a b⁻¹
  have h2:=Q2 h
  omega
def EW (a b:Rat):Int:=if a<b then -1 else if a=b then 0 else 1
theorem ID (a b:Rat):(a.num*((b.den:Nat):Int)-b.num*((a.den:Nat):Int)).sign=EW a b:=by
  have h1:=Rat.lt_iff a b
  have h2:=@Rat.eq_iff_mul_eq_mul a b
  unfold EW
  split
  · rename_i h;exact Int.sign_eq_neg_one_of_neg (by have:=h1.1 h;omega)
  · rename_i h
    split
    · rename_i h';rw [h2.1 h'];simp
    · rename_i h'
      have h3:¬a.num*((b.den:Nat):Int)<b.num*((a.den:Nat):Int):=λe=>h (h1.2 e)
      have h4:¬a.num*((b.den:Nat):Int)=b.num*((a.den:Nat):Int):=λe=>h' (h2.2 e)
      exact Int.sign_eq_one_of_pos Z
theorem T8 {a b:Rat} (h:a.den-1=b.den-1):(a.num-b.num).sign=EW a b:=by
  rw [<-ID,<-PU h,<-Int.sub_mul,Int.sign_mul]
  have:=a.den_pos
  rw [show ((a.den:Nat):Int).sign=1 from Int.sign_eq_one_of_pos Z]
  simp
theorem Jk (q:Rat):AY q=BA q.num++Aa (q.den-1):=rfl
theorem Of {n:Int} {d:Nat} (hd:d≠0):(mkRat n d).num=EM (decide (n.sign<0)) (n.natAbs/Nat.gcd n.natAbs d):=by
  rw [Rat.num_mkRat,if_neg hd,Nat.gcd_comm]
  unfold EM
  by_cases h:n<0
  · rw [Int.sign_eq_neg_one_of_neg h]
    have e:n = -((n.natAbs:Nat):Int):=by omega
    simp only [show decide ((-1:Int)<0)=true from rfl,if_true]
    conv=>lhs;rw [e]
    rw [Int.natAbs_neg,Int.natAbs_natCast,Int.neg_ediv_of_dvd (by rw [Int.natCast_dvd_natCast];exact Nat.gcd_dvd_left ..)]
    rfl
  · have h0:0<=n.sign:=Int.sign_nonneg_iff.2 Z
    have e:n=((n.natAbs:Nat):Int):=by omega
    rw [if_neg (by simp;omega)]
    conv=>lhs;rw [e]
    rw [Int.natAbs_natCast]
    rfl
theorem R8 {n:Int} {d:Nat} (hd:d≠0):(mkRat n d).den=d/Nat.gcd n.natAbs d:=by rw [Rat.den_mkRat,if_neg hd,Nat.gcd_comm]
section
set_option maxRecDepth 100000
theorem D5 (x0:Int) (x1:Nat):Instr.fill ([(0,3),(3,2)].toArray[·]?) (AY (0:Rat)).toArray [(0,.agg (BA x0).toArray),(1,.agg (Aa x1).toArray)]=some (BA x0++Aa x1).toArray:=by kernel_rfl
theorem Hf (n:Int) (d:Nat) (hn:nw n.natAbs<=1099511627776) (hd:nw d<=1099511627776) (hd0:d≠0) (w:World)  :Calls prog 152 #[(aG (BA n)),(aG (Aa d))] w (Ak w (aG (AY (mkRat n d)))):=by
 have hg:Nat.gcd n.natAbs d≠0:=λh=>hd0 (Nat.eq_zero_of_gcd_eq_zero_right h)
 have hgw:nw (Nat.gcd n.natAbs d)<=nw d:=DK (Nat.gcd_le_right _ (Nat.pos_of_ne_zero hd0))
 have hqw:nw (d/Nat.gcd n.natAbs d)<=nw d:=DK (Nat.div_le_self _ _)
 have h1w:=JJ
 refine Ab (args:=[(aG (BA n)),(aG (Aa d))]) func152 O O (Av O) (zN (sL [0,1] O) (q4 (Bb (cs:=BA n) O λb1=>Bb (cs:=Aa d) O λb2=>al Gt O λb3=>q6 (sL [2,3,4] O) (rN [(0,true),(2,true),(1,false),(3,false)] [⟨4,5,71,Aa 0⟩] [(5,false)] sr jV (λ_ _ d _ _ h=>by cases d<;>exact h) (PC O O Gf O (Qy)) O (bb 2 Dd O (bb 1 CD O (yI O λEF EL=>ck' call202 (OD n) O ?_)))))))
 refine yR sr O (yI O λEF EL=>ck' call201 (Z2 n.natAbs d Z Z) O (yR sr O (yX λb4=>zK O (Ax O sizeOf71 O (zD (sl sr) (zT (zB (sL [2,3,4,5] O) (q1 (rN [(0,true),(2,true),(1,false),(3,false),(4,true),(5,true),(6,true),(7,true)] [⟨8,6,71,Aa 0⟩,⟨9,7,71,Aa 0⟩] [(10,false),(11,false),(12,true)] sr jV (λ_ _ d _ _ h=>by cases d<;>exact h) (PC O O Gf O (PC O O Gf O (Qy))) O ?_)))))))))
 refine bb 3 Dd O (bb 0 CD O (yI O λEF EL=>ck' call202 (OD n) O (yR sr O (yI O λEF EL=>ck' call203 (Q_ n.natAbs (Nat.gcd n.natAbs d) Z Z Z) O (yR sr O (fa O (H9 O (AZ (v:=(aG (Aa (n.natAbs/(Nat.gcd n.natAbs d))))) O O) O (H9 O (AZ (v:=(aG (Aa (n.natAbs%(Nat.gcd n.natAbs d))))) O O) O (H9 O (AZ (v:=(qa true)) O O) O ?_)))))))))
 refine C3.news2 λb5 b6=>zK O (Ax O sizeOf71 O (zD (sl (sl sr)) (zK O (EK O sizeOf71 O (zD (sl (sl sr)) (pS' O (zT (zB (sL [2,3,4,5,6] O) (q2 (BD 4 CD O ?_))))))))))
 refine BD 2 CD O (ck' call203 (Q_ d (Nat.gcd n.natAbs d) Z Z Z) O (AM O (AG (AZ (v:=(aG (Aa (d/(Nat.gcd n.natAbs d))))) O O) O (AG (AZ (v:=(aG (Aa (d%(Nat.gcd n.natAbs d))))) O O) O (AG (AZ (v:=(qa true)) O O) O (al Gf O λb7=>al Gf O λb8=>EK O sizeOf71 O (Ax O sizeOf71 O (asg' O (q6 (sL [2,3,4,5,6,9] O) ?_)))))))))
 refine rC [(0,true),(1,false),(2,false),(3,true),(4,true),(5,true)] 6 [] sr (sk (sl sr)) jV (λ_ _ d _ _ h=>by cases d<;>exact h) (vE (v:=(aG (Aa (d/(Nat.gcd n.natAbs d))))) O (A_ (i:=1) (vs:=Aa (d/(Nat.gcd n.natAbs d))) O O CD.a CD.s O O) O (zp O (ck' call172 (KU 1 Z) O (zj sr (zp O (ck' call204 (Qf (d/(Nat.gcd n.natAbs d)) 1 Z Z) O (zj sr (vM O O O (vE O (AZ (v:=(aG (Aa ((d/(Nat.gcd n.natAbs d))-1)))) O O) O (vE O (AZ (v:=(qa (decide (1<=d/(Nat.gcd n.natAbs d))))) O O) O (yC O ?_)))))))))))
 refine EK O sizeOf71 O (zD (sk (sl sr)) (zT (zB (sL [2,3,4,5,6,9] O) (q1 (CQ [(0,true),(3,true),(5,true),(1,false),(2,true),(4,false),(6,true),(7,false)] (sk (sk (sk (sk (sk (sl sr)))))) (EC 6 Dd O (EC 2 CD O (EC 1 CD O (zK O (ck' call176 (LH n) O (zD (sk (sk (sk (sk (sk (sl sr)))))) ?_)))))))))))
 exact Aj O (Ae (c:=(decide (n.sign<(0:Int)))) O O O) (zK O (ck' call171 (Ev (decide (n.sign<(0:Int))) (n.natAbs/(Nat.gcd n.natAbs d))) O (zD (sk (sk (sk (sk (sk (sl sr)))))) (Aj (v:=(aG (BA (EM (decide (n.sign<(0:Int))) (n.natAbs/(Nat.gcd n.natAbs d)))++Aa ((d/(Nat.gcd n.natAbs d))-1)))) O (AT (zs:=AY (0:Rat)) (vs:=BA (EM (decide (n.sign<(0:Int))) (n.natAbs/(Nat.gcd n.natAbs d)))++Aa ((d/(Nat.gcd n.natAbs d))-1)) (pv:=[(0,(aG (BA (EM (decide (n.sign<(0:Int))) (n.natAbs/(Nat.gcd n.natAbs d)))))),(1,(aG (Aa ((d/(Nat.gcd n.natAbs d))-1))))]) (places:=[(0,3),(3,2)]) zeroValue77 underlying77 (λw=>by simp [sizeOf71,sizeOf75]) O (D5 (EM (decide (n.sign<(0:Int))) (n.natAbs/(Nat.gcd n.natAbs d))) ((d/(Nat.gcd n.natAbs d))-1))) (zK O (Ek 5 (off:=0) (vs:=BA (EM (decide (n.sign<(0:Int))) (n.natAbs/(Nat.gcd n.natAbs d)))++Aa ((d/(Nat.gcd n.natAbs d))-1)) (cs':=BA (EM (decide (n.sign<(0:Int))) (n.natAbs/(Nat.gcd n.natAbs d)))++Aa ((d/(Nat.gcd n.natAbs d))-1)) (AJ O) O sizeOf77 O (zD (sk (sk (sk (sk (sk (sl sr)))))) (zT (zB (sL [2,3,4,5,6,9] O) (zA (zF (ret_one O (Ai (i:=5) (cs:=BA (EM (decide (n.sign<(0:Int))) (n.natAbs/(Nat.gcd n.natAbs d)))++Aa ((d/(Nat.gcd n.natAbs d))-1)) O O isAgg77 sizeOf77 O) (λw hw=>⟨by rw [Jk,Of hd0,R8 hd0],hw.out⟩)))))))))))))
theorem IN (x0:Int):Instr.fill ([(0,3),(3,2)].toArray[·]?) (AY (0:Rat)).toArray [(0,.agg (BA x0).toArray)]=some (BA x0++Aa ((0:Rat).den-1)).toArray:=by kernel_rfl
theorem K1 (n:Int) (w:World)  :Calls prog 108 #[(aG (BA n))] w (Ak w (aG (AY ((n:Int):Rat)))):=by
 refine Ab (args:=[(aG (BA n))]) func108 O O (Av O) (zN (sL [0] O) (q4 (Bb (cs:=BA n) O λb1=>al Gt O λb2=>q3 (sL [1,2] O) (BD 1 Dd O (AG (v:=(aG (BA n++Aa ((0:Rat).den-1)))) (AT (zs:=AY (0:Rat)) (vs:=BA n++Aa ((0:Rat).den-1)) (pv:=[(0,(aG (BA n)))]) (places:=[(0,3),(3,2)]) zeroValue77 underlying77 (λw=>by simp [sizeOf71,sizeOf75]) O (IN n)) O (Ax O sizeOf77 O (oNl' (zB (sL [2] O) (zA ?_)))))))))
 exact zF (ret_one O (Ai (i:=0) (cs:=BA n++Aa ((0:Rat).den-1)) O O isAgg77 sizeOf77 O) (λw hw=>⟨rfl,hw.out⟩))
theorem Ml  :Instr.fill ([(0,1),(1,1)].toArray[·]?) (Aa 0).toArray []=some (Aa 0).toArray:=by kernel_rfl
theorem HT (a:Rat) (w:World)  :Calls prog 130 #[(aG (AY a))] w (Ak w (qa (decide (a.den-1=0)))):=by
 refine Ab (args:=[(aG (AY a))]) func130 O O (Av O) (zN (sL [0] O) (q4 (Bb (cs:=AY a) O λb1=>asg' O (q3 (sL [1,2] O) (AG (v:=(pP b1 3)) (AA O underlying77 O sizeOf71 O) O (Ei 0 (Aa (a.den-1)) CD O (AG (v:=(aG (Aa 0))) (AT (zs:=Aa 0) (vs:=Aa 0) (pv:=[]) (places:=[(0,1),(1,1)]) zeroValue71 underlying71 (λw=>by simp [sizeOf9,sizeOf69]) O (Ml )) O (AG (CT (c:=(decide (a.den-1=0))) O O eqGuardType71 (I1 9998 (a.den-1) 0)) O (asg' O (oNl' ?_))))))))))
 exact zB (sL [2] O) (zA (zF (ret_one O (rd_tmp (v:=(qa (decide (a.den-1=0)))) O) (λw hw=>⟨rfl,hw.out⟩))))
theorem den_ok (a:Rat) (ha:nw a.den<=1099511627776) (w:World)  :Calls prog 133 #[(aG (AY a))] w (Ak w (aG (Aa a.den))):=by
 have h1w:=JJ
 have h2w:=DK (Nat.sub_le a.den 1)
 refine Ab (args:=[(aG (AY a))]) func133 O O (Av O) (zN (sL [0] O) (q4 (Bb (cs:=AY a) O λb1=>al Gf O λb2=>q6 (sL [1,2] O) (CQ [(0,true),(1,true),(2,false),(3,false),(4,false)] (sl sr) (Aj (v:=(pP b1 3)) O (AA O underlying77 O sizeOf71 O) (Eo 0 (Aa (a.den-1)) CD O (zK O (ck' call172 (KU 1 Z) O (zD (sl sr) ?_)))))))))
 exact zK O (ck' call194 (VC (a.den-1) 1 Z Z) O (zD (sl sr) (zK O (Ax O sizeOf71 O (zD (sl sr) (zT (zB (sL [2] O) (zA (zF (ret_one O (Ai (i:=0) (cs:=Aa ((a.den-1)+1)) O O isAgg71 sizeOf71 O) (λw hw=>⟨by rw [Nat.sub_add_cancel a.den_pos],hw.out⟩)))))))))))
theorem Hw (a:Rat) (ha:nw a.den<=1099511627776) (w:World)  :Calls prog 124 #[(aG (AY a))] w (Ak w (aG (BA ((a.den:Nat):Int)))):=by
 refine Ab (args:=[(aG (AY a))]) func124 O O (Av O) (zN (sL [0] O) (q4 (Bb (cs:=AY a) O λb1=>al J8 O λb2=>q3 (sL [1,2] O) (BD 1 Ce O (ck' call133 (den_ok a Z) O (ck' call171 (Ev false a.den) O (Ax O sizeOf75 O (oNl' (zB (sL [2] O) ?_)))))))))
 exact zA (zF (ret_one O (Ai (i:=0) (cs:=BA (EM false a.den)) O O isAgg75 sizeOf75 O) (λw hw=>⟨rfl,hw.out⟩)))
theorem X0 (a:Rat) (w:World)  :Calls prog 38 #[(aG (AY a))] w (Ak w (aG (AY (-a)))):=by
 refine Ab (args:=[(aG (AY a))]) func38 O O (Av O) (zN (sL [0] O) (q4 (Bb (cs:=AY a) O λb1=>al Gt O λb2=>q6 (sL [1,2] O) (CQ [(0,true),(1,true),(3,true),(4,true),(2,false),(5,true),(6,false)] (sl sr) (Aj (v:=(pP b1 0)) O (AA O underlying77 O sizeOf75 O) (Eo 0 (BA a.num) Dd O (Aj (v:=(pP b1 3)) O (AA O underlying77 O sizeOf71 O) (Eo 0 (Aa (a.den-1)) CD O (zK O ?_)))))))))
 exact ck' call106 (SC a.num) O (zD (sl sr) (Aj (v:=(aG (BA (-a.num)++Aa (a.den-1)))) O (AT (zs:=AY (0:Rat)) (vs:=BA (-a.num)++Aa (a.den-1)) (pv:=[(0,(aG (BA (-a.num)))),(1,(aG (Aa (a.den-1))))]) (places:=[(0,3),(3,2)]) zeroValue77 underlying77 (λw=>by simp [sizeOf71,sizeOf75]) O (D5 (-a.num) (a.den-1))) (zK O (Ax O sizeOf77 O (zD (sl sr) (zT (zB (sL [2] O) (zA (zF (ret_one O (Ai (i:=0) (cs:=BA (-a.num)++Aa (a.den-1)) O O isAgg77 sizeOf77 O) (λw hw=>⟨by rw [Jk,Rat.neg_num,Rat.neg_den],hw.out⟩)))))))))))
theorem PZ (a:Rat) (w:World)  :Calls prog 196 #[(aG (AY a))] w (Ak w (vI a.num.sign)):=by
 refine Ab (args:=[(aG (AY a))]) func196 O O (Av O) (zN (sL [0] O) (q4 (Bb (cs:=AY a) O λb1=>asg' O (q3 (sL [1,2] O) (AG (v:=(pP b1 0)) (AA O underlying77 O sizeOf75 O) O (Ei 0 (BA a.num) Dd O (ck' call176 (LH a.num) O (asg' O (oNl' (zB (sL [2] O) ?_))))))))))
 exact zA (zF (ret_one O (rd_tmp (v:=(vI a.num.sign)) O) (λw hw=>⟨rfl,hw.out⟩)))
theorem OH (a b:Rat) (hs:Sz a+Sz b<=549755813888) (w:World)  :Calls prog 72 #[(aG (AY a)),(aG (AY b))] w (Ak w (vI (EW a b))):=by
 have s1:=DA a
 have s2:=Cq a
 have s3:=DA b
 have s4:=Cq b
 have s5:=CW a b
 have s6:=CW b a
 have s7:=GP a b
 have s8:=HV a b
 have s9:=EB a.num b.num
 have s10:=EB (a.num*((b.den:Nat):Int)) (b.num*((a.den:Nat):Int))
 have hda:=a.den_nz
 have hdb:=b.den_nz
 have hdab:a.den*b.den≠0:=Nat.mul_ne_zero hda hdb
 refine Ab (args:=[(aG (AY a)),(aG (AY b))]) func72 O O (Av O) (zN (sL [0,1] O) (q4 (Bb (cs:=AY a) O λb1=>Bb (cs:=AY b) O λb2=>asg' O (q6 (sL [2,3,4] O) (q4 (AG (v:=(pP b1 3)) (AA O underlying77 O sizeOf71 O) O (Ei 1 (Aa (a.den-1)) CD O (AG (v:=(pP b2 3)) (AA O underlying77 O sizeOf71 O) O (Ei 0 (Aa (b.den-1)) CD O ?_)))))))))
 refine AG (CT (c:=(decide (a.den-1=b.den-1))) O O eqGuardType71 (I1 9998 (a.den-1) (b.den-1))) O (oNl' (zB (sL [2,3,4,9] O) (zA ?_)))
 refine zM O (λhc0=>?_) (λhc0=>?_)
 ·replace hc0:=xR hc0
  have he:=T8 hc0
  exact q4 (AG (v:=(pP b1 0)) (AA O underlying77 O sizeOf75 O) O (Ei 1 (BA a.num) Dd O (AG (v:=(pP b2 0)) (AA O underlying77 O sizeOf75 O) O (Ei 0 (BA b.num) Dd O (ck' call122 (SR a.num b.num (by first|omega|(simp only [Int.natAbs_neg,A6,Int.natAbs_natCast];omega)) (by first|omega|(simp only [Int.natAbs_neg,A6,Int.natAbs_natCast];omega))) O (asg' O (oNl' (zB (sL [2,3,4] O) (zA (zF (zO (ret_one O (rd_tmp (v:=(vI ((a.num-b.num).sign))) O) (λw hw=>⟨by rw [he],hw.out⟩)))))))))))))
 ·replace hc0:=xQ hc0
  have he:=ID a b
  refine zG (q1 (CQ [(0,true),(1,true),(2,true),(5,true),(6,true),(7,true),(3,false),(4,false),(8,false),(9,false),(10,false),(11,true)] sr (Aj (v:=(pP b1 0)) O (AA O underlying77 O sizeOf75 O) (Eo 1 (BA a.num) Dd O (EC 0 Ce O (Aj (v:=(pP b2 0)) O (AA O underlying77 O sizeOf75 O) (Eo 0 (BA b.num) Dd O (EC 1 Ce O (zK O (ck' call124 (Hw b Z) O (zD sr ?_)))))))))))
  refine zK O (ck' call123 (Hu a.num ((b.den:Nat):Int) (by first|omega|(simp only [Int.natAbs_neg,A6,Int.natAbs_natCast];omega)) (by first|omega|(simp only [Int.natAbs_neg,A6,Int.natAbs_natCast];omega))) O (zD sr (zK O (ck' call124 (Hw a Z) O (zD sr (zK O (ck' call123 (Hu b.num ((a.den:Nat):Int) (by first|omega|(simp only [Int.natAbs_neg,A6,Int.natAbs_natCast];omega)) (by first|omega|(simp only [Int.natAbs_neg,A6,Int.natAbs_natCast];omega))) O (zD sr (zK O (ck' call122 (SR (a.num*((b.den:Nat):Int)) (b.num*((a.den:Nat):Int)) (by first|omega|(simp only [Int.natAbs_neg,A6,Int.natAbs_natCast];omega)) (by first|omega|(simp only [Int.natAbs_neg,A6,Int.natAbs_natCast];omega))) O (zD sr ?_)))))))))))
  exact pS' O (zT (zB (sL [2,3,4] O) (zA (zF (ret_one O (rd_tmp (v:=(vI (((a.num*((b.den:Nat):Int))-(b.num*((a.den:Nat):Int))).sign))) O) (λw hw=>⟨by rw [he],hw.out⟩))))))
theorem Km (a b:Rat) (hs:Sz a+Sz b<=549755813888) (w:World)  :Calls prog 90 #[(aG (AY a)),(aG (AY b))] w (Ak w (aG (AY (a+b)))):=by
 have s1:=DA a
 have s2:=Cq a
 have s3:=DA b
 have s4:=Cq b
 have s5:=CW a b
 have s6:=CW b a
 have s7:=GP a b
 have s8:=HV a b
 have s9:=EB a.num b.num
 have s10:=EB (a.num*((b.den:Nat):Int)) (b.num*((a.den:Nat):Int))
 have hda:=a.den_nz
 have hdb:=b.den_nz
 have hdab:a.den*b.den≠0:=Nat.mul_ne_zero hda hdb
 refine Ab (args:=[(aG (AY a)),(aG (AY b))]) func90 O O (Av O) (zN (sL [0,1] O) (q4 (Bb (cs:=AY a) O λb1=>Bb (cs:=AY b) O λb2=>al Gt O λb3=>q6 (sL [2,3,4] O) (zI (q4 (BD 2 Ce O (ck' call130 (HT a) O (AM O ?_))))))))
 refine zX (FM:=[(2,(pP b1 0)),(3,(pP b2 0)),(4,(pP b3 0)),(6,(aG (AY a))),(7,(qa (decide (a.den-1=0)))),(8,(qa (decide (a.den-1=0)))),(11,(qa ((decide (a.den-1=0))&&(decide (b.den-1=0)))))]) (LM:=[AR b3 77 (AY (0:Rat)),AR b2 77 (AY b),AR b1 77 (AY a)]) 3 ?_ ?_
 ·rcases xO (decide (a.den-1=0)) with hg1|hg1
  ·refine zC (k:=8) (u:=qa true) O (by rw [hg1]) ?_
   have hg1':=xR hg1
   exact Au (v:=(aG (AY b))) O (A_ (i:=1) (vs:=AY b) O O Ce.a Ce.s O O) (zd (v:=(qa (decide (b.den-1=0)))) (AH O) (Aw (args:=[(aG (AY b))]) O O call130) (λw hw=>HT b w) O (Av O) (AG (v:=(qa (decide (b.den-1=0)))) (AN O O) O (oNl' (zR Bg (xP _)))))
  ·refine zC (k:=8) (u:=qa false) O (by rw [hg1]) ?_
   have hg1':=xQ hg1
   exact Ar O (Ar O (AG (v:=(qa false)) (AI O O) O (oNl' (zR Bg (xP _)))))
 refine asg' O (oNl' (zB (sL [2,3,4,5] O) (zA ?_)))
 refine zM O (λhc0=>?_) (λhc0=>?_)
 ·simp only [jK] at hc0
  have he:=Tp hc0.1 hc0.2
  refine q4 (AG (v:=(pP b1 0)) (AA O underlying77 O sizeOf75 O) O (Ei 2 (BA a.num) Dd O (AG (v:=(pP b2 0)) (AA O underlying77 O sizeOf75 O) O (Ei 1 (BA b.num) Dd O (ck' call151 (OI a.num b.num (by first|omega|(simp only [Int.natAbs_neg,A6,Int.natAbs_natCast];omega)) (by first|omega|(simp only [Int.natAbs_neg,A6,Int.natAbs_natCast];omega))) O (ck' call108 (K1 (a.num+b.num)) O (Ax O sizeOf77 O (oNl' (zB (sL [2,3,4] O) (zA (zF ?_)))))))))))
  exact zY (zO (ret_one O (Ai (i:=0) (cs:=AY ((a.num+b.num:Int):Rat)) O O isAgg77 sizeOf77 O) (λw hw=>⟨by rw [he],hw.out⟩)))
 ·simp only [jK] at hc0
  have he:=Ho a b
  refine q4 (AG (v:=(pP b1 3)) (AA O underlying77 O sizeOf71 O) O (Ei 2 (Aa (a.den-1)) CD O (AG (v:=(pP b2 3)) (AA O underlying77 O sizeOf71 O) O (Ei 1 (Aa (b.den-1)) CD O (AG (CT (c:=(decide (a.den-1=b.den-1))) O O eqGuardType71 (I1 9998 (a.den-1) (b.den-1))) O (asg' O (oNl' (zB (sL [2,3,4,18] O) (zA ?_)))))))))
  refine zM O (λhc1=>?_) (λhc1=>?_)
  ·replace hc1:=xR hc1
   have he:=VA hc1
   refine zV (CQ (Db 4++[(5,true),(4,false),(6,false),(7,false),(8,false)]) (sl sr) (Aj (v:=(pP b1 0)) O (AA O underlying77 O sizeOf75 O) (Eo 1 (BA a.num) Dd O (Aj (v:=(pP b2 0)) O (AA O underlying77 O sizeOf75 O) (Eo 0 (BA b.num) Dd O (EC 1 Ce O (zK O (ck' call151 (OI a.num b.num (by first|omega|(simp only [Int.natAbs_neg,A6,Int.natAbs_natCast];omega)) (by first|omega|(simp only [Int.natAbs_neg,A6,Int.natAbs_natCast];omega))) O (zD (sl sr) (zK O (ck' call133 (den_ok a Z) O ?_)))))))))))
   refine zD (sl sr) (zK O (ck' call152 (Hf (a.num+b.num) a.den Z Z (by first|omega|assumption)) O (zD (sl sr) (zK O (Ax O sizeOf77 O (zD (sl sr) (zT (zB (sL [2,3,4] O) (zA (zF (zY ?_)))))))))))
   exact zO (ret_one O (Ai (i:=0) (cs:=AY (mkRat (a.num+b.num) a.den)) O O isAgg77 sizeOf77 O) (λw hw=>⟨by rw [he],hw.out⟩))
  ·replace hc1:=xQ hc1
   refine zG (zJ (q1 (CQ [(0,true),(1,true),(2,true),(5,true),(6,true),(7,true),(11,true),(13,true),(3,false),(4,false),(8,false),(9,false),(10,false),(12,false),(14,false),(15,false),(16,false),(17,false)] (sl sr) (Aj (v:=(pP b1 0)) O (AA O underlying77 O sizeOf75 O) (Eo 1 (BA a.num) Dd O (EC 0 Ce O (Aj (v:=(pP b2 0)) O (AA O underlying77 O sizeOf75 O) (Eo 0 (BA b.num) Dd O (EC 1 Ce O (EC 1 Ce O (EC 0 Ce O ?_)))))))))))
   refine zK O (ck' call124 (Hw b Z) O (zD (sl sr) (zK O (ck' call123 (Hu a.num ((b.den:Nat):Int) (by first|omega|(simp only [Int.natAbs_neg,A6,Int.natAbs_natCast];omega)) (by first|omega|(simp only [Int.natAbs_neg,A6,Int.natAbs_natCast];omega))) O (zD (sl sr) (zK O (ck' call124 (Hw a Z) O (zD (sl sr) (zK O (ck' call123 (Hu b.num ((a.den:Nat):Int) (by first|omega|(simp only [Int.natAbs_neg,A6,Int.natAbs_natCast];omega)) (by first|omega|(simp only [Int.natAbs_neg,A6,Int.natAbs_natCast];omega))) O (zD (sl sr) ?_)))))))))))
   refine zK O (ck' call151 (OI (a.num*((b.den:Nat):Int)) (b.num*((a.den:Nat):Int)) (by first|omega|(simp only [Int.natAbs_neg,A6,Int.natAbs_natCast];omega)) (by first|omega|(simp only [Int.natAbs_neg,A6,Int.natAbs_natCast];omega))) O (zD (sl sr) (zK O (ck' call133 (den_ok a Z) O (zD (sl sr) (zK O (ck' call133 (den_ok b Z) O (zD (sl sr) (zK O (ck' call153 (Ry a.den b.den Z Z) O (zD (sl sr) ?_)))))))))))
   exact zK O (ck' call152 (Hf ((a.num*((b.den:Nat):Int))+(b.num*((a.den:Nat):Int))) (a.den*b.den) Z Z (by first|omega|assumption)) O (zD (sl sr) (zK O (Ax O sizeOf77 O (zD (sl sr) (zT (zB (sL [2,3,4] O) (zA (zF (ret_one O (Ai (i:=0) (cs:=AY (mkRat ((a.num*((b.den:Nat):Int))+(b.num*((a.den:Nat):Int))) (a.den*b.den))) O O isAgg77 sizeOf77 O) (λw hw=>⟨by rw [he],hw.out⟩)))))))))))
theorem SI (a b:Rat) (hs:Sz a+Sz b<=549755813888) (w:World)  :Calls prog 175 #[(aG (AY a)),(aG (AY b))] w (Ak w (aG (AY (a-b)))):=by
 refine Ab (args:=[(aG (AY a)),(aG (AY b))]) func175 O O (Av O) (zN (sL [0,1] O) (q4 (Bb (cs:=AY a) O λb1=>Bb (cs:=AY b) O λb2=>al Gt O λb3=>q6 (sL [2,3,4] O) (CQ [(0,true),(1,true),(2,false),(3,false),(4,false)] (sl sr) (EC 1 Ce O (EC 0 Ce O (zK O (ck' call38 (X0 b) O ?_))))))))
 refine zD (sl sr) (zK O ?_)
 have hz1:=E_ a (-b)
 exact ck' call90 (Km a (-b) (by (try simp only [Cb]);omega)) O (zD (sl sr) (zK O (Ax O sizeOf77 O (zD (sl sr) (zT (zB (sL [4] O) (zA (zF (ret_one O (Ai (i:=0) (cs:=AY (a+(-b))) O O isAgg77 sizeOf77 O) (λw hw=>⟨by rw [Rat.sub_eq_add_neg],hw.out⟩))))))))))
theorem Ko (a b:Rat) (hs:Sz a+Sz b<=549755813888) (w:World)  :Calls prog 91 #[(aG (AY a)),(aG (AY b))] w (Ak w (aG (AY (a*b)))):=by
 have s1:=DA a
 have s2:=Cq a
 have s3:=DA b
 have s4:=Cq b
 have s5:=CW a b
 have s6:=CW b a
 have s7:=GP a b
 have s8:=HV a b
 have s9:=EB a.num b.num
 have s10:=EB (a.num*((b.den:Nat):Int)) (b.num*((a.den:Nat):Int))
 have hda:=a.den_nz
 have hdb:=b.den_nz
 have hdab:a.den*b.den≠0:=Nat.mul_ne_zero hda hdb
 refine Ab (args:=[(aG (AY a)),(aG (AY b))]) func91 O O (Av O) (zN (sL [0,1] O) (q4 (Bb (cs:=AY a) O λb1=>Bb (cs:=AY b) O λb2=>al Gt O λb3=>q6 (sL [2,3,4] O) (q4 (BD 2 Ce O (ck' call130 (HT a) O (AM O ?_)))))))
 refine zX (FM:=[(2,(pP b1 0)),(3,(pP b2 0)),(4,(pP b3 0)),(5,(aG (AY a))),(6,(qa (decide (a.den-1=0)))),(7,(qa (decide (a.den-1=0)))),(10,(qa ((decide (a.den-1=0))&&(decide (b.den-1=0)))))]) (LM:=[AR b3 77 (AY (0:Rat)),AR b2 77 (AY b),AR b1 77 (AY a)]) 3 ?_ ?_
 ·rcases xO (decide (a.den-1=0)) with hg1|hg1
  ·refine zC (k:=7) (u:=qa true) O (by rw [hg1]) ?_
   have hg1':=xR hg1
   exact Au (v:=(aG (AY b))) O (A_ (i:=1) (vs:=AY b) O O Ce.a Ce.s O O) (zd (v:=(qa (decide (b.den-1=0)))) (AH O) (Aw (args:=[(aG (AY b))]) O O call130) (λw hw=>HT b w) O (Av O) (AG (v:=(qa (decide (b.den-1=0)))) (AN O O) O (oNl' (zR Bg (xP _)))))
  ·refine zC (k:=7) (u:=qa false) O (by rw [hg1]) ?_
   have hg1':=xQ hg1
   exact Ar O (Ar O (AG (v:=(qa false)) (AI O O) O (oNl' (zR Bg (xP _)))))
 refine oNl' (zB (sL [2,3,4,10] O) (zA ?_))
 refine zM O (λhc0=>?_) (λhc0=>?_)
 ·simp only [jK] at hc0
  have he:=UD hc0.1 hc0.2
  refine q4 (AG (v:=(pP b1 0)) (AA O underlying77 O sizeOf75 O) O (Ei 2 (BA a.num) Dd O (AG (v:=(pP b2 0)) (AA O underlying77 O sizeOf75 O) O (Ei 1 (BA b.num) Dd O (ck' call123 (Hu a.num b.num (by first|omega|(simp only [Int.natAbs_neg,A6,Int.natAbs_natCast];omega)) (by first|omega|(simp only [Int.natAbs_neg,A6,Int.natAbs_natCast];omega))) O (ck' call108 (K1 (a.num*b.num)) O (Ax O sizeOf77 O (oNl' (zB (sL [2,3,4] O) (zA (zF ?_)))))))))))
  exact zO (ret_one O (Ai (i:=0) (cs:=AY ((a.num*b.num:Int):Rat)) O O isAgg77 sizeOf77 O) (λw hw=>⟨by rw [he],hw.out⟩))
 ·simp only [jK] at hc0
  have he:=Jb a b
  refine zG (q1 (CQ (Db 4++[(5,true),(7,true),(4,false),(6,false),(8,false),(9,false),(10,false),(11,false)]) (sl sr) (Aj (v:=(pP b1 0)) O (AA O underlying77 O sizeOf75 O) (Eo 1 (BA a.num) Dd O (Aj (v:=(pP b2 0)) O (AA O underlying77 O sizeOf75 O) (Eo 0 (BA b.num) Dd O (EC 1 Ce O (EC 0 Ce O (zK O (ck' call123 (Hu a.num b.num (by first|omega|(simp only [Int.natAbs_neg,A6,Int.natAbs_natCast];omega)) (by first|omega|(simp only [Int.natAbs_neg,A6,Int.natAbs_natCast];omega))) O (zD (sl sr) ?_)))))))))))
  refine zK O (ck' call133 (den_ok a Z) O (zD (sl sr) (zK O (ck' call133 (den_ok b Z) O (zD (sl sr) (zK O (ck' call153 (Ry a.den b.den Z Z) O (zD (sl sr) (zK O (ck' call152 (Hf (a.num*b.num) (a.den*b.den) Z Z (by first|omega|assumption)) O (zD (sl sr) ?_)))))))))))
  exact zK O (Ax O sizeOf77 O (zD (sl sr) (zT (zB (sL [2,3,4] O) (zA (zF (ret_one O (Ai (i:=0) (cs:=AY (mkRat (a.num*b.num) (a.den*b.den))) O O isAgg77 sizeOf77 O) (λw hw=>⟨by rw [he],hw.out⟩))))))))
theorem ZM (a b:Rat) (hs:Sz a+Sz b<=549755813888) (hb:b≠0) (w:World)  :Calls prog 156 #[(aG (AY a)),(aG (AY b))] w (Ak w (Value.tuple #[(aG (AY (a/b))),(vI 0)])):=by
 have s1:=DA a
 have s2:=Cq a
 have s3:=DA b
 have s4:=Cq b
 have s5:=CW a b
 have s6:=CW b a
 have s7:=GP a b
 have s8:=HV a b
 have s9:=EB a.num b.num
 have s10:=EB (a.num*((b.den:Nat):Int)) (b.num*((a.den:Nat):Int))
 have hda:=a.den_nz
 have hdb:=b.den_nz
 have hdab:a.den*b.den≠0:=Nat.mul_ne_zero hda hdb
 have hbn:b.num≠0:=λe=>hb (Rat.num_eq_zero.1 e)
 have hbs:b.num.sign≠0:=λe=>hbn (Int.sign_eq_zero_iff_zero.1 e)
 have hmi:nw (EM (decide (b.num.sign<(0:Int))) b.den).natAbs=nw b.den:=by rw [A6]
 have hinv:=Jd hb
 have hsi:=Q2 hb
 rw [<-hinv] at hsi
 refine Ab (args:=[(aG (AY a)),(aG (AY b))]) func156 O O (Av O) (zN (sL [0,1] O) (q4 (Bb (cs:=AY a) O λb1=>Bb (cs:=AY b) O λb2=>al Gt O λb3=>asg' O (q6 (sL [2,3,4,5] O) (q4 (BD 1 Ce O (ck' call196 (PZ b) O (AG (BO (c:=(decide (b.num.sign=(0:Int)))) O O O) O ?_))))))))
 refine oNl' (zB (sL [2,3,4,5,9] O) (zA ?_))
 refine zM O (λhc0=>?_) (λhc0=>?_)
 ·replace hc0:=xR hc0
  exact absurd hc0 hbs
 ·replace hc0:=xQ hc0
  refine zG (q1 (rN [(0,true),(3,true),(6,true),(7,true),(1,false),(2,true),(4,false),(5,false),(8,false),(9,false)] [⟨10,6,77,AY (0:Rat)⟩] [(11,false)] sr jV (λ_ _ d _ _ h=>by cases d<;>exact h) (PC O O Gt O (Qy)) O (bb 1 Ce O (bb 1 Ce O (H9 (v:=(pP b2 0)) O (AA O underlying77 O sizeOf75 O) O (fP 1 (BA b.num) Dd O (yI O λEF EL=>ck' call196 (PZ b) O (yR sr O (H9 O (Ae (c:=(decide (b.num.sign<(0:Int)))) O O O) O (yI O λEF EL=>?_))))))))))
  refine ck' call133 (den_ok b Z) O (yR sr O (yI O λEF EL=>ck' call171 (Ev (decide (b.num.sign<(0:Int))) b.den) O (yR sr O (yI O λEF EL=>ck' call202 (OD b.num) O (yR sr O (yI O λEF EL=>ck' call152 (Hf (EM (decide (b.num.sign<(0:Int))) b.den) b.num.natAbs Z Z (by first|omega|assumption)) O (yR sr O (yX λb4=>?_))))))))
  refine zK O (Ax O sizeOf77 O (zD (sl sr) (zT (zB (sL [2,3,4,5,6] O) (q2 (BD 3 Ce O (BD 0 Ce O ?_)))))))
  have hz1:=Eg a (mkRat (EM (decide (b.num.sign<(0:Int))) b.den) b.num.natAbs)
  exact ck' call91 (Ko a (mkRat (EM (decide (b.num.sign<(0:Int))) b.den) b.num.natAbs) (by (try simp only [Cb]);omega)) O (EK O sizeOf77 O (asg' O (oNl' (zB (sL [3,4,5,6] O) (zA (zF (Dq O (Ai (i:=1) (cs:=AY (a*(mkRat (EM (decide (b.num.sign<(0:Int))) b.den) b.num.natAbs))) O O isAgg77 sizeOf77 O) (rd_tmp (v:=(vI 0)) O) (λw hw=>⟨by rw [hinv,Rat.div_def],hw.out⟩))))))))
theorem Kc (z:Int) (hz:-9223372036854775808<=z) (hz2:z<9223372036854775808) (w:World)  :Calls prog 40 #[(vI z)] w (Ak w (aG (AY ((z:Int):Rat)))):=by
 refine Ab (args:=[(vI z)]) func40 O O (Av O) (zN (sL [0] O) (q4 (al Gt O λb1=>oNl' (q2 (AM O (ck' call109 (bA z Z Z) O (ck' call108 (K1 z) O (Ax O sizeOf77 O (oNl' (zB (sL [2] O) ?_))))))))))
 exact zA (zF (ret_one O (Ai (i:=0) (cs:=AY ((z:Int):Rat)) O O isAgg77 sizeOf77 O) (λw hw=>⟨rfl,hw.out⟩)))
end
section
instance:Add Pt:=⟨λa b=>⟨a.x+b.x,a.y+b.y⟩⟩
instance:Sub Pt:=⟨λa b=>⟨a.x-b.x,a.y-b.y⟩⟩
def CE (a:Pt) (k:Rat):Pt:=⟨a.x*k,a.y*k⟩
def aC (a b:Pt):Rat:=a.x*b.y-a.y*b.x
def Cz (a b:Pt):Rat:=a.x*b.x+a.y*b.y
def Jt (a b c:Pt):Rat:=aC (b-a) (c-a)
def DU (p:Pt):Nat:=max (Sz p.x) (Sz p.y)
theorem Dw (p:Pt):Sz p.x<=DU p:=Nat.le_max_left ..
theorem Dv (p:Pt):Sz p.y<=DU p:=Nat.le_max_right ..
theorem N9 {p:Pt} {k:Nat} (h1:Sz p.x<=k) (h2:Sz p.y<=k):DU p<=k:=Nat.max_le.2 ⟨h1,h2⟩
theorem Kg (a b:Pt):DU (a+b)<=DU a+DU b+1:=by
  have h1:=Dw a;have h2:=Dv a;have h3:=Dw b;have h4:=Dv b
  refine N9 ?_ ?_
  · exact xK (E_ a.x b.x) Z
  · exact xK (E_ a.y b.y) Z
theorem FK (a b:Pt):DU (a-b)<=DU a+DU b+1:=by
  have h1:=Dw a;have h2:=Dv a;have h3:=Dw b;have h4:=Dv b
  refine N9 ?_ ?_
  · exact xK (II a.x b.x) Z
  · exact xK (II a.y b.y) Z
theorem He (a:Pt) (k:Rat):DU (CE a k)<=DU a+Sz k:=by
  have h1:=Dw a;have h2:=Dv a
  refine N9 ?_ ?_
  · exact xK (Eg a.x k) Z
  · exact xK (Eg a.y k) Z
theorem IT (a b:Pt):Sz (Cz a b)<=2*DU a+2*DU b+1:=by
  have h1:=Dw a;have h2:=Dv a;have h3:=Dw b;have h4:=Dv b
  have h5:=Eg a.x b.x;have h6:=Eg a.y b.y
  exact xK (E_ _ _) Z
theorem XY:Sz (1/2:Rat)<=1:=by decide +kernel
theorem X1:((1:Int):Rat)/((2:Int):Rat)=1/2:=by decide +kernel
theorem JT {z:Int} (h1:-9223372036854775808<=z) (h2:z<9223372036854775808):Sz ((z:Int):Rat)<=2:=Zj (ME (by show z.natAbs<_;omega)) (by show nw 1<=2;rw [JJ];omega)
theorem ZK (a b:Pt):BB (a+b)=AY (a.x+b.x)++AY (a.y+b.y):=rfl
theorem YP (a b:Pt):BB (a-b)=AY (a.x-b.x)++AY (a.y-b.y):=rfl
theorem TY (a:Pt) (k:Rat):BB (CE a k)=AY (a.x*k)++AY (a.y*k):=rfl
theorem Zo (x y:Rat):BB ⟨x,y⟩=AY x++AY y:=rfl
section
variable {P:Program} {Q:Exit->Act->World->Prop} {n:Nat} {F:List (Nat×Value)} {w0:BC} {L:List As} {c:Code}
def MM (P:Program) (c:Code) (Q:Exit->Act->World->Prop) (k n:Nat) (F:List (Nat×Value)) (w0:BC) (L:List As):Prop:=∀a w,Frm n a F->Own w0 w L->Code.rounds P c Q k a w
theorem yd (k:Nat) (h:MM P c Q k n F w0 L):OkC P (.loop c) Q n F w0 L:=λa w ha hw=>wp_loop_rounds k (h a w ha hw)
theorem z6 {k:Nat} (h:OkC P c (Exit.then (Code.rounds P c Q k) Q) n F w0 L):MM P c Q (k+1) n F w0 L:=λa w ha hw=>by
  rw [rounds_succ];exact h a w ha hw
theorem yD {k:Nat} (h:MM P c Q k n F w0 L):OkQ (Exit.then (Code.rounds P c Q k) Q) .normal n F w0 L:=h
end
end
section
set_option maxRecDepth 100000
theorem B4 (x0:Rat) (x1:Rat):Instr.fill ([(0,5),(5,5)].toArray[·]?) (BB (⟨0,0⟩:Pt)).toArray [(0,.agg (AY x0).toArray),(1,.agg (AY x1).toArray)]=some (AY x0++AY x1).toArray:=by kernel_rfl
theorem O5 (a b:Pt) (hs:DU a+DU b<=68719476736) (w:World)  :Calls prog 104 #[(aG (BB a)),(aG (BB b)),(Value.func (.func 90) #[] #[])] w (Ak w (aG (BB (a+b)))):=by
 have p1:=Dw a
 have p2:=Dv a
 have p3:=Dw b
 have p4:=Dv b
 refine Ab (args:=[(aG (BB a)),(aG (BB b)),(Value.func (.func 90) #[] #[])]) func104 O O (Av O) (zN (sL [0,1,2] O) (q4 (Bb (cs:=BB a) O λb1=>Bb (cs:=BB b) O λb2=>al MY O λb3=>q6 (sL [2,3,4,6] O) (CQ (Db 5++[(6,true),(7,true),(8,true),(9,true),(10,true),(5,false),(11,false),(12,true),(13,false)]) (sl sr) (BT O (Aj (v:=(pP b1 0)) O (AA O underlying99 O sizeOf77 O) (Eo 1 (AY a.x) Ce O (Aj (v:=(pP b2 0)) O (AA O underlying99 O sizeOf77 O) ?_))))))))
 refine Eo 0 (AY b.x) Ce O (BT O (Aj (v:=(pP b1 5)) O (AA O underlying99 O sizeOf77 O) (Eo 1 (AY a.y) Ce O (Aj (v:=(pP b2 5)) O (AA O underlying99 O sizeOf77 O) (Eo 0 (AY b.y) Ce O (zK O ?_))))))
 have hz1:=E_ a.x b.x
 refine ck' call90 (Km a.x b.x (by (try simp only [Cb]);omega)) O (zD (sl sr) (zK O ?_))
 have hz2:=E_ a.y b.y
 exact ck' call90 (Km a.y b.y (by (try simp only [Cb]);omega)) O (zD (sl sr) (Aj (v:=(aG (AY (a.x+b.x)++AY (a.y+b.y)))) O (AT (zs:=BB (⟨0,0⟩:Pt)) (vs:=AY (a.x+b.x)++AY (a.y+b.y)) (pv:=[(0,(aG (AY (a.x+b.x)))),(1,(aG (AY (a.y+b.y))))]) (places:=[(0,5),(5,5)]) zeroValue99 underlying99 (λw=>by simp [sizeOf77]) O (B4 (a.x+b.x) (a.y+b.y))) (zK O (Ax O sizeOf99 O (zD (sl sr) (zT (zB (sL [6] O) (zA (zF (ret_one O (Ai (i:=0) (cs:=AY (a.x+b.x)++AY (a.y+b.y)) O O isAgg99 sizeOf99 O) (λw hw=>⟨by rw [ZK],hw.out⟩)))))))))))
theorem Pn (a b:Pt) (hs:DU a+DU b<=68719476736) (w:World)  :Calls prog 104 #[(aG (BB a)),(aG (BB b)),(Value.func (.func 175) #[] #[])] w (Ak w (aG (BB (a-b)))):=by
 have p1:=Dw a
 have p2:=Dv a
 have p3:=Dw b
 have p4:=Dv b
 refine Ab (args:=[(aG (BB a)),(aG (BB b)),(Value.func (.func 175) #[] #[])]) func104 O O (Av O) (zN (sL [0,1,2] O) (q4 (Bb (cs:=BB a) O λb1=>Bb (cs:=BB b) O λb2=>al MY O λb3=>q6 (sL [2,3,4,6] O) (CQ (Db 5++[(6,true),(7,true),(8,true),(9,true),(10,true),(5,false),(11,false),(12,true),(13,false)]) (sl sr) (BT O (Aj (v:=(pP b1 0)) O (AA O underlying99 O sizeOf77 O) (Eo 1 (AY a.x) Ce O (Aj (v:=(pP b2 0)) O (AA O underlying99 O sizeOf77 O) ?_))))))))
 refine Eo 0 (AY b.x) Ce O (BT O (Aj (v:=(pP b1 5)) O (AA O underlying99 O sizeOf77 O) (Eo 1 (AY a.y) Ce O (Aj (v:=(pP b2 5)) O (AA O underlying99 O sizeOf77 O) (Eo 0 (AY b.y) Ce O (zK O ?_))))))
 have hz1:=II a.x b.x
 refine ck' call175 (SI a.x b.x (by (try simp only [Cb]);omega)) O (zD (sl sr) (zK O ?_))
 have hz2:=II a.y b.y
 exact ck' call175 (SI a.y b.y (by (try simp only [Cb]);omega)) O (zD (sl sr) (Aj (v:=(aG (AY (a.x-b.x)++AY (a.y-b.y)))) O (AT (zs:=BB (⟨0,0⟩:Pt)) (vs:=AY (a.x-b.x)++AY (a.y-b.y)) (pv:=[(0,(aG (AY (a.x-b.x)))),(1,(aG (AY (a.y-b.y))))]) (places:=[(0,5),(5,5)]) zeroValue99 underlying99 (λw=>by simp [sizeOf77]) O (B4 (a.x-b.x) (a.y-b.y))) (zK O (Ax O sizeOf99 O (zD (sl sr) (zT (zB (sL [6] O) (zA (zF (ret_one O (Ai (i:=0) (cs:=AY (a.x-b.x)++AY (a.y-b.y)) O O isAgg99 sizeOf99 O) (λw hw=>⟨by rw [YP],hw.out⟩)))))))))))
theorem NW (x y k:Rat) (bk:Nat) (hs:Sz x+Sz k<=137438953472) (w:World) (hk:w.heap[bk]?=some (.cells (AY k).toArray 77 (0,0))):Calls prog 107 #[(aG (AY x)),(aG (AY y)),(pP bk 0)] w (Ak w (aG (AY (x*k)))):=by
 refine Ab (args:=[(aG (AY x)),(aG (AY y)),(pP bk 0)]) func107 O O (Av O) (zN (sL [0,1,2] O) (q4 (Bb (cs:=AY x) O λb1=>Bb (cs:=AY y) O λb2=>al Gt O λb3=>q3 (sL [2,3,5] O) (BD 2 Ce O (AG (v:=(aG (AY k))) (FZ (vs:=AY k) O (λw' hw=>hw.oldCA jX (FA hk)) isAgg77 sizeOf77 O) O ?_)))))
 have hz1:=Eg x k
 exact ck' call91 (Ko x k (by (try simp only [Cb]);omega)) O (Ax O sizeOf77 O (oNl' (zB (sL [5] O) (zA (zF (ret_one O (Ai (i:=0) (cs:=AY (x*k)) O O isAgg77 sizeOf77 O) (λw hw=>⟨rfl,hw.out⟩)))))))
theorem MT (a:Pt) (k:Rat) (bk:Nat) (hs:DU a+Sz k<=137438953472) (w:World) (hk:w.heap[bk]?=some (.cells (AY k).toArray 77 (0,0))):Calls prog 104 #[(aG (BB a)),(aG (BB a)),(Value.func (.func 107) #[] #[(pP bk 0)])] w (Ak w (aG (BB (CE a k)))):=by
 have p1:=Dw a
 have p2:=Dv a
 refine Ab (args:=[(aG (BB a)),(aG (BB a)),(Value.func (.func 107) #[] #[(pP bk 0)])]) func104 O O (Av O) (zN (sL [0,1,2] O) (q4 (Bb (cs:=BB a) O λb1=>Bb (cs:=BB a) O λb2=>al MY O λb3=>q6 (sL [2,3,4,6] O) (CQ (Db 5++[(6,true),(7,true),(8,true),(9,true),(10,true),(5,false),(11,false),(12,true),(13,false)]) (sl sr) (BT O (Aj (v:=(pP b1 0)) O (AA O underlying99 O sizeOf77 O) (Eo 1 (AY a.x) Ce O (Aj (v:=(pP b2 0)) O (AA O underlying99 O sizeOf77 O) ?_))))))))
 refine Eo 0 (AY a.x) Ce O (BT O (Aj (v:=(pP b1 5)) O (AA O underlying99 O sizeOf77 O) (Eo 1 (AY a.y) Ce O (Aj (v:=(pP b2 5)) O (AA O underlying99 O sizeOf77 O) (Eo 0 (AY a.y) Ce O (zK O (zd (v:=(aG (AY (a.x*k)))) (AJ O) (DM (args:=[(aG (AY a.x)),(aG (AY a.x))]) (caps:=[(pP bk 0)]) (all:=[(aG (AY a.x)),(aG (AY a.x)),(pP bk 0)]) O O O call107) (λw hw=>NW a.x a.x k bk Z w (hw.old jX hk)) O (Av O) (zD (sl sr) (zK O (zd (v:=(aG (AY (a.y*k)))) (AJ O) (DM (args:=[(aG (AY a.y)),(aG (AY a.y))]) (caps:=[(pP bk 0)]) (all:=[(aG (AY a.y)),(aG (AY a.y)),(pP bk 0)]) O O O call107) (λw hw=>NW a.y a.y k bk Z w (hw.old jX hk)) O (Av O) (zD (sl sr) ?_)))))))))))
 exact Aj (v:=(aG (AY (a.x*k)++AY (a.y*k)))) O (AT (zs:=BB (⟨0,0⟩:Pt)) (vs:=AY (a.x*k)++AY (a.y*k)) (pv:=[(0,(aG (AY (a.x*k)))),(1,(aG (AY (a.y*k))))]) (places:=[(0,5),(5,5)]) zeroValue99 underlying99 (λw=>by simp [sizeOf77]) O (B4 (a.x*k) (a.y*k))) (zK O (Ax O sizeOf99 O (zD (sl sr) (zT (zB (sL [6] O) (zA (zF (ret_one O (Ai (i:=0) (cs:=AY (a.x*k)++AY (a.y*k)) O O isAgg99 sizeOf99 O) (λw hw=>⟨by rw [TY],hw.out⟩)))))))))
theorem Xz (a b:Pt) (hs:DU a+DU b<=68719476736) (w:World)  :Calls prog 36 #[(aG (BB a)),(aG (BB b))] w (Ak w (aG (BB (a+b)))):=by
 refine Ab (args:=[(aG (BB a)),(aG (BB b))]) func36 O O (Av O) (zN (sL [0,1] O) (q4 (Bb (cs:=BB a) O λb1=>Bb (cs:=BB b) O λb2=>al MY O λb3=>q3 (sL [2,3,4] O) (BD 2 HI O (BD 1 HI O (ck' call104 (O5 a b Z) O (Ax O sizeOf99 O (oNl' ?_))))))))
 exact zB (sL [4] O) (zA (zF (ret_one O (Ai (i:=0) (cs:=BB (a+b)) O O isAgg99 sizeOf99 O) (λw hw=>⟨rfl,hw.out⟩))))
theorem YD (a b:Pt) (hs:DU a+DU b<=68719476736) (w:World)  :Calls prog 120 #[(aG (BB a)),(aG (BB b))] w (Ak w (aG (BB (a-b)))):=by
 refine Ab (args:=[(aG (BB a)),(aG (BB b))]) func120 O O (Av O) (zN (sL [0,1] O) (q4 (Bb (cs:=BB a) O λb1=>Bb (cs:=BB b) O λb2=>al MY O λb3=>q3 (sL [2,3,4] O) (BD 2 HI O (BD 1 HI O (ck' call104 (Pn a b Z) O (Ax O sizeOf99 O (oNl' ?_))))))))
 exact zB (sL [4] O) (zA (zF (ret_one O (Ai (i:=0) (cs:=BB (a-b)) O O isAgg99 sizeOf99 O) (λw hw=>⟨rfl,hw.out⟩))))
theorem UN (a:Pt) (k:Rat) (hs:DU a+Sz k<=137438953472) (w:World)  :Calls prog 39 #[(aG (BB a)),(aG (AY k))] w (Ak w (aG (BB (CE a k)))):=by
 refine Ab (args:=[(aG (BB a)),(aG (AY k))]) func39 O O (Av O) (zN (sL [0,1] O) (q4 (Bb (cs:=BB a) O λb1=>Bb (cs:=AY k) O λb2=>al MY O λb3=>q3 (sL [2,3,4] O) (BD 2 HI O (BD 2 HI O (AG (v:=(Value.func (.func 107) #[] #[(pP b2 0)])) (Dl (vs:=[]) (us:=[(pP b2 0)]) O O) O (Ct call104 (λw hw=>MT a k b2 Z w (hw.get (i:=1) O)) O (Ax O sizeOf99 O ?_))))))))
 exact oNl' (zB (sL [4] O) (zA (zF (ret_one O (Ai (i:=0) (cs:=BB (CE a k)) O O isAgg99 sizeOf99 O) (λw hw=>⟨rfl,hw.out⟩)))))
theorem Yd (a b:Pt) (hs:DU a+DU b<=68719476736) (w:World)  :Calls prog 121 #[(aG (BB a)),(aG (BB b))] w (Ak w (aG (AY (Cz a b)))):=by
 have p1:=Dw a
 have p2:=Dv a
 have p3:=Dw b
 have p4:=Dv b
 refine Ab (args:=[(aG (BB a)),(aG (BB b))]) func121 O O (Av O) (zN (sL [0,1] O) (q4 (Bb (cs:=BB a) O λb1=>Bb (cs:=BB b) O λb2=>al Gt O λb3=>q6 (sL [2,3,4] O) (CQ (Db 4++[(5,true),(6,true),(7,true),(8,true),(4,false),(9,false),(10,false),(11,false)]) (sl sr) (Aj (v:=(pP b1 0)) O (AA O underlying99 O sizeOf77 O) (Eo 1 (AY a.x) Ce O (Aj (v:=(pP b2 0)) O (AA O underlying99 O sizeOf77 O) (Eo 0 (AY b.x) Ce O ?_))))))))
 refine Aj (v:=(pP b1 5)) O (AA O underlying99 O sizeOf77 O) (Eo 1 (AY a.y) Ce O (Aj (v:=(pP b2 5)) O (AA O underlying99 O sizeOf77 O) (Eo 0 (AY b.y) Ce O (zK O ?_))))
 have hz1:=Eg a.x b.x
 refine ck' call91 (Ko a.x b.x (by (try simp only [Cb]);omega)) O (zD (sl sr) (zK O ?_))
 have hz2:=Eg a.y b.y
 refine ck' call91 (Ko a.y b.y (by (try simp only [Cb]);omega)) O (zD (sl sr) (zK O ?_))
 have hz3:=E_ (a.x*b.x) (a.y*b.y)
 exact ck' call90 (Km (a.x*b.x) (a.y*b.y) (by (try simp only [Cb]);omega)) O (zD (sl sr) (zK O (Ax O sizeOf77 O (zD (sl sr) (zT (zB (sL [4] O) (zA (zF (ret_one O (Ai (i:=0) (cs:=AY ((a.x*b.x)+(a.y*b.y))) O O isAgg77 sizeOf77 O) (λw hw=>⟨rfl,hw.out⟩))))))))))
theorem Qt (a b:Pt) (hs:DU a+DU b<=17179869184) (w:World)  :Calls prog 71 #[(aG (BB a)),(aG (BB b))] w (Ak w (aG (AY (Cz (b-a) (b-a))))):=by
 refine Ab (args:=[(aG (BB a)),(aG (BB b))]) func71 O O (Av O) (zN (sL [0,1] O) (q4 (Bb (cs:=BB a) O λb1=>Bb (cs:=BB b) O λb2=>al Gt O λb3=>q3 (sL [2,3,4] O) (BD 1 HI O (BD 2 HI O ?_)))))
 have hz1:=FK b a
 refine ck' call120 (YD b a Z) O (al MY O λb4=>Ax O sizeOf99 O (q3 (sL [4,5] O) (BD 0 HI O (BD 0 HI O ?_))))
 have hz2:=IT (b-a) (b-a)
 exact ck' call121 (Yd (b-a) (b-a) Z) O (EK O sizeOf77 O (oNl' (zB (sL [4,5] O) (zA (zF (ret_one O (Ai (i:=1) (cs:=AY (Cz (b-a) (b-a))) O O isAgg77 sizeOf77 O) (λw hw=>⟨rfl,hw.out⟩)))))))
theorem KR (x y:Int) (h1:-9223372036854775808<=x) (h2:x<9223372036854775808) (h3:-9223372036854775808<=y) (h4:y<9223372036854775808) (w:World)  :Calls prog 42 #[(vI x),(vI y)] w (Ak w (aG (BB (⟨((x:Int):Rat),((y:Int):Rat)⟩:Pt)))):=by
 refine Ab (args:=[(vI x),(vI y)]) func42 O O (Av O) (zN (sL [0,1] O) (q4 (al MY O λb1=>oNl' (q2 (AM O (ck' call40 (Kc x Z Z) O (AM O (ck' call40 (Kc y Z Z) O (AG (v:=(aG (AY ((x:Int):Rat)++AY ((y:Int):Rat)))) (AT (zs:=BB (⟨0,0⟩:Pt)) (vs:=AY ((x:Int):Rat)++AY ((y:Int):Rat)) (pv:=[(0,(aG (AY ((x:Int):Rat)))),(1,(aG (AY ((y:Int):Rat))))]) (places:=[(0,5),(5,5)]) zeroValue99 underlying99 (λw=>by simp [sizeOf77]) O (B4 ((x:Int):Rat) ((y:Int):Rat))) O (Ax O sizeOf99 O ?_))))))))))
 exact oNl' (zB (sL [4] O) (zA (zF (ret_one O (Ai (i:=0) (cs:=AY ((x:Int):Rat)++AY ((y:Int):Rat)) O O isAgg99 sizeOf99 O) (λw hw=>⟨by rw [Zo],hw.out⟩)))))
end
end Go.Proofs.YtpolhpjiahbidaaGreatDoor
