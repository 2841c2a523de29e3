import Derived.Test.YtpolhpjiahbidaaGreatDoorPart05
import Derived.Test.YtpolhpjiahbidaaGreatDoorPart10
import Derived.Test.YtpolhpjiahbidaaGreatDoorPart15
import Derived.Test.YtpolhpjiahbidaaGreatDoorPart17
namespace Go.Proofs.YtpolhpjiahbidaaGreatDoor
open Go Go.RowKit Go.Proofs.Tryz
set_option linter.unusedVariables false
set_option linter.unusedSimpArgs false
section
set_option maxRecDepth 100000
theorem Ey (x0:Int) (x1:Nat):Instr.fill ([(0,3),(3,2)].toArray[·]?) (AW (0:Rat)).toArray [(0,.agg (A7 x0).toArray),(1,.agg (AS x1).toArray)]=some (A7 x0++AS x1).toArray:=by kernel_rfl
theorem GK (n:Int) (d:Nat) (hn:nw n.natAbs<=1099511627776) (hd:nw d<=1099511627776) (hd0:d≠0) (w:World)  :Calls Tryz.prog 152 #[(aG (A7 n)),(aG (AS d))] w (Ai w (aG (AW (mkRat n d)))):=by
 have hg:Nat.gcd n.natAbs d≠0:=λh=>hd0 (Nat.eq_zero_of_gcd_eq_zero_right h)
 have hgw:nw (Nat.gcd n.natAbs d)<=nw d:=Ca (Nat.gcd_le_right _ (Nat.pos_of_ne_zero hd0))
 have hqw:nw (d/Nat.gcd n.natAbs d)<=nw d:=Ca (Nat.div_le_self _ _)
 have h1w:=Hm
 refine AZ (args:=[(aG (A7 n)),(aG (AS d))]) Tryz.func152 rfl rfl (AK rfl) (OkC.subF (sL [0,1] rfl) (q4 (Bg (cs:=A7 n) rfl λb1=>Bg (cs:=AS d) rfl λb2=>al H9 rfl λb3=>q6 (sL [2,3,4] rfl) (rN [(0,true),(2,true),(1,false),(3,false)] [⟨4,5,71,AS 0⟩] [(5,false)] sr (by kernel_rfl) (λ_ _ d _ _ h=>by cases d<;>exact h) (Ru rfl rfl FV rfl (U0)) rfl (XF 2 D0 rfl (XF 1 Bw rfl (Co.imp rfl λEF EL=>ck' Tryz.call202 (Lj n) rfl ?_)))))))
 refine Co.back0 sr rfl (Co.imp rfl λEF EL=>ck' Tryz.call201 (WR n.natAbs d (by omega) (by omega)) rfl (Co.back0 sr rfl (Co.news1 λb4=>OkE.imp rfl (Ay rfl Tryz.sizeOf71 rfl (OkE.back (sl sr) (OkE.nil (OkQ.subF (sL [2,3,4,5] rfl) (q1 (rN [(0,true),(2,true),(1,false),(3,false),(4,true),(5,true),(6,true),(7,true)] [⟨8,6,71,AS 0⟩,⟨9,7,71,AS 0⟩] [(10,false),(11,false),(12,true)] sr (by kernel_rfl) (λ_ _ d _ _ h=>by cases d<;>exact h) (Ru rfl rfl FV rfl (Ru rfl rfl FV rfl (U0))) rfl ?_)))))))))
 refine XF 3 D0 rfl (XF 0 Bw rfl (Co.imp rfl λEF EL=>ck' Tryz.call202 (Lj n) rfl (Co.back0 sr rfl (Co.imp rfl λEF EL=>ck' Tryz.call203 (OU n.natAbs (Nat.gcd n.natAbs d) (by omega) (by omega) (by omega)) rfl (Co.back0 sr rfl (Zg rfl (V0 rfl (AV (v:=(aG (AS (n.natAbs/(Nat.gcd n.natAbs d))))) rfl rfl) rfl (V0 rfl (AV (v:=(aG (AS (n.natAbs%(Nat.gcd n.natAbs d))))) rfl rfl) rfl (V0 rfl (AV (v:=(Value.bool true)) rfl rfl) rfl ?_)))))))))
 refine Co.news2 λb5 b6=>OkE.imp rfl (Ay rfl Tryz.sizeOf71 rfl (OkE.back (sl (sl sr)) (OkE.imp rfl (Dw rfl Tryz.sizeOf71 rfl (OkE.back (sl (sl sr)) (pS' rfl (OkE.nil (OkQ.subF (sL [2,3,4,5,6] rfl) (q2 (BU 4 Bw rfl ?_))))))))))
 refine BU 2 Bw rfl (ck' Tryz.call203 (OU d (Nat.gcd n.natAbs d) (by omega) (by omega) (by omega)) rfl (AO rfl (AG (AV (v:=(aG (AS (d/(Nat.gcd n.natAbs d))))) rfl rfl) rfl (AG (AV (v:=(aG (AS (d%(Nat.gcd n.natAbs d))))) rfl rfl) rfl (AG (AV (v:=(Value.bool true)) rfl rfl) rfl (al FV rfl λb7=>al FV rfl λb8=>Dw rfl Tryz.sizeOf71 rfl (Ay rfl Tryz.sizeOf71 rfl (asg' rfl (q6 (sL [2,3,4,5,6,9] rfl) ?_)))))))))
 refine rC [(0,true),(1,false),(2,false),(3,true),(4,true),(5,true)] 6 [] sr (sk (sl sr)) (by kernel_rfl) (λ_ _ d _ _ h=>by cases d<;>exact h) (vE (v:=(aG (AS (d/(Nat.gcd n.natAbs d))))) rfl (BA (i:=1) (vs:=AS (d/(Nat.gcd n.natAbs d))) rfl rfl Bw.a Bw.s rfl rfl) rfl (Cd.imp rfl (ck' Tryz.call172 (Ip 1 (by omega)) rfl (Cd.back sr (Cd.imp rfl (ck' Tryz.call204 (OH (d/(Nat.gcd n.natAbs d)) 1 (by omega) (by omega)) rfl (Cd.back sr (vM rfl rfl rfl (vE rfl (AV (v:=(aG (AS ((d/(Nat.gcd n.natAbs d))-1)))) rfl rfl) rfl (vE rfl (AV (v:=(Value.bool (decide (1<=d/(Nat.gcd n.natAbs d))))) rfl rfl) rfl (Cd.cut rfl ?_)))))))))))
 refine Dw rfl Tryz.sizeOf71 rfl (OkE.back (sk (sl sr)) (OkE.nil (OkQ.subF (sL [2,3,4,5,6,9] rfl) (q1 (CV [(0,true),(3,true),(5,true),(1,false),(2,true),(4,false),(6,true),(7,false)] (sk (sk (sk (sk (sk (sl sr)))))) (Ec 6 D0 rfl (Ec 2 Bw rfl (Ec 1 Bw rfl (OkE.imp rfl (ck' Tryz.call176 (ME n) rfl (OkE.back (sk (sk (sk (sk (sk (sl sr)))))) ?_)))))))))))
 exact Ag rfl (Af (c:=(decide (n.sign<(0:Int)))) rfl rfl rfl) (OkE.imp rfl (ck' Tryz.call171 (EE (decide (n.sign<(0:Int))) (n.natAbs/(Nat.gcd n.natAbs d))) rfl (OkE.back (sk (sk (sk (sk (sk (sl sr)))))) (Ag (v:=(aG (A7 (Dc (decide (n.sign<(0:Int))) (n.natAbs/(Nat.gcd n.natAbs d)))++AS ((d/(Nat.gcd n.natAbs d))-1)))) rfl (AR (zs:=AW (0:Rat)) (vs:=A7 (Dc (decide (n.sign<(0:Int))) (n.natAbs/(Nat.gcd n.natAbs d)))++AS ((d/(Nat.gcd n.natAbs d))-1)) (pv:=[(0,(aG (A7 (Dc (decide (n.sign<(0:Int))) (n.natAbs/(Nat.gcd n.natAbs d)))))),(1,(aG (AS ((d/(Nat.gcd n.natAbs d))-1))))]) (places:=[(0,3),(3,2)]) Tryz.zeroValue77 Tryz.underlying77 (λw=>by simp [Tryz.sizeOf71,Tryz.sizeOf75]) rfl (Ey (Dc (decide (n.sign<(0:Int))) (n.natAbs/(Nat.gcd n.natAbs d))) ((d/(Nat.gcd n.natAbs d))-1))) (OkE.imp rfl (FZ 5 (off:=0) (vs:=A7 (Dc (decide (n.sign<(0:Int))) (n.natAbs/(Nat.gcd n.natAbs d)))++AS ((d/(Nat.gcd n.natAbs d))-1)) (cs':=A7 (Dc (decide (n.sign<(0:Int))) (n.natAbs/(Nat.gcd n.natAbs d)))++AS ((d/(Nat.gcd n.natAbs d))-1)) (AP rfl) rfl Tryz.sizeOf77 rfl (OkE.back (sk (sk (sk (sk (sk (sl sr)))))) (OkE.nil (OkQ.subF (sL [2,3,4,5,6,9] rfl) (OkQ.then_ (OkC.ret (ret_one rfl (Aj (i:=5) (cs:=A7 (Dc (decide (n.sign<(0:Int))) (n.natAbs/(Nat.gcd n.natAbs d)))++AS ((d/(Nat.gcd n.natAbs d))-1)) rfl rfl Tryz.isAgg77 Tryz.sizeOf77 rfl) (λw hw=>⟨by rw [Mz,O2 hd0,Pe hd0],hw.out⟩)))))))))))))
theorem Gi (x0:Int):Instr.fill ([(0,3),(3,2)].toArray[·]?) (AW (0:Rat)).toArray [(0,.agg (A7 x0).toArray)]=some (A7 x0++AS ((0:Rat).den-1)).toArray:=by kernel_rfl
theorem J6 (n:Int) (w:World)  :Calls Tryz.prog 108 #[(aG (A7 n))] w (Ai w (aG (AW ((n:Int):Rat)))):=by
 refine AZ (args:=[(aG (A7 n))]) Tryz.func108 rfl rfl (AK rfl) (OkC.subF (sL [0] rfl) (q4 (Bg (cs:=A7 n) rfl λb1=>al H9 rfl λb2=>q3 (sL [1,2] rfl) (BU 1 D0 rfl (AG (v:=(aG (A7 n++AS ((0:Rat).den-1)))) (AR (zs:=AW (0:Rat)) (vs:=A7 n++AS ((0:Rat).den-1)) (pv:=[(0,(aG (A7 n)))]) (places:=[(0,3),(3,2)]) Tryz.zeroValue77 Tryz.underlying77 (λw=>by simp [Tryz.sizeOf71,Tryz.sizeOf75]) rfl (Gi n)) rfl (Ay rfl Tryz.sizeOf77 rfl (OkL.nil (OkQ.subF (sL [2] rfl) (OkQ.then_ ?_)))))))))
 exact OkC.ret (ret_one rfl (Aj (i:=0) (cs:=A7 n++AS ((0:Rat).den-1)) rfl rfl Tryz.isAgg77 Tryz.sizeOf77 rfl) (λw hw=>⟨rfl,hw.out⟩))
theorem KP  :Instr.fill ([(0,1),(1,1)].toArray[·]?) (AS 0).toArray []=some (AS 0).toArray:=by kernel_rfl
theorem F6 (a:Rat) (w:World)  :Calls Tryz.prog 130 #[(aG (AW a))] w (Ai w (Value.bool (decide (a.den-1=0)))):=by
 refine AZ (args:=[(aG (AW a))]) Tryz.func130 rfl rfl (AK rfl) (OkC.subF (sL [0] rfl) (q4 (Bg (cs:=AW a) rfl λb1=>asg' rfl (q3 (sL [1,2] rfl) (AG (v:=(pP b1 3)) (AA rfl Tryz.underlying77 rfl Tryz.sizeOf71 rfl) rfl (EX 0 (AS (a.den-1)) Bw rfl (AG (v:=(aG (AS 0))) (AR (zs:=AS 0) (vs:=AS 0) (pv:=[]) (places:=[(0,1),(1,1)]) Tryz.zeroValue71 Tryz.underlying71 (λw=>by simp [Tryz.sizeOf9,Tryz.sizeOf69]) rfl (KP )) rfl (AG (Bv (c:=(decide (a.den-1=0))) rfl rfl Tryz.eqGuardType71 (HJ 9998 (a.den-1) 0)) rfl (asg' rfl (OkL.nil ?_))))))))))
 exact OkQ.subF (sL [2] rfl) (OkQ.then_ (OkC.ret (ret_one rfl (rd_tmp (v:=(Value.bool (decide (a.den-1=0)))) rfl) (λw hw=>⟨rfl,hw.out⟩))))
theorem den_ok (a:Rat) (ha:nw a.den<=1099511627776) (w:World)  :Calls Tryz.prog 133 #[(aG (AW a))] w (Ai w (aG (AS a.den))):=by
 have h1w:=Hm
 have h2w:=Ca (Nat.sub_le a.den 1)
 refine AZ (args:=[(aG (AW a))]) Tryz.func133 rfl rfl (AK rfl) (OkC.subF (sL [0] rfl) (q4 (Bg (cs:=AW a) rfl λb1=>al FV rfl λb2=>q6 (sL [1,2] rfl) (CV [(0,true),(1,true),(2,false),(3,false),(4,false)] (sl sr) (Ag (v:=(pP b1 3)) rfl (AA rfl Tryz.underlying77 rfl Tryz.sizeOf71 rfl) (FL 0 (AS (a.den-1)) Bw rfl (OkE.imp rfl (ck' Tryz.call172 (Ip 1 (by omega)) rfl (OkE.back (sl sr) ?_)))))))))
 exact OkE.imp rfl (ck' Tryz.call194 (SD (a.den-1) 1 (by omega) (by omega)) rfl (OkE.back (sl sr) (OkE.imp rfl (Ay rfl Tryz.sizeOf71 rfl (OkE.back (sl sr) (OkE.nil (OkQ.subF (sL [2] rfl) (OkQ.then_ (OkC.ret (ret_one rfl (Aj (i:=0) (cs:=AS ((a.den-1)+1)) rfl rfl Tryz.isAgg71 Tryz.sizeOf71 rfl) (λw hw=>⟨by rw [Nat.sub_add_cancel a.den_pos],hw.out⟩)))))))))))
theorem KU (a:Rat) (ha:nw a.den<=1099511627776) (w:World)  :Calls Tryz.prog 124 #[(aG (AW a))] w (Ai w (aG (A7 ((a.den:Nat):Int)))):=by
 refine AZ (args:=[(aG (AW a))]) Tryz.func124 rfl rfl (AK rfl) (OkC.subF (sL [0] rfl) (q4 (Bg (cs:=AW a) rfl λb1=>al KE rfl λb2=>q3 (sL [1,2] rfl) (BU 1 Ck rfl (ck' Tryz.call133 (den_ok a (by omega)) rfl (ck' Tryz.call171 (EE false a.den) rfl (Ay rfl Tryz.sizeOf75 rfl (OkL.nil (OkQ.subF (sL [2] rfl) ?_)))))))))
 exact OkQ.then_ (OkC.ret (ret_one rfl (Aj (i:=0) (cs:=A7 (Dc false a.den)) rfl rfl Tryz.isAgg75 Tryz.sizeOf75 rfl) (λw hw=>⟨rfl,hw.out⟩)))
theorem Mm (a:Rat) (w:World)  :Calls Tryz.prog 196 #[(aG (AW a))] w (Ai w (vI a.num.sign)):=by
 refine AZ (args:=[(aG (AW a))]) Tryz.func196 rfl rfl (AK rfl) (OkC.subF (sL [0] rfl) (q4 (Bg (cs:=AW a) rfl λb1=>asg' rfl (q3 (sL [1,2] rfl) (AG (v:=(pP b1 0)) (AA rfl Tryz.underlying77 rfl Tryz.sizeOf75 rfl) rfl (EX 0 (A7 a.num) D0 rfl (ck' Tryz.call176 (ME a.num) rfl (asg' rfl (OkL.nil (OkQ.subF (sL [2] rfl) ?_))))))))))
 exact OkQ.then_ (OkC.ret (ret_one rfl (rd_tmp (v:=(vI a.num.sign)) rfl) (λw hw=>⟨rfl,hw.out⟩)))
theorem Pl (a b:Rat) (hs:Sz a+Sz b<=549755813888) (w:World)  :Calls Tryz.prog 90 #[(aG (AW a)),(aG (AW b))] w (Ai w (aG (AW (a+b)))):=by
 have s1:=Cj a
 have s2:=CP a
 have s3:=Cj b
 have s4:=CP b
 have s5:=CC a b
 have s6:=CC b a
 have s7:=Fs a b
 have s8:=Gq a b
 have s9:=Dp a.num b.num
 have s10:=Dp (a.num*((b.den:Nat):Int)) (b.num*((a.den:Nat):Int))
 have hda:=a.den_nz
 have hdb:=b.den_nz
 have hdab:a.den*b.den≠0:=Nat.mul_ne_zero hda hdb
 refine AZ (args:=[(aG (AW a)),(aG (AW b))]) Tryz.func90 rfl rfl (AK rfl) (OkC.subF (sL [0,1] rfl) (q4 (Bg (cs:=AW a) rfl λb1=>Bg (cs:=AW b) rfl λb2=>al H9 rfl λb3=>q6 (sL [2,3,4] rfl) (OkC.block (q4 (BU 2 Ck rfl (ck' Tryz.call130 (F6 a) rfl (AO rfl ?_))))))))
 refine OkL.mid (FM:=[(2,(pP b1 0)),(3,(pP b2 0)),(4,(pP b3 0)),(6,(aG (AW a))),(7,(Value.bool (decide (a.den-1=0)))),(8,(Value.bool (decide (a.den-1=0)))),(11,(Value.bool ((decide (a.den-1=0))&&(decide (b.den-1=0)))))]) (LM:=[AX b3 77 (AW (0:Rat)),AX b2 77 (AW b),AX b1 77 (AW a)]) 3 ?_ ?_
 ·rcases Bool.eq_false_or_eq_true (decide (a.den-1=0)) with hg1|hg1
  ·skip
   refine OkL.retell (k:=8) (u:=Value.bool true) rfl (by rw [hg1]) ?_
   have hg1':=hg1
   replace hg1':=of_decide_eq_true hg1'
   exact OkL.step (v:=(aG (AW b))) (AB rfl) (BA (i:=1) (vs:=AW b) rfl rfl Ck.a Ck.s rfl rfl) rfl (AK rfl) (OkL.call (v:=(Value.bool (decide (b.den-1=0)))) (AB rfl) (Ap (args:=[(aG (AW b))]) rfl rfl Tryz.call130) (λw hw=>F6 b w) rfl (AK rfl) (AG (v:=(Value.bool (decide (b.den-1=0)))) (AN rfl rfl) rfl (OkL.nil (OkQ.mid (sS rfl (sS rfl (sS rfl (sS rfl (sS rfl (sS (by first|rfl|(rw [hg1];rfl)|rw [hg1]) (sS (by first|rfl|(rw [hg1];rfl)|rw [hg1]) (sN)))))))) (List.Sublist.refl _)))))
  ·skip
   refine OkL.retell (k:=8) (u:=Value.bool false) rfl (by rw [hg1]) ?_
   have hg1':=hg1
   replace hg1':=of_decide_eq_false hg1'
   exact OkL.skip (AC rfl) rfl (AK rfl) (OkL.skip (AC rfl) rfl (AK rfl) (AG (v:=(Value.bool false)) (AJ rfl rfl) rfl (OkL.nil (OkQ.mid (sS rfl (sS rfl (sS rfl (sS rfl (sS rfl (sS (by first|rfl|(rw [hg1];rfl)|rw [hg1]) (sS (by first|rfl|(rw [hg1];rfl)|rw [hg1]) (sN)))))))) (List.Sublist.refl _)))))
 refine asg' rfl (OkL.nil (OkQ.subF (sL [2,3,4,5] rfl) (OkQ.then_ ?_)))
 refine OkC.cond rfl (λhc0=>?_) (λhc0=>?_)
 ·simp only [Bool.and_eq_true,Bool.or_eq_true,Bool.and_eq_false_iff,Bool.or_eq_false_iff,Bool.not_eq_true',Bool.not_eq_false',decide_eq_true_eq,decide_eq_false_iff_not] at hc0
  have he:=Qo hc0.1 hc0.2
  refine q4 (AG (v:=(pP b1 0)) (AA rfl Tryz.underlying77 rfl Tryz.sizeOf75 rfl) rfl (EX 2 (A7 a.num) D0 rfl (AG (v:=(pP b2 0)) (AA rfl Tryz.underlying77 rfl Tryz.sizeOf75 rfl) rfl (EX 1 (A7 b.num) D0 rfl (ck' Tryz.call151 (Lw a.num b.num (by first|omega|(simp only [Int.natAbs_neg,A8,Int.natAbs_natCast];omega)) (by first|omega|(simp only [Int.natAbs_neg,A8,Int.natAbs_natCast];omega))) rfl (ck' Tryz.call108 (J6 (a.num+b.num)) rfl (Ay rfl Tryz.sizeOf77 rfl (OkL.nil (OkQ.subF (sL [2,3,4] rfl) (OkQ.then_ (OkC.ret ?_)))))))))))
  exact OkQ.in_ret (OkQ.then_ret (ret_one rfl (Aj (i:=0) (cs:=AW ((a.num+b.num:Int):Rat)) rfl rfl Tryz.isAgg77 Tryz.sizeOf77 rfl) (λw hw=>⟨by rw [he],hw.out⟩)))
 ·simp only [Bool.and_eq_true,Bool.or_eq_true,Bool.and_eq_false_iff,Bool.or_eq_false_iff,Bool.not_eq_true',Bool.not_eq_false',decide_eq_true_eq,decide_eq_false_iff_not] at hc0
  have he:=H0 a b
  refine q4 (AG (v:=(pP b1 3)) (AA rfl Tryz.underlying77 rfl Tryz.sizeOf71 rfl) rfl (EX 2 (AS (a.den-1)) Bw rfl (AG (v:=(pP b2 3)) (AA rfl Tryz.underlying77 rfl Tryz.sizeOf71 rfl) rfl (EX 1 (AS (b.den-1)) Bw rfl (AG (Bv (c:=(decide (a.den-1=b.den-1))) rfl rfl Tryz.eqGuardType71 (HJ 9998 (a.den-1) (b.den-1))) rfl (asg' rfl (OkL.nil (OkQ.subF (sL [2,3,4,18] rfl) (OkQ.then_ ?_)))))))))
  refine OkC.cond rfl (λhc1=>?_) (λhc1=>?_)
  ·replace hc1:=of_decide_eq_true hc1
   have he:=SE hc1
   refine OkC.seq (CV [(0,true),(1,true),(2,true),(3,true),(5,true),(4,false),(6,false),(7,false),(8,false)] (sl sr) (Ag (v:=(pP b1 0)) rfl (AA rfl Tryz.underlying77 rfl Tryz.sizeOf75 rfl) (FL 1 (A7 a.num) D0 rfl (Ag (v:=(pP b2 0)) rfl (AA rfl Tryz.underlying77 rfl Tryz.sizeOf75 rfl) (FL 0 (A7 b.num) D0 rfl (Ec 1 Ck rfl (OkE.imp rfl (ck' Tryz.call151 (Lw a.num b.num (by first|omega|(simp only [Int.natAbs_neg,A8,Int.natAbs_natCast];omega)) (by first|omega|(simp only [Int.natAbs_neg,A8,Int.natAbs_natCast];omega))) rfl (OkE.back (sl sr) (OkE.imp rfl (ck' Tryz.call133 (den_ok a (by omega)) rfl ?_)))))))))))
   refine OkE.back (sl sr) (OkE.imp rfl (ck' Tryz.call152 (GK (a.num+b.num) a.den (by omega) (by omega) (by first|omega|assumption)) rfl (OkE.back (sl sr) (OkE.imp rfl (Ay rfl Tryz.sizeOf77 rfl (OkE.back (sl sr) (OkE.nil (OkQ.subF (sL [2,3,4] rfl) (OkQ.then_ (OkC.ret (OkQ.in_ret ?_)))))))))))
   exact OkQ.then_ret (ret_one rfl (Aj (i:=0) (cs:=AW (mkRat (a.num+b.num) a.den)) rfl rfl Tryz.isAgg77 Tryz.sizeOf77 rfl) (λw hw=>⟨by rw [he],hw.out⟩))
  ·replace hc1:=of_decide_eq_false hc1
   refine OkC.skip (OkQ.in_normal (q1 (CV [(0,true),(1,true),(2,true),(5,true),(6,true),(7,true),(11,true),(13,true),(3,false),(4,false),(8,false),(9,false),(10,false),(12,false),(14,false),(15,false),(16,false),(17,false)] (sl sr) (Ag (v:=(pP b1 0)) rfl (AA rfl Tryz.underlying77 rfl Tryz.sizeOf75 rfl) (FL 1 (A7 a.num) D0 rfl (Ec 0 Ck rfl (Ag (v:=(pP b2 0)) rfl (AA rfl Tryz.underlying77 rfl Tryz.sizeOf75 rfl) (FL 0 (A7 b.num) D0 rfl (Ec 1 Ck rfl (Ec 1 Ck rfl (Ec 0 Ck rfl ?_)))))))))))
   refine OkE.imp rfl (ck' Tryz.call124 (KU b (by omega)) rfl (OkE.back (sl sr) (OkE.imp rfl (ck' Tryz.call123 (Iy a.num ((b.den:Nat):Int) (by first|omega|(simp only [Int.natAbs_neg,A8,Int.natAbs_natCast];omega)) (by first|omega|(simp only [Int.natAbs_neg,A8,Int.natAbs_natCast];omega))) rfl (OkE.back (sl sr) (OkE.imp rfl (ck' Tryz.call124 (KU a (by omega)) rfl (OkE.back (sl sr) (OkE.imp rfl (ck' Tryz.call123 (Iy b.num ((a.den:Nat):Int) (by first|omega|(simp only [Int.natAbs_neg,A8,Int.natAbs_natCast];omega)) (by first|omega|(simp only [Int.natAbs_neg,A8,Int.natAbs_natCast];omega))) rfl (OkE.back (sl sr) ?_)))))))))))
   refine OkE.imp rfl (ck' Tryz.call151 (Lw (a.num*((b.den:Nat):Int)) (b.num*((a.den:Nat):Int)) (by first|omega|(simp only [Int.natAbs_neg,A8,Int.natAbs_natCast];omega)) (by first|omega|(simp only [Int.natAbs_neg,A8,Int.natAbs_natCast];omega))) rfl (OkE.back (sl sr) (OkE.imp rfl (ck' Tryz.call133 (den_ok a (by omega)) rfl (OkE.back (sl sr) (OkE.imp rfl (ck' Tryz.call133 (den_ok b (by omega)) rfl (OkE.back (sl sr) (OkE.imp rfl (ck' Tryz.call153 (N4 a.den b.den (by omega) (by omega)) rfl (OkE.back (sl sr) ?_)))))))))))
   exact OkE.imp rfl (ck' Tryz.call152 (GK ((a.num*((b.den:Nat):Int))+(b.num*((a.den:Nat):Int))) (a.den*b.den) (by omega) (by omega) (by first|omega|assumption)) rfl (OkE.back (sl sr) (OkE.imp rfl (Ay rfl Tryz.sizeOf77 rfl (OkE.back (sl sr) (OkE.nil (OkQ.subF (sL [2,3,4] rfl) (OkQ.then_ (OkC.ret (ret_one rfl (Aj (i:=0) (cs:=AW (mkRat ((a.num*((b.den:Nat):Int))+(b.num*((a.den:Nat):Int))) (a.den*b.den))) rfl rfl Tryz.isAgg77 Tryz.sizeOf77 rfl) (λw hw=>⟨by rw [he],hw.out⟩)))))))))))
theorem Oz (a b:Rat) (hs:Sz a+Sz b<=549755813888) (w:World)  :Calls Tryz.prog 91 #[(aG (AW a)),(aG (AW b))] w (Ai w (aG (AW (a*b)))):=by
 have s1:=Cj a
 have s2:=CP a
 have s3:=Cj b
 have s4:=CP b
 have s5:=CC a b
 have s6:=CC b a
 have s7:=Fs a b
 have s8:=Gq a b
 have s9:=Dp a.num b.num
 have s10:=Dp (a.num*((b.den:Nat):Int)) (b.num*((a.den:Nat):Int))
 have hda:=a.den_nz
 have hdb:=b.den_nz
 have hdab:a.den*b.den≠0:=Nat.mul_ne_zero hda hdb
 refine AZ (args:=[(aG (AW a)),(aG (AW b))]) Tryz.func91 rfl rfl (AK rfl) (OkC.subF (sL [0,1] rfl) (q4 (Bg (cs:=AW a) rfl λb1=>Bg (cs:=AW b) rfl λb2=>al H9 rfl λb3=>q6 (sL [2,3,4] rfl) (q4 (BU 2 Ck rfl (ck' Tryz.call130 (F6 a) rfl (AO rfl ?_)))))))
 refine OkL.mid (FM:=[(2,(pP b1 0)),(3,(pP b2 0)),(4,(pP b3 0)),(5,(aG (AW a))),(6,(Value.bool (decide (a.den-1=0)))),(7,(Value.bool (decide (a.den-1=0)))),(10,(Value.bool ((decide (a.den-1=0))&&(decide (b.den-1=0)))))]) (LM:=[AX b3 77 (AW (0:Rat)),AX b2 77 (AW b),AX b1 77 (AW a)]) 3 ?_ ?_
 ·rcases Bool.eq_false_or_eq_true (decide (a.den-1=0)) with hg1|hg1
  ·skip
   refine OkL.retell (k:=7) (u:=Value.bool true) rfl (by rw [hg1]) ?_
   have hg1':=hg1
   replace hg1':=of_decide_eq_true hg1'
   exact OkL.step (v:=(aG (AW b))) (AB rfl) (BA (i:=1) (vs:=AW b) rfl rfl Ck.a Ck.s rfl rfl) rfl (AK rfl) (OkL.call (v:=(Value.bool (decide (b.den-1=0)))) (AB rfl) (Ap (args:=[(aG (AW b))]) rfl rfl Tryz.call130) (λw hw=>F6 b w) rfl (AK rfl) (AG (v:=(Value.bool (decide (b.den-1=0)))) (AN rfl rfl) rfl (OkL.nil (OkQ.mid (sS rfl (sS rfl (sS rfl (sS rfl (sS rfl (sS (by first|rfl|(rw [hg1];rfl)|rw [hg1]) (sS (by first|rfl|(rw [hg1];rfl)|rw [hg1]) (sN)))))))) (List.Sublist.refl _)))))
  ·skip
   refine OkL.retell (k:=7) (u:=Value.bool false) rfl (by rw [hg1]) ?_
   have hg1':=hg1
   replace hg1':=of_decide_eq_false hg1'
   exact OkL.skip (AC rfl) rfl (AK rfl) (OkL.skip (AC rfl) rfl (AK rfl) (AG (v:=(Value.bool false)) (AJ rfl rfl) rfl (OkL.nil (OkQ.mid (sS rfl (sS rfl (sS rfl (sS rfl (sS rfl (sS (by first|rfl|(rw [hg1];rfl)|rw [hg1]) (sS (by first|rfl|(rw [hg1];rfl)|rw [hg1]) (sN)))))))) (List.Sublist.refl _)))))
 refine OkL.nil (OkQ.subF (sL [2,3,4,10] rfl) (OkQ.then_ ?_))
 refine OkC.cond rfl (λhc0=>?_) (λhc0=>?_)
 ·simp only [Bool.and_eq_true,Bool.or_eq_true,Bool.and_eq_false_iff,Bool.or_eq_false_iff,Bool.not_eq_true',Bool.not_eq_false',decide_eq_true_eq,decide_eq_false_iff_not] at hc0
  have he:=Qn hc0.1 hc0.2
  refine q4 (AG (v:=(pP b1 0)) (AA rfl Tryz.underlying77 rfl Tryz.sizeOf75 rfl) rfl (EX 2 (A7 a.num) D0 rfl (AG (v:=(pP b2 0)) (AA rfl Tryz.underlying77 rfl Tryz.sizeOf75 rfl) rfl (EX 1 (A7 b.num) D0 rfl (ck' Tryz.call123 (Iy a.num b.num (by first|omega|(simp only [Int.natAbs_neg,A8,Int.natAbs_natCast];omega)) (by first|omega|(simp only [Int.natAbs_neg,A8,Int.natAbs_natCast];omega))) rfl (ck' Tryz.call108 (J6 (a.num*b.num)) rfl (Ay rfl Tryz.sizeOf77 rfl (OkL.nil (OkQ.subF (sL [2,3,4] rfl) (OkQ.then_ (OkC.ret ?_)))))))))))
  exact OkQ.then_ret (ret_one rfl (Aj (i:=0) (cs:=AW ((a.num*b.num:Int):Rat)) rfl rfl Tryz.isAgg77 Tryz.sizeOf77 rfl) (λw hw=>⟨by rw [he],hw.out⟩))
 ·simp only [Bool.and_eq_true,Bool.or_eq_true,Bool.and_eq_false_iff,Bool.or_eq_false_iff,Bool.not_eq_true',Bool.not_eq_false',decide_eq_true_eq,decide_eq_false_iff_not] at hc0
  have he:=H5 a b
  refine OkC.skip (q1 (CV [(0,true),(1,true),(2,true),(3,true),(5,true),(7,true),(4,false),(6,false),(8,false),(9,false),(10,false),(11,false)] (sl sr) (Ag (v:=(pP b1 0)) rfl (AA rfl Tryz.underlying77 rfl Tryz.sizeOf75 rfl) (FL 1 (A7 a.num) D0 rfl (Ag (v:=(pP b2 0)) rfl (AA rfl Tryz.underlying77 rfl Tryz.sizeOf75 rfl) (FL 0 (A7 b.num) D0 rfl (Ec 1 Ck rfl (Ec 0 Ck rfl (OkE.imp rfl (ck' Tryz.call123 (Iy a.num b.num (by first|omega|(simp only [Int.natAbs_neg,A8,Int.natAbs_natCast];omega)) (by first|omega|(simp only [Int.natAbs_neg,A8,Int.natAbs_natCast];omega))) rfl (OkE.back (sl sr) ?_)))))))))))
  refine OkE.imp rfl (ck' Tryz.call133 (den_ok a (by omega)) rfl (OkE.back (sl sr) (OkE.imp rfl (ck' Tryz.call133 (den_ok b (by omega)) rfl (OkE.back (sl sr) (OkE.imp rfl (ck' Tryz.call153 (N4 a.den b.den (by omega) (by omega)) rfl (OkE.back (sl sr) (OkE.imp rfl (ck' Tryz.call152 (GK (a.num*b.num) (a.den*b.den) (by omega) (by omega) (by first|omega|assumption)) rfl (OkE.back (sl sr) ?_)))))))))))
  exact OkE.imp rfl (Ay rfl Tryz.sizeOf77 rfl (OkE.back (sl sr) (OkE.nil (OkQ.subF (sL [2,3,4] rfl) (OkQ.then_ (OkC.ret (ret_one rfl (Aj (i:=0) (cs:=AW (mkRat (a.num*b.num) (a.den*b.den))) rfl rfl Tryz.isAgg77 Tryz.sizeOf77 rfl) (λw hw=>⟨by rw [he],hw.out⟩))))))))
theorem UL (a b:Rat) (hs:Sz a+Sz b<=549755813888) (hb:b≠0) (w:World)  :Calls Tryz.prog 156 #[(aG (AW a)),(aG (AW b))] w (Ai w (Value.tuple #[(aG (AW (a/b))),(vI 0)])):=by
 have s1:=Cj a
 have s2:=CP a
 have s3:=Cj b
 have s4:=CP b
 have s5:=CC a b
 have s6:=CC b a
 have s7:=Fs a b
 have s8:=Gq a b
 have s9:=Dp a.num b.num
 have s10:=Dp (a.num*((b.den:Nat):Int)) (b.num*((a.den:Nat):Int))
 have hda:=a.den_nz
 have hdb:=b.den_nz
 have hdab:a.den*b.den≠0:=Nat.mul_ne_zero hda hdb
 have hbn:b.num≠0:=λe=>hb (Rat.num_eq_zero.1 e)
 have hbs:b.num.sign≠0:=λe=>hbn (Int.sign_eq_zero_iff_zero.1 e)
 have hmi:nw (Dc (decide (b.num.sign<(0:Int))) b.den).natAbs=nw b.den:=by rw [A8]
 have hinv:=Hq hb
 have hsi:=OY hb
 rw [<-hinv] at hsi
 refine AZ (args:=[(aG (AW a)),(aG (AW b))]) Tryz.func156 rfl rfl (AK rfl) (OkC.subF (sL [0,1] rfl) (q4 (Bg (cs:=AW a) rfl λb1=>Bg (cs:=AW b) rfl λb2=>al H9 rfl λb3=>asg' rfl (q6 (sL [2,3,4,5] rfl) (q4 (BU 1 Ck rfl (ck' Tryz.call196 (Mm b) rfl (AG (BE (c:=(decide (b.num.sign=(0:Int)))) rfl rfl rfl) rfl ?_))))))))
 refine OkL.nil (OkQ.subF (sL [2,3,4,5,9] rfl) (OkQ.then_ ?_))
 refine OkC.cond rfl (λhc0=>?_) (λhc0=>?_)
 ·replace hc0:=of_decide_eq_true hc0
  exact absurd hc0 hbs
 ·replace hc0:=of_decide_eq_false hc0
  refine OkC.skip (q1 (rN [(0,true),(3,true),(6,true),(7,true),(1,false),(2,true),(4,false),(5,false),(8,false),(9,false)] [⟨10,6,77,AW (0:Rat)⟩] [(11,false)] sr (by kernel_rfl) (λ_ _ d _ _ h=>by cases d<;>exact h) (Ru rfl rfl H9 rfl (U0)) rfl (XF 1 Ck rfl (XF 1 Ck rfl (V0 (v:=(pP b2 0)) rfl (AA rfl Tryz.underlying77 rfl Tryz.sizeOf75 rfl) rfl (Zf 1 (A7 b.num) D0 rfl (Co.imp rfl λEF EL=>ck' Tryz.call196 (Mm b) rfl (Co.back0 sr rfl (V0 rfl (Af (c:=(decide (b.num.sign<(0:Int)))) rfl rfl rfl) rfl (Co.imp rfl λEF EL=>?_))))))))))
  refine ck' Tryz.call133 (den_ok b (by omega)) rfl (Co.back0 sr rfl (Co.imp rfl λEF EL=>ck' Tryz.call171 (EE (decide (b.num.sign<(0:Int))) b.den) rfl (Co.back0 sr rfl (Co.imp rfl λEF EL=>ck' Tryz.call202 (Lj b.num) rfl (Co.back0 sr rfl (Co.imp rfl λEF EL=>ck' Tryz.call152 (GK (Dc (decide (b.num.sign<(0:Int))) b.den) b.num.natAbs (by omega) (by omega) (by first|omega|assumption)) rfl (Co.back0 sr rfl (Co.news1 λb4=>?_))))))))
  refine OkE.imp rfl (Ay rfl Tryz.sizeOf77 rfl (OkE.back (sl sr) (OkE.nil (OkQ.subF (sL [2,3,4,5,6] rfl) (q2 (BU 3 Ck rfl (BU 0 Ck rfl ?_)))))))
  have hz1:=GA a (mkRat (Dc (decide (b.num.sign<(0:Int))) b.den) b.num.natAbs)
  exact ck' Tryz.call91 (Oz a (mkRat (Dc (decide (b.num.sign<(0:Int))) b.den) b.num.natAbs) (by (try simp only [DT]);omega)) rfl (Dw rfl Tryz.sizeOf77 rfl (asg' rfl (OkL.nil (OkQ.subF (sL [3,4,5,6] rfl) (OkQ.then_ (OkC.ret (C0 rfl (Aj (i:=1) (cs:=AW (a*(mkRat (Dc (decide (b.num.sign<(0:Int))) b.den) b.num.natAbs))) rfl rfl Tryz.isAgg77 Tryz.sizeOf77 rfl) (rd_tmp (v:=(vI 0)) rfl) (λw hw=>⟨by rw [hinv,Rat.div_def],hw.out⟩))))))))
theorem Io (z:Int) (hz:-9223372036854775808<=z) (hz2:z<9223372036854775808) (w:World)  :Calls Tryz.prog 40 #[(vI z)] w (Ai w (aG (AW ((z:Int):Rat)))):=by
 refine AZ (args:=[(vI z)]) Tryz.func40 rfl rfl (AK rfl) (OkC.subF (sL [0] rfl) (q4 (al H9 rfl λb1=>OkL.nil (q2 (AO rfl (ck' Tryz.call109 (WF z (by omega) (by omega)) rfl (ck' Tryz.call108 (J6 z) rfl (Ay rfl Tryz.sizeOf77 rfl (OkL.nil (OkQ.subF (sL [2] rfl) ?_))))))))))
 exact OkQ.then_ (OkC.ret (ret_one rfl (Aj (i:=0) (cs:=AW ((z:Int):Rat)) rfl rfl Tryz.isAgg77 Tryz.sizeOf77 rfl) (λw hw=>⟨rfl,hw.out⟩)))
end
section
set_option maxRecDepth 100000
theorem B7 (x0:Rat) (x1:Rat):Instr.fill ([(0,5),(5,5)].toArray[·]?) (BC (⟨0,0⟩:Pt)).toArray [(0,.agg (AW x0).toArray),(1,.agg (AW x1).toArray)]=some (AW x0++AW x1).toArray:=by kernel_rfl
theorem M8 (a b:Pt) (hs:D9 a+D9 b<=68719476736) (w:World)  :Calls Tryz.prog 104 #[(aG (BC a)),(aG (BC b)),(Value.func (.func 90) #[] #[])] w (Ai w (aG (BC (a+b)))):=by
 have p1:=Ek a
 have p2:=Em a
 have p3:=Ek b
 have p4:=Em b
 refine AZ (args:=[(aG (BC a)),(aG (BC b)),(Value.func (.func 90) #[] #[])]) Tryz.func104 rfl rfl (AK rfl) (OkC.subF (sL [0,1,2] rfl) (q4 (Bg (cs:=BC a) rfl λb1=>Bg (cs:=BC b) rfl λb2=>al Nm rfl λb3=>q6 (sL [2,3,4,6] rfl) (CV [(0,true),(1,true),(2,true),(3,true),(4,true),(6,true),(7,true),(8,true),(9,true),(10,true),(5,false),(11,false),(12,true),(13,false)] (sl sr) (BN rfl (Ag (v:=(pP b1 0)) rfl (AA rfl Tryz.underlying99 rfl Tryz.sizeOf77 rfl) (FL 1 (AW a.x) Ck rfl (Ag (v:=(pP b2 0)) rfl (AA rfl Tryz.underlying99 rfl Tryz.sizeOf77 rfl) ?_))))))))
 refine FL 0 (AW b.x) Ck rfl (BN rfl (Ag (v:=(pP b1 5)) rfl (AA rfl Tryz.underlying99 rfl Tryz.sizeOf77 rfl) (FL 1 (AW a.y) Ck rfl (Ag (v:=(pP b2 5)) rfl (AA rfl Tryz.underlying99 rfl Tryz.sizeOf77 rfl) (FL 0 (AW b.y) Ck rfl (OkE.imp rfl ?_))))))
 have hz1:=Fz a.x b.x
 refine ck' Tryz.call90 (Pl a.x b.x (by (try simp only [DT]);omega)) rfl (OkE.back (sl sr) (OkE.imp rfl ?_))
 have hz2:=Fz a.y b.y
 exact ck' Tryz.call90 (Pl a.y b.y (by (try simp only [DT]);omega)) rfl (OkE.back (sl sr) (Ag (v:=(aG (AW (a.x+b.x)++AW (a.y+b.y)))) rfl (AR (zs:=BC (⟨0,0⟩:Pt)) (vs:=AW (a.x+b.x)++AW (a.y+b.y)) (pv:=[(0,(aG (AW (a.x+b.x)))),(1,(aG (AW (a.y+b.y))))]) (places:=[(0,5),(5,5)]) Tryz.zeroValue99 Tryz.underlying99 (λw=>by simp [Tryz.sizeOf77]) rfl (B7 (a.x+b.x) (a.y+b.y))) (OkE.imp rfl (Ay rfl Tryz.sizeOf99 rfl (OkE.back (sl sr) (OkE.nil (OkQ.subF (sL [6] rfl) (OkQ.then_ (OkC.ret (ret_one rfl (Aj (i:=0) (cs:=AW (a.x+b.x)++AW (a.y+b.y)) rfl rfl Tryz.isAgg99 Tryz.sizeOf99 rfl) (λw hw=>⟨by rw [Uv],hw.out⟩)))))))))))
theorem K1 (x y k:Rat) (bk:Nat) (hs:Sz x+Sz k<=137438953472) (w:World) (hk:w.heap[bk]?=some (.cells (AW k).toArray 77 (0,0))):Calls Tryz.prog 107 #[(aG (AW x)),(aG (AW y)),(pP bk 0)] w (Ai w (aG (AW (x*k)))):=by
 refine AZ (args:=[(aG (AW x)),(aG (AW y)),(pP bk 0)]) Tryz.func107 rfl rfl (AK rfl) (OkC.subF (sL [0,1,2] rfl) (q4 (Bg (cs:=AW x) rfl λb1=>Bg (cs:=AW y) rfl λb2=>al H9 rfl λb3=>q3 (sL [2,3,5] rfl) (BU 2 Ck rfl (AG (v:=(aG (AW k))) (EW (vs:=AW k) rfl (λw' hw=>hw.oldCA (by simp) (D6 hk)) Tryz.isAgg77 Tryz.sizeOf77 rfl) rfl ?_)))))
 have hz1:=GA x k
 exact ck' Tryz.call91 (Oz x k (by (try simp only [DT]);omega)) rfl (Ay rfl Tryz.sizeOf77 rfl (OkL.nil (OkQ.subF (sL [5] rfl) (OkQ.then_ (OkC.ret (ret_one rfl (Aj (i:=0) (cs:=AW (x*k)) rfl rfl Tryz.isAgg77 Tryz.sizeOf77 rfl) (λw hw=>⟨rfl,hw.out⟩)))))))
theorem KH (a:Pt) (k:Rat) (bk:Nat) (hs:D9 a+Sz k<=137438953472) (w:World) (hk:w.heap[bk]?=some (.cells (AW k).toArray 77 (0,0))):Calls Tryz.prog 104 #[(aG (BC a)),(aG (BC a)),(Value.func (.func 107) #[] #[(pP bk 0)])] w (Ai w (aG (BC (Bc a k)))):=by
 have p1:=Ek a
 have p2:=Em a
 refine AZ (args:=[(aG (BC a)),(aG (BC a)),(Value.func (.func 107) #[] #[(pP bk 0)])]) Tryz.func104 rfl rfl (AK rfl) (OkC.subF (sL [0,1,2] rfl) (q4 (Bg (cs:=BC a) rfl λb1=>Bg (cs:=BC a) rfl λb2=>al Nm rfl λb3=>q6 (sL [2,3,4,6] rfl) (CV [(0,true),(1,true),(2,true),(3,true),(4,true),(6,true),(7,true),(8,true),(9,true),(10,true),(5,false),(11,false),(12,true),(13,false)] (sl sr) (BN rfl (Ag (v:=(pP b1 0)) rfl (AA rfl Tryz.underlying99 rfl Tryz.sizeOf77 rfl) (FL 1 (AW a.x) Ck rfl (Ag (v:=(pP b2 0)) rfl (AA rfl Tryz.underlying99 rfl Tryz.sizeOf77 rfl) ?_))))))))
 refine FL 0 (AW a.x) Ck rfl (BN rfl (Ag (v:=(pP b1 5)) rfl (AA rfl Tryz.underlying99 rfl Tryz.sizeOf77 rfl) (FL 1 (AW a.y) Ck rfl (Ag (v:=(pP b2 5)) rfl (AA rfl Tryz.underlying99 rfl Tryz.sizeOf77 rfl) (FL 0 (AW a.y) Ck rfl (OkE.imp rfl (OkL.call (v:=(aG (AW (a.x*k)))) (AP rfl) (HH (args:=[(aG (AW a.x)),(aG (AW a.x))]) (caps:=[(pP bk 0)]) (all:=[(aG (AW a.x)),(aG (AW a.x)),(pP bk 0)]) rfl rfl rfl Tryz.call107) (λw hw=>K1 a.x a.x k bk (by omega) w (hw.old (by simp) hk)) rfl (AK rfl) (OkE.back (sl sr) (OkE.imp rfl (OkL.call (v:=(aG (AW (a.y*k)))) (AP rfl) (HH (args:=[(aG (AW a.y)),(aG (AW a.y))]) (caps:=[(pP bk 0)]) (all:=[(aG (AW a.y)),(aG (AW a.y)),(pP bk 0)]) rfl rfl rfl Tryz.call107) (λw hw=>K1 a.y a.y k bk (by omega) w (hw.old (by simp) hk)) rfl (AK rfl) (OkE.back (sl sr) ?_)))))))))))
 exact Ag (v:=(aG (AW (a.x*k)++AW (a.y*k)))) rfl (AR (zs:=BC (⟨0,0⟩:Pt)) (vs:=AW (a.x*k)++AW (a.y*k)) (pv:=[(0,(aG (AW (a.x*k)))),(1,(aG (AW (a.y*k))))]) (places:=[(0,5),(5,5)]) Tryz.zeroValue99 Tryz.underlying99 (λw=>by simp [Tryz.sizeOf77]) rfl (B7 (a.x*k) (a.y*k))) (OkE.imp rfl (Ay rfl Tryz.sizeOf99 rfl (OkE.back (sl sr) (OkE.nil (OkQ.subF (sL [6] rfl) (OkQ.then_ (OkC.ret (ret_one rfl (Aj (i:=0) (cs:=AW (a.x*k)++AW (a.y*k)) rfl rfl Tryz.isAgg99 Tryz.sizeOf99 rfl) (λw hw=>⟨by rw [Pr],hw.out⟩)))))))))
theorem UX (a b:Pt) (hs:D9 a+D9 b<=68719476736) (w:World)  :Calls Tryz.prog 36 #[(aG (BC a)),(aG (BC b))] w (Ai w (aG (BC (a+b)))):=by
 refine AZ (args:=[(aG (BC a)),(aG (BC b))]) Tryz.func36 rfl rfl (AK rfl) (OkC.subF (sL [0,1] rfl) (q4 (Bg (cs:=BC a) rfl λb1=>Bg (cs:=BC b) rfl λb2=>al Nm rfl λb3=>q3 (sL [2,3,4] rfl) (BU 2 HM rfl (BU 1 HM rfl (ck' Tryz.call104 (M8 a b (by omega)) rfl (Ay rfl Tryz.sizeOf99 rfl (OkL.nil ?_))))))))
 exact OkQ.subF (sL [4] rfl) (OkQ.then_ (OkC.ret (ret_one rfl (Aj (i:=0) (cs:=BC (a+b)) rfl rfl Tryz.isAgg99 Tryz.sizeOf99 rfl) (λw hw=>⟨rfl,hw.out⟩))))
theorem Pu (a:Pt) (k:Rat) (hs:D9 a+Sz k<=137438953472) (w:World)  :Calls Tryz.prog 39 #[(aG (BC a)),(aG (AW k))] w (Ai w (aG (BC (Bc a k)))):=by
 refine AZ (args:=[(aG (BC a)),(aG (AW k))]) Tryz.func39 rfl rfl (AK rfl) (OkC.subF (sL [0,1] rfl) (q4 (Bg (cs:=BC a) rfl λb1=>Bg (cs:=AW k) rfl λb2=>al Nm rfl λb3=>q3 (sL [2,3,4] rfl) (BU 2 HM rfl (BU 2 HM rfl (AG (v:=(Value.func (.func 107) #[] #[(pP b2 0)])) (GD (vs:=[]) (us:=[(pP b2 0)]) rfl rfl) rfl (Cq Tryz.call104 (λw hw=>KH a k b2 (by omega) w (hw.get (i:=1) rfl)) rfl (Ay rfl Tryz.sizeOf99 rfl ?_))))))))
 exact OkL.nil (OkQ.subF (sL [4] rfl) (OkQ.then_ (OkC.ret (ret_one rfl (Aj (i:=0) (cs:=BC (Bc a k)) rfl rfl Tryz.isAgg99 Tryz.sizeOf99 rfl) (λw hw=>⟨rfl,hw.out⟩)))))
theorem GO (x y:Int) (h1:-9223372036854775808<=x) (h2:x<9223372036854775808) (h3:-9223372036854775808<=y) (h4:y<9223372036854775808) (w:World)  :Calls Tryz.prog 42 #[(vI x),(vI y)] w (Ai w (aG (BC (⟨((x:Int):Rat),((y:Int):Rat)⟩:Pt)))):=by
 refine AZ (args:=[(vI x),(vI y)]) Tryz.func42 rfl rfl (AK rfl) (OkC.subF (sL [0,1] rfl) (q4 (al Nm rfl λb1=>OkL.nil (q2 (AO rfl (ck' Tryz.call40 (Io x (by omega) (by omega)) rfl (AO rfl (ck' Tryz.call40 (Io y (by omega) (by omega)) rfl (AG (v:=(aG (AW ((x:Int):Rat)++AW ((y:Int):Rat)))) (AR (zs:=BC (⟨0,0⟩:Pt)) (vs:=AW ((x:Int):Rat)++AW ((y:Int):Rat)) (pv:=[(0,(aG (AW ((x:Int):Rat)))),(1,(aG (AW ((y:Int):Rat))))]) (places:=[(0,5),(5,5)]) Tryz.zeroValue99 Tryz.underlying99 (λw=>by simp [Tryz.sizeOf77]) rfl (B7 ((x:Int):Rat) ((y:Int):Rat))) rfl (Ay rfl Tryz.sizeOf99 rfl ?_))))))))))
 exact OkL.nil (OkQ.subF (sL [4] rfl) (OkQ.then_ (OkC.ret (ret_one rfl (Aj (i:=0) (cs:=AW ((x:Int):Rat)++AW ((y:Int):Rat)) rfl rfl Tryz.isAgg99 Tryz.sizeOf99 rfl) (λw hw=>⟨by rw [WO],hw.out⟩)))))
end
section
set_option maxRecDepth 100000
theorem T7 (x y:Int) (h1:-9223372036854775808<=x) (h2:x<9223372036854775808) (h3:-9223372036854775808<=y) (h4:y<9223372036854775808) (hy:y≠0) (w:World)  :Calls Tryz.prog 93 #[(vI x),(vI y)] w (Ai w (Value.tuple #[(aG (AW (((x:Int):Rat)/((y:Int):Rat)))),(vI 0)])):=by
 have hb:((y:Int):Rat)≠0:=λe=>hy (by exact_mod_cast e)
 have s1:=Hp h1 h2
 have s2:=Hp h3 h4
 refine AZ (args:=[(vI x),(vI y)]) Tryz.func93 rfl rfl (AK rfl) (OkC.subF (sL [0,1] rfl) (q4 (al H9 rfl λb1=>asg' rfl (OkL.nil (q2 (AO rfl (ck' Tryz.call40 (Io x (by omega) (by omega)) rfl (AO rfl (ck' Tryz.call40 (Io y (by omega) (by omega)) rfl ?_)))))))))
 have hz1:=N1 (a:=((x:Int):Rat)) (b:=((y:Int):Rat)) (by assumption)
 exact ck' Tryz.call156 (UL ((x:Int):Rat) ((y:Int):Rat) (by omega) (by assumption)) rfl (AG (AV (v:=(aG (AW (((x:Int):Rat)/((y:Int):Rat))))) rfl rfl) rfl (AG (AV (v:=(vI 0)) rfl rfl) rfl (Ay rfl Tryz.sizeOf77 rfl (asg' rfl (OkL.nil (OkQ.subF (sL [4,5] rfl) (OkQ.then_ (OkC.ret (C0 rfl (Aj (i:=0) (cs:=AW (((x:Int):Rat)/((y:Int):Rat))) rfl rfl Tryz.isAgg77 Tryz.sizeOf77 rfl) (rd_tmp (v:=(vI 0)) rfl) (λw hw=>⟨rfl,hw.out⟩))))))))))
theorem S5  (w:World)  :Calls Tryz.prog 113 #[] w (Ai w (aG (AW ((1:Rat)/2)))):=by
 refine AZ (args:=[]) Tryz.func113 rfl rfl (AK rfl) (OkC.subF sN (q4 (al H9 rfl λb1=>OkL.nil (q2 (ck' Tryz.call93 (T7 (1:Int) (2:Int) (by omega) (by omega) (by omega) (by omega) (by omega)) rfl (AO rfl (AG (AV (v:=(aG (AW (((1:Int):Rat)/((2:Int):Rat))))) rfl rfl) rfl (OkL.retell (k:=5) (u:=(aG (AW ((1:Rat)/2)))) rfl (by rw [VJ]) (AG (AV (v:=(vI 0)) rfl rfl) rfl (al H9 rfl λb2=>?_))))))))))
 exact Ay rfl Tryz.sizeOf77 rfl (asg' rfl (q3 (sL [0,1] rfl) (BU 0 Ck rfl (Dw rfl Tryz.sizeOf77 rfl (OkL.nil (OkQ.subF (sL [0,1] rfl) (OkQ.then_ (OkC.ret (ret_one rfl (Aj (i:=1) (cs:=AW ((1:Rat)/2)) rfl rfl Tryz.isAgg77 Tryz.sizeOf77 rfl) (λw hw=>⟨rfl,hw.out⟩))))))))))
theorem O3 (a b:Pt) (hs:D9 a+D9 b<=17179869184) (w:World)  :Calls Tryz.prog 54 #[(aG (BC a)),(aG (BC b))] w (Ai w (aG (BC (Bc (a+b) (1/2))))):=by
 have sh:=Uk
 refine AZ (args:=[(aG (BC a)),(aG (BC b))]) Tryz.func54 rfl rfl (AK rfl) (OkC.subF (sL [0,1] rfl) (q4 (Bg (cs:=BC a) rfl λb1=>Bg (cs:=BC b) rfl λb2=>al Nm rfl λb3=>q3 (sL [2,3,4] rfl) (BU 2 HM rfl (BU 1 HM rfl ?_)))))
 have hz1:=G_ a b
 refine ck' Tryz.call36 (UX a b (by omega)) rfl (ck' Tryz.call113 (S5) rfl ?_)
 have hz2:=FE (a+b) ((1:Rat)/2)
 exact ck' Tryz.call39 (Pu (a+b) ((1:Rat)/2) (by omega)) rfl (Ay rfl Tryz.sizeOf99 rfl (OkL.nil (OkQ.subF (sL [4] rfl) (OkQ.then_ (OkC.ret (ret_one rfl (Aj (i:=0) (cs:=BC (Bc (a+b) ((1:Rat)/2))) rfl rfl Tryz.isAgg99 Tryz.sizeOf99 rfl) (λw hw=>⟨rfl,hw.out⟩)))))))
end
section
set_option maxRecDepth 100000
end
def zq (q:Rat):Nat:=if q.num.sign=0 then 1 else 0
section
set_option maxRecDepth 100000
end
section
set_option maxRecDepth 100000
end
section
set_option maxRecDepth 100000
end
section
set_option maxRecDepth 100000
end
section
section
variable {P:Program} {n:Nat} {F:List (Nat×Value)} {w0:A_} {L:List As} {v:Value} {x:Operand} {d:Option Tmp} {t:TypeId} {p:String} {af:Array Edge} {g:Option (Nat×Bool)}
end
end
section
set_option maxRecDepth 100000
end
section
set_option maxRecDepth 100000
end
section
set_option maxRecDepth 100000
end
section
set_option maxRecDepth 100000
end
section
set_option maxRecDepth 100000
end
section
set_option maxRecDepth 100000
end
section
section
variable {P:Program} {n:Nat} {F:List (Nat×Value)} {w0:A_} {L:List As} {v:Value} {x lo hi:Operand} {d:Option Tmp} {t:TypeId} {p:String} {af:Array Edge} {g:Option (Nat×Bool)}
end
end
section
set_option maxRecDepth 100000
end
end Go.Proofs.YtpolhpjiahbidaaGreatDoor
