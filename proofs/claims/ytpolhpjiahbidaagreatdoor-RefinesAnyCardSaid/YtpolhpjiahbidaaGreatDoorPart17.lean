import Derived.Test.YtpolhpjiahbidaaGreatDoorPart05
import Derived.Test.YtpolhpjiahbidaaGreatDoorPart13
import Derived.Test.YtpolhpjiahbidaaGreatDoorPart16
namespace Go.Proofs.YtpolhpjiahbidaaGreatDoor
open Go Go.RowKit Go.Proofs.Tryz
set_option linter.unusedVariables false
set_option linter.unusedSimpArgs false
section
set_option maxRecDepth 100000
theorem FK (x0:Int) (x1:Nat):Instr.fill ([(0,3),(3,2)].toArray[·]?) (AZ (0:Rat)).toArray [(0,.agg (A9 x0).toArray),(1,.agg (AS x1).toArray)]=some (A9 x0++AS x1).toArray:=by kernel_rfl
theorem Gh (n:Int) (d:Nat) (hn:nw n.natAbs<=1099511627776) (hd:nw d<=1099511627776) (hd0:d≠0) (w:World)  :Calls prog 152 #[(aG (A9 n)),(aG (AS d))] w (Ah w (aG (AZ (mkRat n d)))):=by
 have hg:Nat.gcd n.natAbs d≠0:=λh=>hd0 (Nat.eq_zero_of_gcd_eq_zero_right h)
 have hgw:nw (Nat.gcd n.natAbs d)<=nw d:=Ck (Nat.gcd_le_right _ (Nat.pos_of_ne_zero hd0))
 have hqw:nw (d/Nat.gcd n.natAbs d)<=nw d:=Ck (Nat.div_le_self _ _)
 have h1w:=H4
 refine Ab (args:=[(aG (A9 n)),(aG (AS d))]) func152 O O (AI O) (OkC.subF (sL [0,1] O) (q4 (Be (cs:=A9 n) O λb1=>Be (cs:=AS d) O λb2=>al IV O λb3=>q6 (sL [2,3,4] O) (rN [(0,true),(2,true),(1,false),(3,false)] [⟨4,5,71,AS 0⟩] [(5,false)] sr (by kernel_rfl) (λ_ _ d _ _ h=>by cases d<;>exact h) (UK O O Fi O (WD)) O (YR 2 EE O (YR 1 By O (Cw.imp O λEF EL=>ck' call202 (MA n) O ?_)))))))
 refine Cw.back0 sr O (Cw.imp O λEF EL=>ck' call201 (XV n.natAbs d Z Z) O (Cw.back0 sr O (Cw.news1 λb4=>OkE.imp O (Ax O sizeOf71 O (OkE.back (sl sr) (OkE.nil (OkQ.subF (sL [2,3,4,5] O) (q1 (rN [(0,true),(2,true),(1,false),(3,false),(4,true),(5,true),(6,true),(7,true)] [⟨8,6,71,AS 0⟩,⟨9,7,71,AS 0⟩] [(10,false),(11,false),(12,true)] sr (by kernel_rfl) (λ_ _ d _ _ h=>by cases d<;>exact h) (UK O O Fi O (UK O O Fi O (WD))) O ?_)))))))))
 refine YR 3 EE O (YR 0 By O (Cw.imp O λEF EL=>ck' call202 (MA n) O (Cw.back0 sr O (Cw.imp O λEF EL=>ck' call203 (OT n.natAbs (Nat.gcd n.natAbs d) Z Z Z) O (Cw.back0 sr O (a_ O (W6 O (AV (v:=(aG (AS (n.natAbs/(Nat.gcd n.natAbs d))))) O O) O (W6 O (AV (v:=(aG (AS (n.natAbs%(Nat.gcd n.natAbs d))))) O O) O (W6 O (AV (v:=(Value.bool true)) O O) O ?_)))))))))
 refine Cw.news2 λb5 b6=>OkE.imp O (Ax O sizeOf71 O (OkE.back (sl (sl sr)) (OkE.imp O (EG O sizeOf71 O (OkE.back (sl (sl sr)) (pS' O (OkE.nil (OkQ.subF (sL [2,3,4,5,6] O) (q2 (BH 4 By O ?_))))))))))
 refine BH 2 By O (ck' call203 (OT d (Nat.gcd n.natAbs d) Z Z Z) O (AM O (AH (AV (v:=(aG (AS (d/(Nat.gcd n.natAbs d))))) O O) O (AH (AV (v:=(aG (AS (d%(Nat.gcd n.natAbs d))))) O O) O (AH (AV (v:=(Value.bool true)) O O) O (al Fi O λb7=>al Fi O λb8=>EG O sizeOf71 O (Ax O sizeOf71 O (asg' O (q6 (sL [2,3,4,5,6,9] O) ?_)))))))))
 refine rC [(0,true),(1,false),(2,false),(3,true),(4,true),(5,true)] 6 [] sr (sk (sl sr)) (by kernel_rfl) (λ_ _ d _ _ h=>by cases d<;>exact h) (vE (v:=(aG (AS (d/(Nat.gcd n.natAbs d))))) O (A6 (i:=1) (vs:=AS (d/(Nat.gcd n.natAbs d))) O O By.a By.s O O) O (Ch.imp O (ck' call172 (I7 1 Z) O (Ch.back sr (Ch.imp O (ck' call204 (OO (d/(Nat.gcd n.natAbs d)) 1 Z Z) O (Ch.back sr (vM O O O (vE O (AV (v:=(aG (AS ((d/(Nat.gcd n.natAbs d))-1)))) O O) O (vE O (AV (v:=(Value.bool (decide (1<=d/(Nat.gcd n.natAbs d))))) O O) O (Ch.cut O ?_)))))))))))
 refine EG O sizeOf71 O (OkE.back (sk (sl sr)) (OkE.nil (OkQ.subF (sL [2,3,4,5,6,9] O) (q1 (Cd [(0,true),(3,true),(5,true),(1,false),(2,true),(4,false),(6,true),(7,false)] (sk (sk (sk (sk (sk (sl sr)))))) (Ev 6 EE O (Ev 2 By O (Ev 1 By O (OkE.imp O (ck' call176 (N5 n) O (OkE.back (sk (sk (sk (sk (sk (sl sr)))))) ?_)))))))))))
 exact Al O (Ae (c:=(decide (n.sign<(0:Int)))) O O O) (OkE.imp O (ck' call171 (Eb (decide (n.sign<(0:Int))) (n.natAbs/(Nat.gcd n.natAbs d))) O (OkE.back (sk (sk (sk (sk (sk (sl sr)))))) (Al (v:=(aG (A9 (Dq (decide (n.sign<(0:Int))) (n.natAbs/(Nat.gcd n.natAbs d)))++AS ((d/(Nat.gcd n.natAbs d))-1)))) O (AQ (zs:=AZ (0:Rat)) (vs:=A9 (Dq (decide (n.sign<(0:Int))) (n.natAbs/(Nat.gcd n.natAbs d)))++AS ((d/(Nat.gcd n.natAbs d))-1)) (pv:=[(0,(aG (A9 (Dq (decide (n.sign<(0:Int))) (n.natAbs/(Nat.gcd n.natAbs d)))))),(1,(aG (AS ((d/(Nat.gcd n.natAbs d))-1))))]) (places:=[(0,3),(3,2)]) zeroValue77 underlying77 (λw=>by simp [sizeOf71,sizeOf75]) O (FK (Dq (decide (n.sign<(0:Int))) (n.natAbs/(Nat.gcd n.natAbs d))) ((d/(Nat.gcd n.natAbs d))-1))) (OkE.imp O (FG 5 (off:=0) (vs:=A9 (Dq (decide (n.sign<(0:Int))) (n.natAbs/(Nat.gcd n.natAbs d)))++AS ((d/(Nat.gcd n.natAbs d))-1)) (cs':=A9 (Dq (decide (n.sign<(0:Int))) (n.natAbs/(Nat.gcd n.natAbs d)))++AS ((d/(Nat.gcd n.natAbs d))-1)) (AP O) O sizeOf77 O (OkE.back (sk (sk (sk (sk (sk (sl sr)))))) (OkE.nil (OkQ.subF (sL [2,3,4,5,6,9] O) (OkQ.then_ (OkC.ret (ret_one O (Ak (i:=5) (cs:=A9 (Dq (decide (n.sign<(0:Int))) (n.natAbs/(Nat.gcd n.natAbs d)))++AS ((d/(Nat.gcd n.natAbs d))-1)) O O isAgg77 sizeOf77 O) (λw hw=>⟨by rw [Nk,Qh hd0,QB hd0],hw.out⟩)))))))))))))
theorem G_ (x0:Int):Instr.fill ([(0,3),(3,2)].toArray[·]?) (AZ (0:Rat)).toArray [(0,.agg (A9 x0).toArray)]=some (A9 x0++AS ((0:Rat).den-1)).toArray:=by kernel_rfl
theorem KJ (n:Int) (w:World)  :Calls prog 108 #[(aG (A9 n))] w (Ah w (aG (AZ ((n:Int):Rat)))):=by
 refine Ab (args:=[(aG (A9 n))]) func108 O O (AI O) (OkC.subF (sL [0] O) (q4 (Be (cs:=A9 n) O λb1=>al IV O λb2=>q3 (sL [1,2] O) (BH 1 EE O (AH (v:=(aG (A9 n++AS ((0:Rat).den-1)))) (AQ (zs:=AZ (0:Rat)) (vs:=A9 n++AS ((0:Rat).den-1)) (pv:=[(0,(aG (A9 n)))]) (places:=[(0,3),(3,2)]) zeroValue77 underlying77 (λw=>by simp [sizeOf71,sizeOf75]) O (G_ n)) O (Ax O sizeOf77 O (OkL.nil (OkQ.subF (sL [2] O) (OkQ.then_ ?_)))))))))
 exact OkC.ret (ret_one O (Ak (i:=0) (cs:=A9 n++AS ((0:Rat).den-1)) O O isAgg77 sizeOf77 O) (λw hw=>⟨rfl,hw.out⟩))
theorem Kq  :Instr.fill ([(0,1),(1,1)].toArray[·]?) (AS 0).toArray []=some (AS 0).toArray:=by kernel_rfl
theorem F7 (a:Rat) (w:World)  :Calls prog 130 #[(aG (AZ a))] w (Ah w (Value.bool (decide (a.den-1=0)))):=by
 refine Ab (args:=[(aG (AZ a))]) func130 O O (AI O) (OkC.subF (sL [0] O) (q4 (Be (cs:=AZ a) O λb1=>asg' O (q3 (sL [1,2] O) (AH (v:=(pP b1 3)) (AA O underlying77 O sizeOf71 O) O (Ei 0 (AS (a.den-1)) By O (AH (v:=(aG (AS 0))) (AQ (zs:=AS 0) (vs:=AS 0) (pv:=[]) (places:=[(0,1),(1,1)]) zeroValue71 underlying71 (λw=>by simp [sizeOf9,sizeOf69]) O (Kq )) O (AH (Bz (c:=(decide (a.den-1=0))) O O eqGuardType71 (Hf 9998 (a.den-1) 0)) O (asg' O (OkL.nil ?_))))))))))
 exact OkQ.subF (sL [2] O) (OkQ.then_ (OkC.ret (ret_one O (rd_tmp (v:=(Value.bool (decide (a.den-1=0)))) O) (λw hw=>⟨rfl,hw.out⟩))))
theorem den_ok (a:Rat) (ha:nw a.den<=1099511627776) (w:World)  :Calls prog 133 #[(aG (AZ a))] w (Ah w (aG (AS a.den))):=by
 have h1w:=H4
 have h2w:=Ck (Nat.sub_le a.den 1)
 refine Ab (args:=[(aG (AZ a))]) func133 O O (AI O) (OkC.subF (sL [0] O) (q4 (Be (cs:=AZ a) O λb1=>al Fi O λb2=>q6 (sL [1,2] O) (Cd [(0,true),(1,true),(2,false),(3,false),(4,false)] (sl sr) (Al (v:=(pP b1 3)) O (AA O underlying77 O sizeOf71 O) (Ff 0 (AS (a.den-1)) By O (OkE.imp O (ck' call172 (I7 1 Z) O (OkE.back (sl sr) ?_)))))))))
 exact OkE.imp O (ck' call194 (SM (a.den-1) 1 Z Z) O (OkE.back (sl sr) (OkE.imp O (Ax O sizeOf71 O (OkE.back (sl sr) (OkE.nil (OkQ.subF (sL [2] O) (OkQ.then_ (OkC.ret (ret_one O (Ak (i:=0) (cs:=AS ((a.den-1)+1)) O O isAgg71 sizeOf71 O) (λw hw=>⟨by rw [Nat.sub_add_cancel a.den_pos],hw.out⟩)))))))))))
theorem Lg (a:Rat) (ha:nw a.den<=1099511627776) (w:World)  :Calls prog 124 #[(aG (AZ a))] w (Ah w (aG (A9 ((a.den:Nat):Int)))):=by
 refine Ab (args:=[(aG (AZ a))]) func124 O O (AI O) (OkC.subF (sL [0] O) (q4 (Be (cs:=AZ a) O λb1=>al Kg O λb2=>q3 (sL [1,2] O) (BH 1 Cq O (ck' call133 (den_ok a Z) O (ck' call171 (Eb false a.den) O (Ax O sizeOf75 O (OkL.nil (OkQ.subF (sL [2] O) ?_)))))))))
 exact OkQ.then_ (OkC.ret (ret_one O (Ak (i:=0) (cs:=A9 (Dq false a.den)) O O isAgg75 sizeOf75 O) (λw hw=>⟨rfl,hw.out⟩)))
theorem NF (a:Rat) (w:World)  :Calls prog 196 #[(aG (AZ a))] w (Ah w (vI a.num.sign)):=by
 refine Ab (args:=[(aG (AZ a))]) func196 O O (AI O) (OkC.subF (sL [0] O) (q4 (Be (cs:=AZ a) O λb1=>asg' O (q3 (sL [1,2] O) (AH (v:=(pP b1 0)) (AA O underlying77 O sizeOf75 O) O (Ei 0 (A9 a.num) EE O (ck' call176 (N5 a.num) O (asg' O (OkL.nil (OkQ.subF (sL [2] O) ?_))))))))))
 exact OkQ.then_ (OkC.ret (ret_one O (rd_tmp (v:=(vI a.num.sign)) O) (λw hw=>⟨rfl,hw.out⟩)))
theorem QL (a b:Rat) (hs:Sz a+Sz b<=549755813888) (w:World)  :Calls prog 90 #[(aG (AZ a)),(aG (AZ b))] w (Ah w (aG (AZ (a+b)))):=by
 have s1:=Cr a
 have s2:=CZ a
 have s3:=Cr b
 have s4:=CZ b
 have s5:=CH a b
 have s6:=CH b a
 have s7:=GI a b
 have s8:=HE a b
 have s9:=D7 a.num b.num
 have s10:=D7 (a.num*((b.den:Nat):Int)) (b.num*((a.den:Nat):Int))
 have hda:=a.den_nz
 have hdb:=b.den_nz
 have hdab:a.den*b.den≠0:=Nat.mul_ne_zero hda hdb
 refine Ab (args:=[(aG (AZ a)),(aG (AZ b))]) func90 O O (AI O) (OkC.subF (sL [0,1] O) (q4 (Be (cs:=AZ a) O λb1=>Be (cs:=AZ b) O λb2=>al IV O λb3=>q6 (sL [2,3,4] O) (OkC.block (q4 (BH 2 Cq O (ck' call130 (F7 a) O (AM O ?_))))))))
 refine OkL.mid (FM:=[(2,(pP b1 0)),(3,(pP b2 0)),(4,(pP b3 0)),(6,(aG (AZ a))),(7,(Value.bool (decide (a.den-1=0)))),(8,(Value.bool (decide (a.den-1=0)))),(11,(Value.bool ((decide (a.den-1=0))&&(decide (b.den-1=0)))))]) (LM:=[AU b3 77 (AZ (0:Rat)),AU b2 77 (AZ b),AU b1 77 (AZ a)]) 3 ?_ ?_
 ·rcases Bool.eq_false_or_eq_true (decide (a.den-1=0)) with hg1|hg1
  ·skip
   refine OkL.retell (k:=8) (u:=Value.bool true) O (by rw [hg1]) ?_
   have hg1':=hg1
   replace hg1':=of_decide_eq_true hg1'
   exact OkL.step (v:=(aG (AZ b))) (AB O) (A6 (i:=1) (vs:=AZ b) O O Cq.a Cq.s O O) O (AI O) (OkL.call (v:=(Value.bool (decide (b.den-1=0)))) (AB O) (Ap (args:=[(aG (AZ b))]) O O call130) (λw hw=>F7 b w) O (AI O) (AH (v:=(Value.bool (decide (b.den-1=0)))) (AO O O) O (OkL.nil (OkQ.mid (sS O (sS O (sS O (sS O (sS O (sS (by first|rfl|(rw [hg1];rfl)|rw [hg1]) (sS (by first|rfl|(rw [hg1];rfl)|rw [hg1]) (sN)))))))) (List.Sublist.refl _)))))
  ·skip
   refine OkL.retell (k:=8) (u:=Value.bool false) O (by rw [hg1]) ?_
   have hg1':=hg1
   replace hg1':=of_decide_eq_false hg1'
   exact OkL.skip (AC O) O (AI O) (OkL.skip (AC O) O (AI O) (AH (v:=(Value.bool false)) (AJ O O) O (OkL.nil (OkQ.mid (sS O (sS O (sS O (sS O (sS O (sS (by first|rfl|(rw [hg1];rfl)|rw [hg1]) (sS (by first|rfl|(rw [hg1];rfl)|rw [hg1]) (sN)))))))) (List.Sublist.refl _)))))
 refine asg' O (OkL.nil (OkQ.subF (sL [2,3,4,5] O) (OkQ.then_ ?_)))
 refine OkC.cond O (λhc0=>?_) (λhc0=>?_)
 ·simp only [Bool.and_eq_true,Bool.or_eq_true,Bool.and_eq_false_iff,Bool.or_eq_false_iff,Bool.not_eq_true',Bool.not_eq_false',decide_eq_true_eq,decide_eq_false_iff_not] at hc0
  have he:=Qp hc0.1 hc0.2
  refine q4 (AH (v:=(pP b1 0)) (AA O underlying77 O sizeOf75 O) O (Ei 2 (A9 a.num) EE O (AH (v:=(pP b2 0)) (AA O underlying77 O sizeOf75 O) O (Ei 1 (A9 b.num) EE O (ck' call151 (L7 a.num b.num (by first|omega|(simp only [Int.natAbs_neg,BA,Int.natAbs_natCast];omega)) (by first|omega|(simp only [Int.natAbs_neg,BA,Int.natAbs_natCast];omega))) O (ck' call108 (KJ (a.num+b.num)) O (Ax O sizeOf77 O (OkL.nil (OkQ.subF (sL [2,3,4] O) (OkQ.then_ (OkC.ret ?_)))))))))))
  exact OkQ.in_ret (OkQ.then_ret (ret_one O (Ak (i:=0) (cs:=AZ ((a.num+b.num:Int):Rat)) O O isAgg77 sizeOf77 O) (λw hw=>⟨by rw [he],hw.out⟩)))
 ·simp only [Bool.and_eq_true,Bool.or_eq_true,Bool.and_eq_false_iff,Bool.or_eq_false_iff,Bool.not_eq_true',Bool.not_eq_false',decide_eq_true_eq,decide_eq_false_iff_not] at hc0
  have he:=H6 a b
  refine q4 (AH (v:=(pP b1 3)) (AA O underlying77 O sizeOf71 O) O (Ei 2 (AS (a.den-1)) By O (AH (v:=(pP b2 3)) (AA O underlying77 O sizeOf71 O) O (Ei 1 (AS (b.den-1)) By O (AH (Bz (c:=(decide (a.den-1=b.den-1))) O O eqGuardType71 (Hf 9998 (a.den-1) (b.den-1))) O (asg' O (OkL.nil (OkQ.subF (sL [2,3,4,18] O) (OkQ.then_ ?_)))))))))
  refine OkC.cond O (λhc1=>?_) (λhc1=>?_)
  ·replace hc1:=of_decide_eq_true hc1
   have he:=UF hc1
   refine OkC.seq (Cd [(0,true),(1,true),(2,true),(3,true),(5,true),(4,false),(6,false),(7,false),(8,false)] (sl sr) (Al (v:=(pP b1 0)) O (AA O underlying77 O sizeOf75 O) (Ff 1 (A9 a.num) EE O (Al (v:=(pP b2 0)) O (AA O underlying77 O sizeOf75 O) (Ff 0 (A9 b.num) EE O (Ev 1 Cq O (OkE.imp O (ck' call151 (L7 a.num b.num (by first|omega|(simp only [Int.natAbs_neg,BA,Int.natAbs_natCast];omega)) (by first|omega|(simp only [Int.natAbs_neg,BA,Int.natAbs_natCast];omega))) O (OkE.back (sl sr) (OkE.imp O (ck' call133 (den_ok a Z) O ?_)))))))))))
   refine OkE.back (sl sr) (OkE.imp O (ck' call152 (Gh (a.num+b.num) a.den Z Z (by first|omega|assumption)) O (OkE.back (sl sr) (OkE.imp O (Ax O sizeOf77 O (OkE.back (sl sr) (OkE.nil (OkQ.subF (sL [2,3,4] O) (OkQ.then_ (OkC.ret (OkQ.in_ret ?_)))))))))))
   exact OkQ.then_ret (ret_one O (Ak (i:=0) (cs:=AZ (mkRat (a.num+b.num) a.den)) O O isAgg77 sizeOf77 O) (λw hw=>⟨by rw [he],hw.out⟩))
  ·replace hc1:=of_decide_eq_false hc1
   refine OkC.skip (OkQ.in_normal (q1 (Cd [(0,true),(1,true),(2,true),(5,true),(6,true),(7,true),(11,true),(13,true),(3,false),(4,false),(8,false),(9,false),(10,false),(12,false),(14,false),(15,false),(16,false),(17,false)] (sl sr) (Al (v:=(pP b1 0)) O (AA O underlying77 O sizeOf75 O) (Ff 1 (A9 a.num) EE O (Ev 0 Cq O (Al (v:=(pP b2 0)) O (AA O underlying77 O sizeOf75 O) (Ff 0 (A9 b.num) EE O (Ev 1 Cq O (Ev 1 Cq O (Ev 0 Cq O ?_)))))))))))
   refine OkE.imp O (ck' call124 (Lg b Z) O (OkE.back (sl sr) (OkE.imp O (ck' call123 (I9 a.num ((b.den:Nat):Int) (by first|omega|(simp only [Int.natAbs_neg,BA,Int.natAbs_natCast];omega)) (by first|omega|(simp only [Int.natAbs_neg,BA,Int.natAbs_natCast];omega))) O (OkE.back (sl sr) (OkE.imp O (ck' call124 (Lg a Z) O (OkE.back (sl sr) (OkE.imp O (ck' call123 (I9 b.num ((a.den:Nat):Int) (by first|omega|(simp only [Int.natAbs_neg,BA,Int.natAbs_natCast];omega)) (by first|omega|(simp only [Int.natAbs_neg,BA,Int.natAbs_natCast];omega))) O (OkE.back (sl sr) ?_)))))))))))
   refine OkE.imp O (ck' call151 (L7 (a.num*((b.den:Nat):Int)) (b.num*((a.den:Nat):Int)) (by first|omega|(simp only [Int.natAbs_neg,BA,Int.natAbs_natCast];omega)) (by first|omega|(simp only [Int.natAbs_neg,BA,Int.natAbs_natCast];omega))) O (OkE.back (sl sr) (OkE.imp O (ck' call133 (den_ok a Z) O (OkE.back (sl sr) (OkE.imp O (ck' call133 (den_ok b Z) O (OkE.back (sl sr) (OkE.imp O (ck' call153 (PO a.den b.den Z Z) O (OkE.back (sl sr) ?_)))))))))))
   exact OkE.imp O (ck' call152 (Gh ((a.num*((b.den:Nat):Int))+(b.num*((a.den:Nat):Int))) (a.den*b.den) Z Z (by first|omega|assumption)) O (OkE.back (sl sr) (OkE.imp O (Ax O sizeOf77 O (OkE.back (sl sr) (OkE.nil (OkQ.subF (sL [2,3,4] O) (OkQ.then_ (OkC.ret (ret_one O (Ak (i:=0) (cs:=AZ (mkRat ((a.num*((b.den:Nat):Int))+(b.num*((a.den:Nat):Int))) (a.den*b.den))) O O isAgg77 sizeOf77 O) (λw hw=>⟨by rw [he],hw.out⟩)))))))))))
theorem QR (a b:Rat) (hs:Sz a+Sz b<=549755813888) (w:World)  :Calls prog 91 #[(aG (AZ a)),(aG (AZ b))] w (Ah w (aG (AZ (a*b)))):=by
 have s1:=Cr a
 have s2:=CZ a
 have s3:=Cr b
 have s4:=CZ b
 have s5:=CH a b
 have s6:=CH b a
 have s7:=GI a b
 have s8:=HE a b
 have s9:=D7 a.num b.num
 have s10:=D7 (a.num*((b.den:Nat):Int)) (b.num*((a.den:Nat):Int))
 have hda:=a.den_nz
 have hdb:=b.den_nz
 have hdab:a.den*b.den≠0:=Nat.mul_ne_zero hda hdb
 refine Ab (args:=[(aG (AZ a)),(aG (AZ b))]) func91 O O (AI O) (OkC.subF (sL [0,1] O) (q4 (Be (cs:=AZ a) O λb1=>Be (cs:=AZ b) O λb2=>al IV O λb3=>q6 (sL [2,3,4] O) (q4 (BH 2 Cq O (ck' call130 (F7 a) O (AM O ?_)))))))
 refine OkL.mid (FM:=[(2,(pP b1 0)),(3,(pP b2 0)),(4,(pP b3 0)),(5,(aG (AZ a))),(6,(Value.bool (decide (a.den-1=0)))),(7,(Value.bool (decide (a.den-1=0)))),(10,(Value.bool ((decide (a.den-1=0))&&(decide (b.den-1=0)))))]) (LM:=[AU b3 77 (AZ (0:Rat)),AU b2 77 (AZ b),AU b1 77 (AZ a)]) 3 ?_ ?_
 ·rcases Bool.eq_false_or_eq_true (decide (a.den-1=0)) with hg1|hg1
  ·skip
   refine OkL.retell (k:=7) (u:=Value.bool true) O (by rw [hg1]) ?_
   have hg1':=hg1
   replace hg1':=of_decide_eq_true hg1'
   exact OkL.step (v:=(aG (AZ b))) (AB O) (A6 (i:=1) (vs:=AZ b) O O Cq.a Cq.s O O) O (AI O) (OkL.call (v:=(Value.bool (decide (b.den-1=0)))) (AB O) (Ap (args:=[(aG (AZ b))]) O O call130) (λw hw=>F7 b w) O (AI O) (AH (v:=(Value.bool (decide (b.den-1=0)))) (AO O O) O (OkL.nil (OkQ.mid (sS O (sS O (sS O (sS O (sS O (sS (by first|rfl|(rw [hg1];rfl)|rw [hg1]) (sS (by first|rfl|(rw [hg1];rfl)|rw [hg1]) (sN)))))))) (List.Sublist.refl _)))))
  ·skip
   refine OkL.retell (k:=7) (u:=Value.bool false) O (by rw [hg1]) ?_
   have hg1':=hg1
   replace hg1':=of_decide_eq_false hg1'
   exact OkL.skip (AC O) O (AI O) (OkL.skip (AC O) O (AI O) (AH (v:=(Value.bool false)) (AJ O O) O (OkL.nil (OkQ.mid (sS O (sS O (sS O (sS O (sS O (sS (by first|rfl|(rw [hg1];rfl)|rw [hg1]) (sS (by first|rfl|(rw [hg1];rfl)|rw [hg1]) (sN)))))))) (List.Sublist.refl _)))))
 refine OkL.nil (OkQ.subF (sL [2,3,4,10] O) (OkQ.then_ ?_))
 refine OkC.cond O (λhc0=>?_) (λhc0=>?_)
 ·simp only [Bool.and_eq_true,Bool.or_eq_true,Bool.and_eq_false_iff,Bool.or_eq_false_iff,Bool.not_eq_true',Bool.not_eq_false',decide_eq_true_eq,decide_eq_false_iff_not] at hc0
  have he:=R2 hc0.1 hc0.2
  refine q4 (AH (v:=(pP b1 0)) (AA O underlying77 O sizeOf75 O) O (Ei 2 (A9 a.num) EE O (AH (v:=(pP b2 0)) (AA O underlying77 O sizeOf75 O) O (Ei 1 (A9 b.num) EE O (ck' call123 (I9 a.num b.num (by first|omega|(simp only [Int.natAbs_neg,BA,Int.natAbs_natCast];omega)) (by first|omega|(simp only [Int.natAbs_neg,BA,Int.natAbs_natCast];omega))) O (ck' call108 (KJ (a.num*b.num)) O (Ax O sizeOf77 O (OkL.nil (OkQ.subF (sL [2,3,4] O) (OkQ.then_ (OkC.ret ?_)))))))))))
  exact OkQ.then_ret (ret_one O (Ak (i:=0) (cs:=AZ ((a.num*b.num:Int):Rat)) O O isAgg77 sizeOf77 O) (λw hw=>⟨by rw [he],hw.out⟩))
 ·simp only [Bool.and_eq_true,Bool.or_eq_true,Bool.and_eq_false_iff,Bool.or_eq_false_iff,Bool.not_eq_true',Bool.not_eq_false',decide_eq_true_eq,decide_eq_false_iff_not] at hc0
  have he:=H9 a b
  refine OkC.skip (q1 (Cd [(0,true),(1,true),(2,true),(3,true),(5,true),(7,true),(4,false),(6,false),(8,false),(9,false),(10,false),(11,false)] (sl sr) (Al (v:=(pP b1 0)) O (AA O underlying77 O sizeOf75 O) (Ff 1 (A9 a.num) EE O (Al (v:=(pP b2 0)) O (AA O underlying77 O sizeOf75 O) (Ff 0 (A9 b.num) EE O (Ev 1 Cq O (Ev 0 Cq O (OkE.imp O (ck' call123 (I9 a.num b.num (by first|omega|(simp only [Int.natAbs_neg,BA,Int.natAbs_natCast];omega)) (by first|omega|(simp only [Int.natAbs_neg,BA,Int.natAbs_natCast];omega))) O (OkE.back (sl sr) ?_)))))))))))
  refine OkE.imp O (ck' call133 (den_ok a Z) O (OkE.back (sl sr) (OkE.imp O (ck' call133 (den_ok b Z) O (OkE.back (sl sr) (OkE.imp O (ck' call153 (PO a.den b.den Z Z) O (OkE.back (sl sr) (OkE.imp O (ck' call152 (Gh (a.num*b.num) (a.den*b.den) Z Z (by first|omega|assumption)) O (OkE.back (sl sr) ?_)))))))))))
  exact OkE.imp O (Ax O sizeOf77 O (OkE.back (sl sr) (OkE.nil (OkQ.subF (sL [2,3,4] O) (OkQ.then_ (OkC.ret (ret_one O (Ak (i:=0) (cs:=AZ (mkRat (a.num*b.num) (a.den*b.den))) O O isAgg77 sizeOf77 O) (λw hw=>⟨by rw [he],hw.out⟩))))))))
theorem Vx (a b:Rat) (hs:Sz a+Sz b<=549755813888) (hb:b≠0) (w:World)  :Calls prog 156 #[(aG (AZ a)),(aG (AZ b))] w (Ah w (Value.tuple #[(aG (AZ (a/b))),(vI 0)])):=by
 have s1:=Cr a
 have s2:=CZ a
 have s3:=Cr b
 have s4:=CZ b
 have s5:=CH a b
 have s6:=CH b a
 have s7:=GI a b
 have s8:=HE a b
 have s9:=D7 a.num b.num
 have s10:=D7 (a.num*((b.den:Nat):Int)) (b.num*((a.den:Nat):Int))
 have hda:=a.den_nz
 have hdb:=b.den_nz
 have hdab:a.den*b.den≠0:=Nat.mul_ne_zero hda hdb
 have hbn:b.num≠0:=λe=>hb (Rat.num_eq_zero.1 e)
 have hbs:b.num.sign≠0:=λe=>hbn (Int.sign_eq_zero_iff_zero.1 e)
 have hmi:nw (Dq (decide (b.num.sign<(0:Int))) b.den).natAbs=nw b.den:=by rw [BA]
 have hinv:=IL hb
 have hsi:=PL hb
 rw [<-hinv] at hsi
 refine Ab (args:=[(aG (AZ a)),(aG (AZ b))]) func156 O O (AI O) (OkC.subF (sL [0,1] O) (q4 (Be (cs:=AZ a) O λb1=>Be (cs:=AZ b) O λb2=>al IV O λb3=>asg' O (q6 (sL [2,3,4,5] O) (q4 (BH 1 Cq O (ck' call196 (NF b) O (AH (BG (c:=(decide (b.num.sign=(0:Int)))) O O O) O ?_))))))))
 refine OkL.nil (OkQ.subF (sL [2,3,4,5,9] O) (OkQ.then_ ?_))
 refine OkC.cond O (λhc0=>?_) (λhc0=>?_)
 ·replace hc0:=of_decide_eq_true hc0
  exact absurd hc0 hbs
 ·replace hc0:=of_decide_eq_false hc0
  refine OkC.skip (q1 (rN [(0,true),(3,true),(6,true),(7,true),(1,false),(2,true),(4,false),(5,false),(8,false),(9,false)] [⟨10,6,77,AZ (0:Rat)⟩] [(11,false)] sr (by kernel_rfl) (λ_ _ d _ _ h=>by cases d<;>exact h) (UK O O IV O (WD)) O (YR 1 Cq O (YR 1 Cq O (W6 (v:=(pP b2 0)) O (AA O underlying77 O sizeOf75 O) O (a9 1 (A9 b.num) EE O (Cw.imp O λEF EL=>ck' call196 (NF b) O (Cw.back0 sr O (W6 O (Ae (c:=(decide (b.num.sign<(0:Int)))) O O O) O (Cw.imp O λEF EL=>?_))))))))))
  refine ck' call133 (den_ok b Z) O (Cw.back0 sr O (Cw.imp O λEF EL=>ck' call171 (Eb (decide (b.num.sign<(0:Int))) b.den) O (Cw.back0 sr O (Cw.imp O λEF EL=>ck' call202 (MA b.num) O (Cw.back0 sr O (Cw.imp O λEF EL=>ck' call152 (Gh (Dq (decide (b.num.sign<(0:Int))) b.den) b.num.natAbs Z Z (by first|omega|assumption)) O (Cw.back0 sr O (Cw.news1 λb4=>?_))))))))
  refine OkE.imp O (Ax O sizeOf77 O (OkE.back (sl sr) (OkE.nil (OkQ.subF (sL [2,3,4,5,6] O) (q2 (BH 3 Cq O (BH 0 Cq O ?_)))))))
  have hz1:=GB a (mkRat (Dq (decide (b.num.sign<(0:Int))) b.den) b.num.natAbs)
  exact ck' call91 (QR a (mkRat (Dq (decide (b.num.sign<(0:Int))) b.den) b.num.natAbs) (by (try simp only [Dk]);omega)) O (EG O sizeOf77 O (asg' O (OkL.nil (OkQ.subF (sL [3,4,5,6] O) (OkQ.then_ (OkC.ret (C_ O (Ak (i:=1) (cs:=AZ (a*(mkRat (Dq (decide (b.num.sign<(0:Int))) b.den) b.num.natAbs))) O O isAgg77 sizeOf77 O) (rd_tmp (v:=(vI 0)) O) (λw hw=>⟨by rw [hinv,Rat.div_def],hw.out⟩))))))))
theorem JA (z:Int) (hz:-9223372036854775808<=z) (hz2:z<9223372036854775808) (w:World)  :Calls prog 40 #[(vI z)] w (Ah w (aG (AZ ((z:Int):Rat)))):=by
 refine Ab (args:=[(vI z)]) func40 O O (AI O) (OkC.subF (sL [0] O) (q4 (al IV O λb1=>OkL.nil (q2 (AM O (ck' call109 (Xh z Z Z) O (ck' call108 (KJ z) O (Ax O sizeOf77 O (OkL.nil (OkQ.subF (sL [2] O) ?_))))))))))
 exact OkQ.then_ (OkC.ret (ret_one O (Ak (i:=0) (cs:=AZ ((z:Int):Rat)) O O isAgg77 sizeOf77 O) (λw hw=>⟨rfl,hw.out⟩)))
end
section
instance:Add Pt:=⟨λa b=>⟨a.x+b.x,a.y+b.y⟩⟩
instance:Sub Pt:=⟨λa b=>⟨a.x-b.x,a.y-b.y⟩⟩
def Bd (a:Pt) (k:Rat):Pt:=⟨a.x*k,a.y*k⟩
def YJ (a b:Pt):Rat:=a.x*b.y-a.y*b.x
def Ig (a b c:Pt):Rat:=YJ (b-a) (c-a)
def Ds (p:Pt):Nat:=max (Sz p.x) (Sz p.y)
theorem E1 (p:Pt):Sz p.x<=Ds p:=Nat.le_max_left ..
theorem E7 (p:Pt):Sz p.y<=Ds p:=Nat.le_max_right ..
theorem MV {p:Pt} {k:Nat} (h1:Sz p.x<=k) (h2:Sz p.y<=k):Ds p<=k:=Nat.max_le.2 ⟨h1,h2⟩
theorem Hl (a b:Pt):Ds (a+b)<=Ds a+Ds b+1:=by
  have h1:=E1 a;have h2:=E7 a;have h3:=E1 b;have h4:=E7 b
  refine MV ?_ ?_
  · exact Nat.le_trans (GR a.x b.x) Z
  · exact Nat.le_trans (GR a.y b.y) Z
theorem V2 (a b:Pt):Ds (a-b)<=Ds a+Ds b+1:=by
  have h1:=E1 a;have h2:=E7 a;have h3:=E1 b;have h4:=E7 b
  refine MV ?_ ?_
  · exact Nat.le_trans (Mn a.x b.x) Z
  · exact Nat.le_trans (Mn a.y b.y) Z
theorem Fc (a:Pt) (k:Rat):Ds (Bd a k)<=Ds a+Sz k:=by
  have h1:=E1 a;have h2:=E7 a
  refine MV ?_ ?_
  · exact Nat.le_trans (GB a.x k) Z
  · exact Nat.le_trans (GB a.y k) Z
theorem Ww:Sz (1/2:Rat)<=1:=by decide +kernel
theorem Vh:((1:Int):Rat)/((2:Int):Rat)=1/2:=by decide +kernel
theorem IH {z:Int} (h1:-9223372036854775808<=z) (h2:z<9223372036854775808):Sz ((z:Int):Rat)<=2:=W4 (Kb (by show z.natAbs<_;omega)) (by show nw 1<=2;rw [H4];omega)
theorem VX (a b:Pt):BC (a+b)=AZ (a.x+b.x)++AZ (a.y+b.y):=rfl
theorem RL (a:Pt) (k:Rat):BC (Bd a k)=AZ (a.x*k)++AZ (a.y*k):=rfl
theorem Xo (x y:Rat):BC ⟨x,y⟩=AZ x++AZ y:=rfl
section
variable {P:Program} {Q:Exit->Act->World->Prop} {n:Nat} {F:List (Nat×Value)} {w0:A_} {L:List As} {c:Code}
def PU (P:Program) (c:Code) (Q:Exit->Act->World->Prop) (k n:Nat) (F:List (Nat×Value)) (w0:A_) (L:List As):Prop:=∀a w,Cn n a F->BD w0 w L->Code.rounds P c Q k a w
theorem OkC.unroll (k:Nat) (h:PU P c Q k n F w0 L):OkC P (.loop c) Q n F w0 L:=λa w ha hw=>wp_loop_rounds k (h a w ha hw)
theorem PU.step {k:Nat} (h:OkC P c (Exit.then (Code.rounds P c Q k) Q) n F w0 L):PU P c Q (k+1) n F w0 L:=λa w ha hw=>by
  rw [rounds_succ];exact h a w ha hw
theorem OkQ.again {k:Nat} (h:PU P c Q k n F w0 L):OkQ (Exit.then (Code.rounds P c Q k) Q) .normal n F w0 L:=h
end
end
section
set_option maxRecDepth 100000
theorem B6 (x0:Rat) (x1:Rat):Instr.fill ([(0,5),(5,5)].toArray[·]?) (BC (⟨0,0⟩:Pt)).toArray [(0,.agg (AZ x0).toArray),(1,.agg (AZ x1).toArray)]=some (AZ x0++AZ x1).toArray:=by kernel_rfl
theorem M4 (a b:Pt) (hs:Ds a+Ds b<=68719476736) (w:World)  :Calls prog 104 #[(aG (BC a)),(aG (BC b)),(Value.func (.func 90) #[] #[])] w (Ah w (aG (BC (a+b)))):=by
 have p1:=E1 a
 have p2:=E7 a
 have p3:=E1 b
 have p4:=E7 b
 refine Ab (args:=[(aG (BC a)),(aG (BC b)),(Value.func (.func 90) #[] #[])]) func104 O O (AI O) (OkC.subF (sL [0,1,2] O) (q4 (Be (cs:=BC a) O λb1=>Be (cs:=BC b) O λb2=>al Oi O λb3=>q6 (sL [2,3,4,6] O) (Cd [(0,true),(1,true),(2,true),(3,true),(4,true),(6,true),(7,true),(8,true),(9,true),(10,true),(5,false),(11,false),(12,true),(13,false)] (sl sr) (BV O (Al (v:=(pP b1 0)) O (AA O underlying99 O sizeOf77 O) (Ff 1 (AZ a.x) Cq O (Al (v:=(pP b2 0)) O (AA O underlying99 O sizeOf77 O) ?_))))))))
 refine Ff 0 (AZ b.x) Cq O (BV O (Al (v:=(pP b1 5)) O (AA O underlying99 O sizeOf77 O) (Ff 1 (AZ a.y) Cq O (Al (v:=(pP b2 5)) O (AA O underlying99 O sizeOf77 O) (Ff 0 (AZ b.y) Cq O (OkE.imp O ?_))))))
 have hz1:=GR a.x b.x
 refine ck' call90 (QL a.x b.x (by (try simp only [Dk]);omega)) O (OkE.back (sl sr) (OkE.imp O ?_))
 have hz2:=GR a.y b.y
 exact ck' call90 (QL a.y b.y (by (try simp only [Dk]);omega)) O (OkE.back (sl sr) (Al (v:=(aG (AZ (a.x+b.x)++AZ (a.y+b.y)))) O (AQ (zs:=BC (⟨0,0⟩:Pt)) (vs:=AZ (a.x+b.x)++AZ (a.y+b.y)) (pv:=[(0,(aG (AZ (a.x+b.x)))),(1,(aG (AZ (a.y+b.y))))]) (places:=[(0,5),(5,5)]) zeroValue99 underlying99 (λw=>by simp [sizeOf77]) O (B6 (a.x+b.x) (a.y+b.y))) (OkE.imp O (Ax O sizeOf99 O (OkE.back (sl sr) (OkE.nil (OkQ.subF (sL [6] O) (OkQ.then_ (OkC.ret (ret_one O (Ak (i:=0) (cs:=AZ (a.x+b.x)++AZ (a.y+b.y)) O O isAgg99 sizeOf99 O) (λw hw=>⟨by rw [VX],hw.out⟩)))))))))))
theorem LV (x y k:Rat) (bk:Nat) (hs:Sz x+Sz k<=137438953472) (w:World) (hk:w.heap[bk]?=some (.cells (AZ k).toArray 77 (0,0))):Calls prog 107 #[(aG (AZ x)),(aG (AZ y)),(pP bk 0)] w (Ah w (aG (AZ (x*k)))):=by
 refine Ab (args:=[(aG (AZ x)),(aG (AZ y)),(pP bk 0)]) func107 O O (AI O) (OkC.subF (sL [0,1,2] O) (q4 (Be (cs:=AZ x) O λb1=>Be (cs:=AZ y) O λb2=>al IV O λb3=>q3 (sL [2,3,5] O) (BH 2 Cq O (AH (v:=(aG (AZ k))) (Ej (vs:=AZ k) O (λw' hw=>hw.oldCA (by simp) (EM hk)) isAgg77 sizeOf77 O) O ?_)))))
 have hz1:=GB x k
 exact ck' call91 (QR x k (by (try simp only [Dk]);omega)) O (Ax O sizeOf77 O (OkL.nil (OkQ.subF (sL [5] O) (OkQ.then_ (OkC.ret (ret_one O (Ak (i:=0) (cs:=AZ (x*k)) O O isAgg77 sizeOf77 O) (λw hw=>⟨rfl,hw.out⟩)))))))
theorem Kk (a:Pt) (k:Rat) (bk:Nat) (hs:Ds a+Sz k<=137438953472) (w:World) (hk:w.heap[bk]?=some (.cells (AZ k).toArray 77 (0,0))):Calls prog 104 #[(aG (BC a)),(aG (BC a)),(Value.func (.func 107) #[] #[(pP bk 0)])] w (Ah w (aG (BC (Bd a k)))):=by
 have p1:=E1 a
 have p2:=E7 a
 refine Ab (args:=[(aG (BC a)),(aG (BC a)),(Value.func (.func 107) #[] #[(pP bk 0)])]) func104 O O (AI O) (OkC.subF (sL [0,1,2] O) (q4 (Be (cs:=BC a) O λb1=>Be (cs:=BC a) O λb2=>al Oi O λb3=>q6 (sL [2,3,4,6] O) (Cd [(0,true),(1,true),(2,true),(3,true),(4,true),(6,true),(7,true),(8,true),(9,true),(10,true),(5,false),(11,false),(12,true),(13,false)] (sl sr) (BV O (Al (v:=(pP b1 0)) O (AA O underlying99 O sizeOf77 O) (Ff 1 (AZ a.x) Cq O (Al (v:=(pP b2 0)) O (AA O underlying99 O sizeOf77 O) ?_))))))))
 refine Ff 0 (AZ a.x) Cq O (BV O (Al (v:=(pP b1 5)) O (AA O underlying99 O sizeOf77 O) (Ff 1 (AZ a.y) Cq O (Al (v:=(pP b2 5)) O (AA O underlying99 O sizeOf77 O) (Ff 0 (AZ a.y) Cq O (OkE.imp O (OkL.call (v:=(aG (AZ (a.x*k)))) (AP O) (H1 (args:=[(aG (AZ a.x)),(aG (AZ a.x))]) (caps:=[(pP bk 0)]) (all:=[(aG (AZ a.x)),(aG (AZ a.x)),(pP bk 0)]) O O O call107) (λw hw=>LV a.x a.x k bk Z w (hw.old (by simp) hk)) O (AI O) (OkE.back (sl sr) (OkE.imp O (OkL.call (v:=(aG (AZ (a.y*k)))) (AP O) (H1 (args:=[(aG (AZ a.y)),(aG (AZ a.y))]) (caps:=[(pP bk 0)]) (all:=[(aG (AZ a.y)),(aG (AZ a.y)),(pP bk 0)]) O O O call107) (λw hw=>LV a.y a.y k bk Z w (hw.old (by simp) hk)) O (AI O) (OkE.back (sl sr) ?_)))))))))))
 exact Al (v:=(aG (AZ (a.x*k)++AZ (a.y*k)))) O (AQ (zs:=BC (⟨0,0⟩:Pt)) (vs:=AZ (a.x*k)++AZ (a.y*k)) (pv:=[(0,(aG (AZ (a.x*k)))),(1,(aG (AZ (a.y*k))))]) (places:=[(0,5),(5,5)]) zeroValue99 underlying99 (λw=>by simp [sizeOf77]) O (B6 (a.x*k) (a.y*k))) (OkE.imp O (Ax O sizeOf99 O (OkE.back (sl sr) (OkE.nil (OkQ.subF (sL [6] O) (OkQ.then_ (OkC.ret (ret_one O (Ak (i:=0) (cs:=AZ (a.x*k)++AZ (a.y*k)) O O isAgg99 sizeOf99 O) (λw hw=>⟨by rw [RL],hw.out⟩)))))))))
theorem Vn (a b:Pt) (hs:Ds a+Ds b<=68719476736) (w:World)  :Calls prog 36 #[(aG (BC a)),(aG (BC b))] w (Ah w (aG (BC (a+b)))):=by
 refine Ab (args:=[(aG (BC a)),(aG (BC b))]) func36 O O (AI O) (OkC.subF (sL [0,1] O) (q4 (Be (cs:=BC a) O λb1=>Be (cs:=BC b) O λb2=>al Oi O λb3=>q3 (sL [2,3,4] O) (BH 2 Ha O (BH 1 Ha O (ck' call104 (M4 a b Z) O (Ax O sizeOf99 O (OkL.nil ?_))))))))
 exact OkQ.subF (sL [4] O) (OkQ.then_ (OkC.ret (ret_one O (Ak (i:=0) (cs:=BC (a+b)) O O isAgg99 sizeOf99 O) (λw hw=>⟨rfl,hw.out⟩))))
theorem RV (a:Pt) (k:Rat) (hs:Ds a+Sz k<=137438953472) (w:World)  :Calls prog 39 #[(aG (BC a)),(aG (AZ k))] w (Ah w (aG (BC (Bd a k)))):=by
 refine Ab (args:=[(aG (BC a)),(aG (AZ k))]) func39 O O (AI O) (OkC.subF (sL [0,1] O) (q4 (Be (cs:=BC a) O λb1=>Be (cs:=AZ k) O λb2=>al Oi O λb3=>q3 (sL [2,3,4] O) (BH 2 Ha O (BH 2 Ha O (AH (v:=(Value.func (.func 107) #[] #[(pP b2 0)])) (GC (vs:=[]) (us:=[(pP b2 0)]) O O) O (Ce call104 (λw hw=>Kk a k b2 Z w (hw.get (i:=1) O)) O (Ax O sizeOf99 O ?_))))))))
 exact OkL.nil (OkQ.subF (sL [4] O) (OkQ.then_ (OkC.ret (ret_one O (Ak (i:=0) (cs:=BC (Bd a k)) O O isAgg99 sizeOf99 O) (λw hw=>⟨rfl,hw.out⟩)))))
theorem Gm (x y:Int) (h1:-9223372036854775808<=x) (h2:x<9223372036854775808) (h3:-9223372036854775808<=y) (h4:y<9223372036854775808) (w:World)  :Calls prog 42 #[(vI x),(vI y)] w (Ah w (aG (BC (⟨((x:Int):Rat),((y:Int):Rat)⟩:Pt)))):=by
 refine Ab (args:=[(vI x),(vI y)]) func42 O O (AI O) (OkC.subF (sL [0,1] O) (q4 (al Oi O λb1=>OkL.nil (q2 (AM O (ck' call40 (JA x Z Z) O (AM O (ck' call40 (JA y Z Z) O (AH (v:=(aG (AZ ((x:Int):Rat)++AZ ((y:Int):Rat)))) (AQ (zs:=BC (⟨0,0⟩:Pt)) (vs:=AZ ((x:Int):Rat)++AZ ((y:Int):Rat)) (pv:=[(0,(aG (AZ ((x:Int):Rat)))),(1,(aG (AZ ((y:Int):Rat))))]) (places:=[(0,5),(5,5)]) zeroValue99 underlying99 (λw=>by simp [sizeOf77]) O (B6 ((x:Int):Rat) ((y:Int):Rat))) O (Ax O sizeOf99 O ?_))))))))))
 exact OkL.nil (OkQ.subF (sL [4] O) (OkQ.then_ (OkC.ret (ret_one O (Ak (i:=0) (cs:=AZ ((x:Int):Rat)++AZ ((y:Int):Rat)) O O isAgg99 sizeOf99 O) (λw hw=>⟨by rw [Xo],hw.out⟩)))))
end
section
set_option maxRecDepth 100000
theorem TK (x y:Int) (h1:-9223372036854775808<=x) (h2:x<9223372036854775808) (h3:-9223372036854775808<=y) (h4:y<9223372036854775808) (hy:y≠0) (w:World)  :Calls prog 93 #[(vI x),(vI y)] w (Ah w (Value.tuple #[(aG (AZ (((x:Int):Rat)/((y:Int):Rat)))),(vI 0)])):=by
 have hb:((y:Int):Rat)≠0:=λe=>hy (by exact_mod_cast e)
 have s1:=IH h1 h2
 have s2:=IH h3 h4
 refine Ab (args:=[(vI x),(vI y)]) func93 O O (AI O) (OkC.subF (sL [0,1] O) (q4 (al IV O λb1=>asg' O (OkL.nil (q2 (AM O (ck' call40 (JA x Z Z) O (AM O (ck' call40 (JA y Z Z) O ?_)))))))))
 have hz1:=OS (a:=((x:Int):Rat)) (b:=((y:Int):Rat)) (by assumption)
 exact ck' call156 (Vx ((x:Int):Rat) ((y:Int):Rat) Z (by assumption)) O (AH (AV (v:=(aG (AZ (((x:Int):Rat)/((y:Int):Rat))))) O O) O (AH (AV (v:=(vI 0)) O O) O (Ax O sizeOf77 O (asg' O (OkL.nil (OkQ.subF (sL [4,5] O) (OkQ.then_ (OkC.ret (C_ O (Ak (i:=0) (cs:=AZ (((x:Int):Rat)/((y:Int):Rat))) O O isAgg77 sizeOf77 O) (rd_tmp (v:=(vI 0)) O) (λw hw=>⟨rfl,hw.out⟩))))))))))
theorem Tk  (w:World)  :Calls prog 113 #[] w (Ah w (aG (AZ ((1:Rat)/2)))):=by
 refine Ab (args:=[]) func113 O O (AI O) (OkC.subF sN (q4 (al IV O λb1=>OkL.nil (q2 (ck' call93 (TK (1:Int) (2:Int) Z Z Z Z Z) O (AM O (AH (AV (v:=(aG (AZ (((1:Int):Rat)/((2:Int):Rat))))) O O) O (OkL.retell (k:=5) (u:=(aG (AZ ((1:Rat)/2)))) O (by rw [Vh]) (AH (AV (v:=(vI 0)) O O) O (al IV O λb2=>?_))))))))))
 exact Ax O sizeOf77 O (asg' O (q3 (sL [0,1] O) (BH 0 Cq O (EG O sizeOf77 O (OkL.nil (OkQ.subF (sL [0,1] O) (OkQ.then_ (OkC.ret (ret_one O (Ak (i:=1) (cs:=AZ ((1:Rat)/2)) O O isAgg77 sizeOf77 O) (λw hw=>⟨rfl,hw.out⟩))))))))))
theorem Pn (a b:Pt) (hs:Ds a+Ds b<=17179869184) (w:World)  :Calls prog 54 #[(aG (BC a)),(aG (BC b))] w (Ah w (aG (BC (Bd (a+b) (1/2))))):=by
 have sh:=Ww
 refine Ab (args:=[(aG (BC a)),(aG (BC b))]) func54 O O (AI O) (OkC.subF (sL [0,1] O) (q4 (Be (cs:=BC a) O λb1=>Be (cs:=BC b) O λb2=>al Oi O λb3=>q3 (sL [2,3,4] O) (BH 2 Ha O (BH 1 Ha O ?_)))))
 have hz1:=Hl a b
 refine ck' call36 (Vn a b Z) O (ck' call113 (Tk) O ?_)
 have hz2:=Fc (a+b) ((1:Rat)/2)
 exact ck' call39 (RV (a+b) ((1:Rat)/2) Z) O (Ax O sizeOf99 O (OkL.nil (OkQ.subF (sL [4] O) (OkQ.then_ (OkC.ret (ret_one O (Ak (i:=0) (cs:=BC (Bd (a+b) ((1:Rat)/2))) O O isAgg99 sizeOf99 O) (λw hw=>⟨rfl,hw.out⟩)))))))
end
section
set_option maxRecDepth 100000
end
def zq (q:Rat):Nat:=if q.num.sign=0 then 1 else 0
section
set_option maxRecDepth 100000
end
section
set_option maxRecDepth 100000
end
section
set_option maxRecDepth 100000
end
section
set_option maxRecDepth 100000
end
section
section
variable {P:Program} {n:Nat} {F:List (Nat×Value)} {w0:A_} {L:List As} {v:Value} {x:Operand} {d:Option Tmp} {t:TypeId} {p:String} {af:Array Edge} {g:Option (Nat×Bool)}
end
end
section
set_option maxRecDepth 100000
end
section
set_option maxRecDepth 100000
end
section
set_option maxRecDepth 100000
end
section
set_option maxRecDepth 100000
end
section
set_option maxRecDepth 100000
end
section
set_option maxRecDepth 100000
end
section
section
variable {P:Program} {n:Nat} {F:List (Nat×Value)} {w0:A_} {L:List As} {v:Value} {x lo hi:Operand} {d:Option Tmp} {t:TypeId} {p:String} {af:Array Edge} {g:Option (Nat×Bool)}
end
end
section
set_option maxRecDepth 100000
end
def ng (q:Rat):Nat:=if q.num.sign<0 then 1 else 0
end Go.Proofs.YtpolhpjiahbidaaGreatDoor
