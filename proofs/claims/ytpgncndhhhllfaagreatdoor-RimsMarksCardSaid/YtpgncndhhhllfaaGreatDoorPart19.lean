import Derived.Test.YtpgncndhhhllfaaGreatDoorPart03
import Derived.Test.YtpgncndhhhllfaaGreatDoorPart06
import Derived.Test.YtpgncndhhhllfaaGreatDoorPart07
import Derived.Test.YtpgncndhhhllfaaGreatDoorPart08
import Derived.Test.YtpgncndhhhllfaaGreatDoorPart09
import Derived.Test.YtpgncndhhhllfaaGreatDoorPart15
import Derived.Test.YtpgncndhhhllfaaGreatDoorPart18
namespace Go.Proofs.YtpgncndhhhllfaaGreatDoor
open Go Go.RowKit Go.Proofs.Tryz
set_option linter.unusedVariables false
set_option linter.unusedSimpArgs false
section
set_option maxRecDepth 100000
theorem Eq (x0:Int) (x1:Nat):Instr.fill ([(0,3),(3,2)].toArray[·]?) (Ap (0:Rat)).toArray [(0,.agg (BQ x0).toArray),(1,.agg (Aa x1).toArray)]=some (BQ x0++Aa x1).toArray:=by kernel_rfl
theorem KW (n:Int) (d:Nat) (hn:nw n.natAbs<=1099511627776) (hd:nw d<=1099511627776) (hd0:d≠0) (w:World)  :Calls Tryz.prog 56 #[(aG (BQ n)),(aG (Aa d))] w (An w (aG (Ap (mkRat n d)))):=by
 have hg:Nat.gcd n.natAbs d≠0:=λh=>hd0 (Nat.eq_zero_of_gcd_eq_zero_right h)
 have hgw:nw (Nat.gcd n.natAbs d)<=nw d:=Ca (Nat.gcd_le_right _ (Nat.pos_of_ne_zero hd0))
 have hqw:nw (d/Nat.gcd n.natAbs d)<=nw d:=Ca (Nat.div_le_self _ _)
 have h1w:=HX
 refine Ag (args:=[(aG (BQ n)),(aG (Aa d))]) Tryz.func56 rfl rfl (AY rfl) (AF.subF (sL [0,1] rfl) (q4 (B9 (cs:=BQ n) rfl λb1=>B9 (cs:=Aa d) rfl λb2=>al LP rfl λb3=>?_)))
 refine q6 (sL [2,3,4] rfl) (rN [(0,true),(2,true),(1,false),(3,false)] [⟨4,5,42,Aa 0⟩] [(5,false)] sr (by kernel_rfl) (λ_ _ d _ _ h=>by cases d<;>exact h) (QF rfl rfl F3 rfl (Si)) rfl (XB 2 GJ rfl (XB 1 CT rfl (Cb.imp rfl λEF EL=>ck' Tryz.call101 (K8 n) rfl ?_))))
 refine Cb.back0 sr rfl (Cb.imp rfl λEF EL=>ck' Tryz.call100 (XA n.natAbs d (by omega) (by omega)) rfl (Cb.back0 sr rfl (Cb.news1 λb4=>OkE.imp rfl ?_)))
 refine BC rfl Tryz.sizeOf42 rfl (OkE.back (sl sr) (OkE.nil (AC.subF (sL [2,3,4,5] rfl) (q1 (rN [(0,true),(2,true),(1,false),(3,false),(4,true),(5,true),(6,true),(7,true)] [⟨8,6,42,Aa 0⟩,⟨9,7,42,Aa 0⟩] [(10,false),(11,false),(12,true)] sr (by kernel_rfl) (λ_ _ d _ _ h=>by cases d<;>exact h) (QF rfl rfl F3 rfl (QF rfl rfl F3 rfl (Si))) rfl ?_)))))
 refine XB 3 GJ rfl (XB 0 CT rfl (Cb.imp rfl λEF EL=>ck' Tryz.call101 (K8 n) rfl (Cb.back0 sr rfl (Cb.imp rfl λEF EL=>?_))))
 refine ck' Tryz.call102 (OD n.natAbs (Nat.gcd n.natAbs d) (by omega) (by omega) (by omega)) rfl (Cb.back0 sr rfl (ZL rfl (Qn rfl (AS (v:=(aG (Aa (n.natAbs/(Nat.gcd n.natAbs d))))) rfl rfl) rfl (Qn rfl (AS (v:=(aG (Aa (n.natAbs%(Nat.gcd n.natAbs d))))) rfl rfl) rfl (Qn rfl (AS (v:=(Value.bool true)) rfl rfl) rfl ?_)))))
 refine Cb.news2 λb5 b6=>OkE.imp rfl (BC rfl Tryz.sizeOf42 rfl (OkE.back (sl (sl sr)) (OkE.imp rfl (Ej rfl Tryz.sizeOf42 rfl ?_))))
 refine OkE.back (sl (sl sr)) (pS' rfl (OkE.nil (AC.subF (sL [2,3,4,5,6] rfl) (q2 (BF 4 CT rfl ?_)))))
 refine BF 2 CT rfl (ck' Tryz.call102 (OD d (Nat.gcd n.natAbs d) (by omega) (by omega) (by omega)) rfl (AJ rfl (AH (AS (v:=(aG (Aa (d/(Nat.gcd n.natAbs d))))) rfl rfl) rfl (AH (AS (v:=(aG (Aa (d%(Nat.gcd n.natAbs d))))) rfl rfl) rfl (AH (AS (v:=(Value.bool true)) rfl rfl) rfl ?_)))))
 refine al F3 rfl λb7=>al F3 rfl λb8=>Ej rfl Tryz.sizeOf42 rfl (BC rfl Tryz.sizeOf42 rfl (asg' rfl (q6 (sL [2,3,4,5,6,9] rfl) ?_)))
 refine rC [(0,true),(1,false),(2,false),(3,true),(4,true),(5,true)] 6 [] sr (sk (sl sr)) (by kernel_rfl) (λ_ _ d _ _ h=>by cases d<;>exact h) (vE (v:=(aG (Aa (d/(Nat.gcd n.natAbs d))))) rfl (BI (i:=1) (vs:=Aa (d/(Nat.gcd n.natAbs d))) rfl rfl CT.a CT.s rfl rfl) rfl (DG.imp rfl (ck' Tryz.call104 (Ig 1 (by omega)) rfl (DG.back sr (DG.imp rfl ?_)))))
 refine ck' Tryz.call103 (V2 (d/(Nat.gcd n.natAbs d)) 1 (by omega) (by omega)) rfl (DG.back sr (vM rfl rfl rfl (vE rfl (AS (v:=(aG (Aa ((d/(Nat.gcd n.natAbs d))-1)))) rfl rfl) rfl (vE rfl (AS (v:=(Value.bool (decide (1<=d/(Nat.gcd n.natAbs d))))) rfl rfl) rfl (DG.cut rfl ?_)))))
 refine Ej rfl Tryz.sizeOf42 rfl (OkE.back (sk (sl sr)) (OkE.nil (AC.subF (sL [2,3,4,5,6,9] rfl) (q1 (Cw [(0,true),(3,true),(5,true),(1,false),(2,true),(4,false),(6,true),(7,false)] (sk (sk (sk (sk (sk (sl sr)))))) ?_)))))
 refine GO 6 GJ rfl (GO 2 CT rfl (GO 1 CT rfl (OkE.imp rfl (ck' Tryz.call106 (Ms n) rfl (OkE.back (sk (sk (sk (sk (sk (sl sr)))))) ?_)))))
 refine Aw rfl (Ad (c:=(decide (n.sign<(0:Int)))) rfl rfl rfl) (OkE.imp rfl (ck' Tryz.call105 (G9 (decide (n.sign<(0:Int))) (n.natAbs/(Nat.gcd n.natAbs d))) rfl (OkE.back (sk (sk (sk (sk (sk (sl sr)))))) (Aw (v:=(aG (BQ (EX (decide (n.sign<(0:Int))) (n.natAbs/(Nat.gcd n.natAbs d)))++Aa ((d/(Nat.gcd n.natAbs d))-1)))) rfl (AU (zs:=Ap (0:Rat)) (vs:=BQ (EX (decide (n.sign<(0:Int))) (n.natAbs/(Nat.gcd n.natAbs d)))++Aa ((d/(Nat.gcd n.natAbs d))-1)) (pv:=[(0,(aG (BQ (EX (decide (n.sign<(0:Int))) (n.natAbs/(Nat.gcd n.natAbs d)))))),(1,(aG (Aa ((d/(Nat.gcd n.natAbs d))-1))))]) (places:=[(0,3),(3,2)]) Tryz.zeroValue48 Tryz.underlying48 (λw=>by simp [Tryz.sizeOf42,Tryz.sizeOf46]) rfl (Eq (EX (decide (n.sign<(0:Int))) (n.natAbs/(Nat.gcd n.natAbs d))) ((d/(Nat.gcd n.natAbs d))-1))) (OkE.imp rfl ?_)))))
 exact IM 5 (off:=0) (vs:=BQ (EX (decide (n.sign<(0:Int))) (n.natAbs/(Nat.gcd n.natAbs d)))++Aa ((d/(Nat.gcd n.natAbs d))-1)) (cs':=BQ (EX (decide (n.sign<(0:Int))) (n.natAbs/(Nat.gcd n.natAbs d)))++Aa ((d/(Nat.gcd n.natAbs d))-1)) (AO rfl) rfl Tryz.sizeOf48 rfl (OkE.back (sk (sk (sk (sk (sk (sl sr)))))) (OkE.nil (AC.subF (sL [2,3,4,5,6,9] rfl) (AC.then_ (AF.ret (AN rfl (BB (i:=5) (cs:=BQ (EX (decide (n.sign<(0:Int))) (n.natAbs/(Nat.gcd n.natAbs d)))++Aa ((d/(Nat.gcd n.natAbs d))-1)) rfl rfl Tryz.isAgg48 Tryz.sizeOf48 rfl) (λw hw=>⟨by rw [Lv,Pn hd0,O1 hd0],hw.out⟩)))))))
theorem Gm (x0:Int):Instr.fill ([(0,3),(3,2)].toArray[·]?) (Ap (0:Rat)).toArray [(0,.agg (BQ x0).toArray)]=some (BQ x0++Aa ((0:Rat).den-1)).toArray:=by kernel_rfl
theorem Mc (n:Int) (w:World)  :Calls Tryz.prog 54 #[(aG (BQ n))] w (An w (aG (Ap ((n:Int):Rat)))):=by
 refine Ag (args:=[(aG (BQ n))]) Tryz.func54 rfl rfl (AY rfl) (AF.subF (sL [0] rfl) (q4 (B9 (cs:=BQ n) rfl λb1=>al LP rfl λb2=>q3 (sL [1,2] rfl) ?_)))
 refine BF 1 GJ rfl (AH (v:=(aG (BQ n++Aa ((0:Rat).den-1)))) (AU (zs:=Ap (0:Rat)) (vs:=BQ n++Aa ((0:Rat).den-1)) (pv:=[(0,(aG (BQ n)))]) (places:=[(0,3),(3,2)]) Tryz.zeroValue48 Tryz.underlying48 (λw=>by simp [Tryz.sizeOf42,Tryz.sizeOf46]) rfl (Gm n)) rfl (BC rfl Tryz.sizeOf48 rfl (AD.nil (AC.subF (sL [2] rfl) (AC.then_ ?_)))))
 exact AF.ret (AN rfl (BB (i:=0) (cs:=BQ n++Aa ((0:Rat).den-1)) rfl rfl Tryz.isAgg48 Tryz.sizeOf48 rfl) (λw hw=>⟨rfl,hw.out⟩))
theorem J5  :Instr.fill ([(0,1),(1,1)].toArray[·]?) (Aa 0).toArray []=some (Aa 0).toArray:=by kernel_rfl
theorem Iv (a:Rat) (w:World)  :Calls Tryz.prog 53 #[(aG (Ap a))] w (An w (Value.bool (decide (a.den-1=0)))):=by
 refine Ag (args:=[(aG (Ap a))]) Tryz.func53 rfl rfl (AY rfl) (AF.subF (sL [0] rfl) (q4 (B9 (cs:=Ap a) rfl λb1=>asg' rfl (q3 (sL [1,2] rfl) ?_))))
 refine AH (v:=(pP b1 3)) (AA rfl Tryz.underlying48 rfl Tryz.sizeOf42 rfl) rfl (Gi 0 (Aa (a.den-1)) CT rfl (AH (v:=(aG (Aa 0))) (AU (zs:=Aa 0) (vs:=Aa 0) (pv:=[]) (places:=[(0,1),(1,1)]) Tryz.zeroValue42 Tryz.underlying42 (λw=>by simp [Tryz.sizeOf9,Tryz.sizeOf40]) rfl (J5 )) rfl (AH (Cq (c:=(decide (a.den-1=0))) rfl rfl Tryz.eqGuardType42 (IV 9998 (a.den-1) 0)) rfl (asg' rfl (AD.nil ?_)))))
 exact AC.subF (sL [2] rfl) (AC.then_ (AF.ret (AN rfl (AQ (v:=(Value.bool (decide (a.den-1=0)))) rfl) (λw hw=>⟨rfl,hw.out⟩))))
theorem den_ok (a:Rat) (ha:nw a.den<=1099511627776) (w:World)  :Calls Tryz.prog 57 #[(aG (Ap a))] w (An w (aG (Aa a.den))):=by
 have h1w:=HX
 have h2w:=Ca (Nat.sub_le a.den 1)
 refine Ag (args:=[(aG (Ap a))]) Tryz.func57 rfl rfl (AY rfl) (AF.subF (sL [0] rfl) (q4 (B9 (cs:=Ap a) rfl λb1=>al F3 rfl λb2=>q6 (sL [1,2] rfl) ?_)))
 refine Cw [(0,true),(1,true),(2,false),(3,false),(4,false)] (sl sr) (Aw (v:=(pP b1 3)) rfl (AA rfl Tryz.underlying48 rfl Tryz.sizeOf42 rfl) (Qf 0 (Aa (a.den-1)) CT rfl (OkE.imp rfl (ck' Tryz.call104 (Ig 1 (by omega)) rfl (OkE.back (sl sr) ?_)))))
 refine OkE.imp rfl (ck' Tryz.call107 (Vy (a.den-1) 1 (by omega) (by omega)) rfl (OkE.back (sl sr) (OkE.imp rfl (BC rfl Tryz.sizeOf42 rfl (OkE.back (sl sr) ?_)))))
 exact OkE.nil (AC.subF (sL [2] rfl) (AC.then_ (AF.ret (AN rfl (BB (i:=0) (cs:=Aa ((a.den-1)+1)) rfl rfl Tryz.isAgg42 Tryz.sizeOf42 rfl) (λw hw=>⟨by rw [Nat.sub_add_cancel a.den_pos],hw.out⟩)))))
theorem Mb (a:Rat) (w:World)  :Calls Tryz.prog 179 #[(aG (Ap a))] w (An w (vI a.num.sign)):=by
 refine Ag (args:=[(aG (Ap a))]) Tryz.func179 rfl rfl (AY rfl) (AF.subF (sL [0] rfl) (q4 (B9 (cs:=Ap a) rfl λb1=>asg' rfl (q3 (sL [1,2] rfl) ?_))))
 refine AH (v:=(pP b1 0)) (AA rfl Tryz.underlying48 rfl Tryz.sizeOf46 rfl) rfl (Gi 0 (BQ a.num) GJ rfl (ck' Tryz.call106 (Ms a.num) rfl (asg' rfl (AD.nil (AC.subF (sL [2] rfl) ?_)))))
 exact AC.then_ (AF.ret (AN rfl (AQ (v:=(vI a.num.sign)) rfl) (λw hw=>⟨rfl,hw.out⟩)))
theorem UG (a b:Rat) (hs:Sz a+Sz b<=549755813888) (w:World)  :Calls Tryz.prog 192 #[(aG (Ap a)),(aG (Ap b))] w (An w (aG (Ap (a*b)))):=by
 have s1:=DT a
 have s2:=C0 a
 have s3:=DT b
 have s4:=C0 b
 have s5:=Dp a b
 have s6:=Dp b a
 have s7:=Jc a b
 have s8:=JY a b
 have s9:=GE a.num b.num
 have s10:=GE (a.num*((b.den:Nat):Int)) (b.num*((a.den:Nat):Int))
 have hda:=a.den_nz
 have hdb:=b.den_nz
 have hdab:a.den*b.den≠0:=Nat.mul_ne_zero hda hdb
 refine Ag (args:=[(aG (Ap a)),(aG (Ap b))]) Tryz.func192 rfl rfl (AY rfl) (AF.subF (sL [0,1] rfl) (q4 (B9 (cs:=Ap a) rfl λb1=>B9 (cs:=Ap b) rfl λb2=>al LP rfl λb3=>?_)))
 refine q6 (sL [2,3,4] rfl) (q4 (BF 2 Fi rfl (ck' Tryz.call53 (Iv a) rfl (AJ rfl ?_))))
 refine AD.mid (FM:=[(2,(pP b1 0)),(3,(pP b2 0)),(4,(pP b3 0)),(5,(aG (Ap a))),(6,(Value.bool (decide (a.den-1=0)))),(7,(Value.bool (decide (a.den-1=0)))),(10,(Value.bool ((decide (a.den-1=0))&&(decide (b.den-1=0)))))]) (LM:=[Ab b3 48 (Ap (0:Rat)),Ab b2 48 (Ap b),Ab b1 48 (Ap a)]) 3 ?_ ?_
 ·rcases Bool.eq_false_or_eq_true (decide (a.den-1=0)) with hg1|hg1
  ·skip
   refine AD.retell (k:=7) (u:=Value.bool true) rfl (by rw [hg1]) ?_
   have hg1':=hg1
   replace hg1':=of_decide_eq_true hg1'
   exact AD.step (v:=(aG (Ap b))) (AB rfl) (BI (i:=1) (vs:=Ap b) rfl rfl Fi.a Fi.s rfl rfl) rfl (AY rfl) (AD.call (v:=(Value.bool (decide (b.den-1=0)))) (AB rfl) (Ay (args:=[(aG (Ap b))]) rfl rfl Tryz.call53) (λw hw=>Iv b w) rfl (AY rfl) (AH (v:=(Value.bool (decide (b.den-1=0)))) (AT rfl rfl) rfl (AD.nil (AC.mid (sS rfl (sS rfl (sS rfl (sS rfl (sS rfl (sS (by first|rfl|(rw [hg1];rfl)|rw [hg1]) (sS (by first|rfl|(rw [hg1];rfl)|rw [hg1]) (sN)))))))) (List.Sublist.refl _)))))
  ·skip
   refine AD.retell (k:=7) (u:=Value.bool false) rfl (by rw [hg1]) ?_
   have hg1':=hg1
   replace hg1':=of_decide_eq_false hg1'
   exact AD.skip (AG rfl) rfl (AY rfl) (AD.skip (AG rfl) rfl (AY rfl) (AH (v:=(Value.bool false)) (AV rfl rfl) rfl (AD.nil (AC.mid (sS rfl (sS rfl (sS rfl (sS rfl (sS rfl (sS (by first|rfl|(rw [hg1];rfl)|rw [hg1]) (sS (by first|rfl|(rw [hg1];rfl)|rw [hg1]) (sN)))))))) (List.Sublist.refl _)))))
 refine AD.nil (AC.subF (sL [2,3,4,10] rfl) (AC.then_ ?_))
 refine AF.cond rfl (λhc0=>?_) (λhc0=>?_)
 ·simp only [Bool.and_eq_true,Bool.or_eq_true,Bool.and_eq_false_iff,Bool.or_eq_false_iff,Bool.not_eq_true',Bool.not_eq_false',decide_eq_true_eq,decide_eq_false_iff_not] at hc0
  have he:=QI hc0.1 hc0.2
  refine q4 (AH (v:=(pP b1 0)) (AA rfl Tryz.underlying48 rfl Tryz.sizeOf46 rfl) rfl (Gi 2 (BQ a.num) GJ rfl (AH (v:=(pP b2 0)) (AA rfl Tryz.underlying48 rfl Tryz.sizeOf46 rfl) rfl (Gi 1 (BQ b.num) GJ rfl (ck' Tryz.call58 (PP a.num b.num (by first|omega|(simp only [Int.natAbs_neg,Bp,Int.natAbs_natCast];omega)) (by first|omega|(simp only [Int.natAbs_neg,Bp,Int.natAbs_natCast];omega))) rfl ?_)))))
  refine ck' Tryz.call54 (Mc (a.num*b.num)) rfl (BC rfl Tryz.sizeOf48 rfl (AD.nil (AC.subF (sL [2,3,4] rfl) (AC.then_ (AF.ret ?_)))))
  exact AC.then_ret (AN rfl (BB (i:=0) (cs:=Ap ((a.num*b.num:Int):Rat)) rfl rfl Tryz.isAgg48 Tryz.sizeOf48 rfl) (λw hw=>⟨by rw [he],hw.out⟩))
 ·simp only [Bool.and_eq_true,Bool.or_eq_true,Bool.and_eq_false_iff,Bool.or_eq_false_iff,Bool.not_eq_true',Bool.not_eq_false',decide_eq_true_eq,decide_eq_false_iff_not] at hc0
  have he:=HV a b
  refine AF.skip (q1 (Cw [(0,true),(1,true),(2,true),(3,true),(5,true),(7,true),(4,false),(6,false),(8,false),(9,false),(10,false),(11,false)] (sl sr) (Aw (v:=(pP b1 0)) rfl (AA rfl Tryz.underlying48 rfl Tryz.sizeOf46 rfl) (Qf 1 (BQ a.num) GJ rfl (Aw (v:=(pP b2 0)) rfl (AA rfl Tryz.underlying48 rfl Tryz.sizeOf46 rfl) ?_)))))
  refine Qf 0 (BQ b.num) GJ rfl (GO 1 Fi rfl (GO 0 Fi rfl (OkE.imp rfl (ck' Tryz.call58 (PP a.num b.num (by first|omega|(simp only [Int.natAbs_neg,Bp,Int.natAbs_natCast];omega)) (by first|omega|(simp only [Int.natAbs_neg,Bp,Int.natAbs_natCast];omega))) rfl (OkE.back (sl sr) ?_)))))
  refine OkE.imp rfl (ck' Tryz.call57 (den_ok a (by omega)) rfl (OkE.back (sl sr) (OkE.imp rfl (ck' Tryz.call57 (den_ok b (by omega)) rfl (OkE.back (sl sr) ?_)))))
  refine OkE.imp rfl (ck' Tryz.call60 (RT a.den b.den (by omega) (by omega)) rfl (OkE.back (sl sr) (OkE.imp rfl (ck' Tryz.call56 (KW (a.num*b.num) (a.den*b.den) (by omega) (by omega) (by first|omega|assumption)) rfl (OkE.back (sl sr) ?_)))))
  refine OkE.imp rfl (BC rfl Tryz.sizeOf48 rfl (OkE.back (sl sr) (OkE.nil (AC.subF (sL [2,3,4] rfl) (AC.then_ ?_)))))
  exact AF.ret (AN rfl (BB (i:=0) (cs:=Ap (mkRat (a.num*b.num) (a.den*b.den))) rfl rfl Tryz.isAgg48 Tryz.sizeOf48 rfl) (λw hw=>⟨by rw [he],hw.out⟩))
theorem VL (a b:Rat) (hs:Sz a+Sz b<=549755813888) (hb:b≠0) (w:World)  :Calls Tryz.prog 217 #[(aG (Ap a)),(aG (Ap b))] w (An w (Value.tuple #[(aG (Ap (a/b))),(vI 0)])):=by
 have s1:=DT a
 have s2:=C0 a
 have s3:=DT b
 have s4:=C0 b
 have s5:=Dp a b
 have s6:=Dp b a
 have s7:=Jc a b
 have s8:=JY a b
 have s9:=GE a.num b.num
 have s10:=GE (a.num*((b.den:Nat):Int)) (b.num*((a.den:Nat):Int))
 have hda:=a.den_nz
 have hdb:=b.den_nz
 have hdab:a.den*b.den≠0:=Nat.mul_ne_zero hda hdb
 have hbn:b.num≠0:=λe=>hb (Rat.num_eq_zero.1 e)
 have hbs:b.num.sign≠0:=λe=>hbn (Int.sign_eq_zero_iff_zero.1 e)
 have hmi:nw (EX (decide (b.num.sign<(0:Int))) b.den).natAbs=nw b.den:=by rw [Bp]
 have hinv:=Hu hb
 have hsi:=OT hb
 rw [<-hinv] at hsi
 refine Ag (args:=[(aG (Ap a)),(aG (Ap b))]) Tryz.func217 rfl rfl (AY rfl) (AF.subF (sL [0,1] rfl) (q4 (B9 (cs:=Ap a) rfl λb1=>B9 (cs:=Ap b) rfl λb2=>al LP rfl λb3=>?_)))
 refine asg' rfl (q6 (sL [2,3,4,5] rfl) (q4 (BF 1 Fi rfl (ck' Tryz.call179 (Mb b) rfl (AH (BJ (c:=(decide (b.num.sign=(0:Int)))) rfl rfl rfl) rfl ?_)))))
 refine AD.nil (AC.subF (sL [2,3,4,5,9] rfl) (AC.then_ ?_))
 refine AF.cond rfl (λhc0=>?_) (λhc0=>?_)
 ·replace hc0:=of_decide_eq_true hc0
  exact absurd hc0 hbs
 ·replace hc0:=of_decide_eq_false hc0
  refine AF.skip (q1 (rN [(0,true),(3,true),(6,true),(7,true),(1,false),(2,true),(4,false),(5,false),(8,false),(9,false)] [⟨10,6,48,Ap (0:Rat)⟩] [(11,false)] sr (by kernel_rfl) (λ_ _ d _ _ h=>by cases d<;>exact h) (QF rfl rfl LP rfl (Si)) rfl (XB 1 Fi rfl (XB 1 Fi rfl (Qn (v:=(pP b2 0)) rfl (AA rfl Tryz.underlying48 rfl Tryz.sizeOf46 rfl) rfl ?_)))))
  refine Zh 1 (BQ b.num) GJ rfl (Cb.imp rfl λEF EL=>ck' Tryz.call179 (Mb b) rfl (Cb.back0 sr rfl (Qn rfl (Ad (c:=(decide (b.num.sign<(0:Int)))) rfl rfl rfl) rfl (Cb.imp rfl λEF EL=>?_))))
  refine ck' Tryz.call57 (den_ok b (by omega)) rfl (Cb.back0 sr rfl (Cb.imp rfl λEF EL=>ck' Tryz.call105 (G9 (decide (b.num.sign<(0:Int))) b.den) rfl (Cb.back0 sr rfl (Cb.imp rfl λEF EL=>?_))))
  refine ck' Tryz.call101 (K8 b.num) rfl (Cb.back0 sr rfl (Cb.imp rfl λEF EL=>ck' Tryz.call56 (KW (EX (decide (b.num.sign<(0:Int))) b.den) b.num.natAbs (by omega) (by omega) (by first|omega|assumption)) rfl (Cb.back0 sr rfl (Cb.news1 λb4=>?_))))
  refine OkE.imp rfl (BC rfl Tryz.sizeOf48 rfl (OkE.back (sl sr) (OkE.nil (AC.subF (sL [2,3,4,5,6] rfl) (q2 ?_)))))
  refine BF 3 Fi rfl (BF 0 Fi rfl ?_)
  have hz1:=Nm a (mkRat (EX (decide (b.num.sign<(0:Int))) b.den) b.num.natAbs)
  refine ck' Tryz.call192 (UG a (mkRat (EX (decide (b.num.sign<(0:Int))) b.den) b.num.natAbs) (by (try simp only [OP]);omega)) rfl (Ej rfl Tryz.sizeOf48 rfl (asg' rfl (AD.nil (AC.subF (sL [3,4,5,6] rfl) (AC.then_ ?_)))))
  exact AF.ret (Br rfl (BB (i:=1) (cs:=Ap (a*(mkRat (EX (decide (b.num.sign<(0:Int))) b.den) b.num.natAbs))) rfl rfl Tryz.isAgg48 Tryz.sizeOf48 rfl) (AQ (v:=(vI 0)) rfl) (λw hw=>⟨by rw [hinv,Rat.div_def],hw.out⟩))
theorem IZ (z:Int) (hz:-9223372036854775808<=z) (hz2:z<9223372036854775808) (w:World)  :Calls Tryz.prog 15 #[(vI z)] w (An w (aG (Ap ((z:Int):Rat)))):=by
 refine Ag (args:=[(vI z)]) Tryz.func15 rfl rfl (AY rfl) (AF.subF (sL [0] rfl) (q4 (al LP rfl λb1=>AD.nil (q2 ?_))))
 refine AJ rfl (ck' Tryz.call61 (W7 z (by omega) (by omega)) rfl (ck' Tryz.call54 (Mc z) rfl (BC rfl Tryz.sizeOf48 rfl (AD.nil (AC.subF (sL [2] rfl) ?_)))))
 exact AC.then_ (AF.ret (AN rfl (BB (i:=0) (cs:=Ap ((z:Int):Rat)) rfl rfl Tryz.isAgg48 Tryz.sizeOf48 rfl) (λw hw=>⟨rfl,hw.out⟩)))
end
section
instance:Add Pt:=⟨λa b=>⟨a.x+b.x,a.y+b.y⟩⟩
instance:Sub Pt:=⟨λa b=>⟨a.x-b.x,a.y-b.y⟩⟩
def Vu (a:Pt) (k:Rat):Pt:=⟨a.x*k,a.y*k⟩
def Wh (a b:Pt):Rat:=a.x*b.y-a.y*b.x
def I_ (a b c:Pt):Rat:=Wh (b-a) (c-a)
def UK (p:Pt):Nat:=max (Sz p.x) (Sz p.y)
theorem XW (p:Pt):Sz p.x<=UK p:=Nat.le_max_left ..
theorem X3 (p:Pt):Sz p.y<=UK p:=Nat.le_max_right ..
theorem WC {p:Pt} {k:Nat} (h1:Sz p.x<=k) (h2:Sz p.y<=k):UK p<=k:=Nat.max_le.2 ⟨h1,h2⟩
theorem Hc {z:Int} (h1:-9223372036854775808<=z) (h2:z<9223372036854775808):Sz ((z:Int):Rat)<=2:=Vm (Jb (by show z.natAbs<_;omega)) (by show nw 1<=2;rw [HX];omega)
theorem Wq (x y:Rat):BE ⟨x,y⟩=Ap x++Ap y:=rfl
section
variable {P:Program} {Q:Exit->Act->World->Prop} {n:Nat} {F:List (Nat×Value)} {w0:A7} {L:List As} {c:Code}
def Gd (P:Program) (c:Code) (Q:Exit->Act->World->Prop) (k n:Nat) (F:List (Nat×Value)) (w0:A7) (L:List As):Prop:=∀a w,CF n a F->A_ w0 w L->Code.rounds P c Q k a w
theorem AF.unroll (k:Nat) (h:Gd P c Q k n F w0 L):AF P (.loop c) Q n F w0 L:=λa w ha hw=>wp_loop_rounds k (h a w ha hw)
theorem Gd.step {k:Nat} (h:AF P c (Exit.then (Code.rounds P c Q k) Q) n F w0 L):Gd P c Q (k+1) n F w0 L:=λa w ha hw=>by
  rw [rounds_succ];exact h a w ha hw
theorem AC.again {k:Nat} (h:Gd P c Q k n F w0 L):AC (Exit.then (Code.rounds P c Q k) Q) .normal n F w0 L:=h
end
end
section
set_option maxRecDepth 100000
theorem EN (x0:Rat) (x1:Rat):Instr.fill ([(0,5),(5,5)].toArray[·]?) (BE (⟨0,0⟩:Pt)).toArray [(0,.agg (Ap x0).toArray),(1,.agg (Ap x1).toArray)]=some (Ap x0++Ap x1).toArray:=by kernel_rfl
theorem GC (x y:Int) (h1:-9223372036854775808<=x) (h2:x<9223372036854775808) (h3:-9223372036854775808<=y) (h4:y<9223372036854775808) (w:World)  :Calls Tryz.prog 36 #[(vI x),(vI y)] w (An w (aG (BE (⟨((x:Int):Rat),((y:Int):Rat)⟩:Pt)))):=by
 refine Ag (args:=[(vI x),(vI y)]) Tryz.func36 rfl rfl (AY rfl) (AF.subF (sL [0,1] rfl) (q4 (al X4 rfl λb1=>AD.nil (q2 ?_))))
 refine AJ rfl (ck' Tryz.call15 (IZ x (by omega) (by omega)) rfl (AJ rfl (ck' Tryz.call15 (IZ y (by omega) (by omega)) rfl (AH (v:=(aG (Ap ((x:Int):Rat)++Ap ((y:Int):Rat)))) (AU (zs:=BE (⟨0,0⟩:Pt)) (vs:=Ap ((x:Int):Rat)++Ap ((y:Int):Rat)) (pv:=[(0,(aG (Ap ((x:Int):Rat)))),(1,(aG (Ap ((y:Int):Rat))))]) (places:=[(0,5),(5,5)]) Tryz.zeroValue51 Tryz.underlying51 (λw=>by simp [Tryz.sizeOf48]) rfl (EN ((x:Int):Rat) ((y:Int):Rat))) rfl (BC rfl Tryz.sizeOf51 rfl ?_)))))
 exact AD.nil (AC.subF (sL [4] rfl) (AC.then_ (AF.ret (AN rfl (BB (i:=0) (cs:=Ap ((x:Int):Rat)++Ap ((y:Int):Rat)) rfl rfl Tryz.isAgg51 Tryz.sizeOf51 rfl) (λw hw=>⟨by rw [Wq],hw.out⟩)))))
end
section
set_option maxRecDepth 100000
theorem V_ (x y:Int) (h1:-9223372036854775808<=x) (h2:x<9223372036854775808) (h3:-9223372036854775808<=y) (h4:y<9223372036854775808) (hy:y≠0) (w:World)  :Calls Tryz.prog 166 #[(vI x),(vI y)] w (An w (Value.tuple #[(aG (Ap (((x:Int):Rat)/((y:Int):Rat)))),(vI 0)])):=by
 have hb:((y:Int):Rat)≠0:=λe=>hy (by exact_mod_cast e)
 have s1:=Hc h1 h2
 have s2:=Hc h3 h4
 refine Ag (args:=[(vI x),(vI y)]) Tryz.func166 rfl rfl (AY rfl) (AF.subF (sL [0,1] rfl) (q4 (al LP rfl λb1=>asg' rfl (AD.nil ?_))))
 refine q2 (AJ rfl (ck' Tryz.call15 (IZ x (by omega) (by omega)) rfl (AJ rfl (ck' Tryz.call15 (IZ y (by omega) (by omega)) rfl ?_))))
 have hz1:=Nj (a:=((x:Int):Rat)) (b:=((y:Int):Rat)) (by assumption)
 refine ck' Tryz.call217 (VL ((x:Int):Rat) ((y:Int):Rat) (by omega) (by assumption)) rfl (AH (AS (v:=(aG (Ap (((x:Int):Rat)/((y:Int):Rat))))) rfl rfl) rfl (AH (AS (v:=(vI 0)) rfl rfl) rfl (BC rfl Tryz.sizeOf48 rfl (asg' rfl (AD.nil ?_)))))
 exact AC.subF (sL [4,5] rfl) (AC.then_ (AF.ret (Br rfl (BB (i:=0) (cs:=Ap (((x:Int):Rat)/((y:Int):Rat))) rfl rfl Tryz.isAgg48 Tryz.sizeOf48 rfl) (AQ (v:=(vI 0)) rfl) (λw hw=>⟨rfl,hw.out⟩))))
end
section
set_option maxRecDepth 100000
end

section
set_option maxRecDepth 100000
end
section
set_option maxRecDepth 100000
end
section
set_option maxRecDepth 100000
end
section
set_option maxRecDepth 100000
end
section
section
variable {P:Program} {n:Nat} {F:List (Nat×Value)} {w0:A7} {L:List As} {v:Value} {x:Operand} {d:Option Tmp} {t:TypeId} {p:String} {af:Array Edge} {g:Option (Nat×Bool)}
theorem IF {a:Addr} (hx:evF F x=some (.pointer (some a))):Ex P n F w0 L ⟨d,.nilCheck x,t,p,af,g⟩ (.pointer (some a)):=λA w ha _=>by
  simp [execOp,ha.ev hx]
end
end
section
set_option maxRecDepth 100000
end
section
set_option maxRecDepth 100000
end
section
set_option maxRecDepth 100000
end
section
set_option maxRecDepth 100000
end
section
set_option maxRecDepth 100000
end
section
set_option maxRecDepth 100000
end
section
section
variable {P:Program} {n:Nat} {F:List (Nat×Value)} {w0:A7} {L:List As} {v:Value} {x lo hi:Operand} {d:Option Tmp} {t:TypeId} {p:String} {af:Array Edge} {g:Option (Nat×Bool)}
end
end
section
set_option maxRecDepth 100000
end
section
set_option maxRecDepth 100000
theorem TF:ElemT Tryz.prog 71 3 1 8:=⟨Tryz.underlying71,C3 (by kernel_rfl)⟩
theorem Fr (p:Option Addr) (c:Nat) (ds:List Nat) (hd:H2 ds) (ho:A6 p ds.length c) (hl:ds.length<=1099511627776) (w:World) (h:Holds w (AI p (dgL ds))):Calls Tryz.prog 200 #[(Value.slice p ds.length c)] w (An w (Value.slice p ((dg (val10 ds)).length) c)):=by
 refine Ah (args:=[(Value.slice p ds.length c)]) (L:=[AI p (dgL ds)]) Tryz.func200 rfl rfl (AY rfl) (Bv rfl h (Ar)) (AF.subF (sL [0] rfl) (q4 (asg' rfl (AD.nil (q1 ?_)))))
 refine AF.block ?_
 refine AF.lp1 (tg λ(k:Nat)=>k<=ds.length/\val10 (ds.take k)=val10 ds) (tg λ(k:Nat)=>[(2,(Value.slice none 0 0)),(0,(Value.slice p k c))]) (tg λ(k:Nat)=>[AI p (dgL ds)]) (tg λ(k:Nat)=>k) ds.length (⟨Nat.le_refl _,by rw [List.take_length]⟩) (sF rfl) sr (λk hJ=>?_)
 obtain ⟨hk,hv⟩:=hJ
 have hok:A6 p k c:=⟨λe=>⟨by have:=(ho.nil e).1;omega,(ho.nil e).2⟩,ho.spot,Nat.le_trans hk ho.le⟩
 have hkc:=hok.le
 refine AF.seq (q4 (AJ rfl (AH (v:=(vN k)) (AE rfl Tryz.underlying71) rfl (AH (Bg (c:=(decide (0<k))) rfl rfl (CB (a:=0) (b:=k))) rfl (AJ rfl ?_)))))
 refine AD.mid (FM:=[(2,(Value.slice none 0 0)),(0,(Value.slice p k c)),(3,(Value.slice p k c)),(4,(vN k)),(5,(Value.bool (decide (0<k)))),(6,(Value.bool (decide (0<k)))),(14,(Value.bool ((decide (0<k))&&(decide ((ds.getD (k-1) 0)=0)))))]) (LM:=[AI p (dgL ds)]) 8 ?_ ?_
 ·rcases Bool.eq_false_or_eq_true (decide (0<k)) with hg1|hg1
  ·skip
   refine AD.retell (k:=6) (u:=Value.bool true) rfl (by rw [hg1]) ?_
   have hg1':=hg1
   replace hg1':=of_decide_eq_true hg1'
   refine AD.step (v:=(Value.slice p k c)) (AB rfl) (Ai rfl) rfl (AY rfl) (AD.step (v:=(Value.slice p k c)) (AB rfl) (Ai rfl) rfl (AY rfl) (AD.step (v:=(vN k)) (AB rfl) (AE rfl Tryz.underlying71) rfl (AY rfl) (AD.step (v:=(vN (k-1))) (AB rfl) (BL (c:=((k-1:Nat):Int)) rfl rfl (Bj (a:=k) (b:=1) (by omega) (by omega))) rfl (AY rfl) (AD.step (v:=(pP (pB p) (pO p+(k-1)*1))) (AB rfl) (AL (j:=k-1) rfl rfl hok Tryz.underlying71 Tryz.sizeOf3 rfl (by omega)) rfl (AY rfl) (AD.step (v:=(vN (ds.getD (k-1) 0))) (AB rfl) (AZ (v:=(vN (ds.getD (k-1) 0))) (i:=0) rfl rfl (hok.ne (by omega)) Be (C8 (ds:=ds) (j:=k-1) (by omega))) rfl (AY rfl) ?_)))))
   exact AD.step (v:=(Value.bool (decide ((ds.getD (k-1) 0)=0)))) (AB rfl) (BJ (c:=(decide ((ds.getD (k-1) 0)=0))) rfl rfl (RG (a:=ds.getD (k-1) 0) (b:=0))) rfl (AY rfl) (AH (v:=(Value.bool (decide ((ds.getD (k-1) 0)=0)))) (AT rfl rfl) rfl (AD.nil (AC.mid (sS rfl (sS rfl (sS rfl (sS rfl (sS rfl (sS (by first|rfl|(rw [hg1];rfl)|rw [hg1]) (sS (by first|rfl|(rw [hg1];rfl)|rw [hg1]) (sN)))))))) (List.Sublist.refl _))))
  ·skip
   refine AD.retell (k:=6) (u:=Value.bool false) rfl (by rw [hg1]) ?_
   have hg1':=hg1
   replace hg1':=of_decide_eq_false hg1'
   refine AD.skip (AG rfl) rfl (AY rfl) (AD.skip (AG rfl) rfl (AY rfl) (AD.skip (AG rfl) rfl (AY rfl) (AD.skip (AG rfl) rfl (AY rfl) (AD.skip (AG rfl) rfl (AY rfl) (AD.skip (AG rfl) rfl (AY rfl) ?_)))))
   exact AD.skip (AG rfl) rfl (AY rfl) (AH (v:=(Value.bool false)) (AV rfl rfl) rfl (AD.nil (AC.mid (sS rfl (sS rfl (sS rfl (sS rfl (sS rfl (sS (by first|rfl|(rw [hg1];rfl)|rw [hg1]) (sS (by first|rfl|(rw [hg1];rfl)|rw [hg1]) (sN)))))))) (List.Sublist.refl _))))
 refine AD.nil (AC.subF (sL [2,0,14] rfl) (AC.then_ ?_))
 refine AF.cond rfl (λhc0=>?_) (λhc0=>?_)
 ·simp only [Bool.and_eq_true,Bool.or_eq_true,Bool.and_eq_false_iff,Bool.or_eq_false_iff,Bool.not_eq_true',Bool.not_eq_false',decide_eq_true_eq,decide_eq_false_iff_not] at hc0
  refine AF.skip (AC.then_ (AF.block (AF.region (AJ rfl (AJ rfl ?_)))))
  refine AH (v:=(vN k)) (AE rfl Tryz.underlying71) rfl (AH (BL (c:=((k-1:Nat):Int)) rfl rfl (Bj (a:=k) (b:=1) (by omega) (by omega))) rfl (AH (v:=(Value.slice p (k-1) c)) (Do (m:=k-1) rfl rfl Tryz.underlying71 Tryz.sizeOf3 (by omega)) rfl (asg' rfl (AD.nil (AC.subF (sL [2,0] rfl) ?_)))))
  exact AC.in_normal (AC.round1 (k-1) (⟨by omega,by rw [KH (by omega) hc0.2,Nat.sub_add_cancel hc0.1,hv]⟩) (by omega) (sF rfl) sr)
 ·simp only [Bool.and_eq_true,Bool.or_eq_true,Bool.and_eq_false_iff,Bool.or_eq_false_iff,Bool.not_eq_true',Bool.not_eq_false',decide_eq_true_eq,decide_eq_false_iff_not] at hc0
  have htl:=TL hd hk hv (hc0.imp (λh=>by omega) id)
  refine AF.exit (AC.then_exit (AC.round1_exit (AC.in_exit (q2 (AJ rfl ?_)))))
  exact asg' rfl (AD.nil (AC.subF (sL [2,0] rfl) (AC.then_ (AF.ret (AN rfl (AQ (v:=(Value.slice p k c)) rfl) (λw hw=>⟨by rw [<-htl],hw.out⟩))))))
theorem K2 (a:NV) (i:Nat) (hi:i<=1099511627776) (w:World) (ha:Holds w (nA a)):Calls Tryz.prog 199 #[(nV a),(vN i)] w (An w (vN ((dg a.x).getD i 0))):=by
 refine Ah (args:=[(nV a),(vN i)]) (L:=[nA a]) Tryz.func199 rfl rfl (AY rfl) (Bv rfl ha (Ar)) (AF.subF (sL [0,1] rfl) (q4 (asg' rfl (AD.nil (q1 ?_)))))
 refine q4 (AJ rfl (AJ rfl (AH (v:=(vN ((dg a.x).length))) (AE rfl Tryz.underlying71) rfl (AH (Ad (c:=(decide (i<((dg a.x).length)))) rfl rfl (CB (a:=i) (b:=(dg a.x).length))) rfl (AD.nil ?_)))))
 refine AC.subF (sL [0,1,4,8] rfl) (AC.then_ ?_)
 refine AF.cond rfl (λhc0=>?_) (λhc0=>?_)
 ·replace hc0:=of_decide_eq_true hc0
  refine q4 (AJ rfl (AJ rfl (AH (v:=(pP (pB a.p) (pO a.p+i*1))) (AL (j:=i) rfl rfl a.ok Tryz.underlying71 Tryz.sizeOf3 rfl (by omega)) rfl (AH (AZ (v:=(vN ((dg a.x).getD i 0))) (i:=0) rfl rfl (a.ok.ne (by omega)) Be (C8 (ds:=dg a.x) (j:=i) (by omega))) rfl (asg' rfl ?_)))))
  exact AD.nil (AC.subF (sL [0,1,4] rfl) (AC.then_ (AF.ret (AC.then_ret (AN rfl (AQ (v:=(vN ((dg a.x).getD i 0))) rfl) (λw hw=>⟨rfl,hw.out⟩))))))
 ·replace hc0:=of_decide_eq_false hc0
  have hg:=DD hc0
  exact AF.skip (q2 (asg' rfl (AD.nil (AC.then_ (AF.ret (AN rfl (AQ (v:=(vI 0)) rfl) (λw hw=>⟨by rw [hg];rfl,hw.out⟩)))))))
theorem OG (x:Nat) (hx:x<18446744073709551616) (w:World)  :Calls Tryz.prog 194 #[(vK .u64 x)] w (F5 w [] x):=by
 have hlen:(dg x).length<=5:=FT (by omega)
 refine Ag (args:=[(vK .u64 x)]) Tryz.func194 rfl rfl (AY rfl) (AF.subF (sL [0] rfl) (q4 (asg' rfl (AD.nil (q2 ?_)))))
 refine asg' rfl (AD.nilRow 3 1 (AD.nil (q1 (AF.block ?_))))
 refine AF.lp5 (tg λ(y:Nat) (p:Option Addr) (c:Nat) (k:Nat) (ds:List Nat)=>dg x=ds++dg y/\k=ds.length/\OwnOk p k c/\y<=x) (tg λ(y:Nat) (p:Option Addr) (c:Nat) (k:Nat) (ds:List Nat)=>[(2,(Value.slice none 0 0)),(0,(vK .u64 y)),(3,(Value.slice p k c))]) (tg λ(y:Nat) (p:Option Addr) (c:Nat) (k:Nat) (ds:List Nat)=>[rowW p 3 1 k c (dgL ds)]) (tg λ(y:Nat) (p:Option Addr) (c:Nat) (k:Nat) (ds:List Nat)=>y) x none 0 0 ([]) (⟨rfl,rfl,OwnOk.none,Nat.le_refl _⟩) (sF rfl) sr (λy p c k ds hJ=>?_)
 obtain ⟨hd,hk,ho,hy⟩:=hJ
 have hkl:k<=5:=by have:=congrArg List.length hd;rw [List.length_append] at this;omega
 refine AF.seq (q4 (AJ rfl (AH (Bg (c:=(decide (0<y))) rfl rfl (CB (a:=0) (b:=y))) rfl (AD.nil (AC.subF (sL [2,0,3,5] rfl) ?_)))))
 refine AC.then_ ?_
 refine AF.cond rfl (λhc0=>?_) (λhc0=>?_)
 ·replace hc0:=of_decide_eq_true hc0
  refine AF.skip (AC.then_ (AF.block (q4 (AJ rfl (AJ rfl ?_)))))
  refine AH (Cg (c:=((y%10000:Nat):Int)) rfl rfl (by omega) (K7 (a:=y) (b:=10000))) rfl (AH (Au (c:=((y%10000:Nat):Int)) rfl Tryz.underlying40 Tryz.underlying3 (D9 (by omega))) rfl (AD.openV (V:=λb1=>(Value.slice (some ⟨b1,0,none⟩) 1 1)) (T:=3) (cs:=[(vN (y%10000))]) (AO rfl) (Am (cs:=[(vN (y%10000))]) (pv:=[(0,(vN (y%10000)))]) Tryz.underlying71 Tryz.sizeOf3 Tryz.zeroValue3 (by decide) (by decide) rfl (by kernel_rfl)) rfl (AY rfl) λb1=>AD.append1 (j:=0) (cs2:=dgL (ds++[y%10000])) TF rfl ho (by simp [B_];omega) rfl rfl rfl rfl (by decide) (GR (by omega)) (by omega) (by rw [EK];rfl) rfl λp_1 c_1 ho_1 hne_1=>asg' rfl (AD.nil ?_)))
  refine AC.subF (sL [2,0,3] rfl) (AC.then_ (AF.region (AJ rfl (AH (EA (c:=((y/10000:Nat):Int)) rfl rfl (by omega) (G3 (a:=y) (b:=10000) (by omega))) rfl (asg' rfl ?_)))))
  exact AD.nil (AC.subF (sL [2,0,3] rfl) (AC.in_normal (AC.round5 (y/10000) p_1 c_1 (k+1) (ds++[y%10000]) (⟨by rw [hd,Em (by omega),List.append_assoc];rfl,by simp [hk],ho_1,by omega⟩) (by omega) (sF rfl) (sl sr))))
 ·replace hc0:=of_decide_eq_false hc0
  refine AF.exit (AC.then_exit (AC.round5_exit (AC.in_exit (q2 (AJ rfl ?_)))))
  refine asg' rfl (AD.nil (AC.subF (sL [2,0,3] rfl) (AC.then_ (AF.ret ?_))))
  obtain rfl:y=0:=by omega
  rw [Ed,List.append_nil] at hd
  exact AN rfl (AQ (v:=(Value.slice p k c)) rfl) (λw hw=>Sj hw (i:=0) rfl ho hk (by rw [hd,List.take_length]) (by rw [hd,<-hk]))
end
end Go.Proofs.YtpgncndhhhllfaaGreatDoor
