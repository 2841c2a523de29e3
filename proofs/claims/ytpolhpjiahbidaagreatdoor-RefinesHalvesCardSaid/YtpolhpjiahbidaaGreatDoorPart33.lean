import Derived.Test.YtpolhpjiahbidaaGreatDoorPart24
import Derived.Test.YtpolhpjiahbidaaGreatDoorPart31
import Derived.Test.YtpolhpjiahbidaaGreatDoorPart32
namespace Go.Proofs.YtpolhpjiahbidaaGreatDoor
open Go Go.RowKit Go.Proofs.Tryz
set_option linter.unusedVariables false
set_option linter.unusedSimpArgs false
section
set_option maxRecDepth 100000
theorem Hy (p:Int) (n:Nat) (w:World)  :Calls Tryz.prog 148 #[(vI p),(vN n)] w (Ai w (Value.bool (Ao n p))):=by
 refine AZ (args:=[(vI p),(vN n)]) Tryz.func148 rfl rfl (AK rfl) (OkC.subF (sL [0,1] rfl) (q4 (asg' rfl (OkL.nil (q2 (AO rfl (AG (B_ (c:=(decide ((0:Int)<=p))) rfl rfl rfl) rfl (AO rfl ?_))))))))
 refine OkL.mid (FM:=[(0,(vI p)),(1,(vN n)),(4,(Value.bool false)),(5,(vI p)),(6,(Value.bool (decide ((0:Int)<=p)))),(7,(Value.bool (decide ((0:Int)<=p)))),(11,(Value.bool ((decide ((0:Int)<=p))&&(decide (p<((n:Nat):Int))))))]) (LM:=[]) 4 ?_ ?_
 ·rcases Bool.eq_false_or_eq_true (decide ((0:Int)<=p)) with hg1|hg1
  ·skip
   refine OkL.retell (k:=7) (u:=Value.bool true) rfl (by rw [hg1]) ?_
   have hg1':=hg1
   replace hg1':=of_decide_eq_true hg1'
   exact OkL.step (v:=(vI p)) (AB rfl) (Ac rfl) rfl (AK rfl) (OkL.step (v:=(vN n)) (AB rfl) (Ac rfl) rfl (AK rfl) (OkL.step (v:=(Value.bool (decide (p<((n:Nat):Int))))) (AB rfl) (Af (c:=(decide (p<((n:Nat):Int)))) rfl rfl rfl) rfl (AK rfl) (AG (v:=(Value.bool (decide (p<((n:Nat):Int))))) (AN rfl rfl) rfl (OkL.nil (OkQ.mid (sS rfl (sS rfl (sS rfl (sS rfl (sS rfl (sS (by first|rfl|(rw [hg1];rfl)|rw [hg1]) (sS (by first|rfl|(rw [hg1];rfl)|rw [hg1]) (sN)))))))) (List.Sublist.refl _))))))
  ·skip
   refine OkL.retell (k:=7) (u:=Value.bool false) rfl (by rw [hg1]) ?_
   have hg1':=hg1
   replace hg1':=of_decide_eq_false hg1'
   exact OkL.skip (AC rfl) rfl (AK rfl) (OkL.skip (AC rfl) rfl (AK rfl) (OkL.skip (AC rfl) rfl (AK rfl) (AG (v:=(Value.bool false)) (AJ rfl rfl) rfl (OkL.nil (OkQ.mid (sS rfl (sS rfl (sS rfl (sS rfl (sS rfl (sS (by first|rfl|(rw [hg1];rfl)|rw [hg1]) (sS (by first|rfl|(rw [hg1];rfl)|rw [hg1]) (sN)))))))) (List.Sublist.refl _))))))
 exact asg' rfl (OkL.nil (OkQ.subF (sL [4] rfl) (OkQ.then_ (OkC.ret (ret_one rfl (rd_tmp (v:=(Value.bool ((decide ((0:Int)<=p))&&(decide (p<((n:Nat):Int)))))) rfl) (λw hw=>⟨by unfold Ao;first|rfl|simp,hw.out⟩))))))
theorem Qw (t:Z3) (n:Nat) (bo:BX [vN n]) (w:World) {S:Nat->Prop} (hbo:Ro S w bo):Calls Tryz.prog 174 #[(aG (Ad t)),(pP bo.b 0)] w (Ai w (Value.bool (!NZ n t))):=by
 have lbo:=CU (W:=w) hbo
 refine Aa (args:=[(aG (Ad t)),(pP bo.b 0)]) (L:=[AF (some ⟨bo.b,0,none⟩) ([(vN n)])]) Tryz.func174 rfl rfl (AK rfl) (Ee hbo Al) (OkC.subF (sL [0,1] rfl) (q4 (Bg (cs:=Ad t) rfl λb1=>asg' rfl (q3 (sL [1,2,3] rfl) (AG (v:=(pP b1 0)) (AH (j:=0) rfl rfl Tryz.underlying105 Tryz.sizeOf3 rfl (by decide) rfl) rfl (Aw 0 (vI t.1) BH rfl (AG (AQ (q:=some ⟨bo.b,0,none⟩) (v:=(vN n)) (off:=0) (i:=1) rfl rfl (λe=>by cases e) BH rfl) rfl (ck' Tryz.call148 (Hy t.1 n) rfl (AG (Be (c:=(!(Ao n t.1))) rfl rfl) rfl (AO rfl ?_))))))))))
 refine OkL.mid (FM:=[(1,(pP bo.b 0)),(2,(pP b1 0)),(3,(Value.bool false)),(4,(pP b1 0)),(5,(vI t.1)),(6,(vN n)),(7,(Value.bool (Ao n t.1))),(8,(Value.bool (!(Ao n t.1)))),(9,(Value.bool (!(Ao n t.1)))),(15,(Value.bool ((!(Ao n t.1))||(!(Ao n t.2.1)))))]) (LM:=[AX b1 105 (Ad t),AF (some ⟨bo.b,0,none⟩) ([(vN n)])]) 6 ?_ ?_
 ·rcases Bool.eq_false_or_eq_true (!(Ao n t.1)) with hg1|hg1
  ·skip
   refine OkL.retell (k:=9) (u:=Value.bool true) rfl (by rw [hg1]) ?_
   have hg1':=hg1
   simp only [Bool.and_eq_true,Bool.or_eq_true,Bool.and_eq_false_iff,Bool.or_eq_false_iff,Bool.not_eq_true',Bool.not_eq_false',decide_eq_true_eq,decide_eq_false_iff_not] at hg1'
   exact OkL.skip (AC rfl) rfl (AK rfl) (OkL.skip (AC rfl) rfl (AK rfl) (OkL.skip (AC rfl) rfl (AK rfl) (OkL.skip (AC rfl) rfl (AK rfl) (OkL.skip (AC rfl) rfl (AK rfl) (AG (v:=(Value.bool true)) (AN rfl rfl) rfl (OkL.nil (OkQ.mid (sS rfl (sS rfl (sS rfl (sS rfl (sS rfl (sS rfl (sS rfl (sS rfl (sS (by first|rfl|(rw [hg1];rfl)|rw [hg1]) (sS (by first|rfl|(rw [hg1];rfl)|rw [hg1]) (sN))))))))))) (List.Sublist.refl _))))))))
  ·skip
   refine OkL.retell (k:=9) (u:=Value.bool false) rfl (by rw [hg1]) ?_
   have hg1':=hg1
   simp only [Bool.and_eq_true,Bool.or_eq_true,Bool.and_eq_false_iff,Bool.or_eq_false_iff,Bool.not_eq_true',Bool.not_eq_false',decide_eq_true_eq,decide_eq_false_iff_not] at hg1'
   exact OkL.step (v:=(pP b1 1)) (AB rfl) (AH (j:=1) rfl rfl Tryz.underlying105 Tryz.sizeOf3 rfl (by decide) rfl) rfl (AK rfl) (OkL.step (v:=(vI t.2.1)) (AB rfl) (AE (i:=0) (v:=(vI t.2.1)) rfl rfl BH.a rfl) rfl (AK rfl) (OkL.step (v:=(vN n)) (AB rfl) (AQ (q:=some ⟨bo.b,0,none⟩) (v:=(vN n)) (off:=0) (i:=1) rfl rfl (λe=>by cases e) BH rfl) rfl (AK rfl) (OkL.call (v:=(Value.bool (Ao n t.2.1))) (AB rfl) (Ap (args:=[(vI t.2.1),(vN n)]) rfl rfl Tryz.call148) (λw hw=>Hy t.2.1 n w) rfl (AK rfl) (OkL.step (v:=(Value.bool (!(Ao n t.2.1)))) (AB rfl) (Be (c:=(!(Ao n t.2.1))) rfl rfl) rfl (AK rfl) (AG (v:=(Value.bool (!(Ao n t.2.1)))) (AJ rfl rfl) rfl (OkL.nil (OkQ.mid (sS rfl (sS rfl (sS rfl (sS rfl (sS rfl (sS rfl (sS rfl (sS rfl (sS (by first|rfl|(rw [hg1];rfl)|rw [hg1]) (sS (by first|rfl|(rw [hg1];rfl)|rw [hg1]) (sN))))))))))) (List.Sublist.refl _))))))))
 refine AO rfl ?_
 refine OkL.mid (FM:=[(1,(pP bo.b 0)),(2,(pP b1 0)),(3,(Value.bool false)),(4,(pP b1 0)),(5,(vI t.1)),(6,(vN n)),(7,(Value.bool (Ao n t.1))),(8,(Value.bool (!(Ao n t.1)))),(9,(Value.bool (!(Ao n t.1)))),(15,(Value.bool ((!(Ao n t.1))||(!(Ao n t.2.1))))),(16,(Value.bool ((!(Ao n t.1))||(!(Ao n t.2.1))))),(22,(Value.bool (((!(Ao n t.1))||(!(Ao n t.2.1)))||(!(Ao n t.2.2)))))]) (LM:=[AX b1 105 (Ad t),AF (some ⟨bo.b,0,none⟩) ([(vN n)])]) 6 ?_ ?_
 ·rcases Bool.eq_false_or_eq_true ((!(Ao n t.1))||(!(Ao n t.2.1))) with hg2|hg2
  ·skip
   refine OkL.retell (k:=16) (u:=Value.bool true) rfl (by rw [hg2]) ?_
   have hg2':=hg2
   simp only [Bool.and_eq_true,Bool.or_eq_true,Bool.and_eq_false_iff,Bool.or_eq_false_iff,Bool.not_eq_true',Bool.not_eq_false',decide_eq_true_eq,decide_eq_false_iff_not] at hg2'
   exact OkL.skip (AC rfl) rfl (AK rfl) (OkL.skip (AC rfl) rfl (AK rfl) (OkL.skip (AC rfl) rfl (AK rfl) (OkL.skip (AC rfl) rfl (AK rfl) (OkL.skip (AC rfl) rfl (AK rfl) (AG (v:=(Value.bool true)) (AN rfl rfl) rfl (OkL.nil (OkQ.mid (sS rfl (sS rfl (sS rfl (sS rfl (sS rfl (sS rfl (sS rfl (sS rfl (sS rfl (sS rfl (sS (by first|rfl|(rw [hg2];rfl)|rw [hg2]) (sS (by first|rfl|(rw [hg2];rfl)|rw [hg2]) (sN))))))))))))) (List.Sublist.refl _))))))))
  ·skip
   refine OkL.retell (k:=16) (u:=Value.bool false) rfl (by rw [hg2]) ?_
   have hg2':=hg2
   simp only [Bool.and_eq_true,Bool.or_eq_true,Bool.and_eq_false_iff,Bool.or_eq_false_iff,Bool.not_eq_true',Bool.not_eq_false',decide_eq_true_eq,decide_eq_false_iff_not] at hg2'
   exact OkL.step (v:=(pP b1 2)) (AB rfl) (AH (j:=2) rfl rfl Tryz.underlying105 Tryz.sizeOf3 rfl (by decide) rfl) rfl (AK rfl) (OkL.step (v:=(vI t.2.2)) (AB rfl) (AE (i:=0) (v:=(vI t.2.2)) rfl rfl BH.a rfl) rfl (AK rfl) (OkL.step (v:=(vN n)) (AB rfl) (AQ (q:=some ⟨bo.b,0,none⟩) (v:=(vN n)) (off:=0) (i:=1) rfl rfl (λe=>by cases e) BH rfl) rfl (AK rfl) (OkL.call (v:=(Value.bool (Ao n t.2.2))) (AB rfl) (Ap (args:=[(vI t.2.2),(vN n)]) rfl rfl Tryz.call148) (λw hw=>Hy t.2.2 n w) rfl (AK rfl) (OkL.step (v:=(Value.bool (!(Ao n t.2.2)))) (AB rfl) (Be (c:=(!(Ao n t.2.2))) rfl rfl) rfl (AK rfl) (AG (v:=(Value.bool (!(Ao n t.2.2)))) (AJ rfl rfl) rfl (OkL.nil (OkQ.mid (sS rfl (sS rfl (sS rfl (sS rfl (sS rfl (sS rfl (sS rfl (sS rfl (sS rfl (sS rfl (sS (by first|rfl|(rw [hg2];rfl)|rw [hg2]) (sS (by first|rfl|(rw [hg2];rfl)|rw [hg2]) (sN))))))))))))) (List.Sublist.refl _))))))))
 refine AO rfl ?_
 refine OkL.mid (FM:=[(1,(pP bo.b 0)),(2,(pP b1 0)),(3,(Value.bool false)),(4,(pP b1 0)),(5,(vI t.1)),(6,(vN n)),(7,(Value.bool (Ao n t.1))),(8,(Value.bool (!(Ao n t.1)))),(9,(Value.bool (!(Ao n t.1)))),(15,(Value.bool ((!(Ao n t.1))||(!(Ao n t.2.1))))),(16,(Value.bool ((!(Ao n t.1))||(!(Ao n t.2.1))))),(22,(Value.bool (((!(Ao n t.1))||(!(Ao n t.2.1)))||(!(Ao n t.2.2))))),(23,(Value.bool (((!(Ao n t.1))||(!(Ao n t.2.1)))||(!(Ao n t.2.2))))),(29,(Value.bool ((((!(Ao n t.1))||(!(Ao n t.2.1)))||(!(Ao n t.2.2)))||(decide (t.1=t.2.1)))))]) (LM:=[AX b1 105 (Ad t),AF (some ⟨bo.b,0,none⟩) ([(vN n)])]) 6 ?_ ?_
 ·rcases Bool.eq_false_or_eq_true (((!(Ao n t.1))||(!(Ao n t.2.1)))||(!(Ao n t.2.2))) with hg3|hg3
  ·skip
   refine OkL.retell (k:=23) (u:=Value.bool true) rfl (by rw [hg3]) ?_
   have hg3':=hg3
   simp only [Bool.and_eq_true,Bool.or_eq_true,Bool.and_eq_false_iff,Bool.or_eq_false_iff,Bool.not_eq_true',Bool.not_eq_false',decide_eq_true_eq,decide_eq_false_iff_not] at hg3'
   exact OkL.skip (AC rfl) rfl (AK rfl) (OkL.skip (AC rfl) rfl (AK rfl) (OkL.skip (AC rfl) rfl (AK rfl) (OkL.skip (AC rfl) rfl (AK rfl) (OkL.skip (AC rfl) rfl (AK rfl) (AG (v:=(Value.bool true)) (AN rfl rfl) rfl (OkL.nil (OkQ.mid (sS rfl (sS rfl (sS rfl (sS rfl (sS rfl (sS rfl (sS rfl (sS rfl (sS rfl (sS rfl (sS rfl (sS rfl (sS (by first|rfl|(rw [hg3];rfl)|rw [hg3]) (sS (by first|rfl|(rw [hg3];rfl)|rw [hg3]) (sN))))))))))))))) (List.Sublist.refl _))))))))
  ·skip
   refine OkL.retell (k:=23) (u:=Value.bool false) rfl (by rw [hg3]) ?_
   have hg3':=hg3
   simp only [Bool.and_eq_true,Bool.or_eq_true,Bool.and_eq_false_iff,Bool.or_eq_false_iff,Bool.not_eq_true',Bool.not_eq_false',decide_eq_true_eq,decide_eq_false_iff_not] at hg3'
   exact OkL.step (v:=(pP b1 0)) (AB rfl) (AH (j:=0) rfl rfl Tryz.underlying105 Tryz.sizeOf3 rfl (by decide) rfl) rfl (AK rfl) (OkL.step (v:=(vI t.1)) (AB rfl) (AE (i:=0) (v:=(vI t.1)) rfl rfl BH.a rfl) rfl (AK rfl) (OkL.step (v:=(pP b1 1)) (AB rfl) (AH (j:=1) rfl rfl Tryz.underlying105 Tryz.sizeOf3 rfl (by decide) rfl) rfl (AK rfl) (OkL.step (v:=(vI t.2.1)) (AB rfl) (AE (i:=0) (v:=(vI t.2.1)) rfl rfl BH.a rfl) rfl (AK rfl) (OkL.step (v:=(Value.bool (decide (t.1=t.2.1)))) (AB rfl) (BE (c:=(decide (t.1=t.2.1))) rfl rfl rfl) rfl (AK rfl) (AG (v:=(Value.bool (decide (t.1=t.2.1)))) (AJ rfl rfl) rfl (OkL.nil (OkQ.mid (sS rfl (sS rfl (sS rfl (sS rfl (sS rfl (sS rfl (sS rfl (sS rfl (sS rfl (sS rfl (sS rfl (sS rfl (sS (by first|rfl|(rw [hg3];rfl)|rw [hg3]) (sS (by first|rfl|(rw [hg3];rfl)|rw [hg3]) (sN))))))))))))))) (List.Sublist.refl _))))))))
 refine AO rfl ?_
 refine OkL.mid (FM:=[(1,(pP bo.b 0)),(2,(pP b1 0)),(3,(Value.bool false)),(4,(pP b1 0)),(5,(vI t.1)),(6,(vN n)),(7,(Value.bool (Ao n t.1))),(8,(Value.bool (!(Ao n t.1)))),(9,(Value.bool (!(Ao n t.1)))),(15,(Value.bool ((!(Ao n t.1))||(!(Ao n t.2.1))))),(16,(Value.bool ((!(Ao n t.1))||(!(Ao n t.2.1))))),(22,(Value.bool (((!(Ao n t.1))||(!(Ao n t.2.1)))||(!(Ao n t.2.2))))),(23,(Value.bool (((!(Ao n t.1))||(!(Ao n t.2.1)))||(!(Ao n t.2.2))))),(29,(Value.bool ((((!(Ao n t.1))||(!(Ao n t.2.1)))||(!(Ao n t.2.2)))||(decide (t.1=t.2.1))))),(30,(Value.bool ((((!(Ao n t.1))||(!(Ao n t.2.1)))||(!(Ao n t.2.2)))||(decide (t.1=t.2.1))))),(36,(Value.bool (((((!(Ao n t.1))||(!(Ao n t.2.1)))||(!(Ao n t.2.2)))||(decide (t.1=t.2.1)))||(decide (t.2.1=t.2.2)))))]) (LM:=[AX b1 105 (Ad t),AF (some ⟨bo.b,0,none⟩) ([(vN n)])]) 6 ?_ ?_
 ·rcases Bool.eq_false_or_eq_true ((((!(Ao n t.1))||(!(Ao n t.2.1)))||(!(Ao n t.2.2)))||(decide (t.1=t.2.1))) with hg4|hg4
  ·skip
   refine OkL.retell (k:=30) (u:=Value.bool true) rfl (by rw [hg4]) ?_
   have hg4':=hg4
   simp only [Bool.and_eq_true,Bool.or_eq_true,Bool.and_eq_false_iff,Bool.or_eq_false_iff,Bool.not_eq_true',Bool.not_eq_false',decide_eq_true_eq,decide_eq_false_iff_not] at hg4'
   exact OkL.skip (AC rfl) rfl (AK rfl) (OkL.skip (AC rfl) rfl (AK rfl) (OkL.skip (AC rfl) rfl (AK rfl) (OkL.skip (AC rfl) rfl (AK rfl) (OkL.skip (AC rfl) rfl (AK rfl) (AG (v:=(Value.bool true)) (AN rfl rfl) rfl (OkL.nil (OkQ.mid (sS rfl (sS rfl (sS rfl (sS rfl (sS rfl (sS rfl (sS rfl (sS rfl (sS rfl (sS rfl (sS rfl (sS rfl (sS rfl (sS rfl (sS (by first|rfl|(rw [hg4];rfl)|rw [hg4]) (sS (by first|rfl|(rw [hg4];rfl)|rw [hg4]) (sN))))))))))))))))) (List.Sublist.refl _))))))))
  ·skip
   refine OkL.retell (k:=30) (u:=Value.bool false) rfl (by rw [hg4]) ?_
   have hg4':=hg4
   simp only [Bool.and_eq_true,Bool.or_eq_true,Bool.and_eq_false_iff,Bool.or_eq_false_iff,Bool.not_eq_true',Bool.not_eq_false',decide_eq_true_eq,decide_eq_false_iff_not] at hg4'
   exact OkL.step (v:=(pP b1 1)) (AB rfl) (AH (j:=1) rfl rfl Tryz.underlying105 Tryz.sizeOf3 rfl (by decide) rfl) rfl (AK rfl) (OkL.step (v:=(vI t.2.1)) (AB rfl) (AE (i:=0) (v:=(vI t.2.1)) rfl rfl BH.a rfl) rfl (AK rfl) (OkL.step (v:=(pP b1 2)) (AB rfl) (AH (j:=2) rfl rfl Tryz.underlying105 Tryz.sizeOf3 rfl (by decide) rfl) rfl (AK rfl) (OkL.step (v:=(vI t.2.2)) (AB rfl) (AE (i:=0) (v:=(vI t.2.2)) rfl rfl BH.a rfl) rfl (AK rfl) (OkL.step (v:=(Value.bool (decide (t.2.1=t.2.2)))) (AB rfl) (BE (c:=(decide (t.2.1=t.2.2))) rfl rfl rfl) rfl (AK rfl) (AG (v:=(Value.bool (decide (t.2.1=t.2.2)))) (AJ rfl rfl) rfl (OkL.nil (OkQ.mid (sS rfl (sS rfl (sS rfl (sS rfl (sS rfl (sS rfl (sS rfl (sS rfl (sS rfl (sS rfl (sS rfl (sS rfl (sS rfl (sS rfl (sS (by first|rfl|(rw [hg4];rfl)|rw [hg4]) (sS (by first|rfl|(rw [hg4];rfl)|rw [hg4]) (sN))))))))))))))))) (List.Sublist.refl _))))))))
 refine AO rfl ?_
 refine OkL.mid (FM:=[(1,(pP bo.b 0)),(2,(pP b1 0)),(3,(Value.bool false)),(4,(pP b1 0)),(5,(vI t.1)),(6,(vN n)),(7,(Value.bool (Ao n t.1))),(8,(Value.bool (!(Ao n t.1)))),(9,(Value.bool (!(Ao n t.1)))),(15,(Value.bool ((!(Ao n t.1))||(!(Ao n t.2.1))))),(16,(Value.bool ((!(Ao n t.1))||(!(Ao n t.2.1))))),(22,(Value.bool (((!(Ao n t.1))||(!(Ao n t.2.1)))||(!(Ao n t.2.2))))),(23,(Value.bool (((!(Ao n t.1))||(!(Ao n t.2.1)))||(!(Ao n t.2.2))))),(29,(Value.bool ((((!(Ao n t.1))||(!(Ao n t.2.1)))||(!(Ao n t.2.2)))||(decide (t.1=t.2.1))))),(30,(Value.bool ((((!(Ao n t.1))||(!(Ao n t.2.1)))||(!(Ao n t.2.2)))||(decide (t.1=t.2.1))))),(36,(Value.bool (((((!(Ao n t.1))||(!(Ao n t.2.1)))||(!(Ao n t.2.2)))||(decide (t.1=t.2.1)))||(decide (t.2.1=t.2.2))))),(37,(Value.bool (((((!(Ao n t.1))||(!(Ao n t.2.1)))||(!(Ao n t.2.2)))||(decide (t.1=t.2.1)))||(decide (t.2.1=t.2.2))))),(43,(Value.bool ((((((!(Ao n t.1))||(!(Ao n t.2.1)))||(!(Ao n t.2.2)))||(decide (t.1=t.2.1)))||(decide (t.2.1=t.2.2)))||(decide (t.2.2=t.1)))))]) (LM:=[AX b1 105 (Ad t),AF (some ⟨bo.b,0,none⟩) ([(vN n)])]) 6 ?_ ?_
 ·rcases Bool.eq_false_or_eq_true (((((!(Ao n t.1))||(!(Ao n t.2.1)))||(!(Ao n t.2.2)))||(decide (t.1=t.2.1)))||(decide (t.2.1=t.2.2))) with hg5|hg5
  ·skip
   refine OkL.retell (k:=37) (u:=Value.bool true) rfl (by rw [hg5]) ?_
   have hg5':=hg5
   simp only [Bool.and_eq_true,Bool.or_eq_true,Bool.and_eq_false_iff,Bool.or_eq_false_iff,Bool.not_eq_true',Bool.not_eq_false',decide_eq_true_eq,decide_eq_false_iff_not] at hg5'
   exact OkL.skip (AC rfl) rfl (AK rfl) (OkL.skip (AC rfl) rfl (AK rfl) (OkL.skip (AC rfl) rfl (AK rfl) (OkL.skip (AC rfl) rfl (AK rfl) (OkL.skip (AC rfl) rfl (AK rfl) (AG (v:=(Value.bool true)) (AN rfl rfl) rfl (OkL.nil (OkQ.mid (sS rfl (sS rfl (sS rfl (sS rfl (sS rfl (sS rfl (sS rfl (sS rfl (sS rfl (sS rfl (sS rfl (sS rfl (sS rfl (sS rfl (sS rfl (sS rfl (sS (by first|rfl|(rw [hg5];rfl)|rw [hg5]) (sS (by first|rfl|(rw [hg5];rfl)|rw [hg5]) (sN))))))))))))))))))) (List.Sublist.refl _))))))))
  ·skip
   refine OkL.retell (k:=37) (u:=Value.bool false) rfl (by rw [hg5]) ?_
   have hg5':=hg5
   simp only [Bool.and_eq_true,Bool.or_eq_true,Bool.and_eq_false_iff,Bool.or_eq_false_iff,Bool.not_eq_true',Bool.not_eq_false',decide_eq_true_eq,decide_eq_false_iff_not] at hg5'
   exact OkL.step (v:=(pP b1 2)) (AB rfl) (AH (j:=2) rfl rfl Tryz.underlying105 Tryz.sizeOf3 rfl (by decide) rfl) rfl (AK rfl) (OkL.step (v:=(vI t.2.2)) (AB rfl) (AE (i:=0) (v:=(vI t.2.2)) rfl rfl BH.a rfl) rfl (AK rfl) (OkL.step (v:=(pP b1 0)) (AB rfl) (AH (j:=0) rfl rfl Tryz.underlying105 Tryz.sizeOf3 rfl (by decide) rfl) rfl (AK rfl) (OkL.step (v:=(vI t.1)) (AB rfl) (AE (i:=0) (v:=(vI t.1)) rfl rfl BH.a rfl) rfl (AK rfl) (OkL.step (v:=(Value.bool (decide (t.2.2=t.1)))) (AB rfl) (BE (c:=(decide (t.2.2=t.1))) rfl rfl rfl) rfl (AK rfl) (AG (v:=(Value.bool (decide (t.2.2=t.1)))) (AJ rfl rfl) rfl (OkL.nil (OkQ.mid (sS rfl (sS rfl (sS rfl (sS rfl (sS rfl (sS rfl (sS rfl (sS rfl (sS rfl (sS rfl (sS rfl (sS rfl (sS rfl (sS rfl (sS rfl (sS rfl (sS (by first|rfl|(rw [hg5];rfl)|rw [hg5]) (sS (by first|rfl|(rw [hg5];rfl)|rw [hg5]) (sN))))))))))))))))))) (List.Sublist.refl _))))))))
 exact asg' rfl (OkL.nil (OkQ.subF (sL [3] rfl) (OkQ.then_ (OkC.ret (ret_one rfl (rd_tmp (v:=(Value.bool ((((((!(Ao n t.1))||(!(Ao n t.2.1)))||(!(Ao n t.2.2)))||(decide (t.1=t.2.1)))||(decide (t.2.1=t.2.2)))||(decide (t.2.2=t.1))))) rfl) (λw hw=>⟨by unfold NZ;generalize Ao n t.1=q1;generalize Ao n t.2.1=q2;generalize Ao n t.2.2=q3;generalize decide (t.1=t.2.1)=q4;generalize decide (t.2.1=t.2.2)=q5;generalize decide (t.2.2=t.1)=q6;cases q1<;>cases q2<;>cases q3<;>cases q4<;>cases q5<;>cases q6<;>rfl,hw.out⟩))))))
theorem VW (n:Nat) (bo:BX [vN n]) (ts:List Z3) (x:RX (rowsL Ad ts) ts.length) (hl:ts.length<4611686018427387904) (w:World) {S:Nat->Prop} (hbo:Ro S w bo) (hx:Ro S w x):Calls Tryz.prog 218 #[(Value.slice x.p ts.length x.c),(Value.func (.func 174) #[] #[(pP bo.b 0)])] w (Ai w (vI (idxZ n ts 0))):=by
 have lbo:=CU (W:=w) hbo
 have lx:=CU (W:=w) hx
 refine Aa (args:=[(Value.slice x.p ts.length x.c),(Value.func (.func 174) #[] #[(pP bo.b 0)])]) (L:=[AF (some ⟨bo.b,0,none⟩) ([(vN n)]),AF x.p (rowsL Ad ts)]) Tryz.func218 rfl rfl (AK rfl) (Ee hbo (Ee hx Al)) (OkC.subF (sL [0,1] rfl) (q4 (asg' rfl (OkL.nil (q1 (q4 (AO rfl (AG (v:=(vN ts.length)) (AD rfl Tryz.underlying23) rfl (AO rfl (OkL.nil (OkQ.subF (sL [0,1,4,7,8] rfl) ?_)))))))))))
 refine OkQ.then_ (OkC.block ?_)
 refine OkC.lp1 (tg λ(j:Nat)=>j<=ts.length/\idxZ n ts 0=idxZ n (ts.drop j) j) (tg λ(j:Nat)=>[(0,(Value.slice x.p ts.length x.c)),(1,(Value.func (.func 174) #[] #[(pP bo.b 0)])),(7,(vN ts.length)),(8,(vN j))]) (tg λ(j:Nat)=>[AF (some ⟨bo.b,0,none⟩) ([(vN n)]),AF x.p (rowsL Ad ts)]) (tg λ(j:Nat)=>ts.length-j) 0 (⟨Nat.zero_le _,rfl⟩) (sF rfl) sr (λj hJ=>?_)
 obtain ⟨hj,he⟩:=hJ
 refine q4 (AG (Af (c:=(decide (j<ts.length))) rfl rfl (B9 (a:=j) (b:=ts.length))) rfl (OkL.nil (q1 ?_)))
 refine OkC.cond rfl (λhc0=>?_) (λhc0=>?_)
 ·replace hc0:=of_decide_eq_true hc0
  refine OkC.skip (q1 (OkC.block (q4 (AO rfl (asg' rfl (q3 (sL [0,1,7,8,5] rfl) (AO rfl (AO rfl (AO rfl (AG (v:=(pP (pB x.p) (pO x.p+j*3))) (AI (j:=j) rfl rfl x.ok Tryz.underlying23 Tryz.sizeOf105 rfl (by omega)) rfl (AG (v:=(aG (Ad (ts.getD j ((0,0,0):Z3))))) (AU (vs:=Ad (ts.getD j ((0,0,0):Z3))) (i:=1) rfl rfl (Ak.ne x.ok (by omega)) FC (An Au _ _ _ (by omega)) (Au _)) rfl ?_)))))))))))
  refine OkL.call (v:=(Value.bool (!NZ n (ts.getD j ((0,0,0):Z3))))) (AP rfl) (HH (args:=[(aG (Ad (ts.getD j ((0,0,0):Z3))))]) (caps:=[(pP bo.b 0)]) (all:=[(aG (Ad (ts.getD j ((0,0,0):Z3)))),(pP bo.b 0)]) rfl rfl rfl Tryz.call174) (λw hw=>Qw (ts.getD j ((0,0,0):Z3)) n bo w (inS hw 0 rfl lbo)) rfl (AK rfl) (OkL.nil (OkQ.subF (sL [0,1,7,8,5,16] rfl) (OkQ.then_ ?_)))
  refine OkC.cond rfl (λhc1=>?_) (λhc1=>?_)
  ·simp only [Bool.and_eq_true,Bool.or_eq_true,Bool.and_eq_false_iff,Bool.or_eq_false_iff,Bool.not_eq_true',Bool.not_eq_false',decide_eq_true_eq,decide_eq_false_iff_not] at hc1
   have hfin:=he.trans (T8 (by omega) (by simpa using hc1))
   exact q4 (AO rfl (asg' rfl (OkL.nil (OkQ.subF (sL [0,1,7,8,5,4] rfl) (OkQ.then_ (OkC.ret (OkQ.in_ret (OkQ.then_ret (OkQ.round1_ret (OkQ.in_ret (OkQ.then_ret (ret_one rfl (rd_tmp (v:=(vN j)) rfl) (λw hw=>⟨by rw [hfin],hw.out⟩)))))))))))))
  ·simp only [Bool.and_eq_true,Bool.or_eq_true,Bool.and_eq_false_iff,Bool.or_eq_false_iff,Bool.not_eq_true',Bool.not_eq_false',decide_eq_true_eq,decide_eq_false_iff_not] at hc1
   exact OkC.skip (OkQ.in_normal (OkQ.then_ (OkC.region (AG (AY (c:=((j+1:Nat):Int)) rfl rfl (AT (a:=j) (b:=1) (by omega))) rfl (AO rfl (OkL.nil (OkQ.subF (sL [0,1,7,8,5] rfl) (OkQ.round1 (j+1) (⟨by omega,he.trans (P7 (by omega) (by simpa using hc1))⟩) (by omega) (sF rfl) sr))))))))
 ·replace hc0:=of_decide_eq_false hc0
  have hfin:=he.trans (S8 hc0)
  exact OkC.exit (OkQ.then_exit (OkQ.round1_exit (OkQ.in_exit (q2 (asg' rfl (OkL.nil (OkQ.then_ (OkC.ret (ret_one rfl (rd_tmp (v:=(vI (-1:Int))) rfl) (λw hw=>⟨by rw [hfin],hw.out⟩))))))))))
theorem Sa (n:Nat) (bo:BX [vN n]) (ts:List Z3) (x:RX (rowsL Ad ts) ts.length) (hl:ts.length<4611686018427387904) (w:World) {S:Nat->Prop} (hbo:Ro S w bo) (hx:Ro S w x):Calls Tryz.prog 173 #[(Value.slice x.p ts.length x.c),(Value.func (.func 174) #[] #[(pP bo.b 0)])] w (Ai w (Value.bool (!Fd n ts))):=by
 have lbo:=CU (W:=w) hbo
 have lx:=CU (W:=w) hx
 refine Aa (args:=[(Value.slice x.p ts.length x.c),(Value.func (.func 174) #[] #[(pP bo.b 0)])]) (L:=[AF (some ⟨bo.b,0,none⟩) ([(vN n)]),AF x.p (rowsL Ad ts)]) Tryz.func173 rfl rfl (AK rfl) (Ee hbo (Ee hx Al)) (OkC.subF (sL [0,1] rfl) (q4 (asg' rfl (OkL.nil (q2 (AO rfl (AO rfl (Cq Tryz.call218 (λw hw=>VW n bo ts x hl w (inS hw 0 rfl lbo) (inS hw 1 rfl lx)) rfl (AG (B_ (c:=(!Fd n ts)) rfl rfl (Kr n ts 0)) rfl (asg' rfl (OkL.nil ?_)))))))))))
 exact OkQ.subF (sL [4] rfl) (OkQ.then_ (OkC.ret (ret_one rfl (rd_tmp (v:=(Value.bool (!Fd n ts))) rfl) (λw hw=>⟨rfl,hw.out⟩))))
theorem RR (n:Nat) (ts:List Z3) (x:RX (rowsL Ad ts) ts.length) (hl:ts.length<4611686018427387904) (w:World) {S:Nat->Prop} (hx:Ro S w x):Calls Tryz.prog 110 #[(Value.slice x.p ts.length x.c),(vN n)] w (Ai w (Value.bool (Fd n ts))):=by
 have lx:=CU (W:=w) hx
 refine Aa (args:=[(Value.slice x.p ts.length x.c),(vN n)]) (L:=[AF x.p (rowsL Ad ts)]) Tryz.func110 rfl rfl (AK rfl) (Ee hx Al) (OkC.subF (sL [0,1] rfl) (q4 (Bg (cs:=[(vN n)]) rfl λb1=>OkL.frzX 0 rfl rfl λhnb1=>asg' rfl (q3 (sL [0,3,4] rfl) (AO rfl (AG (v:=(Value.func (.func 174) #[] #[(pP b1 0)])) (GD (vs:=[]) (us:=[(pP b1 0)]) rfl rfl) rfl (Cq Tryz.call173 (λw hw=>Sa n ⟨b1⟩ ts x hl w (ZM (x:=(⟨b1⟩:BX [vN n])) hw 0 rfl hnb1) (inS hw 1 rfl lx)) rfl (AG (Be (c:=(!(!Fd n ts))) rfl rfl) rfl (asg' rfl ?_)))))))))
 exact OkL.nil (OkQ.subF (sL [4] rfl) (OkQ.then_ (OkC.ret (ret_one rfl (rd_tmp (v:=(Value.bool (!(!Fd n ts)))) rfl) (λw hw=>⟨by simp,hw.out⟩)))))
theorem Ly {N K:Nat} {zs:List Z3} (x:RQ N K zs) (p:Int) (w:World) {S:Nat->Prop} (hx:Ro S w x):Calls Tryz.prog 57 #[(aG (Ht x)),(vI p)] w (Ai w (Value.bool (Ao N p))):=by
 have lx:=CU (W:=w) hx
 refine Aa (args:=[(aG (Ht x)),(vI p)]) (L:=[AF x.a.p (x.cs),AF x.b.p (rowsL Ad zs),AF x.c.p (x.ds)]) Tryz.func57 rfl rfl (AK rfl) (Ee hx Al) (OkC.subF (sL [0,1] rfl) (q4 (Bg (cs:=Ht x) rfl λb1=>asg' rfl (q3 (sL [1,2,4] rfl) (AO rfl (AG (B_ (c:=(decide ((0:Int)<=p))) rfl rfl rfl) rfl (AO rfl ?_)))))))
 refine OkL.mid (FM:=[(1,(vI p)),(2,(pP b1 0)),(4,(Value.bool false)),(5,(vI p)),(6,(Value.bool (decide ((0:Int)<=p)))),(7,(Value.bool (decide ((0:Int)<=p)))),(13,(Value.bool ((decide ((0:Int)<=p))&&(decide (p<((N:Nat):Int))))))]) (LM:=[AX b1 39 (Ht x),AF x.a.p (x.cs),AF x.b.p (rowsL Ad zs),AF x.c.p (x.ds)]) 6 ?_ ?_
 ·rcases Bool.eq_false_or_eq_true (decide ((0:Int)<=p)) with hg1|hg1
  ·skip
   refine OkL.retell (k:=7) (u:=Value.bool true) rfl (by rw [hg1]) ?_
   have hg1':=hg1
   replace hg1':=of_decide_eq_true hg1'
   exact OkL.step (v:=(vI p)) (AB rfl) (Ac rfl) rfl (AK rfl) (OkL.step (v:=(pP b1 0)) (AB rfl) (AA rfl Tryz.underlying39 rfl Tryz.sizeOf36 rfl) rfl (AK rfl) (OkL.step (v:=(Value.slice x.a.p N x.a.c)) (AB rfl) (AE (i:=0) (v:=(Value.slice x.a.p N x.a.c)) rfl rfl G1.a rfl) rfl (AK rfl) (OkL.step (v:=(vN N)) (AB rfl) (AD rfl Tryz.underlying36) rfl (AK rfl) (OkL.step (v:=(Value.bool (decide (p<((N:Nat):Int))))) (AB rfl) (Af (c:=(decide (p<((N:Nat):Int)))) rfl rfl rfl) rfl (AK rfl) (AG (v:=(Value.bool (decide (p<((N:Nat):Int))))) (AN rfl rfl) rfl (OkL.nil (OkQ.mid (sS rfl (sS rfl (sS rfl (sS rfl (sS rfl (sS (by first|rfl|(rw [hg1];rfl)|rw [hg1]) (sS (by first|rfl|(rw [hg1];rfl)|rw [hg1]) (sN)))))))) (List.Sublist.refl _))))))))
  ·skip
   refine OkL.retell (k:=7) (u:=Value.bool false) rfl (by rw [hg1]) ?_
   have hg1':=hg1
   replace hg1':=of_decide_eq_false hg1'
   exact OkL.skip (AC rfl) rfl (AK rfl) (OkL.skip (AC rfl) rfl (AK rfl) (OkL.skip (AC rfl) rfl (AK rfl) (OkL.skip (AC rfl) rfl (AK rfl) (OkL.skip (AC rfl) rfl (AK rfl) (AG (v:=(Value.bool false)) (AJ rfl rfl) rfl (OkL.nil (OkQ.mid (sS rfl (sS rfl (sS rfl (sS rfl (sS rfl (sS (by first|rfl|(rw [hg1];rfl)|rw [hg1]) (sS (by first|rfl|(rw [hg1];rfl)|rw [hg1]) (sN)))))))) (List.Sublist.refl _))))))))
 exact asg' rfl (OkL.nil (OkQ.subF (sL [4] rfl) (OkQ.then_ (OkC.ret (ret_one rfl (rd_tmp (v:=(Value.bool ((decide ((0:Int)<=p))&&(decide (p<((N:Nat):Int)))))) rfl) (λw hw=>⟨by unfold Ao;first|rfl|simp,hw.out⟩))))))
set_option maxHeartbeats 1000000 in
theorem RZ {N K:Nat} {zs:List Z3} (x:RQ N K zs) (hl:zs.length<=1000000) (w:World) {S:Nat->Prop} (hx:Ro S w x):Calls Tryz.prog 45 #[(aG (Ht x))] w (Ai w (Value.bool (Fd N zs))):=by
 have lx:=CU (W:=w) hx
 refine Aa (args:=[(aG (Ht x))]) (L:=[AF x.a.p (x.cs),AF x.b.p (rowsL Ad zs),AF x.c.p (x.ds)]) Tryz.func45 rfl rfl (AK rfl) (Ee hx Al) (OkC.subF (sL [0] rfl) (q4 (Bg (cs:=Ht x) rfl λb1=>asg' rfl (q6 (sL [1,2] rfl) (q4 (asg' rfl (OkL.nil (OkQ.then_ (OkC.block ?_)))))))))
 refine OkC.lp1 (tg λ(i:Nat)=>i<=zs.length/\∀j,j<i->NZ N (zs.getD j (0,0,0))=true) (tg λ(i:Nat)=>[(1,(pP b1 0)),(3,(vN i))]) (tg λ(i:Nat)=>[AX b1 39 (Ht x),AF x.a.p (x.cs),AF x.b.p (rowsL Ad zs),AF x.c.p (x.ds)]) (tg λ(i:Nat)=>zs.length-i) 0 (⟨Nat.zero_le _,λj h=>absurd h (Nat.not_lt_zero _)⟩) (sF rfl) sr (λi hJ=>?_)
 obtain ⟨hi,hok⟩:=hJ
 refine OkC.seq (q4 (AO rfl (AG (v:=(pP b1 1)) (AA rfl Tryz.underlying39 rfl Tryz.sizeOf23 rfl) rfl (Aw 0 (Value.slice x.b.p zs.length x.b.c) Ds rfl (AG (v:=(vN zs.length)) (AD rfl Tryz.underlying23) rfl (AG (Af (c:=(decide (i<zs.length))) rfl rfl (B9 (a:=i) (b:=zs.length))) rfl (OkL.nil (OkQ.subF (sL [1,3,9] rfl) (OkQ.then_ ?_)))))))))
 refine OkC.cond rfl (λhc0=>?_) (λhc0=>?_)
 ·replace hc0:=of_decide_eq_true hc0
  obtain ⟨T,hT⟩:∃q,q=zs.getD i (0,0,0):=⟨_,rfl⟩
  refine OkC.skip (q1 (OkC.block (q4 (AG (v:=(pP b1 1)) (AA rfl Tryz.underlying39 rfl Tryz.sizeOf23 rfl) rfl (Aw 0 (Value.slice x.b.p zs.length x.b.c) Ds rfl (AO rfl (AG (v:=(pP (pB x.b.p) (pO x.b.p+i*3))) (AI (j:=i) rfl rfl x.b.ok Tryz.underlying23 Tryz.sizeOf105 rfl (by omega)) rfl (AG (v:=(aG (Ad (zs.getD i ((0,0,0):Z3))))) (AU (vs:=Ad (zs.getD i ((0,0,0):Z3))) (i:=2) rfl rfl (Ak.ne x.b.ok (by omega)) FC (An Au _ _ _ (by omega)) (Au _)) rfl (OkL.retell (k:=16) (u:=(aG (Ad T))) rfl (by rw [hT]) (al NR rfl λb2=>Ay rfl Tryz.sizeOf105 rfl ?_))))))))))
  refine q3 (sL [1,3,4] rfl) (BU 1 D_ rfl (AG (v:=(pP b2 0)) (AH (j:=0) rfl rfl Tryz.underlying105 Tryz.sizeOf3 rfl (by decide) rfl) rfl (Aw 0 (vI T.1) BH rfl (Cq Tryz.call57 (λw hw=>Ly x T.1 w (inS hw 2 rfl lx)) rfl (AG (Be (c:=(!(Ao N T.1))) rfl rfl) rfl (AO rfl ?_))))))
  refine OkL.mid (FM:=[(1,(pP b1 0)),(3,(vN i)),(4,(pP b2 0)),(17,(aG (Ht x))),(18,(pP b2 0)),(19,(vI T.1)),(20,(Value.bool (Ao N T.1))),(21,(Value.bool (!(Ao N T.1)))),(22,(Value.bool (!(Ao N T.1)))),(28,(Value.bool ((!(Ao N T.1))||(!(Ao N T.2.1)))))]) (LM:=[AX b2 105 (Ad T),AX b1 39 (Ht x),AF x.a.p (x.cs),AF x.b.p (rowsL Ad zs),AF x.c.p (x.ds)]) 6 ?_ ?_
  ·rcases Bool.eq_false_or_eq_true (!(Ao N T.1)) with hg1|hg1
   ·skip
    refine OkL.retell (k:=22) (u:=Value.bool true) rfl (by rw [hg1]) ?_
    have hg1':=hg1
    simp only [Bool.and_eq_true,Bool.or_eq_true,Bool.and_eq_false_iff,Bool.or_eq_false_iff,Bool.not_eq_true',Bool.not_eq_false',decide_eq_true_eq,decide_eq_false_iff_not] at hg1'
    exact OkL.skip (AC rfl) rfl (AK rfl) (OkL.skip (AC rfl) rfl (AK rfl) (OkL.skip (AC rfl) rfl (AK rfl) (OkL.skip (AC rfl) rfl (AK rfl) (OkL.skip (AC rfl) rfl (AK rfl) (AG (v:=(Value.bool true)) (AN rfl rfl) rfl (OkL.nil (OkQ.mid (sS rfl (sS rfl (sS rfl (sS rfl (sS rfl (sS rfl (sS rfl (sS rfl (sS (by first|rfl|(rw [hg1];rfl)|rw [hg1]) (sS (by first|rfl|(rw [hg1];rfl)|rw [hg1]) (sN))))))))))) (List.Sublist.refl _))))))))
   ·skip
    refine OkL.retell (k:=22) (u:=Value.bool false) rfl (by rw [hg1]) ?_
    have hg1':=hg1
    simp only [Bool.and_eq_true,Bool.or_eq_true,Bool.and_eq_false_iff,Bool.or_eq_false_iff,Bool.not_eq_true',Bool.not_eq_false',decide_eq_true_eq,decide_eq_false_iff_not] at hg1'
    exact OkL.step (v:=(aG (Ht x))) (AB rfl) (BA (i:=1) (vs:=Ht x) rfl rfl D_.a D_.s rfl rfl) rfl (AK rfl) (OkL.step (v:=(pP b2 1)) (AB rfl) (AH (j:=1) rfl rfl Tryz.underlying105 Tryz.sizeOf3 rfl (by decide) rfl) rfl (AK rfl) (OkL.step (v:=(vI T.2.1)) (AB rfl) (AE (i:=0) (v:=(vI T.2.1)) rfl rfl BH.a rfl) rfl (AK rfl) (OkL.call (v:=(Value.bool (Ao N T.2.1))) (AB rfl) (Ap (args:=[(aG (Ht x)),(vI T.2.1)]) rfl rfl Tryz.call57) (λw hw=>Ly x T.2.1 w (inS hw 2 rfl lx)) rfl (AK rfl) (OkL.step (v:=(Value.bool (!(Ao N T.2.1)))) (AB rfl) (Be (c:=(!(Ao N T.2.1))) rfl rfl) rfl (AK rfl) (AG (v:=(Value.bool (!(Ao N T.2.1)))) (AJ rfl rfl) rfl (OkL.nil (OkQ.mid (sS rfl (sS rfl (sS rfl (sS rfl (sS rfl (sS rfl (sS rfl (sS rfl (sS (by first|rfl|(rw [hg1];rfl)|rw [hg1]) (sS (by first|rfl|(rw [hg1];rfl)|rw [hg1]) (sN))))))))))) (List.Sublist.refl _))))))))
  refine AO rfl ?_
  refine OkL.mid (FM:=[(1,(pP b1 0)),(3,(vN i)),(4,(pP b2 0)),(17,(aG (Ht x))),(18,(pP b2 0)),(19,(vI T.1)),(20,(Value.bool (Ao N T.1))),(21,(Value.bool (!(Ao N T.1)))),(22,(Value.bool (!(Ao N T.1)))),(28,(Value.bool ((!(Ao N T.1))||(!(Ao N T.2.1))))),(29,(Value.bool ((!(Ao N T.1))||(!(Ao N T.2.1))))),(35,(Value.bool (((!(Ao N T.1))||(!(Ao N T.2.1)))||(!(Ao N T.2.2)))))]) (LM:=[AX b2 105 (Ad T),AX b1 39 (Ht x),AF x.a.p (x.cs),AF x.b.p (rowsL Ad zs),AF x.c.p (x.ds)]) 6 ?_ ?_
  ·rcases Bool.eq_false_or_eq_true ((!(Ao N T.1))||(!(Ao N T.2.1))) with hg2|hg2
   ·skip
    refine OkL.retell (k:=29) (u:=Value.bool true) rfl (by rw [hg2]) ?_
    have hg2':=hg2
    simp only [Bool.and_eq_true,Bool.or_eq_true,Bool.and_eq_false_iff,Bool.or_eq_false_iff,Bool.not_eq_true',Bool.not_eq_false',decide_eq_true_eq,decide_eq_false_iff_not] at hg2'
    exact OkL.skip (AC rfl) rfl (AK rfl) (OkL.skip (AC rfl) rfl (AK rfl) (OkL.skip (AC rfl) rfl (AK rfl) (OkL.skip (AC rfl) rfl (AK rfl) (OkL.skip (AC rfl) rfl (AK rfl) (AG (v:=(Value.bool true)) (AN rfl rfl) rfl (OkL.nil (OkQ.mid (sS rfl (sS rfl (sS rfl (sS rfl (sS rfl (sS rfl (sS rfl (sS rfl (sS rfl (sS rfl (sS (by first|rfl|(rw [hg2];rfl)|rw [hg2]) (sS (by first|rfl|(rw [hg2];rfl)|rw [hg2]) (sN))))))))))))) (List.Sublist.refl _))))))))
   ·skip
    refine OkL.retell (k:=29) (u:=Value.bool false) rfl (by rw [hg2]) ?_
    have hg2':=hg2
    simp only [Bool.and_eq_true,Bool.or_eq_true,Bool.and_eq_false_iff,Bool.or_eq_false_iff,Bool.not_eq_true',Bool.not_eq_false',decide_eq_true_eq,decide_eq_false_iff_not] at hg2'
    exact OkL.step (v:=(aG (Ht x))) (AB rfl) (BA (i:=1) (vs:=Ht x) rfl rfl D_.a D_.s rfl rfl) rfl (AK rfl) (OkL.step (v:=(pP b2 2)) (AB rfl) (AH (j:=2) rfl rfl Tryz.underlying105 Tryz.sizeOf3 rfl (by decide) rfl) rfl (AK rfl) (OkL.step (v:=(vI T.2.2)) (AB rfl) (AE (i:=0) (v:=(vI T.2.2)) rfl rfl BH.a rfl) rfl (AK rfl) (OkL.call (v:=(Value.bool (Ao N T.2.2))) (AB rfl) (Ap (args:=[(aG (Ht x)),(vI T.2.2)]) rfl rfl Tryz.call57) (λw hw=>Ly x T.2.2 w (inS hw 2 rfl lx)) rfl (AK rfl) (OkL.step (v:=(Value.bool (!(Ao N T.2.2)))) (AB rfl) (Be (c:=(!(Ao N T.2.2))) rfl rfl) rfl (AK rfl) (AG (v:=(Value.bool (!(Ao N T.2.2)))) (AJ rfl rfl) rfl (OkL.nil (OkQ.mid (sS rfl (sS rfl (sS rfl (sS rfl (sS rfl (sS rfl (sS rfl (sS rfl (sS rfl (sS rfl (sS (by first|rfl|(rw [hg2];rfl)|rw [hg2]) (sS (by first|rfl|(rw [hg2];rfl)|rw [hg2]) (sN))))))))))))) (List.Sublist.refl _))))))))
  refine AO rfl ?_
  refine OkL.mid (FM:=[(1,(pP b1 0)),(3,(vN i)),(4,(pP b2 0)),(17,(aG (Ht x))),(18,(pP b2 0)),(19,(vI T.1)),(20,(Value.bool (Ao N T.1))),(21,(Value.bool (!(Ao N T.1)))),(22,(Value.bool (!(Ao N T.1)))),(28,(Value.bool ((!(Ao N T.1))||(!(Ao N T.2.1))))),(29,(Value.bool ((!(Ao N T.1))||(!(Ao N T.2.1))))),(35,(Value.bool (((!(Ao N T.1))||(!(Ao N T.2.1)))||(!(Ao N T.2.2))))),(36,(Value.bool (((!(Ao N T.1))||(!(Ao N T.2.1)))||(!(Ao N T.2.2))))),(42,(Value.bool ((((!(Ao N T.1))||(!(Ao N T.2.1)))||(!(Ao N T.2.2)))||(decide (T.1=T.2.1)))))]) (LM:=[AX b2 105 (Ad T),AX b1 39 (Ht x),AF x.a.p (x.cs),AF x.b.p (rowsL Ad zs),AF x.c.p (x.ds)]) 6 ?_ ?_
  ·rcases Bool.eq_false_or_eq_true (((!(Ao N T.1))||(!(Ao N T.2.1)))||(!(Ao N T.2.2))) with hg3|hg3
   ·skip
    refine OkL.retell (k:=36) (u:=Value.bool true) rfl (by rw [hg3]) ?_
    have hg3':=hg3
    simp only [Bool.and_eq_true,Bool.or_eq_true,Bool.and_eq_false_iff,Bool.or_eq_false_iff,Bool.not_eq_true',Bool.not_eq_false',decide_eq_true_eq,decide_eq_false_iff_not] at hg3'
    exact OkL.skip (AC rfl) rfl (AK rfl) (OkL.skip (AC rfl) rfl (AK rfl) (OkL.skip (AC rfl) rfl (AK rfl) (OkL.skip (AC rfl) rfl (AK rfl) (OkL.skip (AC rfl) rfl (AK rfl) (AG (v:=(Value.bool true)) (AN rfl rfl) rfl (OkL.nil (OkQ.mid (sS rfl (sS rfl (sS rfl (sS rfl (sS rfl (sS rfl (sS rfl (sS rfl (sS rfl (sS rfl (sS rfl (sS rfl (sS (by first|rfl|(rw [hg3];rfl)|rw [hg3]) (sS (by first|rfl|(rw [hg3];rfl)|rw [hg3]) (sN))))))))))))))) (List.Sublist.refl _))))))))
   ·skip
    refine OkL.retell (k:=36) (u:=Value.bool false) rfl (by rw [hg3]) ?_
    have hg3':=hg3
    simp only [Bool.and_eq_true,Bool.or_eq_true,Bool.and_eq_false_iff,Bool.or_eq_false_iff,Bool.not_eq_true',Bool.not_eq_false',decide_eq_true_eq,decide_eq_false_iff_not] at hg3'
    exact OkL.step (v:=(pP b2 0)) (AB rfl) (AH (j:=0) rfl rfl Tryz.underlying105 Tryz.sizeOf3 rfl (by decide) rfl) rfl (AK rfl) (OkL.step (v:=(vI T.1)) (AB rfl) (AE (i:=0) (v:=(vI T.1)) rfl rfl BH.a rfl) rfl (AK rfl) (OkL.step (v:=(pP b2 1)) (AB rfl) (AH (j:=1) rfl rfl Tryz.underlying105 Tryz.sizeOf3 rfl (by decide) rfl) rfl (AK rfl) (OkL.step (v:=(vI T.2.1)) (AB rfl) (AE (i:=0) (v:=(vI T.2.1)) rfl rfl BH.a rfl) rfl (AK rfl) (OkL.step (v:=(Value.bool (decide (T.1=T.2.1)))) (AB rfl) (BE (c:=(decide (T.1=T.2.1))) rfl rfl rfl) rfl (AK rfl) (AG (v:=(Value.bool (decide (T.1=T.2.1)))) (AJ rfl rfl) rfl (OkL.nil (OkQ.mid (sS rfl (sS rfl (sS rfl (sS rfl (sS rfl (sS rfl (sS rfl (sS rfl (sS rfl (sS rfl (sS rfl (sS rfl (sS (by first|rfl|(rw [hg3];rfl)|rw [hg3]) (sS (by first|rfl|(rw [hg3];rfl)|rw [hg3]) (sN))))))))))))))) (List.Sublist.refl _))))))))
  refine AO rfl ?_
  refine OkL.mid (FM:=[(1,(pP b1 0)),(3,(vN i)),(4,(pP b2 0)),(17,(aG (Ht x))),(18,(pP b2 0)),(19,(vI T.1)),(20,(Value.bool (Ao N T.1))),(21,(Value.bool (!(Ao N T.1)))),(22,(Value.bool (!(Ao N T.1)))),(28,(Value.bool ((!(Ao N T.1))||(!(Ao N T.2.1))))),(29,(Value.bool ((!(Ao N T.1))||(!(Ao N T.2.1))))),(35,(Value.bool (((!(Ao N T.1))||(!(Ao N T.2.1)))||(!(Ao N T.2.2))))),(36,(Value.bool (((!(Ao N T.1))||(!(Ao N T.2.1)))||(!(Ao N T.2.2))))),(42,(Value.bool ((((!(Ao N T.1))||(!(Ao N T.2.1)))||(!(Ao N T.2.2)))||(decide (T.1=T.2.1))))),(43,(Value.bool ((((!(Ao N T.1))||(!(Ao N T.2.1)))||(!(Ao N T.2.2)))||(decide (T.1=T.2.1))))),(49,(Value.bool (((((!(Ao N T.1))||(!(Ao N T.2.1)))||(!(Ao N T.2.2)))||(decide (T.1=T.2.1)))||(decide (T.1=T.2.2)))))]) (LM:=[AX b2 105 (Ad T),AX b1 39 (Ht x),AF x.a.p (x.cs),AF x.b.p (rowsL Ad zs),AF x.c.p (x.ds)]) 6 ?_ ?_
  ·rcases Bool.eq_false_or_eq_true ((((!(Ao N T.1))||(!(Ao N T.2.1)))||(!(Ao N T.2.2)))||(decide (T.1=T.2.1))) with hg4|hg4
   ·skip
    refine OkL.retell (k:=43) (u:=Value.bool true) rfl (by rw [hg4]) ?_
    have hg4':=hg4
    simp only [Bool.and_eq_true,Bool.or_eq_true,Bool.and_eq_false_iff,Bool.or_eq_false_iff,Bool.not_eq_true',Bool.not_eq_false',decide_eq_true_eq,decide_eq_false_iff_not] at hg4'
    exact OkL.skip (AC rfl) rfl (AK rfl) (OkL.skip (AC rfl) rfl (AK rfl) (OkL.skip (AC rfl) rfl (AK rfl) (OkL.skip (AC rfl) rfl (AK rfl) (OkL.skip (AC rfl) rfl (AK rfl) (AG (v:=(Value.bool true)) (AN rfl rfl) rfl (OkL.nil (OkQ.mid (sS rfl (sS rfl (sS rfl (sS rfl (sS rfl (sS rfl (sS rfl (sS rfl (sS rfl (sS rfl (sS rfl (sS rfl (sS rfl (sS rfl (sS (by first|rfl|(rw [hg4];rfl)|rw [hg4]) (sS (by first|rfl|(rw [hg4];rfl)|rw [hg4]) (sN))))))))))))))))) (List.Sublist.refl _))))))))
   ·skip
    refine OkL.retell (k:=43) (u:=Value.bool false) rfl (by rw [hg4]) ?_
    have hg4':=hg4
    simp only [Bool.and_eq_true,Bool.or_eq_true,Bool.and_eq_false_iff,Bool.or_eq_false_iff,Bool.not_eq_true',Bool.not_eq_false',decide_eq_true_eq,decide_eq_false_iff_not] at hg4'
    exact OkL.step (v:=(pP b2 0)) (AB rfl) (AH (j:=0) rfl rfl Tryz.underlying105 Tryz.sizeOf3 rfl (by decide) rfl) rfl (AK rfl) (OkL.step (v:=(vI T.1)) (AB rfl) (AE (i:=0) (v:=(vI T.1)) rfl rfl BH.a rfl) rfl (AK rfl) (OkL.step (v:=(pP b2 2)) (AB rfl) (AH (j:=2) rfl rfl Tryz.underlying105 Tryz.sizeOf3 rfl (by decide) rfl) rfl (AK rfl) (OkL.step (v:=(vI T.2.2)) (AB rfl) (AE (i:=0) (v:=(vI T.2.2)) rfl rfl BH.a rfl) rfl (AK rfl) (OkL.step (v:=(Value.bool (decide (T.1=T.2.2)))) (AB rfl) (BE (c:=(decide (T.1=T.2.2))) rfl rfl rfl) rfl (AK rfl) (AG (v:=(Value.bool (decide (T.1=T.2.2)))) (AJ rfl rfl) rfl (OkL.nil (OkQ.mid (sS rfl (sS rfl (sS rfl (sS rfl (sS rfl (sS rfl (sS rfl (sS rfl (sS rfl (sS rfl (sS rfl (sS rfl (sS rfl (sS rfl (sS (by first|rfl|(rw [hg4];rfl)|rw [hg4]) (sS (by first|rfl|(rw [hg4];rfl)|rw [hg4]) (sN))))))))))))))))) (List.Sublist.refl _))))))))
  refine AO rfl ?_
  refine OkL.mid (FM:=[(1,(pP b1 0)),(3,(vN i)),(4,(pP b2 0)),(17,(aG (Ht x))),(18,(pP b2 0)),(19,(vI T.1)),(20,(Value.bool (Ao N T.1))),(21,(Value.bool (!(Ao N T.1)))),(22,(Value.bool (!(Ao N T.1)))),(28,(Value.bool ((!(Ao N T.1))||(!(Ao N T.2.1))))),(29,(Value.bool ((!(Ao N T.1))||(!(Ao N T.2.1))))),(35,(Value.bool (((!(Ao N T.1))||(!(Ao N T.2.1)))||(!(Ao N T.2.2))))),(36,(Value.bool (((!(Ao N T.1))||(!(Ao N T.2.1)))||(!(Ao N T.2.2))))),(42,(Value.bool ((((!(Ao N T.1))||(!(Ao N T.2.1)))||(!(Ao N T.2.2)))||(decide (T.1=T.2.1))))),(43,(Value.bool ((((!(Ao N T.1))||(!(Ao N T.2.1)))||(!(Ao N T.2.2)))||(decide (T.1=T.2.1))))),(49,(Value.bool (((((!(Ao N T.1))||(!(Ao N T.2.1)))||(!(Ao N T.2.2)))||(decide (T.1=T.2.1)))||(decide (T.1=T.2.2))))),(50,(Value.bool (((((!(Ao N T.1))||(!(Ao N T.2.1)))||(!(Ao N T.2.2)))||(decide (T.1=T.2.1)))||(decide (T.1=T.2.2))))),(56,(Value.bool ((((((!(Ao N T.1))||(!(Ao N T.2.1)))||(!(Ao N T.2.2)))||(decide (T.1=T.2.1)))||(decide (T.1=T.2.2)))||(decide (T.2.1=T.2.2)))))]) (LM:=[AX b2 105 (Ad T),AX b1 39 (Ht x),AF x.a.p (x.cs),AF x.b.p (rowsL Ad zs),AF x.c.p (x.ds)]) 6 ?_ ?_
  ·rcases Bool.eq_false_or_eq_true (((((!(Ao N T.1))||(!(Ao N T.2.1)))||(!(Ao N T.2.2)))||(decide (T.1=T.2.1)))||(decide (T.1=T.2.2))) with hg5|hg5
   ·skip
    refine OkL.retell (k:=50) (u:=Value.bool true) rfl (by rw [hg5]) ?_
    have hg5':=hg5
    simp only [Bool.and_eq_true,Bool.or_eq_true,Bool.and_eq_false_iff,Bool.or_eq_false_iff,Bool.not_eq_true',Bool.not_eq_false',decide_eq_true_eq,decide_eq_false_iff_not] at hg5'
    exact OkL.skip (AC rfl) rfl (AK rfl) (OkL.skip (AC rfl) rfl (AK rfl) (OkL.skip (AC rfl) rfl (AK rfl) (OkL.skip (AC rfl) rfl (AK rfl) (OkL.skip (AC rfl) rfl (AK rfl) (AG (v:=(Value.bool true)) (AN rfl rfl) rfl (OkL.nil (OkQ.mid (sS rfl (sS rfl (sS rfl (sS rfl (sS rfl (sS rfl (sS rfl (sS rfl (sS rfl (sS rfl (sS rfl (sS rfl (sS rfl (sS rfl (sS rfl (sS rfl (sS (by first|rfl|(rw [hg5];rfl)|rw [hg5]) (sS (by first|rfl|(rw [hg5];rfl)|rw [hg5]) (sN))))))))))))))))))) (List.Sublist.refl _))))))))
   ·skip
    refine OkL.retell (k:=50) (u:=Value.bool false) rfl (by rw [hg5]) ?_
    have hg5':=hg5
    simp only [Bool.and_eq_true,Bool.or_eq_true,Bool.and_eq_false_iff,Bool.or_eq_false_iff,Bool.not_eq_true',Bool.not_eq_false',decide_eq_true_eq,decide_eq_false_iff_not] at hg5'
    exact OkL.step (v:=(pP b2 1)) (AB rfl) (AH (j:=1) rfl rfl Tryz.underlying105 Tryz.sizeOf3 rfl (by decide) rfl) rfl (AK rfl) (OkL.step (v:=(vI T.2.1)) (AB rfl) (AE (i:=0) (v:=(vI T.2.1)) rfl rfl BH.a rfl) rfl (AK rfl) (OkL.step (v:=(pP b2 2)) (AB rfl) (AH (j:=2) rfl rfl Tryz.underlying105 Tryz.sizeOf3 rfl (by decide) rfl) rfl (AK rfl) (OkL.step (v:=(vI T.2.2)) (AB rfl) (AE (i:=0) (v:=(vI T.2.2)) rfl rfl BH.a rfl) rfl (AK rfl) (OkL.step (v:=(Value.bool (decide (T.2.1=T.2.2)))) (AB rfl) (BE (c:=(decide (T.2.1=T.2.2))) rfl rfl rfl) rfl (AK rfl) (AG (v:=(Value.bool (decide (T.2.1=T.2.2)))) (AJ rfl rfl) rfl (OkL.nil (OkQ.mid (sS rfl (sS rfl (sS rfl (sS rfl (sS rfl (sS rfl (sS rfl (sS rfl (sS rfl (sS rfl (sS rfl (sS rfl (sS rfl (sS rfl (sS rfl (sS rfl (sS (by first|rfl|(rw [hg5];rfl)|rw [hg5]) (sS (by first|rfl|(rw [hg5];rfl)|rw [hg5]) (sN))))))))))))))))))) (List.Sublist.refl _))))))))
  refine OkL.nil (OkQ.subF (sL [1,3,4,56] rfl) (OkQ.then_ ?_))
  refine OkC.cond rfl (λhc1=>?_) (λhc1=>?_)
  ·simp only [Bool.and_eq_true,Bool.or_eq_true,Bool.and_eq_false_iff,Bool.or_eq_false_iff,Bool.not_eq_true',Bool.not_eq_false',decide_eq_true_eq,decide_eq_false_iff_not] at hc1
   exact q4 (asg' rfl (OkL.nil (OkQ.then_ (OkC.ret (OkQ.in_ret (OkQ.then_ret (OkQ.round1_ret (OkQ.in_ret (OkQ.then_ret (ret_one rfl (rd_tmp (v:=(Value.bool false)) rfl) (λw hw=>⟨by rw [Ub (j:=i) (by omega) (by rw [<-hT];unfold NZ;rw [Bool.eq_false_iff];intro h9;simp only [Bool.and_eq_true,Bool.not_eq_true',decide_eq_false_iff_not] at h9;grind)],hw.out⟩)))))))))))
  ·simp only [Bool.and_eq_true,Bool.or_eq_true,Bool.and_eq_false_iff,Bool.or_eq_false_iff,Bool.not_eq_true',Bool.not_eq_false',decide_eq_true_eq,decide_eq_false_iff_not] at hc1
   exact OkC.skip (OkQ.in_normal (OkQ.then_ (OkC.region (AO rfl (AG (AY (c:=((i+1:Nat):Int)) rfl rfl (AT (a:=i) (b:=1) (by omega))) rfl (asg' rfl (OkL.nil (OkQ.subF (sL [1,3,4] rfl) (OkQ.round1 (i+1) (⟨by omega,λj hj=>by rcases Nat.lt_or_ge j i with h9|h9;exact hok j h9;rw [show j=i by omega,<-hT];unfold NZ;simp only [Bool.and_eq_true,Bool.not_eq_true',decide_eq_false_iff_not];grind⟩) (by omega) (sF rfl) (sl sr))))))))))
 ·replace hc0:=of_decide_eq_false hc0
  exact OkC.exit (OkQ.then_exit (OkQ.round1_exit (OkQ.in_exit (q2 (asg' rfl (OkL.nil (OkQ.then_ (OkC.ret (ret_one rfl (rd_tmp (v:=(Value.bool true)) rfl) (λw hw=>⟨by rw [TR λj hj=>hok j (by omega)],hw.out⟩))))))))))
end
end Go.Proofs.YtpolhpjiahbidaaGreatDoor
