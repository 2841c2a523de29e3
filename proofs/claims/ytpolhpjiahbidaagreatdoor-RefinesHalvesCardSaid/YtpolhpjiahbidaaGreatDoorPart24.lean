import Derived.Test.YtpolhpjiahbidaaGreatDoorPart05
import Derived.Test.YtpolhpjiahbidaaGreatDoorPart23
namespace Go.Proofs.YtpolhpjiahbidaaGreatDoor
open Go Go.RowKit Go.Proofs.Tryz
set_option linter.unusedVariables false
set_option linter.unusedSimpArgs false
section
set_option maxRecDepth 100000
theorem Jg (p n:Nat) (w:World)  :Calls Tryz.prog 148 #[(vN p),(vN n)] w (Ai w (Value.bool (decide (p<n)))):=by
 refine AZ (args:=[(vN p),(vN n)]) Tryz.func148 rfl rfl (AK rfl) (OkC.subF (sL [0,1] rfl) (q4 (asg' rfl (OkL.nil (q2 (AO rfl (AG (B_ (c:=(decide (0<=p))) rfl rfl (Q6 (a:=0) (b:=p))) rfl (AO rfl ?_))))))))
 refine OkL.mid (FM:=[(0,(vN p)),(1,(vN n)),(4,(Value.bool false)),(5,(vN p)),(6,(Value.bool (decide (0<=p)))),(7,(Value.bool (decide (0<=p)))),(11,(Value.bool ((decide (0<=p))&&(decide (p<n)))))]) (LM:=[]) 4 ?_ ?_
 ·rcases Bool.eq_false_or_eq_true (decide (0<=p)) with hg1|hg1
  ·skip
   refine OkL.retell (k:=7) (u:=Value.bool true) rfl (by rw [hg1]) ?_
   have hg1':=hg1
   replace hg1':=of_decide_eq_true hg1'
   exact OkL.step (v:=(vN p)) (AB rfl) (Ac rfl) rfl (AK rfl) (OkL.step (v:=(vN n)) (AB rfl) (Ac rfl) rfl (AK rfl) (OkL.step (v:=(Value.bool (decide (p<n)))) (AB rfl) (Af (c:=(decide (p<n))) rfl rfl (B9 (a:=p) (b:=n))) rfl (AK rfl) (AG (v:=(Value.bool (decide (p<n)))) (AN rfl rfl) rfl (OkL.nil (OkQ.mid (sS rfl (sS rfl (sS rfl (sS rfl (sS rfl (sS (by first|rfl|(rw [hg1];rfl)|rw [hg1]) (sS (by first|rfl|(rw [hg1];rfl)|rw [hg1]) (sN)))))))) (List.Sublist.refl _))))))
  ·skip
   refine OkL.retell (k:=7) (u:=Value.bool false) rfl (by rw [hg1]) ?_
   have hg1':=hg1
   replace hg1':=of_decide_eq_false hg1'
   exact OkL.skip (AC rfl) rfl (AK rfl) (OkL.skip (AC rfl) rfl (AK rfl) (OkL.skip (AC rfl) rfl (AK rfl) (AG (v:=(Value.bool false)) (AJ rfl rfl) rfl (OkL.nil (OkQ.mid (sS rfl (sS rfl (sS rfl (sS rfl (sS rfl (sS (by first|rfl|(rw [hg1];rfl)|rw [hg1]) (sS (by first|rfl|(rw [hg1];rfl)|rw [hg1]) (sN)))))))) (List.Sublist.refl _))))))
 exact asg' rfl (OkL.nil (OkQ.subF (sL [4] rfl) (OkQ.then_ (OkC.ret (ret_one rfl (rd_tmp (v:=(Value.bool ((decide (0<=p))&&(decide (p<n))))) rfl) (λw hw=>⟨by simp,hw.out⟩))))))
theorem TL (t:Nat×Nat×Nat) (n:Nat) (bo:BX [vN n]) (w:World) {S:Nat->Prop} (hbo:Ro S w bo):Calls Tryz.prog 174 #[(aG (Aq t)),(pP bo.b 0)] w (Ai w (Value.bool (!L3 n t))):=by
 have lbo:=CU (W:=w) hbo
 refine Aa (args:=[(aG (Aq t)),(pP bo.b 0)]) (L:=[AF (some ⟨bo.b,0,none⟩) ([(vN n)])]) Tryz.func174 rfl rfl (AK rfl) (Ee hbo Al) (OkC.subF (sL [0,1] rfl) (q4 (Bg (cs:=Aq t) rfl λb1=>asg' rfl (q3 (sL [1,2,3] rfl) (AG (v:=(pP b1 0)) (AH (j:=0) rfl rfl Tryz.underlying105 Tryz.sizeOf3 rfl (by decide) rfl) rfl (Aw 0 (vN t.1) BH rfl (AG (AQ (q:=some ⟨bo.b,0,none⟩) (v:=(vN n)) (off:=0) (i:=1) rfl rfl (λe=>by cases e) BH rfl) rfl (ck' Tryz.call148 (Jg t.1 n) rfl (AG (Be (c:=(!(decide (t.1<n)))) rfl rfl) rfl (AO rfl ?_))))))))))
 refine OkL.mid (FM:=[(1,(pP bo.b 0)),(2,(pP b1 0)),(3,(Value.bool false)),(4,(pP b1 0)),(5,(vN t.1)),(6,(vN n)),(7,(Value.bool (decide (t.1<n)))),(8,(Value.bool (!(decide (t.1<n))))),(9,(Value.bool (!(decide (t.1<n))))),(15,(Value.bool ((!(decide (t.1<n)))||(!(decide (t.2.1<n))))))]) (LM:=[AX b1 105 (Aq t),AF (some ⟨bo.b,0,none⟩) ([(vN n)])]) 6 ?_ ?_
 ·rcases Bool.eq_false_or_eq_true (!(decide (t.1<n))) with hg1|hg1
  ·skip
   refine OkL.retell (k:=9) (u:=Value.bool true) rfl (by rw [hg1]) ?_
   have hg1':=hg1
   simp only [Bool.and_eq_true,Bool.or_eq_true,Bool.and_eq_false_iff,Bool.or_eq_false_iff,Bool.not_eq_true',Bool.not_eq_false',decide_eq_true_eq,decide_eq_false_iff_not] at hg1'
   exact OkL.skip (AC rfl) rfl (AK rfl) (OkL.skip (AC rfl) rfl (AK rfl) (OkL.skip (AC rfl) rfl (AK rfl) (OkL.skip (AC rfl) rfl (AK rfl) (OkL.skip (AC rfl) rfl (AK rfl) (AG (v:=(Value.bool true)) (AN rfl rfl) rfl (OkL.nil (OkQ.mid (sS rfl (sS rfl (sS rfl (sS rfl (sS rfl (sS rfl (sS rfl (sS rfl (sS (by first|rfl|(rw [hg1];rfl)|rw [hg1]) (sS (by first|rfl|(rw [hg1];rfl)|rw [hg1]) (sN))))))))))) (List.Sublist.refl _))))))))
  ·skip
   refine OkL.retell (k:=9) (u:=Value.bool false) rfl (by rw [hg1]) ?_
   have hg1':=hg1
   simp only [Bool.and_eq_true,Bool.or_eq_true,Bool.and_eq_false_iff,Bool.or_eq_false_iff,Bool.not_eq_true',Bool.not_eq_false',decide_eq_true_eq,decide_eq_false_iff_not] at hg1'
   exact OkL.step (v:=(pP b1 1)) (AB rfl) (AH (j:=1) rfl rfl Tryz.underlying105 Tryz.sizeOf3 rfl (by decide) rfl) rfl (AK rfl) (OkL.step (v:=(vN t.2.1)) (AB rfl) (AE (i:=0) (v:=(vN t.2.1)) rfl rfl BH.a rfl) rfl (AK rfl) (OkL.step (v:=(vN n)) (AB rfl) (AQ (q:=some ⟨bo.b,0,none⟩) (v:=(vN n)) (off:=0) (i:=1) rfl rfl (λe=>by cases e) BH rfl) rfl (AK rfl) (OkL.call (v:=(Value.bool (decide (t.2.1<n)))) (AB rfl) (Ap (args:=[(vN t.2.1),(vN n)]) rfl rfl Tryz.call148) (λw hw=>Jg t.2.1 n w) rfl (AK rfl) (OkL.step (v:=(Value.bool (!(decide (t.2.1<n))))) (AB rfl) (Be (c:=(!(decide (t.2.1<n)))) rfl rfl) rfl (AK rfl) (AG (v:=(Value.bool (!(decide (t.2.1<n))))) (AJ rfl rfl) rfl (OkL.nil (OkQ.mid (sS rfl (sS rfl (sS rfl (sS rfl (sS rfl (sS rfl (sS rfl (sS rfl (sS (by first|rfl|(rw [hg1];rfl)|rw [hg1]) (sS (by first|rfl|(rw [hg1];rfl)|rw [hg1]) (sN))))))))))) (List.Sublist.refl _))))))))
 refine AO rfl ?_
 refine OkL.mid (FM:=[(1,(pP bo.b 0)),(2,(pP b1 0)),(3,(Value.bool false)),(4,(pP b1 0)),(5,(vN t.1)),(6,(vN n)),(7,(Value.bool (decide (t.1<n)))),(8,(Value.bool (!(decide (t.1<n))))),(9,(Value.bool (!(decide (t.1<n))))),(15,(Value.bool ((!(decide (t.1<n)))||(!(decide (t.2.1<n)))))),(16,(Value.bool ((!(decide (t.1<n)))||(!(decide (t.2.1<n)))))),(22,(Value.bool (((!(decide (t.1<n)))||(!(decide (t.2.1<n))))||(!(decide (t.2.2<n))))))]) (LM:=[AX b1 105 (Aq t),AF (some ⟨bo.b,0,none⟩) ([(vN n)])]) 6 ?_ ?_
 ·rcases Bool.eq_false_or_eq_true ((!(decide (t.1<n)))||(!(decide (t.2.1<n)))) with hg2|hg2
  ·skip
   refine OkL.retell (k:=16) (u:=Value.bool true) rfl (by rw [hg2]) ?_
   have hg2':=hg2
   simp only [Bool.and_eq_true,Bool.or_eq_true,Bool.and_eq_false_iff,Bool.or_eq_false_iff,Bool.not_eq_true',Bool.not_eq_false',decide_eq_true_eq,decide_eq_false_iff_not] at hg2'
   exact OkL.skip (AC rfl) rfl (AK rfl) (OkL.skip (AC rfl) rfl (AK rfl) (OkL.skip (AC rfl) rfl (AK rfl) (OkL.skip (AC rfl) rfl (AK rfl) (OkL.skip (AC rfl) rfl (AK rfl) (AG (v:=(Value.bool true)) (AN rfl rfl) rfl (OkL.nil (OkQ.mid (sS rfl (sS rfl (sS rfl (sS rfl (sS rfl (sS rfl (sS rfl (sS rfl (sS rfl (sS rfl (sS (by first|rfl|(rw [hg2];rfl)|rw [hg2]) (sS (by first|rfl|(rw [hg2];rfl)|rw [hg2]) (sN))))))))))))) (List.Sublist.refl _))))))))
  ·skip
   refine OkL.retell (k:=16) (u:=Value.bool false) rfl (by rw [hg2]) ?_
   have hg2':=hg2
   simp only [Bool.and_eq_true,Bool.or_eq_true,Bool.and_eq_false_iff,Bool.or_eq_false_iff,Bool.not_eq_true',Bool.not_eq_false',decide_eq_true_eq,decide_eq_false_iff_not] at hg2'
   exact OkL.step (v:=(pP b1 2)) (AB rfl) (AH (j:=2) rfl rfl Tryz.underlying105 Tryz.sizeOf3 rfl (by decide) rfl) rfl (AK rfl) (OkL.step (v:=(vN t.2.2)) (AB rfl) (AE (i:=0) (v:=(vN t.2.2)) rfl rfl BH.a rfl) rfl (AK rfl) (OkL.step (v:=(vN n)) (AB rfl) (AQ (q:=some ⟨bo.b,0,none⟩) (v:=(vN n)) (off:=0) (i:=1) rfl rfl (λe=>by cases e) BH rfl) rfl (AK rfl) (OkL.call (v:=(Value.bool (decide (t.2.2<n)))) (AB rfl) (Ap (args:=[(vN t.2.2),(vN n)]) rfl rfl Tryz.call148) (λw hw=>Jg t.2.2 n w) rfl (AK rfl) (OkL.step (v:=(Value.bool (!(decide (t.2.2<n))))) (AB rfl) (Be (c:=(!(decide (t.2.2<n)))) rfl rfl) rfl (AK rfl) (AG (v:=(Value.bool (!(decide (t.2.2<n))))) (AJ rfl rfl) rfl (OkL.nil (OkQ.mid (sS rfl (sS rfl (sS rfl (sS rfl (sS rfl (sS rfl (sS rfl (sS rfl (sS rfl (sS rfl (sS (by first|rfl|(rw [hg2];rfl)|rw [hg2]) (sS (by first|rfl|(rw [hg2];rfl)|rw [hg2]) (sN))))))))))))) (List.Sublist.refl _))))))))
 refine AO rfl ?_
 refine OkL.mid (FM:=[(1,(pP bo.b 0)),(2,(pP b1 0)),(3,(Value.bool false)),(4,(pP b1 0)),(5,(vN t.1)),(6,(vN n)),(7,(Value.bool (decide (t.1<n)))),(8,(Value.bool (!(decide (t.1<n))))),(9,(Value.bool (!(decide (t.1<n))))),(15,(Value.bool ((!(decide (t.1<n)))||(!(decide (t.2.1<n)))))),(16,(Value.bool ((!(decide (t.1<n)))||(!(decide (t.2.1<n)))))),(22,(Value.bool (((!(decide (t.1<n)))||(!(decide (t.2.1<n))))||(!(decide (t.2.2<n)))))),(23,(Value.bool (((!(decide (t.1<n)))||(!(decide (t.2.1<n))))||(!(decide (t.2.2<n)))))),(29,(Value.bool ((((!(decide (t.1<n)))||(!(decide (t.2.1<n))))||(!(decide (t.2.2<n))))||(decide (t.1=t.2.1)))))]) (LM:=[AX b1 105 (Aq t),AF (some ⟨bo.b,0,none⟩) ([(vN n)])]) 6 ?_ ?_
 ·rcases Bool.eq_false_or_eq_true (((!(decide (t.1<n)))||(!(decide (t.2.1<n))))||(!(decide (t.2.2<n)))) with hg3|hg3
  ·skip
   refine OkL.retell (k:=23) (u:=Value.bool true) rfl (by rw [hg3]) ?_
   have hg3':=hg3
   simp only [Bool.and_eq_true,Bool.or_eq_true,Bool.and_eq_false_iff,Bool.or_eq_false_iff,Bool.not_eq_true',Bool.not_eq_false',decide_eq_true_eq,decide_eq_false_iff_not] at hg3'
   exact OkL.skip (AC rfl) rfl (AK rfl) (OkL.skip (AC rfl) rfl (AK rfl) (OkL.skip (AC rfl) rfl (AK rfl) (OkL.skip (AC rfl) rfl (AK rfl) (OkL.skip (AC rfl) rfl (AK rfl) (AG (v:=(Value.bool true)) (AN rfl rfl) rfl (OkL.nil (OkQ.mid (sS rfl (sS rfl (sS rfl (sS rfl (sS rfl (sS rfl (sS rfl (sS rfl (sS rfl (sS rfl (sS rfl (sS rfl (sS (by first|rfl|(rw [hg3];rfl)|rw [hg3]) (sS (by first|rfl|(rw [hg3];rfl)|rw [hg3]) (sN))))))))))))))) (List.Sublist.refl _))))))))
  ·skip
   refine OkL.retell (k:=23) (u:=Value.bool false) rfl (by rw [hg3]) ?_
   have hg3':=hg3
   simp only [Bool.and_eq_true,Bool.or_eq_true,Bool.and_eq_false_iff,Bool.or_eq_false_iff,Bool.not_eq_true',Bool.not_eq_false',decide_eq_true_eq,decide_eq_false_iff_not] at hg3'
   exact OkL.step (v:=(pP b1 0)) (AB rfl) (AH (j:=0) rfl rfl Tryz.underlying105 Tryz.sizeOf3 rfl (by decide) rfl) rfl (AK rfl) (OkL.step (v:=(vN t.1)) (AB rfl) (AE (i:=0) (v:=(vN t.1)) rfl rfl BH.a rfl) rfl (AK rfl) (OkL.step (v:=(pP b1 1)) (AB rfl) (AH (j:=1) rfl rfl Tryz.underlying105 Tryz.sizeOf3 rfl (by decide) rfl) rfl (AK rfl) (OkL.step (v:=(vN t.2.1)) (AB rfl) (AE (i:=0) (v:=(vN t.2.1)) rfl rfl BH.a rfl) rfl (AK rfl) (OkL.step (v:=(Value.bool (decide (t.1=t.2.1)))) (AB rfl) (BE (c:=(decide (t.1=t.2.1))) rfl rfl (L5 (a:=t.1) (b:=t.2.1))) rfl (AK rfl) (AG (v:=(Value.bool (decide (t.1=t.2.1)))) (AJ rfl rfl) rfl (OkL.nil (OkQ.mid (sS rfl (sS rfl (sS rfl (sS rfl (sS rfl (sS rfl (sS rfl (sS rfl (sS rfl (sS rfl (sS rfl (sS rfl (sS (by first|rfl|(rw [hg3];rfl)|rw [hg3]) (sS (by first|rfl|(rw [hg3];rfl)|rw [hg3]) (sN))))))))))))))) (List.Sublist.refl _))))))))
 refine AO rfl ?_
 refine OkL.mid (FM:=[(1,(pP bo.b 0)),(2,(pP b1 0)),(3,(Value.bool false)),(4,(pP b1 0)),(5,(vN t.1)),(6,(vN n)),(7,(Value.bool (decide (t.1<n)))),(8,(Value.bool (!(decide (t.1<n))))),(9,(Value.bool (!(decide (t.1<n))))),(15,(Value.bool ((!(decide (t.1<n)))||(!(decide (t.2.1<n)))))),(16,(Value.bool ((!(decide (t.1<n)))||(!(decide (t.2.1<n)))))),(22,(Value.bool (((!(decide (t.1<n)))||(!(decide (t.2.1<n))))||(!(decide (t.2.2<n)))))),(23,(Value.bool (((!(decide (t.1<n)))||(!(decide (t.2.1<n))))||(!(decide (t.2.2<n)))))),(29,(Value.bool ((((!(decide (t.1<n)))||(!(decide (t.2.1<n))))||(!(decide (t.2.2<n))))||(decide (t.1=t.2.1))))),(30,(Value.bool ((((!(decide (t.1<n)))||(!(decide (t.2.1<n))))||(!(decide (t.2.2<n))))||(decide (t.1=t.2.1))))),(36,(Value.bool (((((!(decide (t.1<n)))||(!(decide (t.2.1<n))))||(!(decide (t.2.2<n))))||(decide (t.1=t.2.1)))||(decide (t.2.1=t.2.2)))))]) (LM:=[AX b1 105 (Aq t),AF (some ⟨bo.b,0,none⟩) ([(vN n)])]) 6 ?_ ?_
 ·rcases Bool.eq_false_or_eq_true ((((!(decide (t.1<n)))||(!(decide (t.2.1<n))))||(!(decide (t.2.2<n))))||(decide (t.1=t.2.1))) with hg4|hg4
  ·skip
   refine OkL.retell (k:=30) (u:=Value.bool true) rfl (by rw [hg4]) ?_
   have hg4':=hg4
   simp only [Bool.and_eq_true,Bool.or_eq_true,Bool.and_eq_false_iff,Bool.or_eq_false_iff,Bool.not_eq_true',Bool.not_eq_false',decide_eq_true_eq,decide_eq_false_iff_not] at hg4'
   exact OkL.skip (AC rfl) rfl (AK rfl) (OkL.skip (AC rfl) rfl (AK rfl) (OkL.skip (AC rfl) rfl (AK rfl) (OkL.skip (AC rfl) rfl (AK rfl) (OkL.skip (AC rfl) rfl (AK rfl) (AG (v:=(Value.bool true)) (AN rfl rfl) rfl (OkL.nil (OkQ.mid (sS rfl (sS rfl (sS rfl (sS rfl (sS rfl (sS rfl (sS rfl (sS rfl (sS rfl (sS rfl (sS rfl (sS rfl (sS rfl (sS rfl (sS (by first|rfl|(rw [hg4];rfl)|rw [hg4]) (sS (by first|rfl|(rw [hg4];rfl)|rw [hg4]) (sN))))))))))))))))) (List.Sublist.refl _))))))))
  ·skip
   refine OkL.retell (k:=30) (u:=Value.bool false) rfl (by rw [hg4]) ?_
   have hg4':=hg4
   simp only [Bool.and_eq_true,Bool.or_eq_true,Bool.and_eq_false_iff,Bool.or_eq_false_iff,Bool.not_eq_true',Bool.not_eq_false',decide_eq_true_eq,decide_eq_false_iff_not] at hg4'
   exact OkL.step (v:=(pP b1 1)) (AB rfl) (AH (j:=1) rfl rfl Tryz.underlying105 Tryz.sizeOf3 rfl (by decide) rfl) rfl (AK rfl) (OkL.step (v:=(vN t.2.1)) (AB rfl) (AE (i:=0) (v:=(vN t.2.1)) rfl rfl BH.a rfl) rfl (AK rfl) (OkL.step (v:=(pP b1 2)) (AB rfl) (AH (j:=2) rfl rfl Tryz.underlying105 Tryz.sizeOf3 rfl (by decide) rfl) rfl (AK rfl) (OkL.step (v:=(vN t.2.2)) (AB rfl) (AE (i:=0) (v:=(vN t.2.2)) rfl rfl BH.a rfl) rfl (AK rfl) (OkL.step (v:=(Value.bool (decide (t.2.1=t.2.2)))) (AB rfl) (BE (c:=(decide (t.2.1=t.2.2))) rfl rfl (L5 (a:=t.2.1) (b:=t.2.2))) rfl (AK rfl) (AG (v:=(Value.bool (decide (t.2.1=t.2.2)))) (AJ rfl rfl) rfl (OkL.nil (OkQ.mid (sS rfl (sS rfl (sS rfl (sS rfl (sS rfl (sS rfl (sS rfl (sS rfl (sS rfl (sS rfl (sS rfl (sS rfl (sS rfl (sS rfl (sS (by first|rfl|(rw [hg4];rfl)|rw [hg4]) (sS (by first|rfl|(rw [hg4];rfl)|rw [hg4]) (sN))))))))))))))))) (List.Sublist.refl _))))))))
 refine AO rfl ?_
 refine OkL.mid (FM:=[(1,(pP bo.b 0)),(2,(pP b1 0)),(3,(Value.bool false)),(4,(pP b1 0)),(5,(vN t.1)),(6,(vN n)),(7,(Value.bool (decide (t.1<n)))),(8,(Value.bool (!(decide (t.1<n))))),(9,(Value.bool (!(decide (t.1<n))))),(15,(Value.bool ((!(decide (t.1<n)))||(!(decide (t.2.1<n)))))),(16,(Value.bool ((!(decide (t.1<n)))||(!(decide (t.2.1<n)))))),(22,(Value.bool (((!(decide (t.1<n)))||(!(decide (t.2.1<n))))||(!(decide (t.2.2<n)))))),(23,(Value.bool (((!(decide (t.1<n)))||(!(decide (t.2.1<n))))||(!(decide (t.2.2<n)))))),(29,(Value.bool ((((!(decide (t.1<n)))||(!(decide (t.2.1<n))))||(!(decide (t.2.2<n))))||(decide (t.1=t.2.1))))),(30,(Value.bool ((((!(decide (t.1<n)))||(!(decide (t.2.1<n))))||(!(decide (t.2.2<n))))||(decide (t.1=t.2.1))))),(36,(Value.bool (((((!(decide (t.1<n)))||(!(decide (t.2.1<n))))||(!(decide (t.2.2<n))))||(decide (t.1=t.2.1)))||(decide (t.2.1=t.2.2))))),(37,(Value.bool (((((!(decide (t.1<n)))||(!(decide (t.2.1<n))))||(!(decide (t.2.2<n))))||(decide (t.1=t.2.1)))||(decide (t.2.1=t.2.2))))),(43,(Value.bool ((((((!(decide (t.1<n)))||(!(decide (t.2.1<n))))||(!(decide (t.2.2<n))))||(decide (t.1=t.2.1)))||(decide (t.2.1=t.2.2)))||(decide (t.2.2=t.1)))))]) (LM:=[AX b1 105 (Aq t),AF (some ⟨bo.b,0,none⟩) ([(vN n)])]) 6 ?_ ?_
 ·rcases Bool.eq_false_or_eq_true (((((!(decide (t.1<n)))||(!(decide (t.2.1<n))))||(!(decide (t.2.2<n))))||(decide (t.1=t.2.1)))||(decide (t.2.1=t.2.2))) with hg5|hg5
  ·skip
   refine OkL.retell (k:=37) (u:=Value.bool true) rfl (by rw [hg5]) ?_
   have hg5':=hg5
   simp only [Bool.and_eq_true,Bool.or_eq_true,Bool.and_eq_false_iff,Bool.or_eq_false_iff,Bool.not_eq_true',Bool.not_eq_false',decide_eq_true_eq,decide_eq_false_iff_not] at hg5'
   exact OkL.skip (AC rfl) rfl (AK rfl) (OkL.skip (AC rfl) rfl (AK rfl) (OkL.skip (AC rfl) rfl (AK rfl) (OkL.skip (AC rfl) rfl (AK rfl) (OkL.skip (AC rfl) rfl (AK rfl) (AG (v:=(Value.bool true)) (AN rfl rfl) rfl (OkL.nil (OkQ.mid (sS rfl (sS rfl (sS rfl (sS rfl (sS rfl (sS rfl (sS rfl (sS rfl (sS rfl (sS rfl (sS rfl (sS rfl (sS rfl (sS rfl (sS rfl (sS rfl (sS (by first|rfl|(rw [hg5];rfl)|rw [hg5]) (sS (by first|rfl|(rw [hg5];rfl)|rw [hg5]) (sN))))))))))))))))))) (List.Sublist.refl _))))))))
  ·skip
   refine OkL.retell (k:=37) (u:=Value.bool false) rfl (by rw [hg5]) ?_
   have hg5':=hg5
   simp only [Bool.and_eq_true,Bool.or_eq_true,Bool.and_eq_false_iff,Bool.or_eq_false_iff,Bool.not_eq_true',Bool.not_eq_false',decide_eq_true_eq,decide_eq_false_iff_not] at hg5'
   exact OkL.step (v:=(pP b1 2)) (AB rfl) (AH (j:=2) rfl rfl Tryz.underlying105 Tryz.sizeOf3 rfl (by decide) rfl) rfl (AK rfl) (OkL.step (v:=(vN t.2.2)) (AB rfl) (AE (i:=0) (v:=(vN t.2.2)) rfl rfl BH.a rfl) rfl (AK rfl) (OkL.step (v:=(pP b1 0)) (AB rfl) (AH (j:=0) rfl rfl Tryz.underlying105 Tryz.sizeOf3 rfl (by decide) rfl) rfl (AK rfl) (OkL.step (v:=(vN t.1)) (AB rfl) (AE (i:=0) (v:=(vN t.1)) rfl rfl BH.a rfl) rfl (AK rfl) (OkL.step (v:=(Value.bool (decide (t.2.2=t.1)))) (AB rfl) (BE (c:=(decide (t.2.2=t.1))) rfl rfl (L5 (a:=t.2.2) (b:=t.1))) rfl (AK rfl) (AG (v:=(Value.bool (decide (t.2.2=t.1)))) (AJ rfl rfl) rfl (OkL.nil (OkQ.mid (sS rfl (sS rfl (sS rfl (sS rfl (sS rfl (sS rfl (sS rfl (sS rfl (sS rfl (sS rfl (sS rfl (sS rfl (sS rfl (sS rfl (sS rfl (sS rfl (sS (by first|rfl|(rw [hg5];rfl)|rw [hg5]) (sS (by first|rfl|(rw [hg5];rfl)|rw [hg5]) (sN))))))))))))))))))) (List.Sublist.refl _))))))))
 exact asg' rfl (OkL.nil (OkQ.subF (sL [3] rfl) (OkQ.then_ (OkC.ret (ret_one rfl (rd_tmp (v:=(Value.bool ((((((!(decide (t.1<n)))||(!(decide (t.2.1<n))))||(!(decide (t.2.2<n))))||(decide (t.1=t.2.1)))||(decide (t.2.1=t.2.2)))||(decide (t.2.2=t.1))))) rfl) (λw hw=>⟨by congr 2;rw [Bool.eq_iff_iff];simp [L3]<;>omega,hw.out⟩))))))
theorem W8 (n:Nat) (bo:BX [vN n]) (ts:List (Nat×Nat×Nat)) (x:RX (rowsL Aq ts) ts.length) (hl:ts.length<4611686018427387904) (w:World) {S:Nat->Prop} (hbo:Ro S w bo) (hx:Ro S w x):Calls Tryz.prog 218 #[(Value.slice x.p ts.length x.c),(Value.func (.func 174) #[] #[(pP bo.b 0)])] w (Ai w (vI (idxB n ts 0))):=by
 have lbo:=CU (W:=w) hbo
 have lx:=CU (W:=w) hx
 refine Aa (args:=[(Value.slice x.p ts.length x.c),(Value.func (.func 174) #[] #[(pP bo.b 0)])]) (L:=[AF (some ⟨bo.b,0,none⟩) ([(vN n)]),AF x.p (rowsL Aq ts)]) Tryz.func218 rfl rfl (AK rfl) (Ee hbo (Ee hx Al)) (OkC.subF (sL [0,1] rfl) (q4 (asg' rfl (OkL.nil (q1 (q4 (AO rfl (AG (v:=(vN ts.length)) (AD rfl Tryz.underlying23) rfl (AO rfl (OkL.nil (OkQ.subF (sL [0,1,4,7,8] rfl) ?_)))))))))))
 refine OkQ.then_ (OkC.block ?_)
 refine OkC.lp1 (tg λ(j:Nat)=>j<=ts.length/\idxB n ts 0=idxB n (ts.drop j) j) (tg λ(j:Nat)=>[(0,(Value.slice x.p ts.length x.c)),(1,(Value.func (.func 174) #[] #[(pP bo.b 0)])),(7,(vN ts.length)),(8,(vN j))]) (tg λ(j:Nat)=>[AF (some ⟨bo.b,0,none⟩) ([(vN n)]),AF x.p (rowsL Aq ts)]) (tg λ(j:Nat)=>ts.length-j) 0 (⟨Nat.zero_le _,rfl⟩) (sF rfl) sr (λj hJ=>?_)
 obtain ⟨hj,he⟩:=hJ
 refine q4 (AG (Af (c:=(decide (j<ts.length))) rfl rfl (B9 (a:=j) (b:=ts.length))) rfl (OkL.nil (q1 ?_)))
 refine OkC.cond rfl (λhc0=>?_) (λhc0=>?_)
 ·replace hc0:=of_decide_eq_true hc0
  refine OkC.skip (q1 (OkC.block (q4 (AO rfl (asg' rfl (q3 (sL [0,1,7,8,5] rfl) (AO rfl (AO rfl (AO rfl (AG (v:=(pP (pB x.p) (pO x.p+j*3))) (AI (j:=j) rfl rfl x.ok Tryz.underlying23 Tryz.sizeOf105 rfl (by omega)) rfl (AG (v:=(aG (Aq (ts.getD j ((0,0,0):Nat×Nat×Nat))))) (AU (vs:=Aq (ts.getD j ((0,0,0):Nat×Nat×Nat))) (i:=1) rfl rfl (Ak.ne x.ok (by omega)) FC (An BF _ _ _ (by omega)) (BF _)) rfl ?_)))))))))))
  refine OkL.call (v:=(Value.bool (!L3 n (ts.getD j ((0,0,0):Nat×Nat×Nat))))) (AP rfl) (HH (args:=[(aG (Aq (ts.getD j ((0,0,0):Nat×Nat×Nat))))]) (caps:=[(pP bo.b 0)]) (all:=[(aG (Aq (ts.getD j ((0,0,0):Nat×Nat×Nat)))),(pP bo.b 0)]) rfl rfl rfl Tryz.call174) (λw hw=>TL (ts.getD j ((0,0,0):Nat×Nat×Nat)) n bo w (inS hw 0 rfl lbo)) rfl (AK rfl) (OkL.nil (OkQ.subF (sL [0,1,7,8,5,16] rfl) (OkQ.then_ ?_)))
  refine OkC.cond rfl (λhc1=>?_) (λhc1=>?_)
  ·simp only [Bool.and_eq_true,Bool.or_eq_true,Bool.and_eq_false_iff,Bool.or_eq_false_iff,Bool.not_eq_true',Bool.not_eq_false',decide_eq_true_eq,decide_eq_false_iff_not] at hc1
   have hfin:=he.trans (Sg (by omega) (by simpa using hc1))
   exact q4 (AO rfl (asg' rfl (OkL.nil (OkQ.subF (sL [0,1,7,8,5,4] rfl) (OkQ.then_ (OkC.ret (OkQ.in_ret (OkQ.then_ret (OkQ.round1_ret (OkQ.in_ret (OkQ.then_ret (ret_one rfl (rd_tmp (v:=(vN j)) rfl) (λw hw=>⟨by rw [hfin],hw.out⟩)))))))))))))
  ·simp only [Bool.and_eq_true,Bool.or_eq_true,Bool.and_eq_false_iff,Bool.or_eq_false_iff,Bool.not_eq_true',Bool.not_eq_false',decide_eq_true_eq,decide_eq_false_iff_not] at hc1
   exact OkC.skip (OkQ.in_normal (OkQ.then_ (OkC.region (AG (AY (c:=((j+1:Nat):Int)) rfl rfl (AT (a:=j) (b:=1) (by omega))) rfl (AO rfl (OkL.nil (OkQ.subF (sL [0,1,7,8,5] rfl) (OkQ.round1 (j+1) (⟨by omega,he.trans (Q0 (by omega) (by simpa using hc1))⟩) (by omega) (sF rfl) sr))))))))
 ·replace hc0:=of_decide_eq_false hc0
  have hfin:=he.trans (SC hc0)
  exact OkC.exit (OkQ.then_exit (OkQ.round1_exit (OkQ.in_exit (q2 (asg' rfl (OkL.nil (OkQ.then_ (OkC.ret (ret_one rfl (rd_tmp (v:=(vI (-1:Int))) rfl) (λw hw=>⟨by rw [hfin],hw.out⟩))))))))))
theorem UQ (n:Nat) (bo:BX [vN n]) (ts:List (Nat×Nat×Nat)) (x:RX (rowsL Aq ts) ts.length) (hl:ts.length<4611686018427387904) (w:World) {S:Nat->Prop} (hbo:Ro S w bo) (hx:Ro S w x):Calls Tryz.prog 173 #[(Value.slice x.p ts.length x.c),(Value.func (.func 174) #[] #[(pP bo.b 0)])] w (Ai w (Value.bool (!B8 n ts))):=by
 have lbo:=CU (W:=w) hbo
 have lx:=CU (W:=w) hx
 refine Aa (args:=[(Value.slice x.p ts.length x.c),(Value.func (.func 174) #[] #[(pP bo.b 0)])]) (L:=[AF (some ⟨bo.b,0,none⟩) ([(vN n)]),AF x.p (rowsL Aq ts)]) Tryz.func173 rfl rfl (AK rfl) (Ee hbo (Ee hx Al)) (OkC.subF (sL [0,1] rfl) (q4 (asg' rfl (OkL.nil (q2 (AO rfl (AO rfl (Cq Tryz.call218 (λw hw=>W8 n bo ts x hl w (inS hw 0 rfl lbo) (inS hw 1 rfl lx)) rfl (AG (B_ (c:=(!B8 n ts)) rfl rfl (Kq n ts 0)) rfl (asg' rfl (OkL.nil ?_)))))))))))
 exact OkQ.subF (sL [4] rfl) (OkQ.then_ (OkC.ret (ret_one rfl (rd_tmp (v:=(Value.bool (!B8 n ts))) rfl) (λw hw=>⟨rfl,hw.out⟩))))
theorem Pi (n:Nat) (ts:List (Nat×Nat×Nat)) (x:RX (rowsL Aq ts) ts.length) (hl:ts.length<4611686018427387904) (w:World) {S:Nat->Prop} (hx:Ro S w x):Calls Tryz.prog 110 #[(Value.slice x.p ts.length x.c),(vN n)] w (Ai w (Value.bool (B8 n ts))):=by
 have lx:=CU (W:=w) hx
 refine Aa (args:=[(Value.slice x.p ts.length x.c),(vN n)]) (L:=[AF x.p (rowsL Aq ts)]) Tryz.func110 rfl rfl (AK rfl) (Ee hx Al) (OkC.subF (sL [0,1] rfl) (q4 (Bg (cs:=[(vN n)]) rfl λb1=>OkL.frzX 0 rfl rfl λhnb1=>asg' rfl (q3 (sL [0,3,4] rfl) (AO rfl (AG (v:=(Value.func (.func 174) #[] #[(pP b1 0)])) (GD (vs:=[]) (us:=[(pP b1 0)]) rfl rfl) rfl (Cq Tryz.call173 (λw hw=>UQ n ⟨b1⟩ ts x hl w (ZM (x:=(⟨b1⟩:BX [vN n])) hw 0 rfl hnb1) (inS hw 1 rfl lx)) rfl (AG (Be (c:=(!(!B8 n ts))) rfl rfl) rfl (asg' rfl ?_)))))))))
 exact OkL.nil (OkQ.subF (sL [4] rfl) (OkQ.then_ (OkC.ret (ret_one rfl (rd_tmp (v:=(Value.bool (!(!B8 n ts)))) rfl) (λw hw=>⟨by simp,hw.out⟩)))))
theorem KY {N:Nat} {ts ss:List (Nat×Nat×Nat)} (x:RM N ts ss) (hl:ts.length<4611686018427387904) (w:World) {S:Nat->Prop} (hx:Ro S w x):Calls Tryz.prog 43 #[(aG (Gc x))] w (Ai w (Value.bool (B8 N ts))):=by
 have lx:=CU (W:=w) hx
 refine Aa (args:=[(aG (Gc x))]) (L:=[AF x.a.p (x.cs),AF x.b.p (rowsL Aq ts),AF x.c.p (x.ds)]) Tryz.func43 rfl rfl (AK rfl) (Ee hx Al) (OkC.subF (sL [0] rfl) (q4 (Bg (cs:=Gc x) rfl λb1=>asg' rfl (q3 (sL [1,2] rfl) (AG (v:=(pP b1 1)) (AA rfl Tryz.underlying30 rfl Tryz.sizeOf23 rfl) rfl (Aw 0 (Value.slice x.b.p ts.length x.b.c) Ds rfl (AG (v:=(pP b1 0)) (AA rfl Tryz.underlying30 rfl Tryz.sizeOf28 rfl) rfl (Aw 0 (Value.slice x.a.p N x.a.c) Dm rfl (AG (v:=(vN N)) (AD rfl Tryz.underlying28) rfl (Cq Tryz.call110 (λw hw=>Pi N ts x.b hl w (Xc (inS hw 1 rfl lx))) rfl ?_))))))))))
 exact asg' rfl (OkL.nil (OkQ.subF (sL [2] rfl) (OkQ.then_ (OkC.ret (ret_one rfl (rd_tmp (v:=(Value.bool (B8 N ts))) rfl) (λw hw=>⟨rfl,hw.out⟩))))))
theorem Ug {ps:List Pt} {ts ss:List (Nat×Nat×Nat)} (x:MX ps ts ss) (hl:ts.length<4611686018427387904) (w:World) {S:Nat->Prop} (hx:Ro S w x):Calls Tryz.prog 43 #[(aG (E6 x))] w (Ai w (Value.bool (B8 ps.length ts))):=KY x.rm hl w (YI hx)
end
section
set_option maxRecDepth 100000
theorem TM (a:Nat) (w:World)  :Calls Tryz.prog 216 #[(vN a)] w (Ai w (Value.bool false)):=by
 refine AZ (args:=[(vN a)]) Tryz.func216 rfl rfl (AK rfl) (OkC.subF (sL [0] rfl) (q4 (asg' rfl (OkL.nil (q2 (AO rfl (AO rfl (AG (CQ (c:=false) rfl rfl (by simp)) rfl (asg' rfl (OkL.nil (OkQ.subF (sL [2] rfl) ?_)))))))))))
 exact OkQ.then_ (OkC.ret (ret_one rfl (rd_tmp (v:=(Value.bool false)) rfl) (λw hw=>⟨rfl,hw.out⟩)))
theorem Oo (a b:Nat) (w:World)  :Calls Tryz.prog 170 #[(vN a),(vN b)] w (Ai w (vI (Do a b))):=by
 refine AZ (args:=[(vN a),(vN b)]) Tryz.func170 rfl rfl (AK rfl) (OkC.subF (sL [0,1] rfl) (q4 (asg' rfl (OkL.nil (q2 (AO rfl (ck' Tryz.call216 (TM a) rfl (asg' rfl (q3 (sL [0,1,4,5] rfl) (AO rfl (ck' Tryz.call216 (TM b) rfl ?_)))))))))))
 refine asg' rfl (q6 (sL [0,1,4,5,6] rfl) (q4 (AO rfl (OkL.nil (OkQ.subF (sL [0,1,4,6,11] rfl) (OkQ.then_ (OkC.cond_false rfl (OkC.skip (q1 (q4 (AO rfl ?_)))))))))))
 refine OkL.nil (OkQ.subF (sL [0,1,4,6,13] rfl) (OkQ.then_ (OkC.cond_false rfl (OkC.skip (q1 (q4 (AO rfl (AO rfl (AG (Af (c:=(decide (a<b))) rfl rfl (B9 (a:=a) (b:=b))) rfl (OkL.nil (OkQ.subF (sL [0,1,4,6,16] rfl) ?_)))))))))))
 refine OkQ.then_ ?_
 refine OkC.cond rfl (λhc3=>?_) (λhc3=>?_)
 ·replace hc3:=of_decide_eq_true hc3
  have hr:=Ph hc3
  exact q4 (asg' rfl (OkL.nil (OkQ.then_ (OkC.ret (OkQ.then_ret (ret_one rfl (rd_tmp (v:=(vI (-1:Int))) rfl) (λw hw=>⟨by rw [hr]<;>rfl,hw.out⟩)))))))
 ·replace hc3:=of_decide_eq_false hc3
  refine OkC.skip (q1 (q4 (AO rfl (AO rfl (AG (B6 (c:=(decide (b<a))) rfl rfl (B9 (a:=b) (b:=a))) rfl (OkL.nil (OkQ.subF (sL [0,1,4,6,19] rfl) (OkQ.then_ ?_))))))))
  refine OkC.cond rfl (λhc4=>?_) (λhc4=>?_)
  ·replace hc4:=of_decide_eq_true hc4
   have hr:=PY hc3 hc4
   exact q4 (asg' rfl (OkL.nil (OkQ.then_ (OkC.ret (OkQ.then_ret (ret_one rfl (rd_tmp (v:=(vI 1)) rfl) (λw hw=>⟨by rw [hr]<;>rfl,hw.out⟩)))))))
  ·replace hc4:=of_decide_eq_false hc4
   have hr:=PH hc3 hc4
   exact OkC.skip (q2 (asg' rfl (OkL.nil (OkQ.then_ (OkC.ret (ret_one rfl (rd_tmp (v:=(vI 0)) rfl) (λw hw=>⟨by rw [hr]<;>rfl,hw.out⟩)))))))
theorem TN (a b:Int) (g:Nat) (w:World) (hg:w.heap[g]?=some (.cells ([(vI a),(vI b)]).toArray 3 (0,0))):Calls Tryz.prog 169 #[(Value.slice (some ⟨g,0,none⟩) 2 2)] w (λe w'=>e=.returned (Value.int .i64 (SK a b))/\KA w w' (some g)/\w'.heap[g]?=some (.cells ([(vI a),(vI b)]).toArray 3 (0,0))):=by
 refine Hn (args:=[(Value.slice (some ⟨g,0,none⟩) 2 2)]) (g:=g) (T:=3) (cs:=[(vI a),(vI b)]) Tryz.func169 rfl rfl (AK rfl) hg (OkC.subF (sL [0] rfl) (q4 (asg' rfl (OkL.nil (q2 (asg' rfl (OkL.nil (q1 (q4 (AO rfl (AG (v:=(vI 2)) (AD rfl Tryz.underlying32) rfl ?_)))))))))))
 refine AO rfl (OkL.nil (OkQ.subF (sL [2,3,6,7,8] rfl) (OkQ.then_ (OkC.block (OkC.unroll 4 (Nc.step (q4 (AG (Af (c:=true) rfl rfl (by decide)) rfl (OkL.nil (q1 (OkC.cond_true rfl ?_)))))))))))
 refine OkC.skip (q1 (OkC.block (q4 (AG (v:=(pP g 0)) (AL (j:=0) rfl rfl Tryz.underlying32 Tryz.sizeOf3 rfl (by omega) rfl) rfl (Aw 0 (vI a) BH rfl (asg' rfl (q3 (sL [2,3,6,7,8,5] rfl) (AO rfl (AO rfl (AG (CQ (c:=(decide (a≠(0:Int)))) rfl rfl rfl) rfl (OkL.nil ?_)))))))))))
 refine OkQ.subF (sL [2,3,6,7,8,5,14] rfl) (OkQ.then_ ?_)
 refine OkC.cond rfl (λhc1=>?_) (λhc1=>?_)
 ·replace hc1:=of_decide_eq_true hc1
  have hr:SK a b=a:=if_pos hc1
  exact q4 (AO rfl (asg' rfl (OkL.nil (OkQ.subF (sL [2,3,6,7,8,5] rfl) (OkQ.then_ (OkC.ret (OkQ.in_ret (OkQ.then_ret (OkQ.then_ret (OkQ.in_ret (OkQ.then_ret (ret_one rfl (rd_tmp (v:=(vI a)) rfl) (λw hw=>⟨by rw [hr]<;>rfl,hw.1,hw.get (i:=0) rfl⟩)))))))))))))
 ·replace hc1:=of_decide_eq_false hc1
  have hq:=hc1
  refine OkC.skip (OkQ.in_normal (OkQ.then_ (OkC.region (AG (AY (c:=(1:Int)) rfl rfl (by decide)) rfl (AO rfl (OkL.nil (OkQ.subF (sL [2,3,6,7,8,5] rfl) (OkQ.again (Nc.step (q4 (AG (Af (c:=true) rfl rfl (by decide)) rfl ?_)))))))))))
  refine OkL.nil (q1 (OkC.cond_true rfl (OkC.skip (q1 (OkC.block (q4 (AG (v:=(pP g 1)) (AL (j:=1) rfl rfl Tryz.underlying32 Tryz.sizeOf3 rfl (by omega) rfl) rfl (Aw 0 (vI b) BH rfl (asg' rfl (q3 (sL [2,3,6,7,8,5] rfl) (AO rfl ?_)))))))))))
  refine AO rfl (AG (CQ (c:=(decide (b≠(0:Int)))) rfl rfl rfl) rfl (OkL.nil (OkQ.subF (sL [2,3,6,7,8,5,14] rfl) (OkQ.then_ ?_))))
  refine OkC.cond rfl (λhc1=>?_) (λhc1=>?_)
  ·replace hc1:=of_decide_eq_true hc1
   have hr:SK a b=b:=by rw [SK,if_neg hq,if_pos hc1]
   exact q4 (AO rfl (asg' rfl (OkL.nil (OkQ.subF (sL [2,3,6,7,8,5] rfl) (OkQ.then_ (OkC.ret (OkQ.in_ret (OkQ.then_ret (OkQ.then_ret (OkQ.in_ret (OkQ.then_ret (ret_one rfl (rd_tmp (v:=(vI b)) rfl) (λw hw=>⟨by rw [hr]<;>rfl,hw.1,hw.get (i:=0) rfl⟩)))))))))))))
  ·replace hc1:=of_decide_eq_false hc1
   have hr:SK a b=0:=by rw [SK,if_neg hq,if_neg hc1]
   refine OkC.skip (OkQ.in_normal (OkQ.then_ (OkC.region (AG (AY (c:=(2:Int)) rfl rfl (by decide)) rfl (AO rfl (OkL.nil (OkQ.subF (sL [2,3,6,7,8,5] rfl) (OkQ.again (Nc.step (q4 (AG (Af (c:=false) rfl rfl (by decide)) rfl ?_)))))))))))
   refine OkL.nil (q1 (OkC.cond_false rfl (OkC.exit (OkQ.then_exit (OkQ.then_exit (OkQ.in_exit (q2 (AO rfl (asg' rfl (OkL.nil (OkQ.subF (sL [2,3,6,7,8,5] rfl) ?_)))))))))))
   exact OkQ.then_ (OkC.ret (ret_one rfl (rd_tmp (v:=(vI 0)) rfl) (λw hw=>⟨by rw [hr]<;>rfl,hw.1,hw.get (i:=0) rfl⟩)))
end
end Go.Proofs.YtpolhpjiahbidaaGreatDoor
