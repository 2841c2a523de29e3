import Derived.Test.YtpolhpjiahbidaaGreatDoorPart19
import Derived.Test.YtpolhpjiahbidaaGreatDoorPart33
namespace Go.Proofs.YtpolhpjiahbidaaGreatDoor
open Go Go.RowKit Go.Proofs.Tryz
set_option linter.unusedVariables false
set_option linter.unusedSimpArgs false
section
set_option maxRecDepth 100000
theorem IE (p:Int) (n:Nat) (w:World)  :Calls prog 148 #[(vI p),(vN n)] w (Ah w (Value.bool (Ar n p))):=by
 refine Ab (args:=[(vI p),(vN n)]) func148 O O (AI O) (OkC.subF (sL [0,1] O) (q4 (asg' O (OkL.nil (q2 (AM O (AH (Bx (c:=(decide ((0:Int)<=p))) O O O) O (AM O ?_))))))))
 refine OkL.mid (FM:=[(0,(vI p)),(1,(vN n)),(4,(Value.bool false)),(5,(vI p)),(6,(Value.bool (decide ((0:Int)<=p)))),(7,(Value.bool (decide ((0:Int)<=p)))),(11,(Value.bool ((decide ((0:Int)<=p))&&(decide (p<((n:Nat):Int))))))]) (LM:=[]) 4 ?_ ?_
 ·rcases Bool.eq_false_or_eq_true (decide ((0:Int)<=p)) with hg1|hg1
  ·skip
   refine OkL.retell (k:=7) (u:=Value.bool true) O (by rw [hg1]) ?_
   have hg1':=hg1
   replace hg1':=of_decide_eq_true hg1'
   exact OkL.step (v:=(vI p)) (AB O) (Ai O) O (AI O) (OkL.step (v:=(vN n)) (AB O) (Ai O) O (AI O) (OkL.step (v:=(Value.bool (decide (p<((n:Nat):Int))))) (AB O) (Ae (c:=(decide (p<((n:Nat):Int)))) O O O) O (AI O) (AH (v:=(Value.bool (decide (p<((n:Nat):Int))))) (AO O O) O (OkL.nil (OkQ.mid (sS O (sS O (sS O (sS O (sS O (sS (by first|rfl|(rw [hg1];rfl)|rw [hg1]) (sS (by first|rfl|(rw [hg1];rfl)|rw [hg1]) (sN)))))))) (List.Sublist.refl _))))))
  ·skip
   refine OkL.retell (k:=7) (u:=Value.bool false) O (by rw [hg1]) ?_
   have hg1':=hg1
   replace hg1':=of_decide_eq_false hg1'
   exact OkL.skip (AC O) O (AI O) (OkL.skip (AC O) O (AI O) (OkL.skip (AC O) O (AI O) (AH (v:=(Value.bool false)) (AJ O O) O (OkL.nil (OkQ.mid (sS O (sS O (sS O (sS O (sS O (sS (by first|rfl|(rw [hg1];rfl)|rw [hg1]) (sS (by first|rfl|(rw [hg1];rfl)|rw [hg1]) (sN)))))))) (List.Sublist.refl _))))))
 exact asg' O (OkL.nil (OkQ.subF (sL [4] O) (OkQ.then_ (OkC.ret (ret_one O (rd_tmp (v:=(Value.bool ((decide ((0:Int)<=p))&&(decide (p<((n:Nat):Int)))))) O) (λw hw=>⟨by unfold Ar;first|rfl|simp,hw.out⟩))))))
theorem Q4 (t:Z3) (n:Nat) (bo:BX [vN n]) (w:World) {S:Nat->Prop} (hbo:Ro S w bo):Calls prog 174 #[(aG (Ac t)),(pP bo.b 0)] w (Ah w (Value.bool (!Lo n t))):=by
 have lbo:=CI (W:=w) hbo
 refine AY (args:=[(aG (Ac t)),(pP bo.b 0)]) (L:=[AE (some ⟨bo.b,0,none⟩) ([(vN n)])]) func174 O O (AI O) (D9 hbo Aj) (OkC.subF (sL [0,1] O) (q4 (Be (cs:=Ac t) O λb1=>asg' O (q3 (sL [1,2,3] O) (AH (v:=(pP b1 0)) (AG (j:=0) O O underlying105 sizeOf3 O (by decide) O) O (Au 0 (vI t.1) BL O (AH (AW (q:=some ⟨bo.b,0,none⟩) (v:=(vN n)) (off:=0) (i:=1) O O (λe=>by cases e) BL O) O (ck' call148 (IE t.1 n) O (AH (BU (c:=(!(Ar n t.1))) O O) O (AM O ?_))))))))))
 refine OkL.mid (FM:=[(1,(pP bo.b 0)),(2,(pP b1 0)),(3,(Value.bool false)),(4,(pP b1 0)),(5,(vI t.1)),(6,(vN n)),(7,(Value.bool (Ar n t.1))),(8,(Value.bool (!(Ar n t.1)))),(9,(Value.bool (!(Ar n t.1)))),(15,(Value.bool ((!(Ar n t.1))||(!(Ar n t.2.1)))))]) (LM:=[AU b1 105 (Ac t),AE (some ⟨bo.b,0,none⟩) ([(vN n)])]) 6 ?_ ?_
 ·rcases Bool.eq_false_or_eq_true (!(Ar n t.1)) with hg1|hg1
  ·skip
   refine OkL.retell (k:=9) (u:=Value.bool true) O (by rw [hg1]) ?_
   have hg1':=hg1
   simp only [Bool.and_eq_true,Bool.or_eq_true,Bool.and_eq_false_iff,Bool.or_eq_false_iff,Bool.not_eq_true',Bool.not_eq_false',decide_eq_true_eq,decide_eq_false_iff_not] at hg1'
   exact OkL.skip (AC O) O (AI O) (OkL.skip (AC O) O (AI O) (OkL.skip (AC O) O (AI O) (OkL.skip (AC O) O (AI O) (OkL.skip (AC O) O (AI O) (AH (v:=(Value.bool true)) (AO O O) O (OkL.nil (OkQ.mid (sS O (sS O (sS O (sS O (sS O (sS O (sS O (sS O (sS (by first|rfl|(rw [hg1];rfl)|rw [hg1]) (sS (by first|rfl|(rw [hg1];rfl)|rw [hg1]) (sN))))))))))) (List.Sublist.refl _))))))))
  ·skip
   refine OkL.retell (k:=9) (u:=Value.bool false) O (by rw [hg1]) ?_
   have hg1':=hg1
   simp only [Bool.and_eq_true,Bool.or_eq_true,Bool.and_eq_false_iff,Bool.or_eq_false_iff,Bool.not_eq_true',Bool.not_eq_false',decide_eq_true_eq,decide_eq_false_iff_not] at hg1'
   exact OkL.step (v:=(pP b1 1)) (AB O) (AG (j:=1) O O underlying105 sizeOf3 O (by decide) O) O (AI O) (OkL.step (v:=(vI t.2.1)) (AB O) (AF (i:=0) (v:=(vI t.2.1)) O O BL.a O) O (AI O) (OkL.step (v:=(vN n)) (AB O) (AW (q:=some ⟨bo.b,0,none⟩) (v:=(vN n)) (off:=0) (i:=1) O O (λe=>by cases e) BL O) O (AI O) (OkL.call (v:=(Value.bool (Ar n t.2.1))) (AB O) (Ap (args:=[(vI t.2.1),(vN n)]) O O call148) (λw hw=>IE t.2.1 n w) O (AI O) (OkL.step (v:=(Value.bool (!(Ar n t.2.1)))) (AB O) (BU (c:=(!(Ar n t.2.1))) O O) O (AI O) (AH (v:=(Value.bool (!(Ar n t.2.1)))) (AJ O O) O (OkL.nil (OkQ.mid (sS O (sS O (sS O (sS O (sS O (sS O (sS O (sS O (sS (by first|rfl|(rw [hg1];rfl)|rw [hg1]) (sS (by first|rfl|(rw [hg1];rfl)|rw [hg1]) (sN))))))))))) (List.Sublist.refl _))))))))
 refine AM O ?_
 refine OkL.mid (FM:=[(1,(pP bo.b 0)),(2,(pP b1 0)),(3,(Value.bool false)),(4,(pP b1 0)),(5,(vI t.1)),(6,(vN n)),(7,(Value.bool (Ar n t.1))),(8,(Value.bool (!(Ar n t.1)))),(9,(Value.bool (!(Ar n t.1)))),(15,(Value.bool ((!(Ar n t.1))||(!(Ar n t.2.1))))),(16,(Value.bool ((!(Ar n t.1))||(!(Ar n t.2.1))))),(22,(Value.bool (((!(Ar n t.1))||(!(Ar n t.2.1)))||(!(Ar n t.2.2)))))]) (LM:=[AU b1 105 (Ac t),AE (some ⟨bo.b,0,none⟩) ([(vN n)])]) 6 ?_ ?_
 ·rcases Bool.eq_false_or_eq_true ((!(Ar n t.1))||(!(Ar n t.2.1))) with hg2|hg2
  ·skip
   refine OkL.retell (k:=16) (u:=Value.bool true) O (by rw [hg2]) ?_
   have hg2':=hg2
   simp only [Bool.and_eq_true,Bool.or_eq_true,Bool.and_eq_false_iff,Bool.or_eq_false_iff,Bool.not_eq_true',Bool.not_eq_false',decide_eq_true_eq,decide_eq_false_iff_not] at hg2'
   exact OkL.skip (AC O) O (AI O) (OkL.skip (AC O) O (AI O) (OkL.skip (AC O) O (AI O) (OkL.skip (AC O) O (AI O) (OkL.skip (AC O) O (AI O) (AH (v:=(Value.bool true)) (AO O O) O (OkL.nil (OkQ.mid (sS O (sS O (sS O (sS O (sS O (sS O (sS O (sS O (sS O (sS O (sS (by first|rfl|(rw [hg2];rfl)|rw [hg2]) (sS (by first|rfl|(rw [hg2];rfl)|rw [hg2]) (sN))))))))))))) (List.Sublist.refl _))))))))
  ·skip
   refine OkL.retell (k:=16) (u:=Value.bool false) O (by rw [hg2]) ?_
   have hg2':=hg2
   simp only [Bool.and_eq_true,Bool.or_eq_true,Bool.and_eq_false_iff,Bool.or_eq_false_iff,Bool.not_eq_true',Bool.not_eq_false',decide_eq_true_eq,decide_eq_false_iff_not] at hg2'
   exact OkL.step (v:=(pP b1 2)) (AB O) (AG (j:=2) O O underlying105 sizeOf3 O (by decide) O) O (AI O) (OkL.step (v:=(vI t.2.2)) (AB O) (AF (i:=0) (v:=(vI t.2.2)) O O BL.a O) O (AI O) (OkL.step (v:=(vN n)) (AB O) (AW (q:=some ⟨bo.b,0,none⟩) (v:=(vN n)) (off:=0) (i:=1) O O (λe=>by cases e) BL O) O (AI O) (OkL.call (v:=(Value.bool (Ar n t.2.2))) (AB O) (Ap (args:=[(vI t.2.2),(vN n)]) O O call148) (λw hw=>IE t.2.2 n w) O (AI O) (OkL.step (v:=(Value.bool (!(Ar n t.2.2)))) (AB O) (BU (c:=(!(Ar n t.2.2))) O O) O (AI O) (AH (v:=(Value.bool (!(Ar n t.2.2)))) (AJ O O) O (OkL.nil (OkQ.mid (sS O (sS O (sS O (sS O (sS O (sS O (sS O (sS O (sS O (sS O (sS (by first|rfl|(rw [hg2];rfl)|rw [hg2]) (sS (by first|rfl|(rw [hg2];rfl)|rw [hg2]) (sN))))))))))))) (List.Sublist.refl _))))))))
 refine AM O ?_
 refine OkL.mid (FM:=[(1,(pP bo.b 0)),(2,(pP b1 0)),(3,(Value.bool false)),(4,(pP b1 0)),(5,(vI t.1)),(6,(vN n)),(7,(Value.bool (Ar n t.1))),(8,(Value.bool (!(Ar n t.1)))),(9,(Value.bool (!(Ar n t.1)))),(15,(Value.bool ((!(Ar n t.1))||(!(Ar n t.2.1))))),(16,(Value.bool ((!(Ar n t.1))||(!(Ar n t.2.1))))),(22,(Value.bool (((!(Ar n t.1))||(!(Ar n t.2.1)))||(!(Ar n t.2.2))))),(23,(Value.bool (((!(Ar n t.1))||(!(Ar n t.2.1)))||(!(Ar n t.2.2))))),(29,(Value.bool ((((!(Ar n t.1))||(!(Ar n t.2.1)))||(!(Ar n t.2.2)))||(decide (t.1=t.2.1)))))]) (LM:=[AU b1 105 (Ac t),AE (some ⟨bo.b,0,none⟩) ([(vN n)])]) 6 ?_ ?_
 ·rcases Bool.eq_false_or_eq_true (((!(Ar n t.1))||(!(Ar n t.2.1)))||(!(Ar n t.2.2))) with hg3|hg3
  ·skip
   refine OkL.retell (k:=23) (u:=Value.bool true) O (by rw [hg3]) ?_
   have hg3':=hg3
   simp only [Bool.and_eq_true,Bool.or_eq_true,Bool.and_eq_false_iff,Bool.or_eq_false_iff,Bool.not_eq_true',Bool.not_eq_false',decide_eq_true_eq,decide_eq_false_iff_not] at hg3'
   exact OkL.skip (AC O) O (AI O) (OkL.skip (AC O) O (AI O) (OkL.skip (AC O) O (AI O) (OkL.skip (AC O) O (AI O) (OkL.skip (AC O) O (AI O) (AH (v:=(Value.bool true)) (AO O O) O (OkL.nil (OkQ.mid (sS O (sS O (sS O (sS O (sS O (sS O (sS O (sS O (sS O (sS O (sS O (sS O (sS (by first|rfl|(rw [hg3];rfl)|rw [hg3]) (sS (by first|rfl|(rw [hg3];rfl)|rw [hg3]) (sN))))))))))))))) (List.Sublist.refl _))))))))
  ·skip
   refine OkL.retell (k:=23) (u:=Value.bool false) O (by rw [hg3]) ?_
   have hg3':=hg3
   simp only [Bool.and_eq_true,Bool.or_eq_true,Bool.and_eq_false_iff,Bool.or_eq_false_iff,Bool.not_eq_true',Bool.not_eq_false',decide_eq_true_eq,decide_eq_false_iff_not] at hg3'
   exact OkL.step (v:=(pP b1 0)) (AB O) (AG (j:=0) O O underlying105 sizeOf3 O (by decide) O) O (AI O) (OkL.step (v:=(vI t.1)) (AB O) (AF (i:=0) (v:=(vI t.1)) O O BL.a O) O (AI O) (OkL.step (v:=(pP b1 1)) (AB O) (AG (j:=1) O O underlying105 sizeOf3 O (by decide) O) O (AI O) (OkL.step (v:=(vI t.2.1)) (AB O) (AF (i:=0) (v:=(vI t.2.1)) O O BL.a O) O (AI O) (OkL.step (v:=(Value.bool (decide (t.1=t.2.1)))) (AB O) (BG (c:=(decide (t.1=t.2.1))) O O O) O (AI O) (AH (v:=(Value.bool (decide (t.1=t.2.1)))) (AJ O O) O (OkL.nil (OkQ.mid (sS O (sS O (sS O (sS O (sS O (sS O (sS O (sS O (sS O (sS O (sS O (sS O (sS (by first|rfl|(rw [hg3];rfl)|rw [hg3]) (sS (by first|rfl|(rw [hg3];rfl)|rw [hg3]) (sN))))))))))))))) (List.Sublist.refl _))))))))
 refine AM O ?_
 refine OkL.mid (FM:=[(1,(pP bo.b 0)),(2,(pP b1 0)),(3,(Value.bool false)),(4,(pP b1 0)),(5,(vI t.1)),(6,(vN n)),(7,(Value.bool (Ar n t.1))),(8,(Value.bool (!(Ar n t.1)))),(9,(Value.bool (!(Ar n t.1)))),(15,(Value.bool ((!(Ar n t.1))||(!(Ar n t.2.1))))),(16,(Value.bool ((!(Ar n t.1))||(!(Ar n t.2.1))))),(22,(Value.bool (((!(Ar n t.1))||(!(Ar n t.2.1)))||(!(Ar n t.2.2))))),(23,(Value.bool (((!(Ar n t.1))||(!(Ar n t.2.1)))||(!(Ar n t.2.2))))),(29,(Value.bool ((((!(Ar n t.1))||(!(Ar n t.2.1)))||(!(Ar n t.2.2)))||(decide (t.1=t.2.1))))),(30,(Value.bool ((((!(Ar n t.1))||(!(Ar n t.2.1)))||(!(Ar n t.2.2)))||(decide (t.1=t.2.1))))),(36,(Value.bool (((((!(Ar n t.1))||(!(Ar n t.2.1)))||(!(Ar n t.2.2)))||(decide (t.1=t.2.1)))||(decide (t.2.1=t.2.2)))))]) (LM:=[AU b1 105 (Ac t),AE (some ⟨bo.b,0,none⟩) ([(vN n)])]) 6 ?_ ?_
 ·rcases Bool.eq_false_or_eq_true ((((!(Ar n t.1))||(!(Ar n t.2.1)))||(!(Ar n t.2.2)))||(decide (t.1=t.2.1))) with hg4|hg4
  ·skip
   refine OkL.retell (k:=30) (u:=Value.bool true) O (by rw [hg4]) ?_
   have hg4':=hg4
   simp only [Bool.and_eq_true,Bool.or_eq_true,Bool.and_eq_false_iff,Bool.or_eq_false_iff,Bool.not_eq_true',Bool.not_eq_false',decide_eq_true_eq,decide_eq_false_iff_not] at hg4'
   exact OkL.skip (AC O) O (AI O) (OkL.skip (AC O) O (AI O) (OkL.skip (AC O) O (AI O) (OkL.skip (AC O) O (AI O) (OkL.skip (AC O) O (AI O) (AH (v:=(Value.bool true)) (AO O O) O (OkL.nil (OkQ.mid (sS O (sS O (sS O (sS O (sS O (sS O (sS O (sS O (sS O (sS O (sS O (sS O (sS O (sS O (sS (by first|rfl|(rw [hg4];rfl)|rw [hg4]) (sS (by first|rfl|(rw [hg4];rfl)|rw [hg4]) (sN))))))))))))))))) (List.Sublist.refl _))))))))
  ·skip
   refine OkL.retell (k:=30) (u:=Value.bool false) O (by rw [hg4]) ?_
   have hg4':=hg4
   simp only [Bool.and_eq_true,Bool.or_eq_true,Bool.and_eq_false_iff,Bool.or_eq_false_iff,Bool.not_eq_true',Bool.not_eq_false',decide_eq_true_eq,decide_eq_false_iff_not] at hg4'
   exact OkL.step (v:=(pP b1 1)) (AB O) (AG (j:=1) O O underlying105 sizeOf3 O (by decide) O) O (AI O) (OkL.step (v:=(vI t.2.1)) (AB O) (AF (i:=0) (v:=(vI t.2.1)) O O BL.a O) O (AI O) (OkL.step (v:=(pP b1 2)) (AB O) (AG (j:=2) O O underlying105 sizeOf3 O (by decide) O) O (AI O) (OkL.step (v:=(vI t.2.2)) (AB O) (AF (i:=0) (v:=(vI t.2.2)) O O BL.a O) O (AI O) (OkL.step (v:=(Value.bool (decide (t.2.1=t.2.2)))) (AB O) (BG (c:=(decide (t.2.1=t.2.2))) O O O) O (AI O) (AH (v:=(Value.bool (decide (t.2.1=t.2.2)))) (AJ O O) O (OkL.nil (OkQ.mid (sS O (sS O (sS O (sS O (sS O (sS O (sS O (sS O (sS O (sS O (sS O (sS O (sS O (sS O (sS (by first|rfl|(rw [hg4];rfl)|rw [hg4]) (sS (by first|rfl|(rw [hg4];rfl)|rw [hg4]) (sN))))))))))))))))) (List.Sublist.refl _))))))))
 refine AM O ?_
 refine OkL.mid (FM:=[(1,(pP bo.b 0)),(2,(pP b1 0)),(3,(Value.bool false)),(4,(pP b1 0)),(5,(vI t.1)),(6,(vN n)),(7,(Value.bool (Ar n t.1))),(8,(Value.bool (!(Ar n t.1)))),(9,(Value.bool (!(Ar n t.1)))),(15,(Value.bool ((!(Ar n t.1))||(!(Ar n t.2.1))))),(16,(Value.bool ((!(Ar n t.1))||(!(Ar n t.2.1))))),(22,(Value.bool (((!(Ar n t.1))||(!(Ar n t.2.1)))||(!(Ar n t.2.2))))),(23,(Value.bool (((!(Ar n t.1))||(!(Ar n t.2.1)))||(!(Ar n t.2.2))))),(29,(Value.bool ((((!(Ar n t.1))||(!(Ar n t.2.1)))||(!(Ar n t.2.2)))||(decide (t.1=t.2.1))))),(30,(Value.bool ((((!(Ar n t.1))||(!(Ar n t.2.1)))||(!(Ar n t.2.2)))||(decide (t.1=t.2.1))))),(36,(Value.bool (((((!(Ar n t.1))||(!(Ar n t.2.1)))||(!(Ar n t.2.2)))||(decide (t.1=t.2.1)))||(decide (t.2.1=t.2.2))))),(37,(Value.bool (((((!(Ar n t.1))||(!(Ar n t.2.1)))||(!(Ar n t.2.2)))||(decide (t.1=t.2.1)))||(decide (t.2.1=t.2.2))))),(43,(Value.bool ((((((!(Ar n t.1))||(!(Ar n t.2.1)))||(!(Ar n t.2.2)))||(decide (t.1=t.2.1)))||(decide (t.2.1=t.2.2)))||(decide (t.2.2=t.1)))))]) (LM:=[AU b1 105 (Ac t),AE (some ⟨bo.b,0,none⟩) ([(vN n)])]) 6 ?_ ?_
 ·rcases Bool.eq_false_or_eq_true (((((!(Ar n t.1))||(!(Ar n t.2.1)))||(!(Ar n t.2.2)))||(decide (t.1=t.2.1)))||(decide (t.2.1=t.2.2))) with hg5|hg5
  ·skip
   refine OkL.retell (k:=37) (u:=Value.bool true) O (by rw [hg5]) ?_
   have hg5':=hg5
   simp only [Bool.and_eq_true,Bool.or_eq_true,Bool.and_eq_false_iff,Bool.or_eq_false_iff,Bool.not_eq_true',Bool.not_eq_false',decide_eq_true_eq,decide_eq_false_iff_not] at hg5'
   exact OkL.skip (AC O) O (AI O) (OkL.skip (AC O) O (AI O) (OkL.skip (AC O) O (AI O) (OkL.skip (AC O) O (AI O) (OkL.skip (AC O) O (AI O) (AH (v:=(Value.bool true)) (AO O O) O (OkL.nil (OkQ.mid (sS O (sS O (sS O (sS O (sS O (sS O (sS O (sS O (sS O (sS O (sS O (sS O (sS O (sS O (sS O (sS O (sS (by first|rfl|(rw [hg5];rfl)|rw [hg5]) (sS (by first|rfl|(rw [hg5];rfl)|rw [hg5]) (sN))))))))))))))))))) (List.Sublist.refl _))))))))
  ·skip
   refine OkL.retell (k:=37) (u:=Value.bool false) O (by rw [hg5]) ?_
   have hg5':=hg5
   simp only [Bool.and_eq_true,Bool.or_eq_true,Bool.and_eq_false_iff,Bool.or_eq_false_iff,Bool.not_eq_true',Bool.not_eq_false',decide_eq_true_eq,decide_eq_false_iff_not] at hg5'
   exact OkL.step (v:=(pP b1 2)) (AB O) (AG (j:=2) O O underlying105 sizeOf3 O (by decide) O) O (AI O) (OkL.step (v:=(vI t.2.2)) (AB O) (AF (i:=0) (v:=(vI t.2.2)) O O BL.a O) O (AI O) (OkL.step (v:=(pP b1 0)) (AB O) (AG (j:=0) O O underlying105 sizeOf3 O (by decide) O) O (AI O) (OkL.step (v:=(vI t.1)) (AB O) (AF (i:=0) (v:=(vI t.1)) O O BL.a O) O (AI O) (OkL.step (v:=(Value.bool (decide (t.2.2=t.1)))) (AB O) (BG (c:=(decide (t.2.2=t.1))) O O O) O (AI O) (AH (v:=(Value.bool (decide (t.2.2=t.1)))) (AJ O O) O (OkL.nil (OkQ.mid (sS O (sS O (sS O (sS O (sS O (sS O (sS O (sS O (sS O (sS O (sS O (sS O (sS O (sS O (sS O (sS O (sS (by first|rfl|(rw [hg5];rfl)|rw [hg5]) (sS (by first|rfl|(rw [hg5];rfl)|rw [hg5]) (sN))))))))))))))))))) (List.Sublist.refl _))))))))
 exact asg' O (OkL.nil (OkQ.subF (sL [3] O) (OkQ.then_ (OkC.ret (ret_one O (rd_tmp (v:=(Value.bool ((((((!(Ar n t.1))||(!(Ar n t.2.1)))||(!(Ar n t.2.2)))||(decide (t.1=t.2.1)))||(decide (t.2.1=t.2.2)))||(decide (t.2.2=t.1))))) O) (λw hw=>⟨by unfold Lo;generalize Ar n t.1=q1;generalize Ar n t.2.1=q2;generalize Ar n t.2.2=q3;generalize decide (t.1=t.2.1)=q4;generalize decide (t.2.1=t.2.2)=q5;generalize decide (t.2.2=t.1)=q6;cases q1<;>cases q2<;>cases q3<;>cases q4<;>cases q5<;>cases q6<;>rfl,hw.out⟩))))))
theorem Vd (n:Nat) (bo:BX [vN n]) (ts:List Z3) (x:RX (rowsL Ac ts) ts.length) (hl:ts.length<4611686018427387904) (w:World) {S:Nat->Prop} (hbo:Ro S w bo) (hx:Ro S w x):Calls prog 218 #[(Value.slice x.p ts.length x.c),(Value.func (.func 174) #[] #[(pP bo.b 0)])] w (Ah w (vI (idxZ n ts 0))):=by
 have lbo:=CI (W:=w) hbo
 have lx:=CI (W:=w) hx
 refine AY (args:=[(Value.slice x.p ts.length x.c),(Value.func (.func 174) #[] #[(pP bo.b 0)])]) (L:=[AE (some ⟨bo.b,0,none⟩) ([(vN n)]),AE x.p (rowsL Ac ts)]) func218 O O (AI O) (D9 hbo (D9 hx Aj)) (OkC.subF (sL [0,1] O) (q4 (asg' O (OkL.nil (q1 (q4 (AM O (AH (v:=(vN ts.length)) (AD O underlying23) O (AM O (OkL.nil (OkQ.subF (sL [0,1,4,7,8] O) ?_)))))))))))
 refine OkQ.then_ (OkC.block ?_)
 refine OkC.lp1 (tg λ(j:Nat)=>j<=ts.length/\idxZ n ts 0=idxZ n (ts.drop j) j) (tg λ(j:Nat)=>[(0,(Value.slice x.p ts.length x.c)),(1,(Value.func (.func 174) #[] #[(pP bo.b 0)])),(7,(vN ts.length)),(8,(vN j))]) (tg λ(j:Nat)=>[AE (some ⟨bo.b,0,none⟩) ([(vN n)]),AE x.p (rowsL Ac ts)]) (tg λ(j:Nat)=>ts.length-j) 0 (⟨Nat.zero_le _,rfl⟩) (sF O) sr (λj hJ=>?_)
 obtain ⟨hj,he⟩:=hJ
 refine q4 (AH (Ae (c:=(decide (j<ts.length))) O O (CB (a:=j) (b:=ts.length))) O (OkL.nil (q1 ?_)))
 refine OkC.cond O (λhc0=>?_) (λhc0=>?_)
 ·replace hc0:=of_decide_eq_true hc0
  refine OkC.skip (q1 (OkC.block (q4 (AM O (asg' O (q3 (sL [0,1,7,8,5] O) (AM O (AM O (AM O (AH (v:=(pP (pB x.p) (pO x.p+j*3))) (AL (j:=j) O O x.ok underlying23 sizeOf105 O Z) O (AH (v:=(aG (Ac (ts.getD j ((0,0,0):Z3))))) (AT (vs:=Ac (ts.getD j ((0,0,0):Z3))) (i:=1) O O (Av.ne x.ok Z) ET (Am Ay _ _ _ Z) (Ay _)) O ?_)))))))))))
  refine OkL.call (v:=(Value.bool (!Lo n (ts.getD j ((0,0,0):Z3))))) (AP O) (H1 (args:=[(aG (Ac (ts.getD j ((0,0,0):Z3))))]) (caps:=[(pP bo.b 0)]) (all:=[(aG (Ac (ts.getD j ((0,0,0):Z3)))),(pP bo.b 0)]) O O O call174) (λw hw=>Q4 (ts.getD j ((0,0,0):Z3)) n bo w (inS hw 0 O lbo)) O (AI O) (OkL.nil (OkQ.subF (sL [0,1,7,8,5,16] O) (OkQ.then_ ?_)))
  refine OkC.cond O (λhc1=>?_) (λhc1=>?_)
  ·simp only [Bool.and_eq_true,Bool.or_eq_true,Bool.and_eq_false_iff,Bool.or_eq_false_iff,Bool.not_eq_true',Bool.not_eq_false',decide_eq_true_eq,decide_eq_false_iff_not] at hc1
   have hfin:=he.trans (S3 Z (by simpa using hc1))
   exact q4 (AM O (asg' O (OkL.nil (OkQ.subF (sL [0,1,7,8,5,4] O) (OkQ.then_ (OkC.ret (OkQ.in_ret (OkQ.then_ret (OkQ.round1_ret (OkQ.in_ret (OkQ.then_ret (ret_one O (rd_tmp (v:=(vN j)) O) (λw hw=>⟨by rw [hfin],hw.out⟩)))))))))))))
  ·simp only [Bool.and_eq_true,Bool.or_eq_true,Bool.and_eq_false_iff,Bool.or_eq_false_iff,Bool.not_eq_true',Bool.not_eq_false',decide_eq_true_eq,decide_eq_false_iff_not] at hc1
   exact OkC.skip (OkQ.in_normal (OkQ.then_ (OkC.region (AH (AX (c:=((j+1:Nat):Int)) O O (AR (a:=j) (b:=1) Z)) O (AM O (OkL.nil (OkQ.subF (sL [0,1,7,8,5] O) (OkQ.round1 (j+1) (⟨Z,he.trans (RH Z (by simpa using hc1))⟩) Z (sF O) sr))))))))
 ·replace hc0:=of_decide_eq_false hc0
  have hfin:=he.trans (Si hc0)
  exact OkC.exit (OkQ.then_exit (OkQ.round1_exit (OkQ.in_exit (q2 (asg' O (OkL.nil (OkQ.then_ (OkC.ret (ret_one O (rd_tmp (v:=(vI (-1:Int))) O) (λw hw=>⟨by rw [hfin],hw.out⟩))))))))))
theorem Ua (n:Nat) (bo:BX [vN n]) (ts:List Z3) (x:RX (rowsL Ac ts) ts.length) (hl:ts.length<4611686018427387904) (w:World) {S:Nat->Prop} (hbo:Ro S w bo) (hx:Ro S w x):Calls prog 173 #[(Value.slice x.p ts.length x.c),(Value.func (.func 174) #[] #[(pP bo.b 0)])] w (Ah w (Value.bool (!DL n ts))):=by
 have lbo:=CI (W:=w) hbo
 have lx:=CI (W:=w) hx
 refine AY (args:=[(Value.slice x.p ts.length x.c),(Value.func (.func 174) #[] #[(pP bo.b 0)])]) (L:=[AE (some ⟨bo.b,0,none⟩) ([(vN n)]),AE x.p (rowsL Ac ts)]) func173 O O (AI O) (D9 hbo (D9 hx Aj)) (OkC.subF (sL [0,1] O) (q4 (asg' O (OkL.nil (q2 (AM O (AM O (Ce call218 (λw hw=>Vd n bo ts x hl w (inS hw 0 O lbo) (inS hw 1 O lx)) O (AH (Bx (c:=(!DL n ts)) O O (LS n ts 0)) O (asg' O (OkL.nil ?_)))))))))))
 exact OkQ.subF (sL [4] O) (OkQ.then_ (OkC.ret (ret_one O (rd_tmp (v:=(Value.bool (!DL n ts))) O) (λw hw=>⟨rfl,hw.out⟩))))
theorem N3 (n:Nat) (ts:List Z3) (x:RX (rowsL Ac ts) ts.length) (hl:ts.length<4611686018427387904) (w:World) {S:Nat->Prop} (hx:Ro S w x):Calls prog 110 #[(Value.slice x.p ts.length x.c),(vN n)] w (Ah w (Value.bool (DL n ts))):=by
 have lx:=CI (W:=w) hx
 refine AY (args:=[(Value.slice x.p ts.length x.c),(vN n)]) (L:=[AE x.p (rowsL Ac ts)]) func110 O O (AI O) (D9 hx Aj) (OkC.subF (sL [0,1] O) (q4 (Be (cs:=[(vN n)]) O λb1=>OkL.frzX 0 O O λhnb1=>asg' O (q3 (sL [0,3,4] O) (AM O (AH (v:=(Value.func (.func 174) #[] #[(pP b1 0)])) (GC (vs:=[]) (us:=[(pP b1 0)]) O O) O (Ce call173 (λw hw=>Ua n ⟨b1⟩ ts x hl w (aa (x:=(⟨b1⟩:BX [vN n])) hw 0 O hnb1) (inS hw 1 O lx)) O (AH (BU (c:=(!(!DL n ts))) O O) O (asg' O ?_)))))))))
 exact OkL.nil (OkQ.subF (sL [4] O) (OkQ.then_ (OkC.ret (ret_one O (rd_tmp (v:=(Value.bool (!(!DL n ts)))) O) (λw hw=>⟨by simp,hw.out⟩)))))
theorem OL {N K:Nat} {zs:List Z3} (x:RQ N K zs) (hl:zs.length<4611686018427387904) (w:World) {S:Nat->Prop} (hx:Ro S w x):Calls prog 43 #[(aG (G6 x))] w (Ah w (Value.bool (DL N zs))):=by
 have lx:=CI (W:=w) hx
 refine AY (args:=[(aG (G6 x))]) (L:=[AE x.a.p (x.cs),AE x.b.p (rowsL Ac zs),AE x.c.p (x.ds)]) func43 O O (AI O) (D9 hx Aj) (OkC.subF (sL [0] O) (q4 (Be (cs:=G6 x) O λb1=>asg' O (q3 (sL [1,2] O) (AH (v:=(pP b1 1)) (AA O underlying30 O sizeOf23 O) O (Au 0 (Value.slice x.b.p zs.length x.b.c) CU O (AH (v:=(pP b1 0)) (AA O underlying30 O sizeOf28 O) O (Au 0 (Value.slice x.a.p N x.a.c) DE O (AH (v:=(vN N)) (AD O underlying28) O (Ce call110 (λw hw=>N3 N zs x.b hl w (aM (inS hw 1 O lx))) O ?_))))))))))
 exact asg' O (OkL.nil (OkQ.subF (sL [2] O) (OkQ.then_ (OkC.ret (ret_one O (rd_tmp (v:=(Value.bool (DL N zs))) O) (λw hw=>⟨rfl,hw.out⟩))))))
theorem L4 {N K:Nat} {zs:List Z3} (x:RQ N K zs) (p:Int) (w:World) {S:Nat->Prop} (hx:Ro S w x):Calls prog 57 #[(aG (G6 x)),(vI p)] w (Ah w (Value.bool (Ar N p))):=by
 have lx:=CI (W:=w) hx
 refine AY (args:=[(aG (G6 x)),(vI p)]) (L:=[AE x.a.p (x.cs),AE x.b.p (rowsL Ac zs),AE x.c.p (x.ds)]) func57 O O (AI O) (D9 hx Aj) (OkC.subF (sL [0,1] O) (q4 (Be (cs:=G6 x) O λb1=>asg' O (q3 (sL [1,2,4] O) (AM O (AH (Bx (c:=(decide ((0:Int)<=p))) O O O) O (AM O ?_)))))))
 refine OkL.mid (FM:=[(1,(vI p)),(2,(pP b1 0)),(4,(Value.bool false)),(5,(vI p)),(6,(Value.bool (decide ((0:Int)<=p)))),(7,(Value.bool (decide ((0:Int)<=p)))),(13,(Value.bool ((decide ((0:Int)<=p))&&(decide (p<((N:Nat):Int))))))]) (LM:=[AU b1 39 (G6 x),AE x.a.p (x.cs),AE x.b.p (rowsL Ac zs),AE x.c.p (x.ds)]) 6 ?_ ?_
 ·rcases Bool.eq_false_or_eq_true (decide ((0:Int)<=p)) with hg1|hg1
  ·skip
   refine OkL.retell (k:=7) (u:=Value.bool true) O (by rw [hg1]) ?_
   have hg1':=hg1
   replace hg1':=of_decide_eq_true hg1'
   exact OkL.step (v:=(vI p)) (AB O) (Ai O) O (AI O) (OkL.step (v:=(pP b1 0)) (AB O) (AA O underlying39 O sizeOf36 O) O (AI O) (OkL.step (v:=(Value.slice x.a.p N x.a.c)) (AB O) (AF (i:=0) (v:=(Value.slice x.a.p N x.a.c)) O O Fj.a O) O (AI O) (OkL.step (v:=(vN N)) (AB O) (AD O underlying36) O (AI O) (OkL.step (v:=(Value.bool (decide (p<((N:Nat):Int))))) (AB O) (Ae (c:=(decide (p<((N:Nat):Int)))) O O O) O (AI O) (AH (v:=(Value.bool (decide (p<((N:Nat):Int))))) (AO O O) O (OkL.nil (OkQ.mid (sS O (sS O (sS O (sS O (sS O (sS (by first|rfl|(rw [hg1];rfl)|rw [hg1]) (sS (by first|rfl|(rw [hg1];rfl)|rw [hg1]) (sN)))))))) (List.Sublist.refl _))))))))
  ·skip
   refine OkL.retell (k:=7) (u:=Value.bool false) O (by rw [hg1]) ?_
   have hg1':=hg1
   replace hg1':=of_decide_eq_false hg1'
   exact OkL.skip (AC O) O (AI O) (OkL.skip (AC O) O (AI O) (OkL.skip (AC O) O (AI O) (OkL.skip (AC O) O (AI O) (OkL.skip (AC O) O (AI O) (AH (v:=(Value.bool false)) (AJ O O) O (OkL.nil (OkQ.mid (sS O (sS O (sS O (sS O (sS O (sS (by first|rfl|(rw [hg1];rfl)|rw [hg1]) (sS (by first|rfl|(rw [hg1];rfl)|rw [hg1]) (sN)))))))) (List.Sublist.refl _))))))))
 exact asg' O (OkL.nil (OkQ.subF (sL [4] O) (OkQ.then_ (OkC.ret (ret_one O (rd_tmp (v:=(Value.bool ((decide ((0:Int)<=p))&&(decide (p<((N:Nat):Int)))))) O) (λw hw=>⟨by unfold Ar;first|rfl|simp,hw.out⟩))))))
set_option maxHeartbeats 1000000 in
theorem Ka {N K:Nat} {zs:List Z3} (x:RQ N K zs) (hl:zs.length<=1000000) (w:World) {S:Nat->Prop} (hx:Ro S w x):Calls prog 45 #[(aG (G6 x))] w (Ah w (Value.bool (DL N zs))):=by
 have lx:=CI (W:=w) hx
 refine AY (args:=[(aG (G6 x))]) (L:=[AE x.a.p (x.cs),AE x.b.p (rowsL Ac zs),AE x.c.p (x.ds)]) func45 O O (AI O) (D9 hx Aj) (OkC.subF (sL [0] O) (q4 (Be (cs:=G6 x) O λb1=>asg' O (q6 (sL [1,2] O) (q4 (asg' O (OkL.nil (OkQ.then_ (OkC.block ?_)))))))))
 refine OkC.lp1 (tg λ(i:Nat)=>i<=zs.length/\∀j,j<i->Lo N (zs.getD j (0,0,0))=true) (tg λ(i:Nat)=>[(1,(pP b1 0)),(3,(vN i))]) (tg λ(i:Nat)=>[AU b1 39 (G6 x),AE x.a.p (x.cs),AE x.b.p (rowsL Ac zs),AE x.c.p (x.ds)]) (tg λ(i:Nat)=>zs.length-i) 0 (⟨Nat.zero_le _,λj h=>absurd h (Nat.not_lt_zero _)⟩) (sF O) sr (λi hJ=>?_)
 obtain ⟨hi,hok⟩:=hJ
 refine OkC.seq (q4 (AM O (AH (v:=(pP b1 1)) (AA O underlying39 O sizeOf23 O) O (Au 0 (Value.slice x.b.p zs.length x.b.c) CU O (AH (v:=(vN zs.length)) (AD O underlying23) O (AH (Ae (c:=(decide (i<zs.length))) O O (CB (a:=i) (b:=zs.length))) O (OkL.nil (OkQ.subF (sL [1,3,9] O) (OkQ.then_ ?_)))))))))
 refine OkC.cond O (λhc0=>?_) (λhc0=>?_)
 ·replace hc0:=of_decide_eq_true hc0
  obtain ⟨T,hT⟩:∃q,q=zs.getD i (0,0,0):=⟨_,rfl⟩
  refine OkC.skip (q1 (OkC.block (q4 (AH (v:=(pP b1 1)) (AA O underlying39 O sizeOf23 O) O (Au 0 (Value.slice x.b.p zs.length x.b.c) CU O (AM O (AH (v:=(pP (pB x.b.p) (pO x.b.p+i*3))) (AL (j:=i) O O x.b.ok underlying23 sizeOf105 O Z) O (AH (v:=(aG (Ac (zs.getD i ((0,0,0):Z3))))) (AT (vs:=Ac (zs.getD i ((0,0,0):Z3))) (i:=2) O O (Av.ne x.b.ok Z) ET (Am Ay _ _ _ Z) (Ay _)) O (OkL.retell (k:=16) (u:=(aG (Ac T))) O (by rw [hT]) (al LC O λb2=>Ax O sizeOf105 O ?_))))))))))
  refine q3 (sL [1,3,4] O) (BH 1 DA O (AH (v:=(pP b2 0)) (AG (j:=0) O O underlying105 sizeOf3 O (by decide) O) O (Au 0 (vI T.1) BL O (Ce call57 (λw hw=>L4 x T.1 w (inS hw 2 O lx)) O (AH (BU (c:=(!(Ar N T.1))) O O) O (AM O ?_))))))
  refine OkL.mid (FM:=[(1,(pP b1 0)),(3,(vN i)),(4,(pP b2 0)),(17,(aG (G6 x))),(18,(pP b2 0)),(19,(vI T.1)),(20,(Value.bool (Ar N T.1))),(21,(Value.bool (!(Ar N T.1)))),(22,(Value.bool (!(Ar N T.1)))),(28,(Value.bool ((!(Ar N T.1))||(!(Ar N T.2.1)))))]) (LM:=[AU b2 105 (Ac T),AU b1 39 (G6 x),AE x.a.p (x.cs),AE x.b.p (rowsL Ac zs),AE x.c.p (x.ds)]) 6 ?_ ?_
  ·rcases Bool.eq_false_or_eq_true (!(Ar N T.1)) with hg1|hg1
   ·skip
    refine OkL.retell (k:=22) (u:=Value.bool true) O (by rw [hg1]) ?_
    have hg1':=hg1
    simp only [Bool.and_eq_true,Bool.or_eq_true,Bool.and_eq_false_iff,Bool.or_eq_false_iff,Bool.not_eq_true',Bool.not_eq_false',decide_eq_true_eq,decide_eq_false_iff_not] at hg1'
    exact OkL.skip (AC O) O (AI O) (OkL.skip (AC O) O (AI O) (OkL.skip (AC O) O (AI O) (OkL.skip (AC O) O (AI O) (OkL.skip (AC O) O (AI O) (AH (v:=(Value.bool true)) (AO O O) O (OkL.nil (OkQ.mid (sS O (sS O (sS O (sS O (sS O (sS O (sS O (sS O (sS (by first|rfl|(rw [hg1];rfl)|rw [hg1]) (sS (by first|rfl|(rw [hg1];rfl)|rw [hg1]) (sN))))))))))) (List.Sublist.refl _))))))))
   ·skip
    refine OkL.retell (k:=22) (u:=Value.bool false) O (by rw [hg1]) ?_
    have hg1':=hg1
    simp only [Bool.and_eq_true,Bool.or_eq_true,Bool.and_eq_false_iff,Bool.or_eq_false_iff,Bool.not_eq_true',Bool.not_eq_false',decide_eq_true_eq,decide_eq_false_iff_not] at hg1'
    exact OkL.step (v:=(aG (G6 x))) (AB O) (A6 (i:=1) (vs:=G6 x) O O DA.a DA.s O O) O (AI O) (OkL.step (v:=(pP b2 1)) (AB O) (AG (j:=1) O O underlying105 sizeOf3 O (by decide) O) O (AI O) (OkL.step (v:=(vI T.2.1)) (AB O) (AF (i:=0) (v:=(vI T.2.1)) O O BL.a O) O (AI O) (OkL.call (v:=(Value.bool (Ar N T.2.1))) (AB O) (Ap (args:=[(aG (G6 x)),(vI T.2.1)]) O O call57) (λw hw=>L4 x T.2.1 w (inS hw 2 O lx)) O (AI O) (OkL.step (v:=(Value.bool (!(Ar N T.2.1)))) (AB O) (BU (c:=(!(Ar N T.2.1))) O O) O (AI O) (AH (v:=(Value.bool (!(Ar N T.2.1)))) (AJ O O) O (OkL.nil (OkQ.mid (sS O (sS O (sS O (sS O (sS O (sS O (sS O (sS O (sS (by first|rfl|(rw [hg1];rfl)|rw [hg1]) (sS (by first|rfl|(rw [hg1];rfl)|rw [hg1]) (sN))))))))))) (List.Sublist.refl _))))))))
  refine AM O ?_
  refine OkL.mid (FM:=[(1,(pP b1 0)),(3,(vN i)),(4,(pP b2 0)),(17,(aG (G6 x))),(18,(pP b2 0)),(19,(vI T.1)),(20,(Value.bool (Ar N T.1))),(21,(Value.bool (!(Ar N T.1)))),(22,(Value.bool (!(Ar N T.1)))),(28,(Value.bool ((!(Ar N T.1))||(!(Ar N T.2.1))))),(29,(Value.bool ((!(Ar N T.1))||(!(Ar N T.2.1))))),(35,(Value.bool (((!(Ar N T.1))||(!(Ar N T.2.1)))||(!(Ar N T.2.2)))))]) (LM:=[AU b2 105 (Ac T),AU b1 39 (G6 x),AE x.a.p (x.cs),AE x.b.p (rowsL Ac zs),AE x.c.p (x.ds)]) 6 ?_ ?_
  ·rcases Bool.eq_false_or_eq_true ((!(Ar N T.1))||(!(Ar N T.2.1))) with hg2|hg2
   ·skip
    refine OkL.retell (k:=29) (u:=Value.bool true) O (by rw [hg2]) ?_
    have hg2':=hg2
    simp only [Bool.and_eq_true,Bool.or_eq_true,Bool.and_eq_false_iff,Bool.or_eq_false_iff,Bool.not_eq_true',Bool.not_eq_false',decide_eq_true_eq,decide_eq_false_iff_not] at hg2'
    exact OkL.skip (AC O) O (AI O) (OkL.skip (AC O) O (AI O) (OkL.skip (AC O) O (AI O) (OkL.skip (AC O) O (AI O) (OkL.skip (AC O) O (AI O) (AH (v:=(Value.bool true)) (AO O O) O (OkL.nil (OkQ.mid (sS O (sS O (sS O (sS O (sS O (sS O (sS O (sS O (sS O (sS O (sS (by first|rfl|(rw [hg2];rfl)|rw [hg2]) (sS (by first|rfl|(rw [hg2];rfl)|rw [hg2]) (sN))))))))))))) (List.Sublist.refl _))))))))
   ·skip
    refine OkL.retell (k:=29) (u:=Value.bool false) O (by rw [hg2]) ?_
    have hg2':=hg2
    simp only [Bool.and_eq_true,Bool.or_eq_true,Bool.and_eq_false_iff,Bool.or_eq_false_iff,Bool.not_eq_true',Bool.not_eq_false',decide_eq_true_eq,decide_eq_false_iff_not] at hg2'
    exact OkL.step (v:=(aG (G6 x))) (AB O) (A6 (i:=1) (vs:=G6 x) O O DA.a DA.s O O) O (AI O) (OkL.step (v:=(pP b2 2)) (AB O) (AG (j:=2) O O underlying105 sizeOf3 O (by decide) O) O (AI O) (OkL.step (v:=(vI T.2.2)) (AB O) (AF (i:=0) (v:=(vI T.2.2)) O O BL.a O) O (AI O) (OkL.call (v:=(Value.bool (Ar N T.2.2))) (AB O) (Ap (args:=[(aG (G6 x)),(vI T.2.2)]) O O call57) (λw hw=>L4 x T.2.2 w (inS hw 2 O lx)) O (AI O) (OkL.step (v:=(Value.bool (!(Ar N T.2.2)))) (AB O) (BU (c:=(!(Ar N T.2.2))) O O) O (AI O) (AH (v:=(Value.bool (!(Ar N T.2.2)))) (AJ O O) O (OkL.nil (OkQ.mid (sS O (sS O (sS O (sS O (sS O (sS O (sS O (sS O (sS O (sS O (sS (by first|rfl|(rw [hg2];rfl)|rw [hg2]) (sS (by first|rfl|(rw [hg2];rfl)|rw [hg2]) (sN))))))))))))) (List.Sublist.refl _))))))))
  refine AM O ?_
  refine OkL.mid (FM:=[(1,(pP b1 0)),(3,(vN i)),(4,(pP b2 0)),(17,(aG (G6 x))),(18,(pP b2 0)),(19,(vI T.1)),(20,(Value.bool (Ar N T.1))),(21,(Value.bool (!(Ar N T.1)))),(22,(Value.bool (!(Ar N T.1)))),(28,(Value.bool ((!(Ar N T.1))||(!(Ar N T.2.1))))),(29,(Value.bool ((!(Ar N T.1))||(!(Ar N T.2.1))))),(35,(Value.bool (((!(Ar N T.1))||(!(Ar N T.2.1)))||(!(Ar N T.2.2))))),(36,(Value.bool (((!(Ar N T.1))||(!(Ar N T.2.1)))||(!(Ar N T.2.2))))),(42,(Value.bool ((((!(Ar N T.1))||(!(Ar N T.2.1)))||(!(Ar N T.2.2)))||(decide (T.1=T.2.1)))))]) (LM:=[AU b2 105 (Ac T),AU b1 39 (G6 x),AE x.a.p (x.cs),AE x.b.p (rowsL Ac zs),AE x.c.p (x.ds)]) 6 ?_ ?_
  ·rcases Bool.eq_false_or_eq_true (((!(Ar N T.1))||(!(Ar N T.2.1)))||(!(Ar N T.2.2))) with hg3|hg3
   ·skip
    refine OkL.retell (k:=36) (u:=Value.bool true) O (by rw [hg3]) ?_
    have hg3':=hg3
    simp only [Bool.and_eq_true,Bool.or_eq_true,Bool.and_eq_false_iff,Bool.or_eq_false_iff,Bool.not_eq_true',Bool.not_eq_false',decide_eq_true_eq,decide_eq_false_iff_not] at hg3'
    exact OkL.skip (AC O) O (AI O) (OkL.skip (AC O) O (AI O) (OkL.skip (AC O) O (AI O) (OkL.skip (AC O) O (AI O) (OkL.skip (AC O) O (AI O) (AH (v:=(Value.bool true)) (AO O O) O (OkL.nil (OkQ.mid (sS O (sS O (sS O (sS O (sS O (sS O (sS O (sS O (sS O (sS O (sS O (sS O (sS (by first|rfl|(rw [hg3];rfl)|rw [hg3]) (sS (by first|rfl|(rw [hg3];rfl)|rw [hg3]) (sN))))))))))))))) (List.Sublist.refl _))))))))
   ·skip
    refine OkL.retell (k:=36) (u:=Value.bool false) O (by rw [hg3]) ?_
    have hg3':=hg3
    simp only [Bool.and_eq_true,Bool.or_eq_true,Bool.and_eq_false_iff,Bool.or_eq_false_iff,Bool.not_eq_true',Bool.not_eq_false',decide_eq_true_eq,decide_eq_false_iff_not] at hg3'
    exact OkL.step (v:=(pP b2 0)) (AB O) (AG (j:=0) O O underlying105 sizeOf3 O (by decide) O) O (AI O) (OkL.step (v:=(vI T.1)) (AB O) (AF (i:=0) (v:=(vI T.1)) O O BL.a O) O (AI O) (OkL.step (v:=(pP b2 1)) (AB O) (AG (j:=1) O O underlying105 sizeOf3 O (by decide) O) O (AI O) (OkL.step (v:=(vI T.2.1)) (AB O) (AF (i:=0) (v:=(vI T.2.1)) O O BL.a O) O (AI O) (OkL.step (v:=(Value.bool (decide (T.1=T.2.1)))) (AB O) (BG (c:=(decide (T.1=T.2.1))) O O O) O (AI O) (AH (v:=(Value.bool (decide (T.1=T.2.1)))) (AJ O O) O (OkL.nil (OkQ.mid (sS O (sS O (sS O (sS O (sS O (sS O (sS O (sS O (sS O (sS O (sS O (sS O (sS (by first|rfl|(rw [hg3];rfl)|rw [hg3]) (sS (by first|rfl|(rw [hg3];rfl)|rw [hg3]) (sN))))))))))))))) (List.Sublist.refl _))))))))
  refine AM O ?_
  refine OkL.mid (FM:=[(1,(pP b1 0)),(3,(vN i)),(4,(pP b2 0)),(17,(aG (G6 x))),(18,(pP b2 0)),(19,(vI T.1)),(20,(Value.bool (Ar N T.1))),(21,(Value.bool (!(Ar N T.1)))),(22,(Value.bool (!(Ar N T.1)))),(28,(Value.bool ((!(Ar N T.1))||(!(Ar N T.2.1))))),(29,(Value.bool ((!(Ar N T.1))||(!(Ar N T.2.1))))),(35,(Value.bool (((!(Ar N T.1))||(!(Ar N T.2.1)))||(!(Ar N T.2.2))))),(36,(Value.bool (((!(Ar N T.1))||(!(Ar N T.2.1)))||(!(Ar N T.2.2))))),(42,(Value.bool ((((!(Ar N T.1))||(!(Ar N T.2.1)))||(!(Ar N T.2.2)))||(decide (T.1=T.2.1))))),(43,(Value.bool ((((!(Ar N T.1))||(!(Ar N T.2.1)))||(!(Ar N T.2.2)))||(decide (T.1=T.2.1))))),(49,(Value.bool (((((!(Ar N T.1))||(!(Ar N T.2.1)))||(!(Ar N T.2.2)))||(decide (T.1=T.2.1)))||(decide (T.1=T.2.2)))))]) (LM:=[AU b2 105 (Ac T),AU b1 39 (G6 x),AE x.a.p (x.cs),AE x.b.p (rowsL Ac zs),AE x.c.p (x.ds)]) 6 ?_ ?_
  ·rcases Bool.eq_false_or_eq_true ((((!(Ar N T.1))||(!(Ar N T.2.1)))||(!(Ar N T.2.2)))||(decide (T.1=T.2.1))) with hg4|hg4
   ·skip
    refine OkL.retell (k:=43) (u:=Value.bool true) O (by rw [hg4]) ?_
    have hg4':=hg4
    simp only [Bool.and_eq_true,Bool.or_eq_true,Bool.and_eq_false_iff,Bool.or_eq_false_iff,Bool.not_eq_true',Bool.not_eq_false',decide_eq_true_eq,decide_eq_false_iff_not] at hg4'
    exact OkL.skip (AC O) O (AI O) (OkL.skip (AC O) O (AI O) (OkL.skip (AC O) O (AI O) (OkL.skip (AC O) O (AI O) (OkL.skip (AC O) O (AI O) (AH (v:=(Value.bool true)) (AO O O) O (OkL.nil (OkQ.mid (sS O (sS O (sS O (sS O (sS O (sS O (sS O (sS O (sS O (sS O (sS O (sS O (sS O (sS O (sS (by first|rfl|(rw [hg4];rfl)|rw [hg4]) (sS (by first|rfl|(rw [hg4];rfl)|rw [hg4]) (sN))))))))))))))))) (List.Sublist.refl _))))))))
   ·skip
    refine OkL.retell (k:=43) (u:=Value.bool false) O (by rw [hg4]) ?_
    have hg4':=hg4
    simp only [Bool.and_eq_true,Bool.or_eq_true,Bool.and_eq_false_iff,Bool.or_eq_false_iff,Bool.not_eq_true',Bool.not_eq_false',decide_eq_true_eq,decide_eq_false_iff_not] at hg4'
    exact OkL.step (v:=(pP b2 0)) (AB O) (AG (j:=0) O O underlying105 sizeOf3 O (by decide) O) O (AI O) (OkL.step (v:=(vI T.1)) (AB O) (AF (i:=0) (v:=(vI T.1)) O O BL.a O) O (AI O) (OkL.step (v:=(pP b2 2)) (AB O) (AG (j:=2) O O underlying105 sizeOf3 O (by decide) O) O (AI O) (OkL.step (v:=(vI T.2.2)) (AB O) (AF (i:=0) (v:=(vI T.2.2)) O O BL.a O) O (AI O) (OkL.step (v:=(Value.bool (decide (T.1=T.2.2)))) (AB O) (BG (c:=(decide (T.1=T.2.2))) O O O) O (AI O) (AH (v:=(Value.bool (decide (T.1=T.2.2)))) (AJ O O) O (OkL.nil (OkQ.mid (sS O (sS O (sS O (sS O (sS O (sS O (sS O (sS O (sS O (sS O (sS O (sS O (sS O (sS O (sS (by first|rfl|(rw [hg4];rfl)|rw [hg4]) (sS (by first|rfl|(rw [hg4];rfl)|rw [hg4]) (sN))))))))))))))))) (List.Sublist.refl _))))))))
  refine AM O ?_
  refine OkL.mid (FM:=[(1,(pP b1 0)),(3,(vN i)),(4,(pP b2 0)),(17,(aG (G6 x))),(18,(pP b2 0)),(19,(vI T.1)),(20,(Value.bool (Ar N T.1))),(21,(Value.bool (!(Ar N T.1)))),(22,(Value.bool (!(Ar N T.1)))),(28,(Value.bool ((!(Ar N T.1))||(!(Ar N T.2.1))))),(29,(Value.bool ((!(Ar N T.1))||(!(Ar N T.2.1))))),(35,(Value.bool (((!(Ar N T.1))||(!(Ar N T.2.1)))||(!(Ar N T.2.2))))),(36,(Value.bool (((!(Ar N T.1))||(!(Ar N T.2.1)))||(!(Ar N T.2.2))))),(42,(Value.bool ((((!(Ar N T.1))||(!(Ar N T.2.1)))||(!(Ar N T.2.2)))||(decide (T.1=T.2.1))))),(43,(Value.bool ((((!(Ar N T.1))||(!(Ar N T.2.1)))||(!(Ar N T.2.2)))||(decide (T.1=T.2.1))))),(49,(Value.bool (((((!(Ar N T.1))||(!(Ar N T.2.1)))||(!(Ar N T.2.2)))||(decide (T.1=T.2.1)))||(decide (T.1=T.2.2))))),(50,(Value.bool (((((!(Ar N T.1))||(!(Ar N T.2.1)))||(!(Ar N T.2.2)))||(decide (T.1=T.2.1)))||(decide (T.1=T.2.2))))),(56,(Value.bool ((((((!(Ar N T.1))||(!(Ar N T.2.1)))||(!(Ar N T.2.2)))||(decide (T.1=T.2.1)))||(decide (T.1=T.2.2)))||(decide (T.2.1=T.2.2)))))]) (LM:=[AU b2 105 (Ac T),AU b1 39 (G6 x),AE x.a.p (x.cs),AE x.b.p (rowsL Ac zs),AE x.c.p (x.ds)]) 6 ?_ ?_
  ·rcases Bool.eq_false_or_eq_true (((((!(Ar N T.1))||(!(Ar N T.2.1)))||(!(Ar N T.2.2)))||(decide (T.1=T.2.1)))||(decide (T.1=T.2.2))) with hg5|hg5
   ·skip
    refine OkL.retell (k:=50) (u:=Value.bool true) O (by rw [hg5]) ?_
    have hg5':=hg5
    simp only [Bool.and_eq_true,Bool.or_eq_true,Bool.and_eq_false_iff,Bool.or_eq_false_iff,Bool.not_eq_true',Bool.not_eq_false',decide_eq_true_eq,decide_eq_false_iff_not] at hg5'
    exact OkL.skip (AC O) O (AI O) (OkL.skip (AC O) O (AI O) (OkL.skip (AC O) O (AI O) (OkL.skip (AC O) O (AI O) (OkL.skip (AC O) O (AI O) (AH (v:=(Value.bool true)) (AO O O) O (OkL.nil (OkQ.mid (sS O (sS O (sS O (sS O (sS O (sS O (sS O (sS O (sS O (sS O (sS O (sS O (sS O (sS O (sS O (sS O (sS (by first|rfl|(rw [hg5];rfl)|rw [hg5]) (sS (by first|rfl|(rw [hg5];rfl)|rw [hg5]) (sN))))))))))))))))))) (List.Sublist.refl _))))))))
   ·skip
    refine OkL.retell (k:=50) (u:=Value.bool false) O (by rw [hg5]) ?_
    have hg5':=hg5
    simp only [Bool.and_eq_true,Bool.or_eq_true,Bool.and_eq_false_iff,Bool.or_eq_false_iff,Bool.not_eq_true',Bool.not_eq_false',decide_eq_true_eq,decide_eq_false_iff_not] at hg5'
    exact OkL.step (v:=(pP b2 1)) (AB O) (AG (j:=1) O O underlying105 sizeOf3 O (by decide) O) O (AI O) (OkL.step (v:=(vI T.2.1)) (AB O) (AF (i:=0) (v:=(vI T.2.1)) O O BL.a O) O (AI O) (OkL.step (v:=(pP b2 2)) (AB O) (AG (j:=2) O O underlying105 sizeOf3 O (by decide) O) O (AI O) (OkL.step (v:=(vI T.2.2)) (AB O) (AF (i:=0) (v:=(vI T.2.2)) O O BL.a O) O (AI O) (OkL.step (v:=(Value.bool (decide (T.2.1=T.2.2)))) (AB O) (BG (c:=(decide (T.2.1=T.2.2))) O O O) O (AI O) (AH (v:=(Value.bool (decide (T.2.1=T.2.2)))) (AJ O O) O (OkL.nil (OkQ.mid (sS O (sS O (sS O (sS O (sS O (sS O (sS O (sS O (sS O (sS O (sS O (sS O (sS O (sS O (sS O (sS O (sS (by first|rfl|(rw [hg5];rfl)|rw [hg5]) (sS (by first|rfl|(rw [hg5];rfl)|rw [hg5]) (sN))))))))))))))))))) (List.Sublist.refl _))))))))
  refine OkL.nil (OkQ.subF (sL [1,3,4,56] O) (OkQ.then_ ?_))
  refine OkC.cond O (λhc1=>?_) (λhc1=>?_)
  ·simp only [Bool.and_eq_true,Bool.or_eq_true,Bool.and_eq_false_iff,Bool.or_eq_false_iff,Bool.not_eq_true',Bool.not_eq_false',decide_eq_true_eq,decide_eq_false_iff_not] at hc1
   exact q4 (asg' O (OkL.nil (OkQ.then_ (OkC.ret (OkQ.in_ret (OkQ.then_ret (OkQ.round1_ret (OkQ.in_ret (OkQ.then_ret (ret_one O (rd_tmp (v:=(Value.bool false)) O) (λw hw=>⟨by rw [Wy (j:=i) Z (by rw [<-hT];unfold Lo;rw [Bool.eq_false_iff];intro h9;simp only [Bool.and_eq_true,Bool.not_eq_true',decide_eq_false_iff_not] at h9;grind)],hw.out⟩)))))))))))
  ·simp only [Bool.and_eq_true,Bool.or_eq_true,Bool.and_eq_false_iff,Bool.or_eq_false_iff,Bool.not_eq_true',Bool.not_eq_false',decide_eq_true_eq,decide_eq_false_iff_not] at hc1
   exact OkC.skip (OkQ.in_normal (OkQ.then_ (OkC.region (AM O (AH (AX (c:=((i+1:Nat):Int)) O O (AR (a:=i) (b:=1) Z)) O (asg' O (OkL.nil (OkQ.subF (sL [1,3,4] O) (OkQ.round1 (i+1) (⟨Z,λj hj=>by rcases Nat.lt_or_ge j i with h9|h9;exact hok j h9;rw [show j=i by omega,<-hT];unfold Lo;simp only [Bool.and_eq_true,Bool.not_eq_true',decide_eq_false_iff_not];grind⟩) Z (sF O) (sl sr))))))))))
 ·replace hc0:=of_decide_eq_false hc0
  exact OkC.exit (OkQ.then_exit (OkQ.round1_exit (OkQ.in_exit (q2 (asg' O (OkL.nil (OkQ.then_ (OkC.ret (ret_one O (rd_tmp (v:=(Value.bool true)) O) (λw hw=>⟨by rw [T0 λj hj=>hok j Z],hw.out⟩))))))))))
end
end Go.Proofs.YtpolhpjiahbidaaGreatDoor
