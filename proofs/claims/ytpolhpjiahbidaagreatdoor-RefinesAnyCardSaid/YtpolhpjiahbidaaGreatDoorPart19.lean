import Derived.Test.YtpolhpjiahbidaaGreatDoorPart05
import Derived.Test.YtpolhpjiahbidaaGreatDoorPart07
import Derived.Test.YtpolhpjiahbidaaGreatDoorPart18
namespace Go.Proofs.YtpolhpjiahbidaaGreatDoor
open Go Go.RowKit Go.Proofs.Tryz
set_option linter.unusedVariables false
set_option linter.unusedSimpArgs false
section
set_option maxRecDepth 100000
theorem JZ (p n:Nat) (w:World)  :Calls prog 148 #[(vN p),(vN n)] w (Ah w (Value.bool (decide (p<n)))):=by
 refine Ab (args:=[(vN p),(vN n)]) func148 O O (AI O) (OkC.subF (sL [0,1] O) (q4 (asg' O (OkL.nil (q2 (AM O (AH (Bx (c:=(decide (0<=p))) O O (SC (a:=0) (b:=p))) O (AM O ?_))))))))
 refine OkL.mid (FM:=[(0,(vN p)),(1,(vN n)),(4,(Value.bool false)),(5,(vN p)),(6,(Value.bool (decide (0<=p)))),(7,(Value.bool (decide (0<=p)))),(11,(Value.bool ((decide (0<=p))&&(decide (p<n)))))]) (LM:=[]) 4 ?_ ?_
 ·rcases Bool.eq_false_or_eq_true (decide (0<=p)) with hg1|hg1
  ·skip
   refine OkL.retell (k:=7) (u:=Value.bool true) O (by rw [hg1]) ?_
   have hg1':=hg1
   replace hg1':=of_decide_eq_true hg1'
   exact OkL.step (v:=(vN p)) (AB O) (Ai O) O (AI O) (OkL.step (v:=(vN n)) (AB O) (Ai O) O (AI O) (OkL.step (v:=(Value.bool (decide (p<n)))) (AB O) (Ae (c:=(decide (p<n))) O O (CB (a:=p) (b:=n))) O (AI O) (AH (v:=(Value.bool (decide (p<n)))) (AO O O) O (OkL.nil (OkQ.mid (sS O (sS O (sS O (sS O (sS O (sS (by first|rfl|(rw [hg1];rfl)|rw [hg1]) (sS (by first|rfl|(rw [hg1];rfl)|rw [hg1]) (sN)))))))) (List.Sublist.refl _))))))
  ·skip
   refine OkL.retell (k:=7) (u:=Value.bool false) O (by rw [hg1]) ?_
   have hg1':=hg1
   replace hg1':=of_decide_eq_false hg1'
   exact OkL.skip (AC O) O (AI O) (OkL.skip (AC O) O (AI O) (OkL.skip (AC O) O (AI O) (AH (v:=(Value.bool false)) (AJ O O) O (OkL.nil (OkQ.mid (sS O (sS O (sS O (sS O (sS O (sS (by first|rfl|(rw [hg1];rfl)|rw [hg1]) (sS (by first|rfl|(rw [hg1];rfl)|rw [hg1]) (sN)))))))) (List.Sublist.refl _))))))
 exact asg' O (OkL.nil (OkQ.subF (sL [4] O) (OkQ.then_ (OkC.ret (ret_one O (rd_tmp (v:=(Value.bool ((decide (0<=p))&&(decide (p<n))))) O) (λw hw=>⟨by simp,hw.out⟩))))))
theorem Ug (t:Tq3) (n:Nat) (bo:BX [vN n]) (w:World) {S:Nat->Prop} (hbo:Ro S w bo):Calls prog 174 #[(aG (Ad t)),(pP bo.b 0)] w (Ah w (Value.bool (!La n t))):=by
 have lbo:=CI (W:=w) hbo
 refine AY (args:=[(aG (Ad t)),(pP bo.b 0)]) (L:=[AE (some ⟨bo.b,0,none⟩) ([(vN n)])]) func174 O O (AI O) (D9 hbo Aj) (OkC.subF (sL [0,1] O) (q4 (Be (cs:=Ad t) O λb1=>asg' O (q3 (sL [1,2,3] O) (AH (v:=(pP b1 0)) (AG (j:=0) O O underlying105 sizeOf3 O (by decide) O) O (Au 0 (vN t.1) BL O (AH (AW (q:=some ⟨bo.b,0,none⟩) (v:=(vN n)) (off:=0) (i:=1) O O (λe=>by cases e) BL O) O (ck' call148 (JZ t.1 n) O (AH (BU (c:=(!(decide (t.1<n)))) O O) O (AM O ?_))))))))))
 refine OkL.mid (FM:=[(1,(pP bo.b 0)),(2,(pP b1 0)),(3,(Value.bool false)),(4,(pP b1 0)),(5,(vN t.1)),(6,(vN n)),(7,(Value.bool (decide (t.1<n)))),(8,(Value.bool (!(decide (t.1<n))))),(9,(Value.bool (!(decide (t.1<n))))),(15,(Value.bool ((!(decide (t.1<n)))||(!(decide (t.2.1<n))))))]) (LM:=[AU b1 105 (Ad t),AE (some ⟨bo.b,0,none⟩) ([(vN n)])]) 6 ?_ ?_
 ·rcases Bool.eq_false_or_eq_true (!(decide (t.1<n))) with hg1|hg1
  ·skip
   refine OkL.retell (k:=9) (u:=Value.bool true) O (by rw [hg1]) ?_
   have hg1':=hg1
   simp only [Bool.and_eq_true,Bool.or_eq_true,Bool.and_eq_false_iff,Bool.or_eq_false_iff,Bool.not_eq_true',Bool.not_eq_false',decide_eq_true_eq,decide_eq_false_iff_not] at hg1'
   exact OkL.skip (AC O) O (AI O) (OkL.skip (AC O) O (AI O) (OkL.skip (AC O) O (AI O) (OkL.skip (AC O) O (AI O) (OkL.skip (AC O) O (AI O) (AH (v:=(Value.bool true)) (AO O O) O (OkL.nil (OkQ.mid (sS O (sS O (sS O (sS O (sS O (sS O (sS O (sS O (sS (by first|rfl|(rw [hg1];rfl)|rw [hg1]) (sS (by first|rfl|(rw [hg1];rfl)|rw [hg1]) (sN))))))))))) (List.Sublist.refl _))))))))
  ·skip
   refine OkL.retell (k:=9) (u:=Value.bool false) O (by rw [hg1]) ?_
   have hg1':=hg1
   simp only [Bool.and_eq_true,Bool.or_eq_true,Bool.and_eq_false_iff,Bool.or_eq_false_iff,Bool.not_eq_true',Bool.not_eq_false',decide_eq_true_eq,decide_eq_false_iff_not] at hg1'
   exact OkL.step (v:=(pP b1 1)) (AB O) (AG (j:=1) O O underlying105 sizeOf3 O (by decide) O) O (AI O) (OkL.step (v:=(vN t.2.1)) (AB O) (AF (i:=0) (v:=(vN t.2.1)) O O BL.a O) O (AI O) (OkL.step (v:=(vN n)) (AB O) (AW (q:=some ⟨bo.b,0,none⟩) (v:=(vN n)) (off:=0) (i:=1) O O (λe=>by cases e) BL O) O (AI O) (OkL.call (v:=(Value.bool (decide (t.2.1<n)))) (AB O) (Ap (args:=[(vN t.2.1),(vN n)]) O O call148) (λw hw=>JZ t.2.1 n w) O (AI O) (OkL.step (v:=(Value.bool (!(decide (t.2.1<n))))) (AB O) (BU (c:=(!(decide (t.2.1<n)))) O O) O (AI O) (AH (v:=(Value.bool (!(decide (t.2.1<n))))) (AJ O O) O (OkL.nil (OkQ.mid (sS O (sS O (sS O (sS O (sS O (sS O (sS O (sS O (sS (by first|rfl|(rw [hg1];rfl)|rw [hg1]) (sS (by first|rfl|(rw [hg1];rfl)|rw [hg1]) (sN))))))))))) (List.Sublist.refl _))))))))
 refine AM O ?_
 refine OkL.mid (FM:=[(1,(pP bo.b 0)),(2,(pP b1 0)),(3,(Value.bool false)),(4,(pP b1 0)),(5,(vN t.1)),(6,(vN n)),(7,(Value.bool (decide (t.1<n)))),(8,(Value.bool (!(decide (t.1<n))))),(9,(Value.bool (!(decide (t.1<n))))),(15,(Value.bool ((!(decide (t.1<n)))||(!(decide (t.2.1<n)))))),(16,(Value.bool ((!(decide (t.1<n)))||(!(decide (t.2.1<n)))))),(22,(Value.bool (((!(decide (t.1<n)))||(!(decide (t.2.1<n))))||(!(decide (t.2.2<n))))))]) (LM:=[AU b1 105 (Ad t),AE (some ⟨bo.b,0,none⟩) ([(vN n)])]) 6 ?_ ?_
 ·rcases Bool.eq_false_or_eq_true ((!(decide (t.1<n)))||(!(decide (t.2.1<n)))) with hg2|hg2
  ·skip
   refine OkL.retell (k:=16) (u:=Value.bool true) O (by rw [hg2]) ?_
   have hg2':=hg2
   simp only [Bool.and_eq_true,Bool.or_eq_true,Bool.and_eq_false_iff,Bool.or_eq_false_iff,Bool.not_eq_true',Bool.not_eq_false',decide_eq_true_eq,decide_eq_false_iff_not] at hg2'
   exact OkL.skip (AC O) O (AI O) (OkL.skip (AC O) O (AI O) (OkL.skip (AC O) O (AI O) (OkL.skip (AC O) O (AI O) (OkL.skip (AC O) O (AI O) (AH (v:=(Value.bool true)) (AO O O) O (OkL.nil (OkQ.mid (sS O (sS O (sS O (sS O (sS O (sS O (sS O (sS O (sS O (sS O (sS (by first|rfl|(rw [hg2];rfl)|rw [hg2]) (sS (by first|rfl|(rw [hg2];rfl)|rw [hg2]) (sN))))))))))))) (List.Sublist.refl _))))))))
  ·skip
   refine OkL.retell (k:=16) (u:=Value.bool false) O (by rw [hg2]) ?_
   have hg2':=hg2
   simp only [Bool.and_eq_true,Bool.or_eq_true,Bool.and_eq_false_iff,Bool.or_eq_false_iff,Bool.not_eq_true',Bool.not_eq_false',decide_eq_true_eq,decide_eq_false_iff_not] at hg2'
   exact OkL.step (v:=(pP b1 2)) (AB O) (AG (j:=2) O O underlying105 sizeOf3 O (by decide) O) O (AI O) (OkL.step (v:=(vN t.2.2)) (AB O) (AF (i:=0) (v:=(vN t.2.2)) O O BL.a O) O (AI O) (OkL.step (v:=(vN n)) (AB O) (AW (q:=some ⟨bo.b,0,none⟩) (v:=(vN n)) (off:=0) (i:=1) O O (λe=>by cases e) BL O) O (AI O) (OkL.call (v:=(Value.bool (decide (t.2.2<n)))) (AB O) (Ap (args:=[(vN t.2.2),(vN n)]) O O call148) (λw hw=>JZ t.2.2 n w) O (AI O) (OkL.step (v:=(Value.bool (!(decide (t.2.2<n))))) (AB O) (BU (c:=(!(decide (t.2.2<n)))) O O) O (AI O) (AH (v:=(Value.bool (!(decide (t.2.2<n))))) (AJ O O) O (OkL.nil (OkQ.mid (sS O (sS O (sS O (sS O (sS O (sS O (sS O (sS O (sS O (sS O (sS (by first|rfl|(rw [hg2];rfl)|rw [hg2]) (sS (by first|rfl|(rw [hg2];rfl)|rw [hg2]) (sN))))))))))))) (List.Sublist.refl _))))))))
 refine AM O ?_
 refine OkL.mid (FM:=[(1,(pP bo.b 0)),(2,(pP b1 0)),(3,(Value.bool false)),(4,(pP b1 0)),(5,(vN t.1)),(6,(vN n)),(7,(Value.bool (decide (t.1<n)))),(8,(Value.bool (!(decide (t.1<n))))),(9,(Value.bool (!(decide (t.1<n))))),(15,(Value.bool ((!(decide (t.1<n)))||(!(decide (t.2.1<n)))))),(16,(Value.bool ((!(decide (t.1<n)))||(!(decide (t.2.1<n)))))),(22,(Value.bool (((!(decide (t.1<n)))||(!(decide (t.2.1<n))))||(!(decide (t.2.2<n)))))),(23,(Value.bool (((!(decide (t.1<n)))||(!(decide (t.2.1<n))))||(!(decide (t.2.2<n)))))),(29,(Value.bool ((((!(decide (t.1<n)))||(!(decide (t.2.1<n))))||(!(decide (t.2.2<n))))||(decide (t.1=t.2.1)))))]) (LM:=[AU b1 105 (Ad t),AE (some ⟨bo.b,0,none⟩) ([(vN n)])]) 6 ?_ ?_
 ·rcases Bool.eq_false_or_eq_true (((!(decide (t.1<n)))||(!(decide (t.2.1<n))))||(!(decide (t.2.2<n)))) with hg3|hg3
  ·skip
   refine OkL.retell (k:=23) (u:=Value.bool true) O (by rw [hg3]) ?_
   have hg3':=hg3
   simp only [Bool.and_eq_true,Bool.or_eq_true,Bool.and_eq_false_iff,Bool.or_eq_false_iff,Bool.not_eq_true',Bool.not_eq_false',decide_eq_true_eq,decide_eq_false_iff_not] at hg3'
   exact OkL.skip (AC O) O (AI O) (OkL.skip (AC O) O (AI O) (OkL.skip (AC O) O (AI O) (OkL.skip (AC O) O (AI O) (OkL.skip (AC O) O (AI O) (AH (v:=(Value.bool true)) (AO O O) O (OkL.nil (OkQ.mid (sS O (sS O (sS O (sS O (sS O (sS O (sS O (sS O (sS O (sS O (sS O (sS O (sS (by first|rfl|(rw [hg3];rfl)|rw [hg3]) (sS (by first|rfl|(rw [hg3];rfl)|rw [hg3]) (sN))))))))))))))) (List.Sublist.refl _))))))))
  ·skip
   refine OkL.retell (k:=23) (u:=Value.bool false) O (by rw [hg3]) ?_
   have hg3':=hg3
   simp only [Bool.and_eq_true,Bool.or_eq_true,Bool.and_eq_false_iff,Bool.or_eq_false_iff,Bool.not_eq_true',Bool.not_eq_false',decide_eq_true_eq,decide_eq_false_iff_not] at hg3'
   exact OkL.step (v:=(pP b1 0)) (AB O) (AG (j:=0) O O underlying105 sizeOf3 O (by decide) O) O (AI O) (OkL.step (v:=(vN t.1)) (AB O) (AF (i:=0) (v:=(vN t.1)) O O BL.a O) O (AI O) (OkL.step (v:=(pP b1 1)) (AB O) (AG (j:=1) O O underlying105 sizeOf3 O (by decide) O) O (AI O) (OkL.step (v:=(vN t.2.1)) (AB O) (AF (i:=0) (v:=(vN t.2.1)) O O BL.a O) O (AI O) (OkL.step (v:=(Value.bool (decide (t.1=t.2.1)))) (AB O) (BG (c:=(decide (t.1=t.2.1))) O O (K7 (a:=t.1) (b:=t.2.1))) O (AI O) (AH (v:=(Value.bool (decide (t.1=t.2.1)))) (AJ O O) O (OkL.nil (OkQ.mid (sS O (sS O (sS O (sS O (sS O (sS O (sS O (sS O (sS O (sS O (sS O (sS O (sS (by first|rfl|(rw [hg3];rfl)|rw [hg3]) (sS (by first|rfl|(rw [hg3];rfl)|rw [hg3]) (sN))))))))))))))) (List.Sublist.refl _))))))))
 refine AM O ?_
 refine OkL.mid (FM:=[(1,(pP bo.b 0)),(2,(pP b1 0)),(3,(Value.bool false)),(4,(pP b1 0)),(5,(vN t.1)),(6,(vN n)),(7,(Value.bool (decide (t.1<n)))),(8,(Value.bool (!(decide (t.1<n))))),(9,(Value.bool (!(decide (t.1<n))))),(15,(Value.bool ((!(decide (t.1<n)))||(!(decide (t.2.1<n)))))),(16,(Value.bool ((!(decide (t.1<n)))||(!(decide (t.2.1<n)))))),(22,(Value.bool (((!(decide (t.1<n)))||(!(decide (t.2.1<n))))||(!(decide (t.2.2<n)))))),(23,(Value.bool (((!(decide (t.1<n)))||(!(decide (t.2.1<n))))||(!(decide (t.2.2<n)))))),(29,(Value.bool ((((!(decide (t.1<n)))||(!(decide (t.2.1<n))))||(!(decide (t.2.2<n))))||(decide (t.1=t.2.1))))),(30,(Value.bool ((((!(decide (t.1<n)))||(!(decide (t.2.1<n))))||(!(decide (t.2.2<n))))||(decide (t.1=t.2.1))))),(36,(Value.bool (((((!(decide (t.1<n)))||(!(decide (t.2.1<n))))||(!(decide (t.2.2<n))))||(decide (t.1=t.2.1)))||(decide (t.2.1=t.2.2)))))]) (LM:=[AU b1 105 (Ad t),AE (some ⟨bo.b,0,none⟩) ([(vN n)])]) 6 ?_ ?_
 ·rcases Bool.eq_false_or_eq_true ((((!(decide (t.1<n)))||(!(decide (t.2.1<n))))||(!(decide (t.2.2<n))))||(decide (t.1=t.2.1))) with hg4|hg4
  ·skip
   refine OkL.retell (k:=30) (u:=Value.bool true) O (by rw [hg4]) ?_
   have hg4':=hg4
   simp only [Bool.and_eq_true,Bool.or_eq_true,Bool.and_eq_false_iff,Bool.or_eq_false_iff,Bool.not_eq_true',Bool.not_eq_false',decide_eq_true_eq,decide_eq_false_iff_not] at hg4'
   exact OkL.skip (AC O) O (AI O) (OkL.skip (AC O) O (AI O) (OkL.skip (AC O) O (AI O) (OkL.skip (AC O) O (AI O) (OkL.skip (AC O) O (AI O) (AH (v:=(Value.bool true)) (AO O O) O (OkL.nil (OkQ.mid (sS O (sS O (sS O (sS O (sS O (sS O (sS O (sS O (sS O (sS O (sS O (sS O (sS O (sS O (sS (by first|rfl|(rw [hg4];rfl)|rw [hg4]) (sS (by first|rfl|(rw [hg4];rfl)|rw [hg4]) (sN))))))))))))))))) (List.Sublist.refl _))))))))
  ·skip
   refine OkL.retell (k:=30) (u:=Value.bool false) O (by rw [hg4]) ?_
   have hg4':=hg4
   simp only [Bool.and_eq_true,Bool.or_eq_true,Bool.and_eq_false_iff,Bool.or_eq_false_iff,Bool.not_eq_true',Bool.not_eq_false',decide_eq_true_eq,decide_eq_false_iff_not] at hg4'
   exact OkL.step (v:=(pP b1 1)) (AB O) (AG (j:=1) O O underlying105 sizeOf3 O (by decide) O) O (AI O) (OkL.step (v:=(vN t.2.1)) (AB O) (AF (i:=0) (v:=(vN t.2.1)) O O BL.a O) O (AI O) (OkL.step (v:=(pP b1 2)) (AB O) (AG (j:=2) O O underlying105 sizeOf3 O (by decide) O) O (AI O) (OkL.step (v:=(vN t.2.2)) (AB O) (AF (i:=0) (v:=(vN t.2.2)) O O BL.a O) O (AI O) (OkL.step (v:=(Value.bool (decide (t.2.1=t.2.2)))) (AB O) (BG (c:=(decide (t.2.1=t.2.2))) O O (K7 (a:=t.2.1) (b:=t.2.2))) O (AI O) (AH (v:=(Value.bool (decide (t.2.1=t.2.2)))) (AJ O O) O (OkL.nil (OkQ.mid (sS O (sS O (sS O (sS O (sS O (sS O (sS O (sS O (sS O (sS O (sS O (sS O (sS O (sS O (sS (by first|rfl|(rw [hg4];rfl)|rw [hg4]) (sS (by first|rfl|(rw [hg4];rfl)|rw [hg4]) (sN))))))))))))))))) (List.Sublist.refl _))))))))
 refine AM O ?_
 refine OkL.mid (FM:=[(1,(pP bo.b 0)),(2,(pP b1 0)),(3,(Value.bool false)),(4,(pP b1 0)),(5,(vN t.1)),(6,(vN n)),(7,(Value.bool (decide (t.1<n)))),(8,(Value.bool (!(decide (t.1<n))))),(9,(Value.bool (!(decide (t.1<n))))),(15,(Value.bool ((!(decide (t.1<n)))||(!(decide (t.2.1<n)))))),(16,(Value.bool ((!(decide (t.1<n)))||(!(decide (t.2.1<n)))))),(22,(Value.bool (((!(decide (t.1<n)))||(!(decide (t.2.1<n))))||(!(decide (t.2.2<n)))))),(23,(Value.bool (((!(decide (t.1<n)))||(!(decide (t.2.1<n))))||(!(decide (t.2.2<n)))))),(29,(Value.bool ((((!(decide (t.1<n)))||(!(decide (t.2.1<n))))||(!(decide (t.2.2<n))))||(decide (t.1=t.2.1))))),(30,(Value.bool ((((!(decide (t.1<n)))||(!(decide (t.2.1<n))))||(!(decide (t.2.2<n))))||(decide (t.1=t.2.1))))),(36,(Value.bool (((((!(decide (t.1<n)))||(!(decide (t.2.1<n))))||(!(decide (t.2.2<n))))||(decide (t.1=t.2.1)))||(decide (t.2.1=t.2.2))))),(37,(Value.bool (((((!(decide (t.1<n)))||(!(decide (t.2.1<n))))||(!(decide (t.2.2<n))))||(decide (t.1=t.2.1)))||(decide (t.2.1=t.2.2))))),(43,(Value.bool ((((((!(decide (t.1<n)))||(!(decide (t.2.1<n))))||(!(decide (t.2.2<n))))||(decide (t.1=t.2.1)))||(decide (t.2.1=t.2.2)))||(decide (t.2.2=t.1)))))]) (LM:=[AU b1 105 (Ad t),AE (some ⟨bo.b,0,none⟩) ([(vN n)])]) 6 ?_ ?_
 ·rcases Bool.eq_false_or_eq_true (((((!(decide (t.1<n)))||(!(decide (t.2.1<n))))||(!(decide (t.2.2<n))))||(decide (t.1=t.2.1)))||(decide (t.2.1=t.2.2))) with hg5|hg5
  ·skip
   refine OkL.retell (k:=37) (u:=Value.bool true) O (by rw [hg5]) ?_
   have hg5':=hg5
   simp only [Bool.and_eq_true,Bool.or_eq_true,Bool.and_eq_false_iff,Bool.or_eq_false_iff,Bool.not_eq_true',Bool.not_eq_false',decide_eq_true_eq,decide_eq_false_iff_not] at hg5'
   exact OkL.skip (AC O) O (AI O) (OkL.skip (AC O) O (AI O) (OkL.skip (AC O) O (AI O) (OkL.skip (AC O) O (AI O) (OkL.skip (AC O) O (AI O) (AH (v:=(Value.bool true)) (AO O O) O (OkL.nil (OkQ.mid (sS O (sS O (sS O (sS O (sS O (sS O (sS O (sS O (sS O (sS O (sS O (sS O (sS O (sS O (sS O (sS O (sS (by first|rfl|(rw [hg5];rfl)|rw [hg5]) (sS (by first|rfl|(rw [hg5];rfl)|rw [hg5]) (sN))))))))))))))))))) (List.Sublist.refl _))))))))
  ·skip
   refine OkL.retell (k:=37) (u:=Value.bool false) O (by rw [hg5]) ?_
   have hg5':=hg5
   simp only [Bool.and_eq_true,Bool.or_eq_true,Bool.and_eq_false_iff,Bool.or_eq_false_iff,Bool.not_eq_true',Bool.not_eq_false',decide_eq_true_eq,decide_eq_false_iff_not] at hg5'
   exact OkL.step (v:=(pP b1 2)) (AB O) (AG (j:=2) O O underlying105 sizeOf3 O (by decide) O) O (AI O) (OkL.step (v:=(vN t.2.2)) (AB O) (AF (i:=0) (v:=(vN t.2.2)) O O BL.a O) O (AI O) (OkL.step (v:=(pP b1 0)) (AB O) (AG (j:=0) O O underlying105 sizeOf3 O (by decide) O) O (AI O) (OkL.step (v:=(vN t.1)) (AB O) (AF (i:=0) (v:=(vN t.1)) O O BL.a O) O (AI O) (OkL.step (v:=(Value.bool (decide (t.2.2=t.1)))) (AB O) (BG (c:=(decide (t.2.2=t.1))) O O (K7 (a:=t.2.2) (b:=t.1))) O (AI O) (AH (v:=(Value.bool (decide (t.2.2=t.1)))) (AJ O O) O (OkL.nil (OkQ.mid (sS O (sS O (sS O (sS O (sS O (sS O (sS O (sS O (sS O (sS O (sS O (sS O (sS O (sS O (sS O (sS O (sS (by first|rfl|(rw [hg5];rfl)|rw [hg5]) (sS (by first|rfl|(rw [hg5];rfl)|rw [hg5]) (sN))))))))))))))))))) (List.Sublist.refl _))))))))
 exact asg' O (OkL.nil (OkQ.subF (sL [3] O) (OkQ.then_ (OkC.ret (ret_one O (rd_tmp (v:=(Value.bool ((((((!(decide (t.1<n)))||(!(decide (t.2.1<n))))||(!(decide (t.2.2<n))))||(decide (t.1=t.2.1)))||(decide (t.2.1=t.2.2)))||(decide (t.2.2=t.1))))) O) (λw hw=>⟨by congr 2;rw [Bool.eq_iff_iff];simp [La]<;>omega,hw.out⟩))))))
theorem Xw (n:Nat) (bo:BX [vN n]) (ts:List (Tq3)) (x:RX (rowsL Ad ts) ts.length) (hl:ts.length<4611686018427387904) (w:World) {S:Nat->Prop} (hbo:Ro S w bo) (hx:Ro S w x):Calls prog 218 #[(Value.slice x.p ts.length x.c),(Value.func (.func 174) #[] #[(pP bo.b 0)])] w (Ah w (vI (idxB n ts 0))):=by
 have lbo:=CI (W:=w) hbo
 have lx:=CI (W:=w) hx
 refine AY (args:=[(Value.slice x.p ts.length x.c),(Value.func (.func 174) #[] #[(pP bo.b 0)])]) (L:=[AE (some ⟨bo.b,0,none⟩) ([(vN n)]),AE x.p (rowsL Ad ts)]) func218 O O (AI O) (D9 hbo (D9 hx Aj)) (OkC.subF (sL [0,1] O) (q4 (asg' O (OkL.nil (q1 (q4 (AM O (AH (v:=(vN ts.length)) (AD O underlying23) O (AM O (OkL.nil (OkQ.subF (sL [0,1,4,7,8] O) ?_)))))))))))
 refine OkQ.then_ (OkC.block ?_)
 refine OkC.lp1 (tg λ(j:Nat)=>j<=ts.length/\idxB n ts 0=idxB n (ts.drop j) j) (tg λ(j:Nat)=>[(0,(Value.slice x.p ts.length x.c)),(1,(Value.func (.func 174) #[] #[(pP bo.b 0)])),(7,(vN ts.length)),(8,(vN j))]) (tg λ(j:Nat)=>[AE (some ⟨bo.b,0,none⟩) ([(vN n)]),AE x.p (rowsL Ad ts)]) (tg λ(j:Nat)=>ts.length-j) 0 (⟨Nat.zero_le _,rfl⟩) (sF O) sr (λj hJ=>?_)
 obtain ⟨hj,he⟩:=hJ
 refine q4 (AH (Ae (c:=(decide (j<ts.length))) O O (CB (a:=j) (b:=ts.length))) O (OkL.nil (q1 ?_)))
 refine OkC.cond O (λhc0=>?_) (λhc0=>?_)
 ·replace hc0:=of_decide_eq_true hc0
  refine OkC.skip (q1 (OkC.block (q4 (AM O (asg' O (q3 (sL [0,1,7,8,5] O) (AM O (AM O (AM O (AH (v:=(pP (pB x.p) (pO x.p+j*3))) (AL (j:=j) O O x.ok underlying23 sizeOf105 O Z) O (AH (v:=(aG (Ad (ts.getD j ((0,0,0):Tq3))))) (AT (vs:=Ad (ts.getD j ((0,0,0):Tq3))) (i:=1) O O (Av.ne x.ok Z) ET (Am Az _ _ _ Z) (Az _)) O ?_)))))))))))
  refine OkL.call (v:=(Value.bool (!La n (ts.getD j ((0,0,0):Tq3))))) (AP O) (H1 (args:=[(aG (Ad (ts.getD j ((0,0,0):Tq3))))]) (caps:=[(pP bo.b 0)]) (all:=[(aG (Ad (ts.getD j ((0,0,0):Tq3)))),(pP bo.b 0)]) O O O call174) (λw hw=>Ug (ts.getD j ((0,0,0):Tq3)) n bo w (inS hw 0 O lbo)) O (AI O) (OkL.nil (OkQ.subF (sL [0,1,7,8,5,16] O) (OkQ.then_ ?_)))
  refine OkC.cond O (λhc1=>?_) (λhc1=>?_)
  ·simp only [Bool.and_eq_true,Bool.or_eq_true,Bool.and_eq_false_iff,Bool.or_eq_false_iff,Bool.not_eq_true',Bool.not_eq_false',decide_eq_true_eq,decide_eq_false_iff_not] at hc1
   have hfin:=he.trans (Sd Z (by simpa using hc1))
   exact q4 (AM O (asg' O (OkL.nil (OkQ.subF (sL [0,1,7,8,5,4] O) (OkQ.then_ (OkC.ret (OkQ.in_ret (OkQ.then_ret (OkQ.round1_ret (OkQ.in_ret (OkQ.then_ret (ret_one O (rd_tmp (v:=(vN j)) O) (λw hw=>⟨by rw [hfin],hw.out⟩)))))))))))))
  ·simp only [Bool.and_eq_true,Bool.or_eq_true,Bool.and_eq_false_iff,Bool.or_eq_false_iff,Bool.not_eq_true',Bool.not_eq_false',decide_eq_true_eq,decide_eq_false_iff_not] at hc1
   exact OkC.skip (OkQ.in_normal (OkQ.then_ (OkC.region (AH (AX (c:=((j+1:Nat):Int)) O O (AR (a:=j) (b:=1) Z)) O (AM O (OkL.nil (OkQ.subF (sL [0,1,7,8,5] O) (OkQ.round1 (j+1) (⟨Z,he.trans (R5 Z (by simpa using hc1))⟩) Z (sF O) sr))))))))
 ·replace hc0:=of_decide_eq_false hc0
  have hfin:=he.trans (UT hc0)
  exact OkC.exit (OkQ.then_exit (OkQ.round1_exit (OkQ.in_exit (q2 (asg' O (OkL.nil (OkQ.then_ (OkC.ret (ret_one O (rd_tmp (v:=(vI (-1:Int))) O) (λw hw=>⟨by rw [hfin],hw.out⟩))))))))))
theorem Wp (n:Nat) (bo:BX [vN n]) (ts:List (Tq3)) (x:RX (rowsL Ad ts) ts.length) (hl:ts.length<4611686018427387904) (w:World) {S:Nat->Prop} (hbo:Ro S w bo) (hx:Ro S w x):Calls prog 173 #[(Value.slice x.p ts.length x.c),(Value.func (.func 174) #[] #[(pP bo.b 0)])] w (Ah w (Value.bool (!Bn n ts))):=by
 have lbo:=CI (W:=w) hbo
 have lx:=CI (W:=w) hx
 refine AY (args:=[(Value.slice x.p ts.length x.c),(Value.func (.func 174) #[] #[(pP bo.b 0)])]) (L:=[AE (some ⟨bo.b,0,none⟩) ([(vN n)]),AE x.p (rowsL Ad ts)]) func173 O O (AI O) (D9 hbo (D9 hx Aj)) (OkC.subF (sL [0,1] O) (q4 (asg' O (OkL.nil (q2 (AM O (AM O (Ce call218 (λw hw=>Xw n bo ts x hl w (inS hw 0 O lbo) (inS hw 1 O lx)) O (AH (Bx (c:=(!Bn n ts)) O O (LR n ts 0)) O (asg' O (OkL.nil ?_)))))))))))
 exact OkQ.subF (sL [4] O) (OkQ.then_ (OkC.ret (ret_one O (rd_tmp (v:=(Value.bool (!Bn n ts))) O) (λw hw=>⟨rfl,hw.out⟩))))
theorem P5 (n:Nat) (ts:List (Tq3)) (x:RX (rowsL Ad ts) ts.length) (hl:ts.length<4611686018427387904) (w:World) {S:Nat->Prop} (hx:Ro S w x):Calls prog 110 #[(Value.slice x.p ts.length x.c),(vN n)] w (Ah w (Value.bool (Bn n ts))):=by
 have lx:=CI (W:=w) hx
 refine AY (args:=[(Value.slice x.p ts.length x.c),(vN n)]) (L:=[AE x.p (rowsL Ad ts)]) func110 O O (AI O) (D9 hx Aj) (OkC.subF (sL [0,1] O) (q4 (Be (cs:=[(vN n)]) O λb1=>OkL.frzX 0 O O λhnb1=>asg' O (q3 (sL [0,3,4] O) (AM O (AH (v:=(Value.func (.func 174) #[] #[(pP b1 0)])) (GC (vs:=[]) (us:=[(pP b1 0)]) O O) O (Ce call173 (λw hw=>Wp n ⟨b1⟩ ts x hl w (aa (x:=(⟨b1⟩:BX [vN n])) hw 0 O hnb1) (inS hw 1 O lx)) O (AH (BU (c:=(!(!Bn n ts))) O O) O (asg' O ?_)))))))))
 exact OkL.nil (OkQ.subF (sL [4] O) (OkQ.then_ (OkC.ret (ret_one O (rd_tmp (v:=(Value.bool (!(!Bn n ts)))) O) (λw hw=>⟨by simp,hw.out⟩)))))
theorem LQ {N:Nat} {ts ss:List (Tq3)} (x:RM N ts ss) (hl:ts.length<4611686018427387904) (w:World) {S:Nat->Prop} (hx:Ro S w x):Calls prog 43 #[(aG (FE x))] w (Ah w (Value.bool (Bn N ts))):=by
 have lx:=CI (W:=w) hx
 refine AY (args:=[(aG (FE x))]) (L:=[AE x.a.p (x.cs),AE x.b.p (rowsL Ad ts),AE x.c.p (x.ds)]) func43 O O (AI O) (D9 hx Aj) (OkC.subF (sL [0] O) (q4 (Be (cs:=FE x) O λb1=>asg' O (q3 (sL [1,2] O) (AH (v:=(pP b1 1)) (AA O underlying30 O sizeOf23 O) O (Au 0 (Value.slice x.b.p ts.length x.b.c) CU O (AH (v:=(pP b1 0)) (AA O underlying30 O sizeOf28 O) O (Au 0 (Value.slice x.a.p N x.a.c) DE O (AH (v:=(vN N)) (AD O underlying28) O (Ce call110 (λw hw=>P5 N ts x.b hl w (Yt (inS hw 1 O lx))) O ?_))))))))))
 exact asg' O (OkL.nil (OkQ.subF (sL [2] O) (OkQ.then_ (OkC.ret (ret_one O (rd_tmp (v:=(Value.bool (Bn N ts))) O) (λw hw=>⟨rfl,hw.out⟩))))))
theorem WA {ps:List Pt} {ts ss:List (Tq3)} (x:MX ps ts ss) (hl:ts.length<4611686018427387904) (w:World) {S:Nat->Prop} (hx:Ro S w x):Calls prog 43 #[(aG (FT x))] w (Ah w (Value.bool (Bn ps.length ts))):=LQ x.rm hl w (Ya hx)
end
section
set_option maxRecDepth 100000
theorem S0 (a:Nat) (w:World)  :Calls prog 216 #[(vN a)] w (Ah w (Value.bool false)):=by
 refine Ab (args:=[(vN a)]) func216 O O (AI O) (OkC.subF (sL [0] O) (q4 (asg' O (OkL.nil (q2 (AM O (AM O (AH (CD (c:=false) O O (by simp)) O (asg' O (OkL.nil (OkQ.subF (sL [2] O) ?_)))))))))))
 exact OkQ.then_ (OkC.ret (ret_one O (rd_tmp (v:=(Value.bool false)) O) (λw hw=>⟨rfl,hw.out⟩)))
theorem QV (a b:Nat) (w:World)  :Calls prog 170 #[(vN a),(vN b)] w (Ah w (vI (Dx a b))):=by
 refine Ab (args:=[(vN a),(vN b)]) func170 O O (AI O) (OkC.subF (sL [0,1] O) (q4 (asg' O (OkL.nil (q2 (AM O (ck' call216 (S0 a) O (asg' O (q3 (sL [0,1,4,5] O) (AM O (ck' call216 (S0 b) O ?_)))))))))))
 refine asg' O (q6 (sL [0,1,4,5,6] O) (q4 (AM O (OkL.nil (OkQ.subF (sL [0,1,4,6,11] O) (OkQ.then_ (OkC.cond_false O (OkC.skip (q1 (q4 (AM O ?_)))))))))))
 refine OkL.nil (OkQ.subF (sL [0,1,4,6,13] O) (OkQ.then_ (OkC.cond_false O (OkC.skip (q1 (q4 (AM O (AM O (AH (Ae (c:=(decide (a<b))) O O (CB (a:=a) (b:=b))) O (OkL.nil (OkQ.subF (sL [0,1,4,6,16] O) ?_)))))))))))
 refine OkQ.then_ ?_
 refine OkC.cond O (λhc3=>?_) (λhc3=>?_)
 ·replace hc3:=of_decide_eq_true hc3
  have hr:=Pp hc3
  exact q4 (asg' O (OkL.nil (OkQ.then_ (OkC.ret (OkQ.then_ret (ret_one O (rd_tmp (v:=(vI (-1:Int))) O) (λw hw=>⟨by rw [hr]<;>rfl,hw.out⟩)))))))
 ·replace hc3:=of_decide_eq_false hc3
  refine OkC.skip (q1 (q4 (AM O (AM O (AH (Bs (c:=(decide (b<a))) O O (CB (a:=b) (b:=a))) O (OkL.nil (OkQ.subF (sL [0,1,4,6,19] O) (OkQ.then_ ?_))))))))
  refine OkC.cond O (λhc4=>?_) (λhc4=>?_)
  ·replace hc4:=of_decide_eq_true hc4
   have hr:=Qa hc3 hc4
   exact q4 (asg' O (OkL.nil (OkQ.then_ (OkC.ret (OkQ.then_ret (ret_one O (rd_tmp (v:=(vI 1)) O) (λw hw=>⟨by rw [hr]<;>rfl,hw.out⟩)))))))
  ·replace hc4:=of_decide_eq_false hc4
   have hr:=P1 hc3 hc4
   exact OkC.skip (q2 (asg' O (OkL.nil (OkQ.then_ (OkC.ret (ret_one O (rd_tmp (v:=(vI 0)) O) (λw hw=>⟨by rw [hr]<;>rfl,hw.out⟩)))))))
theorem SQ (a b:Int) (g:Nat) (w:World) (hg:w.heap[g]?=some (.cells ([(vI a),(vI b)]).toArray 3 (0,0))):Calls prog 169 #[(Value.slice (some ⟨g,0,none⟩) 2 2)] w (λe w'=>e=.returned (Value.int .i64 (UO a b))/\Kc w w' (some g)/\w'.heap[g]?=some (.cells ([(vI a),(vI b)]).toArray 3 (0,0))):=by
 refine IQ (args:=[(Value.slice (some ⟨g,0,none⟩) 2 2)]) (g:=g) (T:=3) (cs:=[(vI a),(vI b)]) func169 O O (AI O) hg (OkC.subF (sL [0] O) (q4 (asg' O (OkL.nil (q2 (asg' O (OkL.nil (q1 (q4 (AM O (AH (v:=(vI 2)) (AD O underlying32) O ?_)))))))))))
 refine AM O (OkL.nil (OkQ.subF (sL [2,3,6,7,8] O) (OkQ.then_ (OkC.block (OkC.unroll 4 (PU.step (q4 (AH (Ae (c:=true) O O (by decide)) O (OkL.nil (q1 (OkC.cond_true O ?_)))))))))))
 refine OkC.skip (q1 (OkC.block (q4 (AH (v:=(pP g 0)) (AK (j:=0) O O underlying32 sizeOf3 O Z O) O (Au 0 (vI a) BL O (asg' O (q3 (sL [2,3,6,7,8,5] O) (AM O (AM O (AH (CD (c:=(decide (a≠(0:Int)))) O O O) O (OkL.nil ?_)))))))))))
 refine OkQ.subF (sL [2,3,6,7,8,5,14] O) (OkQ.then_ ?_)
 refine OkC.cond O (λhc1=>?_) (λhc1=>?_)
 ·replace hc1:=of_decide_eq_true hc1
  have hr:UO a b=a:=if_pos hc1
  exact q4 (AM O (asg' O (OkL.nil (OkQ.subF (sL [2,3,6,7,8,5] O) (OkQ.then_ (OkC.ret (OkQ.in_ret (OkQ.then_ret (OkQ.then_ret (OkQ.in_ret (OkQ.then_ret (ret_one O (rd_tmp (v:=(vI a)) O) (λw hw=>⟨by rw [hr]<;>rfl,hw.1,hw.get (i:=0) O⟩)))))))))))))
 ·replace hc1:=of_decide_eq_false hc1
  have hq:=hc1
  refine OkC.skip (OkQ.in_normal (OkQ.then_ (OkC.region (AH (AX (c:=(1:Int)) O O (by decide)) O (AM O (OkL.nil (OkQ.subF (sL [2,3,6,7,8,5] O) (OkQ.again (PU.step (q4 (AH (Ae (c:=true) O O (by decide)) O ?_)))))))))))
  refine OkL.nil (q1 (OkC.cond_true O (OkC.skip (q1 (OkC.block (q4 (AH (v:=(pP g 1)) (AK (j:=1) O O underlying32 sizeOf3 O Z O) O (Au 0 (vI b) BL O (asg' O (q3 (sL [2,3,6,7,8,5] O) (AM O ?_)))))))))))
  refine AM O (AH (CD (c:=(decide (b≠(0:Int)))) O O O) O (OkL.nil (OkQ.subF (sL [2,3,6,7,8,5,14] O) (OkQ.then_ ?_))))
  refine OkC.cond O (λhc1=>?_) (λhc1=>?_)
  ·replace hc1:=of_decide_eq_true hc1
   have hr:UO a b=b:=by rw [UO,if_neg hq,if_pos hc1]
   exact q4 (AM O (asg' O (OkL.nil (OkQ.subF (sL [2,3,6,7,8,5] O) (OkQ.then_ (OkC.ret (OkQ.in_ret (OkQ.then_ret (OkQ.then_ret (OkQ.in_ret (OkQ.then_ret (ret_one O (rd_tmp (v:=(vI b)) O) (λw hw=>⟨by rw [hr]<;>rfl,hw.1,hw.get (i:=0) O⟩)))))))))))))
  ·replace hc1:=of_decide_eq_false hc1
   have hr:UO a b=0:=by rw [UO,if_neg hq,if_neg hc1]
   refine OkC.skip (OkQ.in_normal (OkQ.then_ (OkC.region (AH (AX (c:=(2:Int)) O O (by decide)) O (AM O (OkL.nil (OkQ.subF (sL [2,3,6,7,8,5] O) (OkQ.again (PU.step (q4 (AH (Ae (c:=false) O O (by decide)) O ?_)))))))))))
   refine OkL.nil (q1 (OkC.cond_false O (OkC.exit (OkQ.then_exit (OkQ.then_exit (OkQ.in_exit (q2 (AM O (asg' O (OkL.nil (OkQ.subF (sL [2,3,6,7,8,5] O) ?_)))))))))))
   exact OkQ.then_ (OkC.ret (ret_one O (rd_tmp (v:=(vI 0)) O) (λw hw=>⟨by rw [hr]<;>rfl,hw.1,hw.get (i:=0) O⟩)))
end
end Go.Proofs.YtpolhpjiahbidaaGreatDoor
