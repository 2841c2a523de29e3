import Derived.Test.YtpgncndhhhllfaaGreatDoorPart03
import Derived.Test.YtpgncndhhhllfaaGreatDoorPart22
import Derived.Test.YtpgncndhhhllfaaGreatDoorPart23
namespace Go.Proofs.YtpgncndhhhllfaaGreatDoor
open Go Go.RowKit Go.Proofs.Tryz
set_option linter.unusedVariables false
set_option linter.unusedSimpArgs false
section
set_option maxRecDepth 100000
theorem CD (p n:Nat) (w:World)  :Calls prog 85 #[(vN p),(vN n)] w (An w (Value.bool (decide (p<n)))):=by
 refine Af (args:=[(vN p),(vN n)]) func85 O O (AT O) (AF.subF (sL [0,1] O) (q4 (asg' O (AE.nil (q2 ?_)))))
 refine AM O (AH (CU (c:=(decide (0<=p))) O O (WG (a:=0) (b:=p))) O (AM O ?_))
 refine AE.mid (FM:=[(0,(vN p)),(1,(vN n)),(4,(Value.bool false)),(5,(vN p)),(6,(Value.bool (decide (0<=p)))),(7,(Value.bool (decide (0<=p)))),(11,(Value.bool ((decide (0<=p))&&(decide (p<n)))))]) (LM:=[]) 4 ?_ ?_
 ·rcases Bool.eq_false_or_eq_true (decide (0<=p)) with hg1|hg1
  ·skip
   refine AE.retell (k:=7) (u:=Value.bool true) O (by rw [hg1]) ?_
   have hg1':=hg1
   replace hg1':=of_decide_eq_true hg1'
   exact AE.step (v:=(vN p)) (AB O) (Al O) O (AT O) (AE.step (v:=(vN n)) (AB O) (Al O) O (AT O) (AE.step (v:=(Value.bool (decide (p<n)))) (AB O) (Ae (c:=(decide (p<n))) O O (CL (a:=p) (b:=n))) O (AT O) (AH (v:=(Value.bool (decide (p<n)))) (Ac O O) O (AE.nil (AC.mid (sS O (sS O (sS O (sS O (sS O (sS (by first|rfl|(rw [hg1];rfl)|rw [hg1]) (sS (by first|rfl|(rw [hg1];rfl)|rw [hg1]) (sN)))))))) (List.Sublist.refl _))))))
  ·skip
   refine AE.retell (k:=7) (u:=Value.bool false) O (by rw [hg1]) ?_
   have hg1':=hg1
   replace hg1':=of_decide_eq_false hg1'
   exact AE.skip (AJ O) O (AT O) (AE.skip (AJ O) O (AT O) (AE.skip (AJ O) O (AT O) (AH (v:=(Value.bool false)) (AP O O) O (AE.nil (AC.mid (sS O (sS O (sS O (sS O (sS O (sS (by first|rfl|(rw [hg1];rfl)|rw [hg1]) (sS (by first|rfl|(rw [hg1];rfl)|rw [hg1]) (sN)))))))) (List.Sublist.refl _))))))
 exact asg' O (AE.nil (AC.subF (sL [4] O) (AC.then_ (AF.ret (AI O (AY (v:=(Value.bool ((decide (0<=p))&&(decide (p<n))))) O) (λw hw=>⟨by simp,hw.out⟩))))))
theorem VY (t:Nat×Nat×Nat) (n:Nat) (bo:BX [vN n]) (w:World) {S:Nat->Prop} (hbo:Ro S w bo):Calls prog 189 #[(aG (Ai t)),(pP bo.b 0)] w (An w (Value.bool (!Oc n t))):=by
 have lbo:=Cl (W:=w) hbo
 refine Ah (args:=[(aG (Ai t)),(pP bo.b 0)]) (L:=[AQ (some ⟨bo.b,0,none⟩) ([(vN n)])]) func189 O O (AT O) (Ed hbo Ax) (AF.subF (sL [0,1] O) (q4 (BU (cs:=Ai t) O λb1=>asg' O (q3 (sL [1,2,3] O) ?_))))
 refine AH (v:=(pP b1 0)) (AD (j:=0) O O underlying53 sizeOf3 O (by decide) O) O (BA 0 (vN t.1) Bj O (AH (Ad (q:=some ⟨bo.b,0,none⟩) (v:=(vN n)) (off:=0) (i:=1) O O (λe=>by cases e) Bj O) O (ck' call85 (CD t.1 n) O (AH (BQ (c:=(!(decide (t.1<n)))) O O) O (AM O ?_)))))
 refine AE.mid (FM:=[(1,(pP bo.b 0)),(2,(pP b1 0)),(3,(Value.bool false)),(4,(pP b1 0)),(5,(vN t.1)),(6,(vN n)),(7,(Value.bool (decide (t.1<n)))),(8,(Value.bool (!(decide (t.1<n))))),(9,(Value.bool (!(decide (t.1<n))))),(15,(Value.bool ((!(decide (t.1<n)))||(!(decide (t.2.1<n))))))]) (LM:=[Ag b1 53 (Ai t),AQ (some ⟨bo.b,0,none⟩) ([(vN n)])]) 6 ?_ ?_
 ·rcases Bool.eq_false_or_eq_true (!(decide (t.1<n))) with hg1|hg1
  ·skip
   refine AE.retell (k:=9) (u:=Value.bool true) O (by rw [hg1]) ?_
   have hg1':=hg1
   simp only [Bool.and_eq_true,Bool.or_eq_true,Bool.and_eq_false_iff,Bool.or_eq_false_iff,Bool.not_eq_true',Bool.not_eq_false',decide_eq_true_eq,decide_eq_false_iff_not] at hg1'
   refine AE.skip (AJ O) O (AT O) (AE.skip (AJ O) O (AT O) (AE.skip (AJ O) O (AT O) (AE.skip (AJ O) O (AT O) (AE.skip (AJ O) O (AT O) (AH (v:=(Value.bool true)) (Ac O O) O ?_)))))
   exact AE.nil (AC.mid (sS O (sS O (sS O (sS O (sS O (sS O (sS O (sS O (sS (by first|rfl|(rw [hg1];rfl)|rw [hg1]) (sS (by first|rfl|(rw [hg1];rfl)|rw [hg1]) (sN))))))))))) (List.Sublist.refl _))
  ·skip
   refine AE.retell (k:=9) (u:=Value.bool false) O (by rw [hg1]) ?_
   have hg1':=hg1
   simp only [Bool.and_eq_true,Bool.or_eq_true,Bool.and_eq_false_iff,Bool.or_eq_false_iff,Bool.not_eq_true',Bool.not_eq_false',decide_eq_true_eq,decide_eq_false_iff_not] at hg1'
   refine AE.step (v:=(pP b1 1)) (AB O) (AD (j:=1) O O underlying53 sizeOf3 O (by decide) O) O (AT O) (AE.step (v:=(vN t.2.1)) (AB O) (AK (i:=0) (v:=(vN t.2.1)) O O Bj.a O) O (AT O) (AE.step (v:=(vN n)) (AB O) (Ad (q:=some ⟨bo.b,0,none⟩) (v:=(vN n)) (off:=0) (i:=1) O O (λe=>by cases e) Bj O) O (AT O) (AE.call (v:=(Value.bool (decide (t.2.1<n)))) (AB O) (Ao (args:=[(vN t.2.1),(vN n)]) O O call85) (λw hw=>CD t.2.1 n w) O (AT O) (AE.step (v:=(Value.bool (!(decide (t.2.1<n))))) (AB O) (BQ (c:=(!(decide (t.2.1<n)))) O O) O (AT O) (AH (v:=(Value.bool (!(decide (t.2.1<n))))) (AP O O) O ?_)))))
   exact AE.nil (AC.mid (sS O (sS O (sS O (sS O (sS O (sS O (sS O (sS O (sS (by first|rfl|(rw [hg1];rfl)|rw [hg1]) (sS (by first|rfl|(rw [hg1];rfl)|rw [hg1]) (sN))))))))))) (List.Sublist.refl _))
 refine AM O ?_
 refine AE.mid (FM:=[(1,(pP bo.b 0)),(2,(pP b1 0)),(3,(Value.bool false)),(4,(pP b1 0)),(5,(vN t.1)),(6,(vN n)),(7,(Value.bool (decide (t.1<n)))),(8,(Value.bool (!(decide (t.1<n))))),(9,(Value.bool (!(decide (t.1<n))))),(15,(Value.bool ((!(decide (t.1<n)))||(!(decide (t.2.1<n)))))),(16,(Value.bool ((!(decide (t.1<n)))||(!(decide (t.2.1<n)))))),(22,(Value.bool (((!(decide (t.1<n)))||(!(decide (t.2.1<n))))||(!(decide (t.2.2<n))))))]) (LM:=[Ag b1 53 (Ai t),AQ (some ⟨bo.b,0,none⟩) ([(vN n)])]) 6 ?_ ?_
 ·rcases Bool.eq_false_or_eq_true ((!(decide (t.1<n)))||(!(decide (t.2.1<n)))) with hg2|hg2
  ·skip
   refine AE.retell (k:=16) (u:=Value.bool true) O (by rw [hg2]) ?_
   have hg2':=hg2
   simp only [Bool.and_eq_true,Bool.or_eq_true,Bool.and_eq_false_iff,Bool.or_eq_false_iff,Bool.not_eq_true',Bool.not_eq_false',decide_eq_true_eq,decide_eq_false_iff_not] at hg2'
   refine AE.skip (AJ O) O (AT O) (AE.skip (AJ O) O (AT O) (AE.skip (AJ O) O (AT O) (AE.skip (AJ O) O (AT O) (AE.skip (AJ O) O (AT O) (AH (v:=(Value.bool true)) (Ac O O) O ?_)))))
   exact AE.nil (AC.mid (sS O (sS O (sS O (sS O (sS O (sS O (sS O (sS O (sS O (sS O (sS (by first|rfl|(rw [hg2];rfl)|rw [hg2]) (sS (by first|rfl|(rw [hg2];rfl)|rw [hg2]) (sN))))))))))))) (List.Sublist.refl _))
  ·skip
   refine AE.retell (k:=16) (u:=Value.bool false) O (by rw [hg2]) ?_
   have hg2':=hg2
   simp only [Bool.and_eq_true,Bool.or_eq_true,Bool.and_eq_false_iff,Bool.or_eq_false_iff,Bool.not_eq_true',Bool.not_eq_false',decide_eq_true_eq,decide_eq_false_iff_not] at hg2'
   refine AE.step (v:=(pP b1 2)) (AB O) (AD (j:=2) O O underlying53 sizeOf3 O (by decide) O) O (AT O) (AE.step (v:=(vN t.2.2)) (AB O) (AK (i:=0) (v:=(vN t.2.2)) O O Bj.a O) O (AT O) (AE.step (v:=(vN n)) (AB O) (Ad (q:=some ⟨bo.b,0,none⟩) (v:=(vN n)) (off:=0) (i:=1) O O (λe=>by cases e) Bj O) O (AT O) (AE.call (v:=(Value.bool (decide (t.2.2<n)))) (AB O) (Ao (args:=[(vN t.2.2),(vN n)]) O O call85) (λw hw=>CD t.2.2 n w) O (AT O) (AE.step (v:=(Value.bool (!(decide (t.2.2<n))))) (AB O) (BQ (c:=(!(decide (t.2.2<n)))) O O) O (AT O) (AH (v:=(Value.bool (!(decide (t.2.2<n))))) (AP O O) O ?_)))))
   exact AE.nil (AC.mid (sS O (sS O (sS O (sS O (sS O (sS O (sS O (sS O (sS O (sS O (sS (by first|rfl|(rw [hg2];rfl)|rw [hg2]) (sS (by first|rfl|(rw [hg2];rfl)|rw [hg2]) (sN))))))))))))) (List.Sublist.refl _))
 refine AM O ?_
 refine AE.mid (FM:=[(1,(pP bo.b 0)),(2,(pP b1 0)),(3,(Value.bool false)),(4,(pP b1 0)),(5,(vN t.1)),(6,(vN n)),(7,(Value.bool (decide (t.1<n)))),(8,(Value.bool (!(decide (t.1<n))))),(9,(Value.bool (!(decide (t.1<n))))),(15,(Value.bool ((!(decide (t.1<n)))||(!(decide (t.2.1<n)))))),(16,(Value.bool ((!(decide (t.1<n)))||(!(decide (t.2.1<n)))))),(22,(Value.bool (((!(decide (t.1<n)))||(!(decide (t.2.1<n))))||(!(decide (t.2.2<n)))))),(23,(Value.bool (((!(decide (t.1<n)))||(!(decide (t.2.1<n))))||(!(decide (t.2.2<n)))))),(29,(Value.bool ((((!(decide (t.1<n)))||(!(decide (t.2.1<n))))||(!(decide (t.2.2<n))))||(decide (t.1=t.2.1)))))]) (LM:=[Ag b1 53 (Ai t),AQ (some ⟨bo.b,0,none⟩) ([(vN n)])]) 6 ?_ ?_
 ·rcases Bool.eq_false_or_eq_true (((!(decide (t.1<n)))||(!(decide (t.2.1<n))))||(!(decide (t.2.2<n)))) with hg3|hg3
  ·skip
   refine AE.retell (k:=23) (u:=Value.bool true) O (by rw [hg3]) ?_
   have hg3':=hg3
   simp only [Bool.and_eq_true,Bool.or_eq_true,Bool.and_eq_false_iff,Bool.or_eq_false_iff,Bool.not_eq_true',Bool.not_eq_false',decide_eq_true_eq,decide_eq_false_iff_not] at hg3'
   refine AE.skip (AJ O) O (AT O) (AE.skip (AJ O) O (AT O) (AE.skip (AJ O) O (AT O) (AE.skip (AJ O) O (AT O) (AE.skip (AJ O) O (AT O) (AH (v:=(Value.bool true)) (Ac O O) O ?_)))))
   exact AE.nil (AC.mid (sS O (sS O (sS O (sS O (sS O (sS O (sS O (sS O (sS O (sS O (sS O (sS O (sS (by first|rfl|(rw [hg3];rfl)|rw [hg3]) (sS (by first|rfl|(rw [hg3];rfl)|rw [hg3]) (sN))))))))))))))) (List.Sublist.refl _))
  ·skip
   refine AE.retell (k:=23) (u:=Value.bool false) O (by rw [hg3]) ?_
   have hg3':=hg3
   simp only [Bool.and_eq_true,Bool.or_eq_true,Bool.and_eq_false_iff,Bool.or_eq_false_iff,Bool.not_eq_true',Bool.not_eq_false',decide_eq_true_eq,decide_eq_false_iff_not] at hg3'
   refine AE.step (v:=(pP b1 0)) (AB O) (AD (j:=0) O O underlying53 sizeOf3 O (by decide) O) O (AT O) (AE.step (v:=(vN t.1)) (AB O) (AK (i:=0) (v:=(vN t.1)) O O Bj.a O) O (AT O) (AE.step (v:=(pP b1 1)) (AB O) (AD (j:=1) O O underlying53 sizeOf3 O (by decide) O) O (AT O) (AE.step (v:=(vN t.2.1)) (AB O) (AK (i:=0) (v:=(vN t.2.1)) O O Bj.a O) O (AT O) (AE.step (v:=(Value.bool (decide (t.1=t.2.1)))) (AB O) (BL (c:=(decide (t.1=t.2.1))) O O (Iv (a:=t.1) (b:=t.2.1))) O (AT O) (AH (v:=(Value.bool (decide (t.1=t.2.1)))) (AP O O) O ?_)))))
   exact AE.nil (AC.mid (sS O (sS O (sS O (sS O (sS O (sS O (sS O (sS O (sS O (sS O (sS O (sS O (sS (by first|rfl|(rw [hg3];rfl)|rw [hg3]) (sS (by first|rfl|(rw [hg3];rfl)|rw [hg3]) (sN))))))))))))))) (List.Sublist.refl _))
 refine AM O ?_
 refine AE.mid (FM:=[(1,(pP bo.b 0)),(2,(pP b1 0)),(3,(Value.bool false)),(4,(pP b1 0)),(5,(vN t.1)),(6,(vN n)),(7,(Value.bool (decide (t.1<n)))),(8,(Value.bool (!(decide (t.1<n))))),(9,(Value.bool (!(decide (t.1<n))))),(15,(Value.bool ((!(decide (t.1<n)))||(!(decide (t.2.1<n)))))),(16,(Value.bool ((!(decide (t.1<n)))||(!(decide (t.2.1<n)))))),(22,(Value.bool (((!(decide (t.1<n)))||(!(decide (t.2.1<n))))||(!(decide (t.2.2<n)))))),(23,(Value.bool (((!(decide (t.1<n)))||(!(decide (t.2.1<n))))||(!(decide (t.2.2<n)))))),(29,(Value.bool ((((!(decide (t.1<n)))||(!(decide (t.2.1<n))))||(!(decide (t.2.2<n))))||(decide (t.1=t.2.1))))),(30,(Value.bool ((((!(decide (t.1<n)))||(!(decide (t.2.1<n))))||(!(decide (t.2.2<n))))||(decide (t.1=t.2.1))))),(36,(Value.bool (((((!(decide (t.1<n)))||(!(decide (t.2.1<n))))||(!(decide (t.2.2<n))))||(decide (t.1=t.2.1)))||(decide (t.2.1=t.2.2)))))]) (LM:=[Ag b1 53 (Ai t),AQ (some ⟨bo.b,0,none⟩) ([(vN n)])]) 6 ?_ ?_
 ·rcases Bool.eq_false_or_eq_true ((((!(decide (t.1<n)))||(!(decide (t.2.1<n))))||(!(decide (t.2.2<n))))||(decide (t.1=t.2.1))) with hg4|hg4
  ·skip
   refine AE.retell (k:=30) (u:=Value.bool true) O (by rw [hg4]) ?_
   have hg4':=hg4
   simp only [Bool.and_eq_true,Bool.or_eq_true,Bool.and_eq_false_iff,Bool.or_eq_false_iff,Bool.not_eq_true',Bool.not_eq_false',decide_eq_true_eq,decide_eq_false_iff_not] at hg4'
   refine AE.skip (AJ O) O (AT O) (AE.skip (AJ O) O (AT O) (AE.skip (AJ O) O (AT O) (AE.skip (AJ O) O (AT O) (AE.skip (AJ O) O (AT O) (AH (v:=(Value.bool true)) (Ac O O) O ?_)))))
   exact AE.nil (AC.mid (sS O (sS O (sS O (sS O (sS O (sS O (sS O (sS O (sS O (sS O (sS O (sS O (sS O (sS O (sS (by first|rfl|(rw [hg4];rfl)|rw [hg4]) (sS (by first|rfl|(rw [hg4];rfl)|rw [hg4]) (sN))))))))))))))))) (List.Sublist.refl _))
  ·skip
   refine AE.retell (k:=30) (u:=Value.bool false) O (by rw [hg4]) ?_
   have hg4':=hg4
   simp only [Bool.and_eq_true,Bool.or_eq_true,Bool.and_eq_false_iff,Bool.or_eq_false_iff,Bool.not_eq_true',Bool.not_eq_false',decide_eq_true_eq,decide_eq_false_iff_not] at hg4'
   refine AE.step (v:=(pP b1 1)) (AB O) (AD (j:=1) O O underlying53 sizeOf3 O (by decide) O) O (AT O) (AE.step (v:=(vN t.2.1)) (AB O) (AK (i:=0) (v:=(vN t.2.1)) O O Bj.a O) O (AT O) (AE.step (v:=(pP b1 2)) (AB O) (AD (j:=2) O O underlying53 sizeOf3 O (by decide) O) O (AT O) (AE.step (v:=(vN t.2.2)) (AB O) (AK (i:=0) (v:=(vN t.2.2)) O O Bj.a O) O (AT O) (AE.step (v:=(Value.bool (decide (t.2.1=t.2.2)))) (AB O) (BL (c:=(decide (t.2.1=t.2.2))) O O (Iv (a:=t.2.1) (b:=t.2.2))) O (AT O) (AH (v:=(Value.bool (decide (t.2.1=t.2.2)))) (AP O O) O ?_)))))
   exact AE.nil (AC.mid (sS O (sS O (sS O (sS O (sS O (sS O (sS O (sS O (sS O (sS O (sS O (sS O (sS O (sS O (sS (by first|rfl|(rw [hg4];rfl)|rw [hg4]) (sS (by first|rfl|(rw [hg4];rfl)|rw [hg4]) (sN))))))))))))))))) (List.Sublist.refl _))
 refine AM O ?_
 refine AE.mid (FM:=[(1,(pP bo.b 0)),(2,(pP b1 0)),(3,(Value.bool false)),(4,(pP b1 0)),(5,(vN t.1)),(6,(vN n)),(7,(Value.bool (decide (t.1<n)))),(8,(Value.bool (!(decide (t.1<n))))),(9,(Value.bool (!(decide (t.1<n))))),(15,(Value.bool ((!(decide (t.1<n)))||(!(decide (t.2.1<n)))))),(16,(Value.bool ((!(decide (t.1<n)))||(!(decide (t.2.1<n)))))),(22,(Value.bool (((!(decide (t.1<n)))||(!(decide (t.2.1<n))))||(!(decide (t.2.2<n)))))),(23,(Value.bool (((!(decide (t.1<n)))||(!(decide (t.2.1<n))))||(!(decide (t.2.2<n)))))),(29,(Value.bool ((((!(decide (t.1<n)))||(!(decide (t.2.1<n))))||(!(decide (t.2.2<n))))||(decide (t.1=t.2.1))))),(30,(Value.bool ((((!(decide (t.1<n)))||(!(decide (t.2.1<n))))||(!(decide (t.2.2<n))))||(decide (t.1=t.2.1))))),(36,(Value.bool (((((!(decide (t.1<n)))||(!(decide (t.2.1<n))))||(!(decide (t.2.2<n))))||(decide (t.1=t.2.1)))||(decide (t.2.1=t.2.2))))),(37,(Value.bool (((((!(decide (t.1<n)))||(!(decide (t.2.1<n))))||(!(decide (t.2.2<n))))||(decide (t.1=t.2.1)))||(decide (t.2.1=t.2.2))))),(43,(Value.bool ((((((!(decide (t.1<n)))||(!(decide (t.2.1<n))))||(!(decide (t.2.2<n))))||(decide (t.1=t.2.1)))||(decide (t.2.1=t.2.2)))||(decide (t.2.2=t.1)))))]) (LM:=[Ag b1 53 (Ai t),AQ (some ⟨bo.b,0,none⟩) ([(vN n)])]) 6 ?_ ?_
 ·rcases Bool.eq_false_or_eq_true (((((!(decide (t.1<n)))||(!(decide (t.2.1<n))))||(!(decide (t.2.2<n))))||(decide (t.1=t.2.1)))||(decide (t.2.1=t.2.2))) with hg5|hg5
  ·skip
   refine AE.retell (k:=37) (u:=Value.bool true) O (by rw [hg5]) ?_
   have hg5':=hg5
   simp only [Bool.and_eq_true,Bool.or_eq_true,Bool.and_eq_false_iff,Bool.or_eq_false_iff,Bool.not_eq_true',Bool.not_eq_false',decide_eq_true_eq,decide_eq_false_iff_not] at hg5'
   refine AE.skip (AJ O) O (AT O) (AE.skip (AJ O) O (AT O) (AE.skip (AJ O) O (AT O) (AE.skip (AJ O) O (AT O) (AE.skip (AJ O) O (AT O) (AH (v:=(Value.bool true)) (Ac O O) O ?_)))))
   exact AE.nil (AC.mid (sS O (sS O (sS O (sS O (sS O (sS O (sS O (sS O (sS O (sS O (sS O (sS O (sS O (sS O (sS O (sS O (sS (by first|rfl|(rw [hg5];rfl)|rw [hg5]) (sS (by first|rfl|(rw [hg5];rfl)|rw [hg5]) (sN))))))))))))))))))) (List.Sublist.refl _))
  ·skip
   refine AE.retell (k:=37) (u:=Value.bool false) O (by rw [hg5]) ?_
   have hg5':=hg5
   simp only [Bool.and_eq_true,Bool.or_eq_true,Bool.and_eq_false_iff,Bool.or_eq_false_iff,Bool.not_eq_true',Bool.not_eq_false',decide_eq_true_eq,decide_eq_false_iff_not] at hg5'
   refine AE.step (v:=(pP b1 2)) (AB O) (AD (j:=2) O O underlying53 sizeOf3 O (by decide) O) O (AT O) (AE.step (v:=(vN t.2.2)) (AB O) (AK (i:=0) (v:=(vN t.2.2)) O O Bj.a O) O (AT O) (AE.step (v:=(pP b1 0)) (AB O) (AD (j:=0) O O underlying53 sizeOf3 O (by decide) O) O (AT O) (AE.step (v:=(vN t.1)) (AB O) (AK (i:=0) (v:=(vN t.1)) O O Bj.a O) O (AT O) (AE.step (v:=(Value.bool (decide (t.2.2=t.1)))) (AB O) (BL (c:=(decide (t.2.2=t.1))) O O (Iv (a:=t.2.2) (b:=t.1))) O (AT O) (AH (v:=(Value.bool (decide (t.2.2=t.1)))) (AP O O) O ?_)))))
   exact AE.nil (AC.mid (sS O (sS O (sS O (sS O (sS O (sS O (sS O (sS O (sS O (sS O (sS O (sS O (sS O (sS O (sS O (sS O (sS (by first|rfl|(rw [hg5];rfl)|rw [hg5]) (sS (by first|rfl|(rw [hg5];rfl)|rw [hg5]) (sN))))))))))))))))))) (List.Sublist.refl _))
 exact asg' O (AE.nil (AC.subF (sL [3] O) (AC.then_ (AF.ret (AI O (AY (v:=(Value.bool ((((((!(decide (t.1<n)))||(!(decide (t.2.1<n))))||(!(decide (t.2.2<n))))||(decide (t.1=t.2.1)))||(decide (t.2.1=t.2.2)))||(decide (t.2.2=t.1))))) O) (λw hw=>⟨by congr 2;rw [Bool.eq_iff_iff];simp [Oc]<;>omega,hw.out⟩))))))
theorem ZM (n:Nat) (bo:BX [vN n]) (ts:List (Nat×Nat×Nat)) (x:RX (rowsL Ai ts) ts.length) (hl:ts.length<4611686018427387904) (w:World) {S:Nat->Prop} (hbo:Ro S w bo) (hx:Ro S w x):Calls prog 244 #[(Value.slice x.p ts.length x.c),(Value.func (.func 189) #[] #[(pP bo.b 0)])] w (An w (vI (idxB n ts 0))):=by
 have lbo:=Cl (W:=w) hbo
 have lx:=Cl (W:=w) hx
 refine Ah (args:=[(Value.slice x.p ts.length x.c),(Value.func (.func 189) #[] #[(pP bo.b 0)])]) (L:=[AQ (some ⟨bo.b,0,none⟩) ([(vN n)]),AQ x.p (rowsL Ai ts)]) func244 O O (AT O) (Ed hbo (Ed hx Ax)) (AF.subF (sL [0,1] O) (q4 (asg' O (AE.nil (q1 ?_)))))
 refine q4 (AM O (AH (v:=(vN ts.length)) (AG O underlying23) O (AM O (AE.nil (AC.subF (sL [0,1,4,7,8] O) ?_)))))
 refine AC.then_ (AF.block ?_)
 refine AF.lp1 (tg λ(j:Nat)=>j<=ts.length/\idxB n ts 0=idxB n (ts.drop j) j) (tg λ(j:Nat)=>[(0,(Value.slice x.p ts.length x.c)),(1,(Value.func (.func 189) #[] #[(pP bo.b 0)])),(7,(vN ts.length)),(8,(vN j))]) (tg λ(j:Nat)=>[AQ (some ⟨bo.b,0,none⟩) ([(vN n)]),AQ x.p (rowsL Ai ts)]) (tg λ(j:Nat)=>ts.length-j) 0 (⟨Nat.zero_le _,rfl⟩) (sF O) sr (λj hJ=>?_)
 obtain ⟨hj,he⟩:=hJ
 refine q4 (AH (Ae (c:=(decide (j<ts.length))) O O (CL (a:=j) (b:=ts.length))) O (AE.nil (q1 ?_)))
 refine AF.cond O (λhc0=>?_) (λhc0=>?_)
 ·replace hc0:=of_decide_eq_true hc0
  refine AF.skip (q1 (AF.block (q4 (AM O (asg' O ?_)))))
  refine q3 (sL [0,1,7,8,5] O) (AM O (AM O (AM O (AH (v:=(pP (pB x.p) (pO x.p+j*3))) (AN (j:=j) O O x.ok underlying23 sizeOf53 O Z) O (AH (v:=(aG (Ai (ts.getD j ((0,0,0):Nat×Nat×Nat))))) (AZ (vs:=Ai (ts.getD j ((0,0,0):Nat×Nat×Nat))) (i:=1) O O (BF.ne x.ok Z) Gf (A7 Az _ _ _ Z) (Az _)) O ?_)))))
  refine AE.call (v:=(Value.bool (!Oc n (ts.getD j ((0,0,0):Nat×Nat×Nat))))) (AS O) (IG (args:=[(aG (Ai (ts.getD j ((0,0,0):Nat×Nat×Nat))))]) (caps:=[(pP bo.b 0)]) (all:=[(aG (Ai (ts.getD j ((0,0,0):Nat×Nat×Nat)))),(pP bo.b 0)]) O O O call189) (λw hw=>VY (ts.getD j ((0,0,0):Nat×Nat×Nat)) n bo w (inS hw 0 O lbo)) O (AT O) (AE.nil (AC.subF (sL [0,1,7,8,5,16] O) (AC.then_ ?_)))
  refine AF.cond O (λhc1=>?_) (λhc1=>?_)
  ·simp only [Bool.and_eq_true,Bool.or_eq_true,Bool.and_eq_false_iff,Bool.or_eq_false_iff,Bool.not_eq_true',Bool.not_eq_false',decide_eq_true_eq,decide_eq_false_iff_not] at hc1
   have hfin:=he.trans (Vw Z (by simpa using hc1))
   refine q4 (AM O (asg' O (AE.nil (AC.subF (sL [0,1,7,8,5,4] O) (AC.then_ ?_)))))
   exact AF.ret (AC.in_ret (AC.then_ret (AC.round1_ret (AC.in_ret (AC.then_ret (AI O (AY (v:=(vN j)) O) (λw hw=>⟨by rw [hfin],hw.out⟩)))))))
  ·simp only [Bool.and_eq_true,Bool.or_eq_true,Bool.and_eq_false_iff,Bool.or_eq_false_iff,Bool.not_eq_true',Bool.not_eq_false',decide_eq_true_eq,decide_eq_false_iff_not] at hc1
   refine AF.skip (AC.in_normal (AC.then_ (AF.region (AH (AW (c:=((j+1:Nat):Int)) O O (AU (a:=j) (b:=1) Z)) O (AM O ?_)))))
   exact AE.nil (AC.subF (sL [0,1,7,8,5] O) (AC.round1 (j+1) (⟨Z,he.trans (TA Z (by simpa using hc1))⟩) Z (sF O) sr))
 ·replace hc0:=of_decide_eq_false hc0
  have hfin:=he.trans (Tm hc0)
  refine AF.exit (AC.then_exit (AC.round1_exit (AC.in_exit (q2 (asg' O ?_)))))
  exact AE.nil (AC.then_ (AF.ret (AI O (AY (v:=(vI (-1:Int))) O) (λw hw=>⟨by rw [hfin],hw.out⟩))))
theorem Yj (n:Nat) (bo:BX [vN n]) (ts:List (Nat×Nat×Nat)) (x:RX (rowsL Ai ts) ts.length) (hl:ts.length<4611686018427387904) (w:World) {S:Nat->Prop} (hbo:Ro S w bo) (hx:Ro S w x):Calls prog 188 #[(Value.slice x.p ts.length x.c),(Value.func (.func 189) #[] #[(pP bo.b 0)])] w (An w (Value.bool (!By n ts))):=by
 have lbo:=Cl (W:=w) hbo
 have lx:=Cl (W:=w) hx
 refine Ah (args:=[(Value.slice x.p ts.length x.c),(Value.func (.func 189) #[] #[(pP bo.b 0)])]) (L:=[AQ (some ⟨bo.b,0,none⟩) ([(vN n)]),AQ x.p (rowsL Ai ts)]) func188 O O (AT O) (Ed hbo (Ed hx Ax)) (AF.subF (sL [0,1] O) (q4 (asg' O (AE.nil (q2 ?_)))))
 refine AM O (AM O (Cj call244 (λw hw=>ZM n bo ts x hl w (inS hw 0 O lbo) (inS hw 1 O lx)) O (AH (CU (c:=(!By n ts)) O O (Mr n ts 0)) O (asg' O (AE.nil ?_)))))
 exact AC.subF (sL [4] O) (AC.then_ (AF.ret (AI O (AY (v:=(Value.bool (!By n ts))) O) (λw hw=>⟨rfl,hw.out⟩))))
theorem RT (n:Nat) (ts:List (Nat×Nat×Nat)) (x:RX (rowsL Ai ts) ts.length) (hl:ts.length<4611686018427387904) (w:World) {S:Nat->Prop} (hx:Ro S w x):Calls prog 132 #[(Value.slice x.p ts.length x.c),(vN n)] w (An w (Value.bool (By n ts))):=by
 have lx:=Cl (W:=w) hx
 refine Ah (args:=[(Value.slice x.p ts.length x.c),(vN n)]) (L:=[AQ x.p (rowsL Ai ts)]) func132 O O (AT O) (Ed hx Ax) (AF.subF (sL [0,1] O) (q4 (BU (cs:=[(vN n)]) O λb1=>AE.frzX 0 O O λhnb1=>asg' O ?_)))
 refine q3 (sL [0,3,4] O) (AM O (AH (v:=(Value.func (.func 189) #[] #[(pP b1 0)])) (FV (vs:=[]) (us:=[(pP b1 0)]) O O) O (Cj call188 (λw hw=>Yj n ⟨b1⟩ ts x hl w (Ww (x:=(⟨b1⟩:BX [vN n])) hw 0 O hnb1) (inS hw 1 O lx)) O (AH (BQ (c:=(!(!By n ts))) O O) O (asg' O ?_)))))
 exact AE.nil (AC.subF (sL [4] O) (AC.then_ (AF.ret (AI O (AY (v:=(Value.bool (!(!By n ts)))) O) (λw hw=>⟨by simp,hw.out⟩)))))
theorem M_ {ps:List Pt} {ts ss:List (Nat×Nat×Nat)} (x:MX ps ts ss) (hl:ts.length<4611686018427387904) (w:World) {S:Nat->Prop} (hx:Ro S w x):Calls prog 76 #[(aG (CI x))] w (An w (Value.bool (By ps.length ts))):=by
 have lx:=Cl (W:=w) hx
 refine Ah (args:=[(aG (CI x))]) (L:=[AQ x.a.p (rowsL Am ps),AQ x.b.p (rowsL Ai ts),AQ x.c.p (rowsL Ai ss)]) func76 O O (AT O) (Ed hx Ax) (AF.subF (sL [0] O) (q4 (BU (cs:=CI x) O λb1=>asg' O (q3 (sL [1,2] O) ?_))))
 refine AH (v:=(pP b1 1)) (AA O underlying30 O sizeOf23 O) O (BA 0 (Value.slice x.b.p ts.length x.b.c) CP O (AH (v:=(pP b1 0)) (AA O underlying30 O sizeOf28 O) O (BA 0 (Value.slice x.a.p ps.length x.a.c) EB O (AH (v:=(vN ps.length)) (AG O underlying28) O (Cj call132 (λw hw=>RT ps.length ts x.b hl w (Wg (inS hw 1 O lx))) O ?_)))))
 exact asg' O (AE.nil (AC.subF (sL [2] O) (AC.then_ (AF.ret (AI O (AY (v:=(Value.bool (By ps.length ts))) O) (λw hw=>⟨rfl,hw.out⟩))))))
theorem Kx {ps:List Pt} {ts ss:List (Nat×Nat×Nat)} (x:MX ps ts ss) (t:Nat) (ht:t<ts.length) (hk:Oc ps.length (ts.getD t (0,0,0))=true) (w:World) {S:Nat->Prop} (hx:Ro S w x):Calls prog 29 #[(aG (CI x)),(vN t)] w (An w (Value.tuple #[(aG (Am (cor ps (ts.getD t (0,0,0)).1))),(aG (Am (cor ps (ts.getD t (0,0,0)).2.1))),(aG (Am (cor ps (ts.getD t (0,0,0)).2.2)))])):=by
 obtain ⟨k1,k2,k3⟩:=De hk
 have lx:=Cl (W:=w) hx
 refine Ah (args:=[(aG (CI x)),(vN t)]) (L:=[AQ x.a.p (rowsL Am ps),AQ x.b.p (rowsL Ai ts),AQ x.c.p (rowsL Ai ss)]) func29 O O (AT O) (Ed hx Ax) (AF.subF (sL [0,1] O) (q4 (BU (cs:=CI x) O λb1=>al E8 O λb2=>al E8 O λb3=>?_)))
 refine al E8 O λb4=>q6 (sL [1,2,4,5,6] O) (q4 (AM O (AH (Ae (c:=false) O O (by simp)) O (AM O ?_))))
 refine AE.step (v:=(vN t)) (AB O) (Al O) O (AT O) (AE.step (v:=(pP b1 1)) (AB O) (AA O underlying30 O sizeOf23 O) O (AT O) (AE.step (v:=(Value.slice x.b.p ts.length x.b.c)) (AB O) (AK (i:=3) (v:=(Value.slice x.b.p ts.length x.b.c)) O O CP.a O) O (AT O) (AE.step (v:=(vN ts.length)) (AB O) (AG O underlying23) O (AT O) (AE.step (v:=(Value.bool false)) (AB O) (CU (c:=false) O O (by simp;omega)) O (AT O) (AH (v:=(Value.bool false)) (AP O O) O ?_)))))
 refine AE.nil (AC.subF (sL [1,2,4,5,6,17] O) (AC.then_ (AF.cond_false O (AF.skip (q1 ?_)))))
 refine Cd [(0,true),(1,true),(2,true),(3,true),(4,true),(5,true),(6,true),(7,true),(8,false),(9,false),(10,true)] sr (Aq (v:=(pP b1 1)) O (AA O underlying30 O sizeOf23 O) (Bd 3 (Value.slice x.b.p ts.length x.b.c) CP O (Bb O (Aq (v:=(pP (pB x.b.p) (pO x.b.p+t*3))) O (AN (j:=t) O O x.b.ok underlying23 sizeOf53 O Z) (Aq (v:=(aG (Ai (ts.getD t ((0,0,0):Nat×Nat×Nat))))) O (AZ (vs:=Ai (ts.getD t ((0,0,0):Nat×Nat×Nat))) (i:=5) O O (BF.ne x.b.ok Z) Gf (A7 Az _ _ _ Z) (Az _)) ?_)))))
 refine Aq (v:=(pP b1 0)) O (AA O underlying30 O sizeOf28 O) (Bd 3 (Value.slice x.a.p ps.length x.a.c) EB O (Aq (v:=(vN ps.length)) O (AG O underlying28) (OkE.imp O (al L1 O λb5=>OkE.back (sl sr) ?_))))
 refine OkE.imp O (A8 O sizeOf53 O (OkE.back (sl sr) (pS' O (OkE.nil (AC.subF (sL [1,2,4,5,6,7,8] O) ?_)))))
 refine q1 (q4 (AH (v:=(pP b5 0)) (AD (j:=0) O O underlying53 sizeOf3 O (by decide) O) O (BA 0 (vN ((ts.getD t ((0,0,0):Nat×Nat×Nat)).1)) Bj O (AM O (Cj (args:=[(vN ((ts.getD t ((0,0,0):Nat×Nat×Nat)).1)),(vN ps.length)]) (v:=(Value.bool true)) call85 (λw hw=>(by have h9:=CD ((ts.getD t ((0,0,0):Nat×Nat×Nat)).1) ps.length w;rw [decide_eq_true Z] at h9;exact h9)) O ?_)))))
 refine AH (BQ (c:=false) O O) O (AM O (AE.step (v:=(pP b5 1)) (AB O) (AD (j:=1) O O underlying53 sizeOf3 O (by decide) O) O (AT O) (AE.step (v:=(vN ((ts.getD t ((0,0,0):Nat×Nat×Nat)).2.1))) (AB O) (AK (i:=0) (v:=(vN ((ts.getD t ((0,0,0):Nat×Nat×Nat)).2.1))) O O Bj.a O) O (AT O) (AE.step (v:=(vN ps.length)) (AB O) (Al O) O (AT O) (AE.call (v:=(Value.bool true)) (AB O) (Ao (args:=[(vN ((ts.getD t ((0,0,0):Nat×Nat×Nat)).2.1)),(vN ps.length)]) O O call85) (λw hw=>(by have h9:=CD ((ts.getD t ((0,0,0):Nat×Nat×Nat)).2.1) ps.length w;rw [decide_eq_true Z] at h9;exact h9)) O (AT O) ?_)))))
 refine AE.step (v:=(Value.bool false)) (AB O) (BQ (c:=false) O O) O (AT O) (AH (v:=(Value.bool false)) (AP O O) O (AM O (AE.step (v:=(pP b5 2)) (AB O) (AD (j:=2) O O underlying53 sizeOf3 O (by decide) O) O (AT O) (AE.step (v:=(vN ((ts.getD t ((0,0,0):Nat×Nat×Nat)).2.2))) (AB O) (AK (i:=0) (v:=(vN ((ts.getD t ((0,0,0):Nat×Nat×Nat)).2.2))) O O Bj.a O) O (AT O) (AE.step (v:=(vN ps.length)) (AB O) (Al O) O (AT O) ?_)))))
 refine AE.call (v:=(Value.bool true)) (AB O) (Ao (args:=[(vN ((ts.getD t ((0,0,0):Nat×Nat×Nat)).2.2)),(vN ps.length)]) O O call85) (λw hw=>(by have h9:=CD ((ts.getD t ((0,0,0):Nat×Nat×Nat)).2.2) ps.length w;rw [decide_eq_true Z] at h9;exact h9)) O (AT O) (AE.step (v:=(Value.bool false)) (AB O) (BQ (c:=false) O O) O (AT O) (AH (v:=(Value.bool false)) (AP O O) O (AE.nil (AC.subF (sL [1,2,4,5,6,7,47] O) (AC.then_ ?_)))))
 refine AF.cond_false O (AF.skip (q1 (Cd [(0,true),(1,true),(2,true),(3,true),(4,true),(5,true),(6,true),(7,true),(8,true),(9,true),(10,true),(11,true),(12,true),(13,true),(14,true),(15,true),(16,true),(17,true),(18,false),(19,false),(20,false)] (sk (sl (sl (sl sr)))) (Aq (v:=(pP b1 0)) O (AA O underlying30 O sizeOf28 O) (Bd 1 (Value.slice x.a.p ps.length x.a.c) EB O ?_)))))
 refine Aq (v:=(pP b5 0)) O (AD (j:=0) O O underlying53 sizeOf3 O (by decide) O) (Bd 0 (vN ((ts.getD t ((0,0,0):Nat×Nat×Nat)).1)) Bj O (Aq (v:=(pP (pB x.a.p) (pO x.a.p+((ts.getD t ((0,0,0):Nat×Nat×Nat)).1)*10))) O (AN (j:=(ts.getD t ((0,0,0):Nat×Nat×Nat)).1) O O x.a.ok underlying28 sizeOf51 O Z) (Aq (v:=(aG (Am (ps.getD ((ts.getD t ((0,0,0):Nat×Nat×Nat)).1) (⟨0,0⟩:Pt))))) O (AZ (vs:=Am (ps.getD ((ts.getD t ((0,0,0):Nat×Nat×Nat)).1) (⟨0,0⟩:Pt))) (i:=2) O O (BF.ne x.a.ok Z) BO (A7 BM _ _ _ Z) (BM _)) (Aq (v:=(pP b1 0)) O (AA O underlying30 O sizeOf28 O) (Bd 1 (Value.slice x.a.p ps.length x.a.c) EB O ?_)))))
 refine Aq (v:=(pP b5 1)) O (AD (j:=1) O O underlying53 sizeOf3 O (by decide) O) (Bd 0 (vN ((ts.getD t ((0,0,0):Nat×Nat×Nat)).2.1)) Bj O (Aq (v:=(pP (pB x.a.p) (pO x.a.p+((ts.getD t ((0,0,0):Nat×Nat×Nat)).2.1)*10))) O (AN (j:=(ts.getD t ((0,0,0):Nat×Nat×Nat)).2.1) O O x.a.ok underlying28 sizeOf51 O Z) (Aq (v:=(aG (Am (ps.getD ((ts.getD t ((0,0,0):Nat×Nat×Nat)).2.1) (⟨0,0⟩:Pt))))) O (AZ (vs:=Am (ps.getD ((ts.getD t ((0,0,0):Nat×Nat×Nat)).2.1) (⟨0,0⟩:Pt))) (i:=2) O O (BF.ne x.a.ok Z) BO (A7 BM _ _ _ Z) (BM _)) (Aq (v:=(pP b1 0)) O (AA O underlying30 O sizeOf28 O) (Bd 1 (Value.slice x.a.p ps.length x.a.c) EB O ?_)))))
 refine Aq (v:=(pP b5 2)) O (AD (j:=2) O O underlying53 sizeOf3 O (by decide) O) (Bd 0 (vN ((ts.getD t ((0,0,0):Nat×Nat×Nat)).2.2)) Bj O (Aq (v:=(pP (pB x.a.p) (pO x.a.p+((ts.getD t ((0,0,0):Nat×Nat×Nat)).2.2)*10))) O (AN (j:=(ts.getD t ((0,0,0):Nat×Nat×Nat)).2.2) O O x.a.ok underlying28 sizeOf51 O Z) (Aq (v:=(aG (Am (ps.getD ((ts.getD t ((0,0,0):Nat×Nat×Nat)).2.2) (⟨0,0⟩:Pt))))) O (AZ (vs:=Am (ps.getD ((ts.getD t ((0,0,0):Nat×Nat×Nat)).2.2) (⟨0,0⟩:Pt))) (i:=2) O O (BF.ne x.a.ok Z) BO (A7 BM _ _ _ Z) (BM _)) (OkE.imp O (JP O sizeOf51 O ?_)))))
 refine OkE.back (sk (sl (sl (sl sr)))) (OkE.imp O (FN O sizeOf51 O (OkE.back (sk (sl (sl (sl sr)))) (OkE.imp O (Cm O sizeOf51 O ?_)))))
 exact OkE.back (sk (sl (sl (sl sr)))) (OkE.nil (AC.subF (sL [1,2,4,5,6,7] O) (AC.then_ (AF.ret (Et O (Ap (i:=3) (cs:=Am (ps.getD ((ts.getD t ((0,0,0):Nat×Nat×Nat)).1) (⟨0,0⟩:Pt))) O O isAgg51 sizeOf51 O) (Ap (i:=2) (cs:=Am (ps.getD ((ts.getD t ((0,0,0):Nat×Nat×Nat)).2.1) (⟨0,0⟩:Pt))) O O isAgg51 sizeOf51 O) (Ap (i:=1) (cs:=Am (ps.getD ((ts.getD t ((0,0,0):Nat×Nat×Nat)).2.2) (⟨0,0⟩:Pt))) O O isAgg51 sizeOf51 O) (λw hw=>⟨rfl,hw.out⟩))))))
end
section
set_option maxRecDepth 100000
theorem Vq (a:Nat) (w:World)  :Calls prog 207 #[(vN a)] w (An w (Value.bool false)):=by
 refine Af (args:=[(vN a)]) func207 O O (AT O) (AF.subF (sL [0] O) (q4 (asg' O (AE.nil (q2 ?_)))))
 refine AM O (AM O (AH (Bx (c:=false) O O (by simp)) O (asg' O (AE.nil (AC.subF (sL [2] O) ?_)))))
 exact AC.then_ (AF.ret (AI O (AY (v:=(Value.bool false)) O) (λw hw=>⟨rfl,hw.out⟩)))
theorem RR (a b:Nat) (w:World)  :Calls prog 157 #[(vN a),(vN b)] w (An w (vI (EG a b))):=by
 refine Af (args:=[(vN a),(vN b)]) func157 O O (AT O) (AF.subF (sL [0,1] O) (q4 (asg' O (AE.nil (q2 ?_)))))
 refine AM O (ck' call207 (Vq a) O (asg' O (q3 (sL [0,1,4,5] O) (AM O (ck' call207 (Vq b) O ?_)))))
 refine asg' O (q6 (sL [0,1,4,5,6] O) (q4 (AM O (AE.nil (AC.subF (sL [0,1,4,6,11] O) ?_)))))
 refine AC.then_ (AF.cond_false O (AF.skip (q1 (q4 (AM O ?_)))))
 refine AE.nil (AC.subF (sL [0,1,4,6,13] O) (AC.then_ (AF.cond_false O (AF.skip (q1 ?_)))))
 refine q4 (AM O (AM O (AH (Ae (c:=(decide (a<b))) O O (CL (a:=a) (b:=b))) O (AE.nil (AC.subF (sL [0,1,4,6,16] O) ?_)))))
 refine AC.then_ ?_
 refine AF.cond O (λhc3=>?_) (λhc3=>?_)
 ·replace hc3:=of_decide_eq_true hc3
  have hr:=Q5 hc3
  exact q4 (asg' O (AE.nil (AC.then_ (AF.ret (AC.then_ret (AI O (AY (v:=(vI (-1:Int))) O) (λw hw=>⟨by rw [hr]<;>rfl,hw.out⟩)))))))
 ·replace hc3:=of_decide_eq_false hc3
  refine AF.skip (q1 (q4 (AM O (AM O (AH (B3 (c:=(decide (b<a))) O O (CL (a:=b) (b:=a))) O ?_)))))
  refine AE.nil (AC.subF (sL [0,1,4,6,19] O) (AC.then_ ?_))
  refine AF.cond O (λhc4=>?_) (λhc4=>?_)
  ·replace hc4:=of_decide_eq_true hc4
   have hr:=RJ hc3 hc4
   exact q4 (asg' O (AE.nil (AC.then_ (AF.ret (AC.then_ret (AI O (AY (v:=(vI 1)) O) (λw hw=>⟨by rw [hr]<;>rfl,hw.out⟩)))))))
  ·replace hc4:=of_decide_eq_false hc4
   have hr:=RH hc3 hc4
   exact AF.skip (q2 (asg' O (AE.nil (AC.then_ (AF.ret (AI O (AY (v:=(vI 0)) O) (λw hw=>⟨by rw [hr]<;>rfl,hw.out⟩)))))))
theorem Tj (a b:Int) (g:Nat) (w:World) (hg:w.heap[g]?=some (.cells ([(vI a),(vI b)]).toArray 3 (0,0))):Calls prog 156 #[(Value.slice (some ⟨g,0,none⟩) 2 2)] w (λe w'=>e=.returned (Value.int .i64 (UZ a b))/\Ji w w' (some g)/\w'.heap[g]?=some (.cells ([(vI a),(vI b)]).toArray 3 (0,0))):=by
 refine Fw (args:=[(Value.slice (some ⟨g,0,none⟩) 2 2)]) (g:=g) (T:=3) (cs:=[(vI a),(vI b)]) func156 O O (AT O) hg (AF.subF (sL [0] O) (q4 (asg' O (AE.nil (q2 ?_)))))
 refine asg' O (AE.nil (q1 (q4 (AM O (AH (v:=(vI 2)) (AG O underlying70) O ?_)))))
 refine AM O (AE.nil (AC.subF (sL [2,3,6,7,8] O) (AC.then_ (AF.block (AF.unroll 4 ?_)))))
 refine FP.step (q4 (AH (Ae (c:=true) O O (by decide)) O (AE.nil (q1 (AF.cond_true O ?_)))))
 refine AF.skip (q1 (AF.block (q4 (AH (v:=(pP g 0)) (AL (j:=0) O O underlying70 sizeOf3 O Z O) O (BA 0 (vI a) Bj O ?_)))))
 refine asg' O (q3 (sL [2,3,6,7,8,5] O) (AM O (AM O (AH (Bx (c:=(decide (a≠(0:Int)))) O O O) O (AE.nil ?_)))))
 refine AC.subF (sL [2,3,6,7,8,5,14] O) (AC.then_ ?_)
 refine AF.cond O (λhc1=>?_) (λhc1=>?_)
 ·replace hc1:=of_decide_eq_true hc1
  have hr:UZ a b=a:=if_pos hc1
  refine q4 (AM O (asg' O (AE.nil (AC.subF (sL [2,3,6,7,8,5] O) (AC.then_ ?_)))))
  exact AF.ret (AC.in_ret (AC.then_ret (AC.then_ret (AC.in_ret (AC.then_ret (AI O (AY (v:=(vI a)) O) (λw hw=>⟨by rw [hr]<;>rfl,hw.1,hw.get (i:=0) O⟩)))))))
 ·replace hc1:=of_decide_eq_false hc1
  have hq:=hc1
  refine AF.skip (AC.in_normal (AC.then_ (AF.region (AH (AW (c:=(1:Int)) O O (by decide)) O (AM O ?_)))))
  refine AE.nil (AC.subF (sL [2,3,6,7,8,5] O) (AC.again (FP.step (q4 (AH (Ae (c:=true) O O (by decide)) O ?_)))))
  refine AE.nil (q1 (AF.cond_true O (AF.skip (q1 (AF.block ?_)))))
  refine q4 (AH (v:=(pP g 1)) (AL (j:=1) O O underlying70 sizeOf3 O Z O) O (BA 0 (vI b) Bj O (asg' O (q3 (sL [2,3,6,7,8,5] O) (AM O ?_)))))
  refine AM O (AH (Bx (c:=(decide (b≠(0:Int)))) O O O) O (AE.nil (AC.subF (sL [2,3,6,7,8,5,14] O) (AC.then_ ?_))))
  refine AF.cond O (λhc1=>?_) (λhc1=>?_)
  ·replace hc1:=of_decide_eq_true hc1
   have hr:UZ a b=b:=by rw [UZ,if_neg hq,if_pos hc1]
   refine q4 (AM O (asg' O (AE.nil (AC.subF (sL [2,3,6,7,8,5] O) (AC.then_ ?_)))))
   exact AF.ret (AC.in_ret (AC.then_ret (AC.then_ret (AC.in_ret (AC.then_ret (AI O (AY (v:=(vI b)) O) (λw hw=>⟨by rw [hr]<;>rfl,hw.1,hw.get (i:=0) O⟩)))))))
  ·replace hc1:=of_decide_eq_false hc1
   have hr:UZ a b=0:=by rw [UZ,if_neg hq,if_neg hc1]
   refine AF.skip (AC.in_normal (AC.then_ (AF.region (AH (AW (c:=(2:Int)) O O (by decide)) O (AM O ?_)))))
   refine AE.nil (AC.subF (sL [2,3,6,7,8,5] O) (AC.again (FP.step (q4 (AH (Ae (c:=false) O O (by decide)) O ?_)))))
   refine AE.nil (q1 (AF.cond_false O (AF.exit (AC.then_exit (AC.then_exit ?_)))))
   refine AC.in_exit (q2 (AM O (asg' O (AE.nil (AC.subF (sL [2,3,6,7,8,5] O) ?_)))))
   exact AC.then_ (AF.ret (AI O (AY (v:=(vI 0)) O) (λw hw=>⟨by rw [hr]<;>rfl,hw.1,hw.get (i:=0) O⟩)))
end
end Go.Proofs.YtpgncndhhhllfaaGreatDoor
