import Derived.Test.YtpgncndhhhllfaaGreatDoorPart06
import Derived.Test.YtpgncndhhhllfaaGreatDoorPart27
import Derived.Test.YtpgncndhhhllfaaGreatDoorPart28
namespace Go.Proofs.YtpgncndhhhllfaaGreatDoor
open Go Go.RowKit Go.Proofs.Tryz
set_option linter.unusedVariables false
set_option linter.unusedSimpArgs false
section
set_option maxRecDepth 100000
theorem By (p n:Nat) (w:World)  :Calls Tryz.prog 85 #[(vN p),(vN n)] w (Al w (Value.bool (decide (p<n)))):=by
 refine Aa (args:=[(vN p),(vN n)]) Tryz.func85 rfl rfl (AV rfl) (AE.subF (sL [0,1] rfl) (q4 (asg' rfl (AD.nil (q2 ?_)))))
 refine AQ rfl (AK (DH (c:=(decide (0<=p))) rfl rfl (S_ (a:=0) (b:=p))) rfl (AQ rfl ?_))
 refine AD.mid (FM:=[(0,(vN p)),(1,(vN n)),(4,(Value.bool false)),(5,(vN p)),(6,(Value.bool (decide (0<=p)))),(7,(Value.bool (decide (0<=p)))),(11,(Value.bool ((decide (0<=p))&&(decide (p<n)))))]) (LM:=[]) 4 ?_ ?_
 ·rcases Bool.eq_false_or_eq_true (decide (0<=p)) with hg1|hg1
  ·skip
   refine AD.retell (k:=7) (u:=Value.bool true) rfl (by rw [hg1]) ?_
   have hg1':=hg1
   replace hg1':=of_decide_eq_true hg1'
   exact AD.step (v:=(vN p)) (AB rfl) (A9 rfl) rfl (AV rfl) (AD.step (v:=(vN n)) (AB rfl) (A9 rfl) rfl (AV rfl) (AD.step (v:=(Value.bool (decide (p<n)))) (AB rfl) (Ai (c:=(decide (p<n))) rfl rfl (CI (a:=p) (b:=n))) rfl (AV rfl) (AK (v:=(Value.bool (decide (p<n)))) (AX rfl rfl) rfl (AD.nil (AC.mid (sS rfl (sS rfl (sS rfl (sS rfl (sS rfl (sS (by first|rfl|(rw [hg1];rfl)|rw [hg1]) (sS (by first|rfl|(rw [hg1];rfl)|rw [hg1]) (sN)))))))) (List.Sublist.refl _))))))
  ·skip
   refine AD.retell (k:=7) (u:=Value.bool false) rfl (by rw [hg1]) ?_
   have hg1':=hg1
   replace hg1':=of_decide_eq_false hg1'
   exact AD.skip (AH rfl) rfl (AV rfl) (AD.skip (AH rfl) rfl (AV rfl) (AD.skip (AH rfl) rfl (AV rfl) (AK (v:=(Value.bool false)) (AR rfl rfl) rfl (AD.nil (AC.mid (sS rfl (sS rfl (sS rfl (sS rfl (sS rfl (sS (by first|rfl|(rw [hg1];rfl)|rw [hg1]) (sS (by first|rfl|(rw [hg1];rfl)|rw [hg1]) (sN)))))))) (List.Sublist.refl _))))))
 exact asg' rfl (AD.nil (AC.subF (sL [4] rfl) (AC.then_ (AE.ret (AJ rfl (AS (v:=(Value.bool ((decide (0<=p))&&(decide (p<n))))) rfl) (λw hw=>⟨by simp,hw.out⟩))))))
theorem RL (t:Nat×Nat×Nat) (n:Nat) (bo:BX [vN n]) (w:World) {S:Nat->Prop} (hbo:Ro S w bo):Calls Tryz.prog 189 #[(aG (BA t)),(pP bo.b 0)] w (Al w (Value.bool (!Mo n t))):=by
 have lbo:=Cx (W:=w) hbo
 refine Aj (args:=[(aG (BA t)),(pP bo.b 0)]) (L:=[AG (some ⟨bo.b,0,none⟩) ([(vN n)])]) Tryz.func189 rfl rfl (AV rfl) (Ds hbo Ax) (AE.subF (sL [0,1] rfl) (q4 (BU (cs:=BA t) rfl λb1=>asg' rfl (q3 (sL [1,2,3] rfl) ?_))))
 refine AK (v:=(pP b1 0)) (AI (j:=0) rfl rfl Tryz.underlying53 Tryz.sizeOf3 rfl (by decide) rfl) rfl (BJ 0 (vN t.1) Bo rfl (AK (Ah (q:=some ⟨bo.b,0,none⟩) (v:=(vN n)) (off:=0) (i:=1) rfl rfl (λe=>by cases e) Bo rfl) rfl (ck' Tryz.call85 (By t.1 n) rfl (AK (BF (c:=(!(decide (t.1<n)))) rfl rfl) rfl (AQ rfl ?_)))))
 refine AD.mid (FM:=[(1,(pP bo.b 0)),(2,(pP b1 0)),(3,(Value.bool false)),(4,(pP b1 0)),(5,(vN t.1)),(6,(vN n)),(7,(Value.bool (decide (t.1<n)))),(8,(Value.bool (!(decide (t.1<n))))),(9,(Value.bool (!(decide (t.1<n))))),(15,(Value.bool ((!(decide (t.1<n)))||(!(decide (t.2.1<n))))))]) (LM:=[Ad b1 53 (BA t),AG (some ⟨bo.b,0,none⟩) ([(vN n)])]) 6 ?_ ?_
 ·rcases Bool.eq_false_or_eq_true (!(decide (t.1<n))) with hg1|hg1
  ·skip
   refine AD.retell (k:=9) (u:=Value.bool true) rfl (by rw [hg1]) ?_
   have hg1':=hg1
   simp only [Bool.and_eq_true,Bool.or_eq_true,Bool.and_eq_false_iff,Bool.or_eq_false_iff,Bool.not_eq_true',Bool.not_eq_false',decide_eq_true_eq,decide_eq_false_iff_not] at hg1'
   refine AD.skip (AH rfl) rfl (AV rfl) (AD.skip (AH rfl) rfl (AV rfl) (AD.skip (AH rfl) rfl (AV rfl) (AD.skip (AH rfl) rfl (AV rfl) (AD.skip (AH rfl) rfl (AV rfl) (AK (v:=(Value.bool true)) (AX rfl rfl) rfl ?_)))))
   exact AD.nil (AC.mid (sS rfl (sS rfl (sS rfl (sS rfl (sS rfl (sS rfl (sS rfl (sS rfl (sS (by first|rfl|(rw [hg1];rfl)|rw [hg1]) (sS (by first|rfl|(rw [hg1];rfl)|rw [hg1]) (sN))))))))))) (List.Sublist.refl _))
  ·skip
   refine AD.retell (k:=9) (u:=Value.bool false) rfl (by rw [hg1]) ?_
   have hg1':=hg1
   simp only [Bool.and_eq_true,Bool.or_eq_true,Bool.and_eq_false_iff,Bool.or_eq_false_iff,Bool.not_eq_true',Bool.not_eq_false',decide_eq_true_eq,decide_eq_false_iff_not] at hg1'
   refine AD.step (v:=(pP b1 1)) (AB rfl) (AI (j:=1) rfl rfl Tryz.underlying53 Tryz.sizeOf3 rfl (by decide) rfl) rfl (AV rfl) (AD.step (v:=(vN t.2.1)) (AB rfl) (AL (i:=0) (v:=(vN t.2.1)) rfl rfl Bo.a rfl) rfl (AV rfl) (AD.step (v:=(vN n)) (AB rfl) (Ah (q:=some ⟨bo.b,0,none⟩) (v:=(vN n)) (off:=0) (i:=1) rfl rfl (λe=>by cases e) Bo rfl) rfl (AV rfl) (AD.call (v:=(Value.bool (decide (t.2.1<n)))) (AB rfl) (An (args:=[(vN t.2.1),(vN n)]) rfl rfl Tryz.call85) (λw hw=>By t.2.1 n w) rfl (AV rfl) (AD.step (v:=(Value.bool (!(decide (t.2.1<n))))) (AB rfl) (BF (c:=(!(decide (t.2.1<n)))) rfl rfl) rfl (AV rfl) (AK (v:=(Value.bool (!(decide (t.2.1<n))))) (AR rfl rfl) rfl ?_)))))
   exact AD.nil (AC.mid (sS rfl (sS rfl (sS rfl (sS rfl (sS rfl (sS rfl (sS rfl (sS rfl (sS (by first|rfl|(rw [hg1];rfl)|rw [hg1]) (sS (by first|rfl|(rw [hg1];rfl)|rw [hg1]) (sN))))))))))) (List.Sublist.refl _))
 refine AQ rfl ?_
 refine AD.mid (FM:=[(1,(pP bo.b 0)),(2,(pP b1 0)),(3,(Value.bool false)),(4,(pP b1 0)),(5,(vN t.1)),(6,(vN n)),(7,(Value.bool (decide (t.1<n)))),(8,(Value.bool (!(decide (t.1<n))))),(9,(Value.bool (!(decide (t.1<n))))),(15,(Value.bool ((!(decide (t.1<n)))||(!(decide (t.2.1<n)))))),(16,(Value.bool ((!(decide (t.1<n)))||(!(decide (t.2.1<n)))))),(22,(Value.bool (((!(decide (t.1<n)))||(!(decide (t.2.1<n))))||(!(decide (t.2.2<n))))))]) (LM:=[Ad b1 53 (BA t),AG (some ⟨bo.b,0,none⟩) ([(vN n)])]) 6 ?_ ?_
 ·rcases Bool.eq_false_or_eq_true ((!(decide (t.1<n)))||(!(decide (t.2.1<n)))) with hg2|hg2
  ·skip
   refine AD.retell (k:=16) (u:=Value.bool true) rfl (by rw [hg2]) ?_
   have hg2':=hg2
   simp only [Bool.and_eq_true,Bool.or_eq_true,Bool.and_eq_false_iff,Bool.or_eq_false_iff,Bool.not_eq_true',Bool.not_eq_false',decide_eq_true_eq,decide_eq_false_iff_not] at hg2'
   refine AD.skip (AH rfl) rfl (AV rfl) (AD.skip (AH rfl) rfl (AV rfl) (AD.skip (AH rfl) rfl (AV rfl) (AD.skip (AH rfl) rfl (AV rfl) (AD.skip (AH rfl) rfl (AV rfl) (AK (v:=(Value.bool true)) (AX rfl rfl) rfl ?_)))))
   exact AD.nil (AC.mid (sS rfl (sS rfl (sS rfl (sS rfl (sS rfl (sS rfl (sS rfl (sS rfl (sS rfl (sS rfl (sS (by first|rfl|(rw [hg2];rfl)|rw [hg2]) (sS (by first|rfl|(rw [hg2];rfl)|rw [hg2]) (sN))))))))))))) (List.Sublist.refl _))
  ·skip
   refine AD.retell (k:=16) (u:=Value.bool false) rfl (by rw [hg2]) ?_
   have hg2':=hg2
   simp only [Bool.and_eq_true,Bool.or_eq_true,Bool.and_eq_false_iff,Bool.or_eq_false_iff,Bool.not_eq_true',Bool.not_eq_false',decide_eq_true_eq,decide_eq_false_iff_not] at hg2'
   refine AD.step (v:=(pP b1 2)) (AB rfl) (AI (j:=2) rfl rfl Tryz.underlying53 Tryz.sizeOf3 rfl (by decide) rfl) rfl (AV rfl) (AD.step (v:=(vN t.2.2)) (AB rfl) (AL (i:=0) (v:=(vN t.2.2)) rfl rfl Bo.a rfl) rfl (AV rfl) (AD.step (v:=(vN n)) (AB rfl) (Ah (q:=some ⟨bo.b,0,none⟩) (v:=(vN n)) (off:=0) (i:=1) rfl rfl (λe=>by cases e) Bo rfl) rfl (AV rfl) (AD.call (v:=(Value.bool (decide (t.2.2<n)))) (AB rfl) (An (args:=[(vN t.2.2),(vN n)]) rfl rfl Tryz.call85) (λw hw=>By t.2.2 n w) rfl (AV rfl) (AD.step (v:=(Value.bool (!(decide (t.2.2<n))))) (AB rfl) (BF (c:=(!(decide (t.2.2<n)))) rfl rfl) rfl (AV rfl) (AK (v:=(Value.bool (!(decide (t.2.2<n))))) (AR rfl rfl) rfl ?_)))))
   exact AD.nil (AC.mid (sS rfl (sS rfl (sS rfl (sS rfl (sS rfl (sS rfl (sS rfl (sS rfl (sS rfl (sS rfl (sS (by first|rfl|(rw [hg2];rfl)|rw [hg2]) (sS (by first|rfl|(rw [hg2];rfl)|rw [hg2]) (sN))))))))))))) (List.Sublist.refl _))
 refine AQ rfl ?_
 refine AD.mid (FM:=[(1,(pP bo.b 0)),(2,(pP b1 0)),(3,(Value.bool false)),(4,(pP b1 0)),(5,(vN t.1)),(6,(vN n)),(7,(Value.bool (decide (t.1<n)))),(8,(Value.bool (!(decide (t.1<n))))),(9,(Value.bool (!(decide (t.1<n))))),(15,(Value.bool ((!(decide (t.1<n)))||(!(decide (t.2.1<n)))))),(16,(Value.bool ((!(decide (t.1<n)))||(!(decide (t.2.1<n)))))),(22,(Value.bool (((!(decide (t.1<n)))||(!(decide (t.2.1<n))))||(!(decide (t.2.2<n)))))),(23,(Value.bool (((!(decide (t.1<n)))||(!(decide (t.2.1<n))))||(!(decide (t.2.2<n)))))),(29,(Value.bool ((((!(decide (t.1<n)))||(!(decide (t.2.1<n))))||(!(decide (t.2.2<n))))||(decide (t.1=t.2.1)))))]) (LM:=[Ad b1 53 (BA t),AG (some ⟨bo.b,0,none⟩) ([(vN n)])]) 6 ?_ ?_
 ·rcases Bool.eq_false_or_eq_true (((!(decide (t.1<n)))||(!(decide (t.2.1<n))))||(!(decide (t.2.2<n)))) with hg3|hg3
  ·skip
   refine AD.retell (k:=23) (u:=Value.bool true) rfl (by rw [hg3]) ?_
   have hg3':=hg3
   simp only [Bool.and_eq_true,Bool.or_eq_true,Bool.and_eq_false_iff,Bool.or_eq_false_iff,Bool.not_eq_true',Bool.not_eq_false',decide_eq_true_eq,decide_eq_false_iff_not] at hg3'
   refine AD.skip (AH rfl) rfl (AV rfl) (AD.skip (AH rfl) rfl (AV rfl) (AD.skip (AH rfl) rfl (AV rfl) (AD.skip (AH rfl) rfl (AV rfl) (AD.skip (AH rfl) rfl (AV rfl) (AK (v:=(Value.bool true)) (AX rfl rfl) rfl ?_)))))
   exact AD.nil (AC.mid (sS rfl (sS rfl (sS rfl (sS rfl (sS rfl (sS rfl (sS rfl (sS rfl (sS rfl (sS rfl (sS rfl (sS rfl (sS (by first|rfl|(rw [hg3];rfl)|rw [hg3]) (sS (by first|rfl|(rw [hg3];rfl)|rw [hg3]) (sN))))))))))))))) (List.Sublist.refl _))
  ·skip
   refine AD.retell (k:=23) (u:=Value.bool false) rfl (by rw [hg3]) ?_
   have hg3':=hg3
   simp only [Bool.and_eq_true,Bool.or_eq_true,Bool.and_eq_false_iff,Bool.or_eq_false_iff,Bool.not_eq_true',Bool.not_eq_false',decide_eq_true_eq,decide_eq_false_iff_not] at hg3'
   refine AD.step (v:=(pP b1 0)) (AB rfl) (AI (j:=0) rfl rfl Tryz.underlying53 Tryz.sizeOf3 rfl (by decide) rfl) rfl (AV rfl) (AD.step (v:=(vN t.1)) (AB rfl) (AL (i:=0) (v:=(vN t.1)) rfl rfl Bo.a rfl) rfl (AV rfl) (AD.step (v:=(pP b1 1)) (AB rfl) (AI (j:=1) rfl rfl Tryz.underlying53 Tryz.sizeOf3 rfl (by decide) rfl) rfl (AV rfl) (AD.step (v:=(vN t.2.1)) (AB rfl) (AL (i:=0) (v:=(vN t.2.1)) rfl rfl Bo.a rfl) rfl (AV rfl) (AD.step (v:=(Value.bool (decide (t.1=t.2.1)))) (AB rfl) (BR (c:=(decide (t.1=t.2.1))) rfl rfl (LX (a:=t.1) (b:=t.2.1))) rfl (AV rfl) (AK (v:=(Value.bool (decide (t.1=t.2.1)))) (AR rfl rfl) rfl ?_)))))
   exact AD.nil (AC.mid (sS rfl (sS rfl (sS rfl (sS rfl (sS rfl (sS rfl (sS rfl (sS rfl (sS rfl (sS rfl (sS rfl (sS rfl (sS (by first|rfl|(rw [hg3];rfl)|rw [hg3]) (sS (by first|rfl|(rw [hg3];rfl)|rw [hg3]) (sN))))))))))))))) (List.Sublist.refl _))
 refine AQ rfl ?_
 refine AD.mid (FM:=[(1,(pP bo.b 0)),(2,(pP b1 0)),(3,(Value.bool false)),(4,(pP b1 0)),(5,(vN t.1)),(6,(vN n)),(7,(Value.bool (decide (t.1<n)))),(8,(Value.bool (!(decide (t.1<n))))),(9,(Value.bool (!(decide (t.1<n))))),(15,(Value.bool ((!(decide (t.1<n)))||(!(decide (t.2.1<n)))))),(16,(Value.bool ((!(decide (t.1<n)))||(!(decide (t.2.1<n)))))),(22,(Value.bool (((!(decide (t.1<n)))||(!(decide (t.2.1<n))))||(!(decide (t.2.2<n)))))),(23,(Value.bool (((!(decide (t.1<n)))||(!(decide (t.2.1<n))))||(!(decide (t.2.2<n)))))),(29,(Value.bool ((((!(decide (t.1<n)))||(!(decide (t.2.1<n))))||(!(decide (t.2.2<n))))||(decide (t.1=t.2.1))))),(30,(Value.bool ((((!(decide (t.1<n)))||(!(decide (t.2.1<n))))||(!(decide (t.2.2<n))))||(decide (t.1=t.2.1))))),(36,(Value.bool (((((!(decide (t.1<n)))||(!(decide (t.2.1<n))))||(!(decide (t.2.2<n))))||(decide (t.1=t.2.1)))||(decide (t.2.1=t.2.2)))))]) (LM:=[Ad b1 53 (BA t),AG (some ⟨bo.b,0,none⟩) ([(vN n)])]) 6 ?_ ?_
 ·rcases Bool.eq_false_or_eq_true ((((!(decide (t.1<n)))||(!(decide (t.2.1<n))))||(!(decide (t.2.2<n))))||(decide (t.1=t.2.1))) with hg4|hg4
  ·skip
   refine AD.retell (k:=30) (u:=Value.bool true) rfl (by rw [hg4]) ?_
   have hg4':=hg4
   simp only [Bool.and_eq_true,Bool.or_eq_true,Bool.and_eq_false_iff,Bool.or_eq_false_iff,Bool.not_eq_true',Bool.not_eq_false',decide_eq_true_eq,decide_eq_false_iff_not] at hg4'
   refine AD.skip (AH rfl) rfl (AV rfl) (AD.skip (AH rfl) rfl (AV rfl) (AD.skip (AH rfl) rfl (AV rfl) (AD.skip (AH rfl) rfl (AV rfl) (AD.skip (AH rfl) rfl (AV rfl) (AK (v:=(Value.bool true)) (AX rfl rfl) rfl ?_)))))
   exact AD.nil (AC.mid (sS rfl (sS rfl (sS rfl (sS rfl (sS rfl (sS rfl (sS rfl (sS rfl (sS rfl (sS rfl (sS rfl (sS rfl (sS rfl (sS rfl (sS (by first|rfl|(rw [hg4];rfl)|rw [hg4]) (sS (by first|rfl|(rw [hg4];rfl)|rw [hg4]) (sN))))))))))))))))) (List.Sublist.refl _))
  ·skip
   refine AD.retell (k:=30) (u:=Value.bool false) rfl (by rw [hg4]) ?_
   have hg4':=hg4
   simp only [Bool.and_eq_true,Bool.or_eq_true,Bool.and_eq_false_iff,Bool.or_eq_false_iff,Bool.not_eq_true',Bool.not_eq_false',decide_eq_true_eq,decide_eq_false_iff_not] at hg4'
   refine AD.step (v:=(pP b1 1)) (AB rfl) (AI (j:=1) rfl rfl Tryz.underlying53 Tryz.sizeOf3 rfl (by decide) rfl) rfl (AV rfl) (AD.step (v:=(vN t.2.1)) (AB rfl) (AL (i:=0) (v:=(vN t.2.1)) rfl rfl Bo.a rfl) rfl (AV rfl) (AD.step (v:=(pP b1 2)) (AB rfl) (AI (j:=2) rfl rfl Tryz.underlying53 Tryz.sizeOf3 rfl (by decide) rfl) rfl (AV rfl) (AD.step (v:=(vN t.2.2)) (AB rfl) (AL (i:=0) (v:=(vN t.2.2)) rfl rfl Bo.a rfl) rfl (AV rfl) (AD.step (v:=(Value.bool (decide (t.2.1=t.2.2)))) (AB rfl) (BR (c:=(decide (t.2.1=t.2.2))) rfl rfl (LX (a:=t.2.1) (b:=t.2.2))) rfl (AV rfl) (AK (v:=(Value.bool (decide (t.2.1=t.2.2)))) (AR rfl rfl) rfl ?_)))))
   exact AD.nil (AC.mid (sS rfl (sS rfl (sS rfl (sS rfl (sS rfl (sS rfl (sS rfl (sS rfl (sS rfl (sS rfl (sS rfl (sS rfl (sS rfl (sS rfl (sS (by first|rfl|(rw [hg4];rfl)|rw [hg4]) (sS (by first|rfl|(rw [hg4];rfl)|rw [hg4]) (sN))))))))))))))))) (List.Sublist.refl _))
 refine AQ rfl ?_
 refine AD.mid (FM:=[(1,(pP bo.b 0)),(2,(pP b1 0)),(3,(Value.bool false)),(4,(pP b1 0)),(5,(vN t.1)),(6,(vN n)),(7,(Value.bool (decide (t.1<n)))),(8,(Value.bool (!(decide (t.1<n))))),(9,(Value.bool (!(decide (t.1<n))))),(15,(Value.bool ((!(decide (t.1<n)))||(!(decide (t.2.1<n)))))),(16,(Value.bool ((!(decide (t.1<n)))||(!(decide (t.2.1<n)))))),(22,(Value.bool (((!(decide (t.1<n)))||(!(decide (t.2.1<n))))||(!(decide (t.2.2<n)))))),(23,(Value.bool (((!(decide (t.1<n)))||(!(decide (t.2.1<n))))||(!(decide (t.2.2<n)))))),(29,(Value.bool ((((!(decide (t.1<n)))||(!(decide (t.2.1<n))))||(!(decide (t.2.2<n))))||(decide (t.1=t.2.1))))),(30,(Value.bool ((((!(decide (t.1<n)))||(!(decide (t.2.1<n))))||(!(decide (t.2.2<n))))||(decide (t.1=t.2.1))))),(36,(Value.bool (((((!(decide (t.1<n)))||(!(decide (t.2.1<n))))||(!(decide (t.2.2<n))))||(decide (t.1=t.2.1)))||(decide (t.2.1=t.2.2))))),(37,(Value.bool (((((!(decide (t.1<n)))||(!(decide (t.2.1<n))))||(!(decide (t.2.2<n))))||(decide (t.1=t.2.1)))||(decide (t.2.1=t.2.2))))),(43,(Value.bool ((((((!(decide (t.1<n)))||(!(decide (t.2.1<n))))||(!(decide (t.2.2<n))))||(decide (t.1=t.2.1)))||(decide (t.2.1=t.2.2)))||(decide (t.2.2=t.1)))))]) (LM:=[Ad b1 53 (BA t),AG (some ⟨bo.b,0,none⟩) ([(vN n)])]) 6 ?_ ?_
 ·rcases Bool.eq_false_or_eq_true (((((!(decide (t.1<n)))||(!(decide (t.2.1<n))))||(!(decide (t.2.2<n))))||(decide (t.1=t.2.1)))||(decide (t.2.1=t.2.2))) with hg5|hg5
  ·skip
   refine AD.retell (k:=37) (u:=Value.bool true) rfl (by rw [hg5]) ?_
   have hg5':=hg5
   simp only [Bool.and_eq_true,Bool.or_eq_true,Bool.and_eq_false_iff,Bool.or_eq_false_iff,Bool.not_eq_true',Bool.not_eq_false',decide_eq_true_eq,decide_eq_false_iff_not] at hg5'
   refine AD.skip (AH rfl) rfl (AV rfl) (AD.skip (AH rfl) rfl (AV rfl) (AD.skip (AH rfl) rfl (AV rfl) (AD.skip (AH rfl) rfl (AV rfl) (AD.skip (AH rfl) rfl (AV rfl) (AK (v:=(Value.bool true)) (AX rfl rfl) rfl ?_)))))
   exact AD.nil (AC.mid (sS rfl (sS rfl (sS rfl (sS rfl (sS rfl (sS rfl (sS rfl (sS rfl (sS rfl (sS rfl (sS rfl (sS rfl (sS rfl (sS rfl (sS rfl (sS rfl (sS (by first|rfl|(rw [hg5];rfl)|rw [hg5]) (sS (by first|rfl|(rw [hg5];rfl)|rw [hg5]) (sN))))))))))))))))))) (List.Sublist.refl _))
  ·skip
   refine AD.retell (k:=37) (u:=Value.bool false) rfl (by rw [hg5]) ?_
   have hg5':=hg5
   simp only [Bool.and_eq_true,Bool.or_eq_true,Bool.and_eq_false_iff,Bool.or_eq_false_iff,Bool.not_eq_true',Bool.not_eq_false',decide_eq_true_eq,decide_eq_false_iff_not] at hg5'
   refine AD.step (v:=(pP b1 2)) (AB rfl) (AI (j:=2) rfl rfl Tryz.underlying53 Tryz.sizeOf3 rfl (by decide) rfl) rfl (AV rfl) (AD.step (v:=(vN t.2.2)) (AB rfl) (AL (i:=0) (v:=(vN t.2.2)) rfl rfl Bo.a rfl) rfl (AV rfl) (AD.step (v:=(pP b1 0)) (AB rfl) (AI (j:=0) rfl rfl Tryz.underlying53 Tryz.sizeOf3 rfl (by decide) rfl) rfl (AV rfl) (AD.step (v:=(vN t.1)) (AB rfl) (AL (i:=0) (v:=(vN t.1)) rfl rfl Bo.a rfl) rfl (AV rfl) (AD.step (v:=(Value.bool (decide (t.2.2=t.1)))) (AB rfl) (BR (c:=(decide (t.2.2=t.1))) rfl rfl (LX (a:=t.2.2) (b:=t.1))) rfl (AV rfl) (AK (v:=(Value.bool (decide (t.2.2=t.1)))) (AR rfl rfl) rfl ?_)))))
   exact AD.nil (AC.mid (sS rfl (sS rfl (sS rfl (sS rfl (sS rfl (sS rfl (sS rfl (sS rfl (sS rfl (sS rfl (sS rfl (sS rfl (sS rfl (sS rfl (sS rfl (sS rfl (sS (by first|rfl|(rw [hg5];rfl)|rw [hg5]) (sS (by first|rfl|(rw [hg5];rfl)|rw [hg5]) (sN))))))))))))))))))) (List.Sublist.refl _))
 exact asg' rfl (AD.nil (AC.subF (sL [3] rfl) (AC.then_ (AE.ret (AJ rfl (AS (v:=(Value.bool ((((((!(decide (t.1<n)))||(!(decide (t.2.1<n))))||(!(decide (t.2.2<n))))||(decide (t.1=t.2.1)))||(decide (t.2.1=t.2.2)))||(decide (t.2.2=t.1))))) rfl) (λw hw=>⟨by congr 2;rw [Bool.eq_iff_iff];simp [Mo]<;>omega,hw.out⟩))))))
theorem V5 (n:Nat) (bo:BX [vN n]) (ts:List (Nat×Nat×Nat)) (x:RX (rowsL BA ts) ts.length) (hl:ts.length<4611686018427387904) (w:World) {S:Nat->Prop} (hbo:Ro S w bo) (hx:Ro S w x):Calls Tryz.prog 244 #[(Value.slice x.p ts.length x.c),(Value.func (.func 189) #[] #[(pP bo.b 0)])] w (Al w (vI (idxB n ts 0))):=by
 have lbo:=Cx (W:=w) hbo
 have lx:=Cx (W:=w) hx
 refine Aj (args:=[(Value.slice x.p ts.length x.c),(Value.func (.func 189) #[] #[(pP bo.b 0)])]) (L:=[AG (some ⟨bo.b,0,none⟩) ([(vN n)]),AG x.p (rowsL BA ts)]) Tryz.func244 rfl rfl (AV rfl) (Ds hbo (Ds hx Ax)) (AE.subF (sL [0,1] rfl) (q4 (asg' rfl (AD.nil (q1 ?_)))))
 refine q4 (AQ rfl (AK (v:=(vN ts.length)) (AF rfl Tryz.underlying23) rfl (AQ rfl (AD.nil (AC.subF (sL [0,1,4,7,8] rfl) ?_)))))
 refine AC.then_ (AE.block ?_)
 refine AE.lp1 (tg λ(j:Nat)=>j<=ts.length/\idxB n ts 0=idxB n (ts.drop j) j) (tg λ(j:Nat)=>[(0,(Value.slice x.p ts.length x.c)),(1,(Value.func (.func 189) #[] #[(pP bo.b 0)])),(7,(vN ts.length)),(8,(vN j))]) (tg λ(j:Nat)=>[AG (some ⟨bo.b,0,none⟩) ([(vN n)]),AG x.p (rowsL BA ts)]) (tg λ(j:Nat)=>ts.length-j) 0 (⟨Nat.zero_le _,rfl⟩) (sF rfl) sr (λj hJ=>?_)
 obtain ⟨hj,he⟩:=hJ
 refine q4 (AK (Ai (c:=(decide (j<ts.length))) rfl rfl (CI (a:=j) (b:=ts.length))) rfl (AD.nil (q1 ?_)))
 refine AE.cond rfl (λhc0=>?_) (λhc0=>?_)
 ·replace hc0:=of_decide_eq_true hc0
  refine AE.skip (q1 (AE.block (q4 (AQ rfl (asg' rfl ?_)))))
  refine q3 (sL [0,1,7,8,5] rfl) (AQ rfl (AQ rfl (AQ rfl (AK (v:=(pP (pB x.p) (pO x.p+j*3))) (AO (j:=j) rfl rfl x.ok Tryz.underlying23 Tryz.sizeOf53 rfl (by omega)) rfl (AK (v:=(aG (BA (ts.getD j ((0,0,0):Nat×Nat×Nat))))) (AT (vs:=BA (ts.getD j ((0,0,0):Nat×Nat×Nat))) (i:=1) rfl rfl (A7.ne x.ok (by omega)) Gx (Aq Be _ _ _ (by omega)) (Be _)) rfl ?_)))))
  refine AD.call (v:=(Value.bool (!Mo n (ts.getD j ((0,0,0):Nat×Nat×Nat))))) (AW rfl) (HD (args:=[(aG (BA (ts.getD j ((0,0,0):Nat×Nat×Nat))))]) (caps:=[(pP bo.b 0)]) (all:=[(aG (BA (ts.getD j ((0,0,0):Nat×Nat×Nat)))),(pP bo.b 0)]) rfl rfl rfl Tryz.call189) (λw hw=>RL (ts.getD j ((0,0,0):Nat×Nat×Nat)) n bo w (inS hw 0 rfl lbo)) rfl (AV rfl) (AD.nil (AC.subF (sL [0,1,7,8,5,16] rfl) (AC.then_ ?_)))
  refine AE.cond rfl (λhc1=>?_) (λhc1=>?_)
  ·simp only [Bool.and_eq_true,Bool.or_eq_true,Bool.and_eq_false_iff,Bool.or_eq_false_iff,Bool.not_eq_true',Bool.not_eq_false',decide_eq_true_eq,decide_eq_false_iff_not] at hc1
   have hfin:=he.trans (R6 (by omega) (by simpa using hc1))
   refine q4 (AQ rfl (asg' rfl (AD.nil (AC.subF (sL [0,1,7,8,5,4] rfl) (AC.then_ ?_)))))
   exact AE.ret (AC.in_ret (AC.then_ret (AC.round1_ret (AC.in_ret (AC.then_ret (AJ rfl (AS (v:=(vN j)) rfl) (λw hw=>⟨by rw [hfin],hw.out⟩)))))))
  ·simp only [Bool.and_eq_true,Bool.or_eq_true,Bool.and_eq_false_iff,Bool.or_eq_false_iff,Bool.not_eq_true',Bool.not_eq_false',decide_eq_true_eq,decide_eq_false_iff_not] at hc1
   refine AE.skip (AC.in_normal (AC.then_ (AE.region (AK (Ac (c:=((j+1:Nat):Int)) rfl rfl (Ae (a:=j) (b:=1) (by omega))) rfl (AQ rfl ?_)))))
   exact AD.nil (AC.subF (sL [0,1,7,8,5] rfl) (AC.round1 (j+1) (⟨by omega,he.trans (QK (by omega) (by simpa using hc1))⟩) (by omega) (sF rfl) sr))
 ·replace hc0:=of_decide_eq_false hc0
  have hfin:=he.trans (Qh hc0)
  refine AE.exit (AC.then_exit (AC.round1_exit (AC.in_exit (q2 (asg' rfl ?_)))))
  exact AD.nil (AC.then_ (AE.ret (AJ rfl (AS (v:=(vI (-1:Int))) rfl) (λw hw=>⟨by rw [hfin],hw.out⟩))))
theorem Ug (n:Nat) (bo:BX [vN n]) (ts:List (Nat×Nat×Nat)) (x:RX (rowsL BA ts) ts.length) (hl:ts.length<4611686018427387904) (w:World) {S:Nat->Prop} (hbo:Ro S w bo) (hx:Ro S w x):Calls Tryz.prog 188 #[(Value.slice x.p ts.length x.c),(Value.func (.func 189) #[] #[(pP bo.b 0)])] w (Al w (Value.bool (!DK n ts))):=by
 have lbo:=Cx (W:=w) hbo
 have lx:=Cx (W:=w) hx
 refine Aj (args:=[(Value.slice x.p ts.length x.c),(Value.func (.func 189) #[] #[(pP bo.b 0)])]) (L:=[AG (some ⟨bo.b,0,none⟩) ([(vN n)]),AG x.p (rowsL BA ts)]) Tryz.func188 rfl rfl (AV rfl) (Ds hbo (Ds hx Ax)) (AE.subF (sL [0,1] rfl) (q4 (asg' rfl (AD.nil (q2 ?_)))))
 refine AQ rfl (AQ rfl (CN Tryz.call244 (λw hw=>V5 n bo ts x hl w (inS hw 0 rfl lbo) (inS hw 1 rfl lx)) rfl (AK (DH (c:=(!DK n ts)) rfl rfl (J_ n ts 0)) rfl (asg' rfl (AD.nil ?_)))))
 exact AC.subF (sL [4] rfl) (AC.then_ (AE.ret (AJ rfl (AS (v:=(Value.bool (!DK n ts))) rfl) (λw hw=>⟨rfl,hw.out⟩))))
theorem OM (n:Nat) (ts:List (Nat×Nat×Nat)) (x:RX (rowsL BA ts) ts.length) (hl:ts.length<4611686018427387904) (w:World) {S:Nat->Prop} (hx:Ro S w x):Calls Tryz.prog 132 #[(Value.slice x.p ts.length x.c),(vN n)] w (Al w (Value.bool (DK n ts))):=by
 have lx:=Cx (W:=w) hx
 refine Aj (args:=[(Value.slice x.p ts.length x.c),(vN n)]) (L:=[AG x.p (rowsL BA ts)]) Tryz.func132 rfl rfl (AV rfl) (Ds hx Ax) (AE.subF (sL [0,1] rfl) (q4 (BU (cs:=[(vN n)]) rfl λb1=>AD.frzX 0 rfl rfl λhnb1=>asg' rfl ?_)))
 refine q3 (sL [0,3,4] rfl) (AQ rfl (AK (v:=(Value.func (.func 189) #[] #[(pP b1 0)])) (Eg (vs:=[]) (us:=[(pP b1 0)]) rfl rfl) rfl (CN Tryz.call188 (λw hw=>Ug n ⟨b1⟩ ts x hl w (S9 (x:=(⟨b1⟩:BX [vN n])) hw 0 rfl hnb1) (inS hw 1 rfl lx)) rfl (AK (BF (c:=(!(!DK n ts))) rfl rfl) rfl (asg' rfl ?_)))))
 exact AD.nil (AC.subF (sL [4] rfl) (AC.then_ (AE.ret (AJ rfl (AS (v:=(Value.bool (!(!DK n ts)))) rfl) (λw hw=>⟨by simp,hw.out⟩)))))
theorem OJ {ps:List Pt} {ts ss:List (Nat×Nat×Nat)} (x:MX ps ts ss) (hl:ts.length<4611686018427387904) (w:World) {S:Nat->Prop} (hx:Ro S w x):Calls Tryz.prog 76 #[(aG (DA x))] w (Al w (Value.bool (DK ps.length ts))):=by
 have lx:=Cx (W:=w) hx
 refine Aj (args:=[(aG (DA x))]) (L:=[AG x.a.p (rowsL Af ps),AG x.b.p (rowsL BA ts),AG x.c.p (rowsL BA ss)]) Tryz.func76 rfl rfl (AV rfl) (Ds hx Ax) (AE.subF (sL [0] rfl) (q4 (BU (cs:=DA x) rfl λb1=>asg' rfl (q3 (sL [1,2] rfl) ?_))))
 refine AK (v:=(pP b1 1)) (AA rfl Tryz.underlying30 rfl Tryz.sizeOf23 rfl) rfl (BJ 0 (Value.slice x.b.p ts.length x.b.c) DG rfl (AK (v:=(pP b1 0)) (AA rfl Tryz.underlying30 rfl Tryz.sizeOf28 rfl) rfl (BJ 0 (Value.slice x.a.p ps.length x.a.c) CW rfl (AK (v:=(vN ps.length)) (AF rfl Tryz.underlying28) rfl (CN Tryz.call132 (λw hw=>OM ps.length ts x.b hl w (TD (inS hw 1 rfl lx))) rfl ?_)))))
 exact asg' rfl (AD.nil (AC.subF (sL [2] rfl) (AC.then_ (AE.ret (AJ rfl (AS (v:=(Value.bool (DK ps.length ts))) rfl) (λw hw=>⟨rfl,hw.out⟩))))))
theorem Ny {ps:List Pt} {ts ss:List (Nat×Nat×Nat)} (x:MX ps ts ss) (t:Nat) (ht:t<ts.length) (hk:Mo ps.length (ts.getD t (0,0,0))=true) (w:World) {S:Nat->Prop} (hx:Ro S w x):Calls Tryz.prog 29 #[(aG (DA x)),(vN t)] w (Al w (Value.tuple #[(aG (Af (C2 ps (ts.getD t (0,0,0)).1))),(aG (Af (C2 ps (ts.getD t (0,0,0)).2.1))),(aG (Af (C2 ps (ts.getD t (0,0,0)).2.2)))])):=by
 obtain ⟨k1,k2,k3⟩:=DV hk
 have lx:=Cx (W:=w) hx
 refine Aj (args:=[(aG (DA x)),(vN t)]) (L:=[AG x.a.p (rowsL Af ps),AG x.b.p (rowsL BA ts),AG x.c.p (rowsL BA ss)]) Tryz.func29 rfl rfl (AV rfl) (Ds hx Ax) (AE.subF (sL [0,1] rfl) (q4 (BU (cs:=DA x) rfl λb1=>al G8 rfl λb2=>al G8 rfl λb3=>?_)))
 refine al G8 rfl λb4=>q6 (sL [1,2,4,5,6] rfl) (q4 (AQ rfl (AK (Ai (c:=false) rfl rfl (by simp)) rfl (AQ rfl ?_))))
 refine AD.step (v:=(vN t)) (AB rfl) (A9 rfl) rfl (AV rfl) (AD.step (v:=(pP b1 1)) (AB rfl) (AA rfl Tryz.underlying30 rfl Tryz.sizeOf23 rfl) rfl (AV rfl) (AD.step (v:=(Value.slice x.b.p ts.length x.b.c)) (AB rfl) (AL (i:=3) (v:=(Value.slice x.b.p ts.length x.b.c)) rfl rfl DG.a rfl) rfl (AV rfl) (AD.step (v:=(vN ts.length)) (AB rfl) (AF rfl Tryz.underlying23) rfl (AV rfl) (AD.step (v:=(Value.bool false)) (AB rfl) (DH (c:=false) rfl rfl (by simp;omega)) rfl (AV rfl) (AK (v:=(Value.bool false)) (AR rfl rfl) rfl ?_)))))
 refine AD.nil (AC.subF (sL [1,2,4,5,6,17] rfl) (AC.then_ (AE.cond_false rfl (AE.skip (q1 ?_)))))
 refine CS [(0,true),(1,true),(2,true),(3,true),(4,true),(5,true),(6,true),(7,true),(8,false),(9,false),(10,true)] sr (Ap (v:=(pP b1 1)) rfl (AA rfl Tryz.underlying30 rfl Tryz.sizeOf23 rfl) (Ba 3 (Value.slice x.b.p ts.length x.b.c) DG rfl (BT rfl (Ap (v:=(pP (pB x.b.p) (pO x.b.p+t*3))) rfl (AO (j:=t) rfl rfl x.b.ok Tryz.underlying23 Tryz.sizeOf53 rfl (by omega)) (Ap (v:=(aG (BA (ts.getD t ((0,0,0):Nat×Nat×Nat))))) rfl (AT (vs:=BA (ts.getD t ((0,0,0):Nat×Nat×Nat))) (i:=5) rfl rfl (A7.ne x.b.ok (by omega)) Gx (Aq Be _ _ _ (by omega)) (Be _)) ?_)))))
 refine Ap (v:=(pP b1 0)) rfl (AA rfl Tryz.underlying30 rfl Tryz.sizeOf28 rfl) (Ba 3 (Value.slice x.a.p ps.length x.a.c) CW rfl (Ap (v:=(vN ps.length)) rfl (AF rfl Tryz.underlying28) (OkE.imp rfl (al Ng rfl λb5=>OkE.back (sl sr) ?_))))
 refine OkE.imp rfl (A8 rfl Tryz.sizeOf53 rfl (OkE.back (sl sr) (pS' rfl (OkE.nil (AC.subF (sL [1,2,4,5,6,7,8] rfl) ?_)))))
 refine q1 (q4 (AK (v:=(pP b5 0)) (AI (j:=0) rfl rfl Tryz.underlying53 Tryz.sizeOf3 rfl (by decide) rfl) rfl (BJ 0 (vN ((ts.getD t ((0,0,0):Nat×Nat×Nat)).1)) Bo rfl (AQ rfl (CN (args:=[(vN ((ts.getD t ((0,0,0):Nat×Nat×Nat)).1)),(vN ps.length)]) (v:=(Value.bool true)) Tryz.call85 (λw hw=>(by have h9:=By ((ts.getD t ((0,0,0):Nat×Nat×Nat)).1) ps.length w;rw [decide_eq_true (by omega)] at h9;exact h9)) rfl ?_)))))
 refine AK (BF (c:=false) rfl rfl) rfl (AQ rfl (AD.step (v:=(pP b5 1)) (AB rfl) (AI (j:=1) rfl rfl Tryz.underlying53 Tryz.sizeOf3 rfl (by decide) rfl) rfl (AV rfl) (AD.step (v:=(vN ((ts.getD t ((0,0,0):Nat×Nat×Nat)).2.1))) (AB rfl) (AL (i:=0) (v:=(vN ((ts.getD t ((0,0,0):Nat×Nat×Nat)).2.1))) rfl rfl Bo.a rfl) rfl (AV rfl) (AD.step (v:=(vN ps.length)) (AB rfl) (A9 rfl) rfl (AV rfl) (AD.call (v:=(Value.bool true)) (AB rfl) (An (args:=[(vN ((ts.getD t ((0,0,0):Nat×Nat×Nat)).2.1)),(vN ps.length)]) rfl rfl Tryz.call85) (λw hw=>(by have h9:=By ((ts.getD t ((0,0,0):Nat×Nat×Nat)).2.1) ps.length w;rw [decide_eq_true (by omega)] at h9;exact h9)) rfl (AV rfl) ?_)))))
 refine AD.step (v:=(Value.bool false)) (AB rfl) (BF (c:=false) rfl rfl) rfl (AV rfl) (AK (v:=(Value.bool false)) (AR rfl rfl) rfl (AQ rfl (AD.step (v:=(pP b5 2)) (AB rfl) (AI (j:=2) rfl rfl Tryz.underlying53 Tryz.sizeOf3 rfl (by decide) rfl) rfl (AV rfl) (AD.step (v:=(vN ((ts.getD t ((0,0,0):Nat×Nat×Nat)).2.2))) (AB rfl) (AL (i:=0) (v:=(vN ((ts.getD t ((0,0,0):Nat×Nat×Nat)).2.2))) rfl rfl Bo.a rfl) rfl (AV rfl) (AD.step (v:=(vN ps.length)) (AB rfl) (A9 rfl) rfl (AV rfl) ?_)))))
 refine AD.call (v:=(Value.bool true)) (AB rfl) (An (args:=[(vN ((ts.getD t ((0,0,0):Nat×Nat×Nat)).2.2)),(vN ps.length)]) rfl rfl Tryz.call85) (λw hw=>(by have h9:=By ((ts.getD t ((0,0,0):Nat×Nat×Nat)).2.2) ps.length w;rw [decide_eq_true (by omega)] at h9;exact h9)) rfl (AV rfl) (AD.step (v:=(Value.bool false)) (AB rfl) (BF (c:=false) rfl rfl) rfl (AV rfl) (AK (v:=(Value.bool false)) (AR rfl rfl) rfl (AD.nil (AC.subF (sL [1,2,4,5,6,7,47] rfl) (AC.then_ ?_)))))
 refine AE.cond_false rfl (AE.skip (q1 (CS [(0,true),(1,true),(2,true),(3,true),(4,true),(5,true),(6,true),(7,true),(8,true),(9,true),(10,true),(11,true),(12,true),(13,true),(14,true),(15,true),(16,true),(17,true),(18,false),(19,false),(20,false)] (sk (sl (sl (sl sr)))) (Ap (v:=(pP b1 0)) rfl (AA rfl Tryz.underlying30 rfl Tryz.sizeOf28 rfl) (Ba 1 (Value.slice x.a.p ps.length x.a.c) CW rfl ?_)))))
 refine Ap (v:=(pP b5 0)) rfl (AI (j:=0) rfl rfl Tryz.underlying53 Tryz.sizeOf3 rfl (by decide) rfl) (Ba 0 (vN ((ts.getD t ((0,0,0):Nat×Nat×Nat)).1)) Bo rfl (Ap (v:=(pP (pB x.a.p) (pO x.a.p+((ts.getD t ((0,0,0):Nat×Nat×Nat)).1)*10))) rfl (AO (j:=(ts.getD t ((0,0,0):Nat×Nat×Nat)).1) rfl rfl x.a.ok Tryz.underlying28 Tryz.sizeOf51 rfl (by omega)) (Ap (v:=(aG (Af (ps.getD ((ts.getD t ((0,0,0):Nat×Nat×Nat)).1) (⟨0,0⟩:Pt))))) rfl (AT (vs:=Af (ps.getD ((ts.getD t ((0,0,0):Nat×Nat×Nat)).1) (⟨0,0⟩:Pt))) (i:=2) rfl rfl (A7.ne x.a.ok (by omega)) BM (Aq Av _ _ _ (by omega)) (Av _)) (Ap (v:=(pP b1 0)) rfl (AA rfl Tryz.underlying30 rfl Tryz.sizeOf28 rfl) (Ba 1 (Value.slice x.a.p ps.length x.a.c) CW rfl ?_)))))
 refine Ap (v:=(pP b5 1)) rfl (AI (j:=1) rfl rfl Tryz.underlying53 Tryz.sizeOf3 rfl (by decide) rfl) (Ba 0 (vN ((ts.getD t ((0,0,0):Nat×Nat×Nat)).2.1)) Bo rfl (Ap (v:=(pP (pB x.a.p) (pO x.a.p+((ts.getD t ((0,0,0):Nat×Nat×Nat)).2.1)*10))) rfl (AO (j:=(ts.getD t ((0,0,0):Nat×Nat×Nat)).2.1) rfl rfl x.a.ok Tryz.underlying28 Tryz.sizeOf51 rfl (by omega)) (Ap (v:=(aG (Af (ps.getD ((ts.getD t ((0,0,0):Nat×Nat×Nat)).2.1) (⟨0,0⟩:Pt))))) rfl (AT (vs:=Af (ps.getD ((ts.getD t ((0,0,0):Nat×Nat×Nat)).2.1) (⟨0,0⟩:Pt))) (i:=2) rfl rfl (A7.ne x.a.ok (by omega)) BM (Aq Av _ _ _ (by omega)) (Av _)) (Ap (v:=(pP b1 0)) rfl (AA rfl Tryz.underlying30 rfl Tryz.sizeOf28 rfl) (Ba 1 (Value.slice x.a.p ps.length x.a.c) CW rfl ?_)))))
 refine Ap (v:=(pP b5 2)) rfl (AI (j:=2) rfl rfl Tryz.underlying53 Tryz.sizeOf3 rfl (by decide) rfl) (Ba 0 (vN ((ts.getD t ((0,0,0):Nat×Nat×Nat)).2.2)) Bo rfl (Ap (v:=(pP (pB x.a.p) (pO x.a.p+((ts.getD t ((0,0,0):Nat×Nat×Nat)).2.2)*10))) rfl (AO (j:=(ts.getD t ((0,0,0):Nat×Nat×Nat)).2.2) rfl rfl x.a.ok Tryz.underlying28 Tryz.sizeOf51 rfl (by omega)) (Ap (v:=(aG (Af (ps.getD ((ts.getD t ((0,0,0):Nat×Nat×Nat)).2.2) (⟨0,0⟩:Pt))))) rfl (AT (vs:=Af (ps.getD ((ts.getD t ((0,0,0):Nat×Nat×Nat)).2.2) (⟨0,0⟩:Pt))) (i:=2) rfl rfl (A7.ne x.a.ok (by omega)) BM (Aq Av _ _ _ (by omega)) (Av _)) (OkE.imp rfl (H8 rfl Tryz.sizeOf51 rfl ?_)))))
 refine OkE.back (sk (sl (sl (sl sr)))) (OkE.imp rfl (I3 rfl Tryz.sizeOf51 rfl (OkE.back (sk (sl (sl (sl sr)))) (OkE.imp rfl (C6 rfl Tryz.sizeOf51 rfl ?_)))))
 exact OkE.back (sk (sl (sl (sl sr)))) (OkE.nil (AC.subF (sL [1,2,4,5,6,7] rfl) (AC.then_ (AE.ret (E7 rfl (Au (i:=3) (cs:=Af (ps.getD ((ts.getD t ((0,0,0):Nat×Nat×Nat)).1) (⟨0,0⟩:Pt))) rfl rfl Tryz.isAgg51 Tryz.sizeOf51 rfl) (Au (i:=2) (cs:=Af (ps.getD ((ts.getD t ((0,0,0):Nat×Nat×Nat)).2.1) (⟨0,0⟩:Pt))) rfl rfl Tryz.isAgg51 Tryz.sizeOf51 rfl) (Au (i:=1) (cs:=Af (ps.getD ((ts.getD t ((0,0,0):Nat×Nat×Nat)).2.2) (⟨0,0⟩:Pt))) rfl rfl Tryz.isAgg51 Tryz.sizeOf51 rfl) (λw hw=>⟨rfl,hw.out⟩))))))
end
section
set_option maxRecDepth 100000
theorem RR (a:Nat) (w:World)  :Calls Tryz.prog 207 #[(vN a)] w (Al w (Value.bool false)):=by
 refine Aa (args:=[(vN a)]) Tryz.func207 rfl rfl (AV rfl) (AE.subF (sL [0] rfl) (q4 (asg' rfl (AD.nil (q2 ?_)))))
 refine AQ rfl (AQ rfl (AK (Bk (c:=false) rfl rfl (by simp)) rfl (asg' rfl (AD.nil (AC.subF (sL [2] rfl) ?_)))))
 exact AC.then_ (AE.ret (AJ rfl (AS (v:=(Value.bool false)) rfl) (λw hw=>⟨rfl,hw.out⟩)))
theorem On (a b:Nat) (w:World)  :Calls Tryz.prog 157 #[(vN a),(vN b)] w (Al w (vI (Dl a b))):=by
 refine Aa (args:=[(vN a),(vN b)]) Tryz.func157 rfl rfl (AV rfl) (AE.subF (sL [0,1] rfl) (q4 (asg' rfl (AD.nil (q2 ?_)))))
 refine AQ rfl (ck' Tryz.call207 (RR a) rfl (asg' rfl (q3 (sL [0,1,4,5] rfl) (AQ rfl (ck' Tryz.call207 (RR b) rfl ?_)))))
 refine asg' rfl (q6 (sL [0,1,4,5,6] rfl) (q4 (AQ rfl (AD.nil (AC.subF (sL [0,1,4,6,11] rfl) ?_)))))
 refine AC.then_ (AE.cond_false rfl (AE.skip (q1 (q4 (AQ rfl ?_)))))
 refine AD.nil (AC.subF (sL [0,1,4,6,13] rfl) (AC.then_ (AE.cond_false rfl (AE.skip (q1 ?_)))))
 refine q4 (AQ rfl (AQ rfl (AK (Ai (c:=(decide (a<b))) rfl rfl (CI (a:=a) (b:=b))) rfl (AD.nil (AC.subF (sL [0,1,4,6,16] rfl) ?_)))))
 refine AC.then_ ?_
 refine AE.cond rfl (λhc3=>?_) (λhc3=>?_)
 ·replace hc3:=of_decide_eq_true hc3
  have hr:=OL hc3
  exact q4 (asg' rfl (AD.nil (AC.then_ (AE.ret (AC.then_ret (AJ rfl (AS (v:=(vI (-1:Int))) rfl) (λw hw=>⟨by rw [hr]<;>rfl,hw.out⟩)))))))
 ·replace hc3:=of_decide_eq_false hc3
  refine AE.skip (q1 (q4 (AQ rfl (AQ rfl (AK (Bb (c:=(decide (b<a))) rfl rfl (CI (a:=b) (b:=a))) rfl ?_)))))
  refine AD.nil (AC.subF (sL [0,1,4,6,19] rfl) (AC.then_ ?_))
  refine AE.cond rfl (λhc4=>?_) (λhc4=>?_)
  ·replace hc4:=of_decide_eq_true hc4
   have hr:=Oo hc3 hc4
   exact q4 (asg' rfl (AD.nil (AC.then_ (AE.ret (AC.then_ret (AJ rfl (AS (v:=(vI 1)) rfl) (λw hw=>⟨by rw [hr]<;>rfl,hw.out⟩)))))))
  ·replace hc4:=of_decide_eq_false hc4
   have hr:=OG hc3 hc4
   exact AE.skip (q2 (asg' rfl (AD.nil (AC.then_ (AE.ret (AJ rfl (AS (v:=(vI 0)) rfl) (λw hw=>⟨by rw [hr]<;>rfl,hw.out⟩)))))))
theorem R_ (a b:Int) (g:Nat) (w:World) (hg:w.heap[g]?=some (.cells ([(vI a),(vI b)]).toArray 3 (0,0))):Calls Tryz.prog 156 #[(Value.slice (some ⟨g,0,none⟩) 2 2)] w (λe w'=>e=.returned (Value.int .i64 (S6 a b))/\JF w w' (some g)/\w'.heap[g]?=some (.cells ([(vI a),(vI b)]).toArray 3 (0,0))):=by
 refine HX (args:=[(Value.slice (some ⟨g,0,none⟩) 2 2)]) (g:=g) (T:=3) (cs:=[(vI a),(vI b)]) Tryz.func156 rfl rfl (AV rfl) hg (AE.subF (sL [0] rfl) (q4 (asg' rfl (AD.nil (q2 ?_)))))
 refine asg' rfl (AD.nil (q1 (q4 (AQ rfl (AK (v:=(vI 2)) (AF rfl Tryz.underlying70) rfl ?_)))))
 refine AQ rfl (AD.nil (AC.subF (sL [2,3,6,7,8] rfl) (AC.then_ (AE.block (AE.unroll 4 ?_)))))
 refine FY.step (q4 (AK (Ai (c:=true) rfl rfl (by decide)) rfl (AD.nil (q1 (AE.cond_true rfl ?_)))))
 refine AE.skip (q1 (AE.block (q4 (AK (v:=(pP g 0)) (AM (j:=0) rfl rfl Tryz.underlying70 Tryz.sizeOf3 rfl (by omega) rfl) rfl (BJ 0 (vI a) Bo rfl ?_)))))
 refine asg' rfl (q3 (sL [2,3,6,7,8,5] rfl) (AQ rfl (AQ rfl (AK (Bk (c:=(decide (a≠(0:Int)))) rfl rfl rfl) rfl (AD.nil ?_)))))
 refine AC.subF (sL [2,3,6,7,8,5,14] rfl) (AC.then_ ?_)
 refine AE.cond rfl (λhc1=>?_) (λhc1=>?_)
 ·replace hc1:=of_decide_eq_true hc1
  have hr:S6 a b=a:=if_pos hc1
  refine q4 (AQ rfl (asg' rfl (AD.nil (AC.subF (sL [2,3,6,7,8,5] rfl) (AC.then_ ?_)))))
  exact AE.ret (AC.in_ret (AC.then_ret (AC.then_ret (AC.in_ret (AC.then_ret (AJ rfl (AS (v:=(vI a)) rfl) (λw hw=>⟨by rw [hr]<;>rfl,hw.1,hw.get (i:=0) rfl⟩)))))))
 ·replace hc1:=of_decide_eq_false hc1
  have hq:=hc1
  refine AE.skip (AC.in_normal (AC.then_ (AE.region (AK (Ac (c:=(1:Int)) rfl rfl (by decide)) rfl (AQ rfl ?_)))))
  refine AD.nil (AC.subF (sL [2,3,6,7,8,5] rfl) (AC.again (FY.step (q4 (AK (Ai (c:=true) rfl rfl (by decide)) rfl ?_)))))
  refine AD.nil (q1 (AE.cond_true rfl (AE.skip (q1 (AE.block ?_)))))
  refine q4 (AK (v:=(pP g 1)) (AM (j:=1) rfl rfl Tryz.underlying70 Tryz.sizeOf3 rfl (by omega) rfl) rfl (BJ 0 (vI b) Bo rfl (asg' rfl (q3 (sL [2,3,6,7,8,5] rfl) (AQ rfl ?_)))))
  refine AQ rfl (AK (Bk (c:=(decide (b≠(0:Int)))) rfl rfl rfl) rfl (AD.nil (AC.subF (sL [2,3,6,7,8,5,14] rfl) (AC.then_ ?_))))
  refine AE.cond rfl (λhc1=>?_) (λhc1=>?_)
  ·replace hc1:=of_decide_eq_true hc1
   have hr:S6 a b=b:=by rw [S6,if_neg hq,if_pos hc1]
   refine q4 (AQ rfl (asg' rfl (AD.nil (AC.subF (sL [2,3,6,7,8,5] rfl) (AC.then_ ?_)))))
   exact AE.ret (AC.in_ret (AC.then_ret (AC.then_ret (AC.in_ret (AC.then_ret (AJ rfl (AS (v:=(vI b)) rfl) (λw hw=>⟨by rw [hr]<;>rfl,hw.1,hw.get (i:=0) rfl⟩)))))))
  ·replace hc1:=of_decide_eq_false hc1
   have hr:S6 a b=0:=by rw [S6,if_neg hq,if_neg hc1]
   refine AE.skip (AC.in_normal (AC.then_ (AE.region (AK (Ac (c:=(2:Int)) rfl rfl (by decide)) rfl (AQ rfl ?_)))))
   refine AD.nil (AC.subF (sL [2,3,6,7,8,5] rfl) (AC.again (FY.step (q4 (AK (Ai (c:=false) rfl rfl (by decide)) rfl ?_)))))
   refine AD.nil (q1 (AE.cond_false rfl (AE.exit (AC.then_exit (AC.then_exit ?_)))))
   refine AC.in_exit (q2 (AQ rfl (asg' rfl (AD.nil (AC.subF (sL [2,3,6,7,8,5] rfl) ?_)))))
   exact AC.then_ (AE.ret (AJ rfl (AS (v:=(vI 0)) rfl) (λw hw=>⟨by rw [hr]<;>rfl,hw.1,hw.get (i:=0) rfl⟩)))
end
end Go.Proofs.YtpgncndhhhllfaaGreatDoor
