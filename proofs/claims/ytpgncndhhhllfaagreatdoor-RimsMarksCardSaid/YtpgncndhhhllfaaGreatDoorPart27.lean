import Derived.Test.YtpgncndhhhllfaaGreatDoorPart06
import Derived.Test.YtpgncndhhhllfaaGreatDoorPart25
import Derived.Test.YtpgncndhhhllfaaGreatDoorPart26
namespace Go.Proofs.YtpgncndhhhllfaaGreatDoor
open Go Go.RowKit Go.Proofs.Tryz
set_option linter.unusedVariables false
set_option linter.unusedSimpArgs false
section
set_option maxRecDepth 100000
theorem JI (p n:Nat) (w:World)  :Calls Tryz.prog 85 #[(vN p),(vN n)] w (An w (Value.bool (decide (p<n)))):=by
 refine Ag (args:=[(vN p),(vN n)]) Tryz.func85 rfl rfl (AY rfl) (AF.subF (sL [0,1] rfl) (q4 (asg' rfl (AD.nil (q2 ?_)))))
 refine AJ rfl (AH (C_ (c:=(decide (0<=p))) rfl rfl (S7 (a:=0) (b:=p))) rfl (AJ rfl ?_))
 refine AD.mid (FM:=[(0,(vN p)),(1,(vN n)),(4,(Value.bool false)),(5,(vN p)),(6,(Value.bool (decide (0<=p)))),(7,(Value.bool (decide (0<=p)))),(11,(Value.bool ((decide (0<=p))&&(decide (p<n)))))]) (LM:=[]) 4 ?_ ?_
 ·rcases Bool.eq_false_or_eq_true (decide (0<=p)) with hg1|hg1
  ·skip
   refine AD.retell (k:=7) (u:=Value.bool true) rfl (by rw [hg1]) ?_
   have hg1':=hg1
   replace hg1':=of_decide_eq_true hg1'
   exact AD.step (v:=(vN p)) (AB rfl) (Ai rfl) rfl (AY rfl) (AD.step (v:=(vN n)) (AB rfl) (Ai rfl) rfl (AY rfl) (AD.step (v:=(Value.bool (decide (p<n)))) (AB rfl) (Ad (c:=(decide (p<n))) rfl rfl (CB (a:=p) (b:=n))) rfl (AY rfl) (AH (v:=(Value.bool (decide (p<n)))) (AT rfl rfl) rfl (AD.nil (AC.mid (sS rfl (sS rfl (sS rfl (sS rfl (sS rfl (sS (by first|rfl|(rw [hg1];rfl)|rw [hg1]) (sS (by first|rfl|(rw [hg1];rfl)|rw [hg1]) (sN)))))))) (List.Sublist.refl _))))))
  ·skip
   refine AD.retell (k:=7) (u:=Value.bool false) rfl (by rw [hg1]) ?_
   have hg1':=hg1
   replace hg1':=of_decide_eq_false hg1'
   exact AD.skip (AG rfl) rfl (AY rfl) (AD.skip (AG rfl) rfl (AY rfl) (AD.skip (AG rfl) rfl (AY rfl) (AH (v:=(Value.bool false)) (AV rfl rfl) rfl (AD.nil (AC.mid (sS rfl (sS rfl (sS rfl (sS rfl (sS rfl (sS (by first|rfl|(rw [hg1];rfl)|rw [hg1]) (sS (by first|rfl|(rw [hg1];rfl)|rw [hg1]) (sN)))))))) (List.Sublist.refl _))))))
 exact asg' rfl (AD.nil (AC.subF (sL [4] rfl) (AC.then_ (AF.ret (AN rfl (AQ (v:=(Value.bool ((decide (0<=p))&&(decide (p<n))))) rfl) (λw hw=>⟨by simp,hw.out⟩))))))
theorem SI (t:Nat×Nat×Nat) (n:Nat) (bo:BX [vN n]) (w:World) {S:Nat->Prop} (hbo:Ro S w bo):Calls Tryz.prog 189 #[(aG (Aq t)),(pP bo.b 0)] w (An w (Value.bool (!PI n t))):=by
 have lbo:=DF (W:=w) hbo
 refine Ah (args:=[(aG (Aq t)),(pP bo.b 0)]) (L:=[AI (some ⟨bo.b,0,none⟩) ([(vN n)])]) Tryz.func189 rfl rfl (AY rfl) (EV hbo Ar) (AF.subF (sL [0,1] rfl) (q4 (B9 (cs:=Aq t) rfl λb1=>asg' rfl (q3 (sL [1,2,3] rfl) ?_))))
 refine AH (v:=(pP b1 0)) (AX (j:=0) rfl rfl Tryz.underlying53 Tryz.sizeOf3 rfl (by decide) rfl) rfl (BD 0 (vN t.1) Be rfl (AH (AZ (q:=some ⟨bo.b,0,none⟩) (v:=(vN n)) (off:=0) (i:=1) rfl rfl (λe=>by cases e) Be rfl) rfl (ck' Tryz.call85 (JI t.1 n) rfl (AH (Bw (c:=(!(decide (t.1<n)))) rfl rfl) rfl (AJ rfl ?_)))))
 refine AD.mid (FM:=[(1,(pP bo.b 0)),(2,(pP b1 0)),(3,(Value.bool false)),(4,(pP b1 0)),(5,(vN t.1)),(6,(vN n)),(7,(Value.bool (decide (t.1<n)))),(8,(Value.bool (!(decide (t.1<n))))),(9,(Value.bool (!(decide (t.1<n))))),(15,(Value.bool ((!(decide (t.1<n)))||(!(decide (t.2.1<n))))))]) (LM:=[Ab b1 53 (Aq t),AI (some ⟨bo.b,0,none⟩) ([(vN n)])]) 6 ?_ ?_
 ·rcases Bool.eq_false_or_eq_true (!(decide (t.1<n))) with hg1|hg1
  ·skip
   refine AD.retell (k:=9) (u:=Value.bool true) rfl (by rw [hg1]) ?_
   have hg1':=hg1
   simp only [Bool.and_eq_true,Bool.or_eq_true,Bool.and_eq_false_iff,Bool.or_eq_false_iff,Bool.not_eq_true',Bool.not_eq_false',decide_eq_true_eq,decide_eq_false_iff_not] at hg1'
   refine AD.skip (AG rfl) rfl (AY rfl) (AD.skip (AG rfl) rfl (AY rfl) (AD.skip (AG rfl) rfl (AY rfl) (AD.skip (AG rfl) rfl (AY rfl) (AD.skip (AG rfl) rfl (AY rfl) (AH (v:=(Value.bool true)) (AT rfl rfl) rfl ?_)))))
   exact AD.nil (AC.mid (sS rfl (sS rfl (sS rfl (sS rfl (sS rfl (sS rfl (sS rfl (sS rfl (sS (by first|rfl|(rw [hg1];rfl)|rw [hg1]) (sS (by first|rfl|(rw [hg1];rfl)|rw [hg1]) (sN))))))))))) (List.Sublist.refl _))
  ·skip
   refine AD.retell (k:=9) (u:=Value.bool false) rfl (by rw [hg1]) ?_
   have hg1':=hg1
   simp only [Bool.and_eq_true,Bool.or_eq_true,Bool.and_eq_false_iff,Bool.or_eq_false_iff,Bool.not_eq_true',Bool.not_eq_false',decide_eq_true_eq,decide_eq_false_iff_not] at hg1'
   refine AD.step (v:=(pP b1 1)) (AB rfl) (AX (j:=1) rfl rfl Tryz.underlying53 Tryz.sizeOf3 rfl (by decide) rfl) rfl (AY rfl) (AD.step (v:=(vN t.2.1)) (AB rfl) (AP (i:=0) (v:=(vN t.2.1)) rfl rfl Be.a rfl) rfl (AY rfl) (AD.step (v:=(vN n)) (AB rfl) (AZ (q:=some ⟨bo.b,0,none⟩) (v:=(vN n)) (off:=0) (i:=1) rfl rfl (λe=>by cases e) Be rfl) rfl (AY rfl) (AD.call (v:=(Value.bool (decide (t.2.1<n)))) (AB rfl) (Ay (args:=[(vN t.2.1),(vN n)]) rfl rfl Tryz.call85) (λw hw=>JI t.2.1 n w) rfl (AY rfl) (AD.step (v:=(Value.bool (!(decide (t.2.1<n))))) (AB rfl) (Bw (c:=(!(decide (t.2.1<n)))) rfl rfl) rfl (AY rfl) (AH (v:=(Value.bool (!(decide (t.2.1<n))))) (AV rfl rfl) rfl ?_)))))
   exact AD.nil (AC.mid (sS rfl (sS rfl (sS rfl (sS rfl (sS rfl (sS rfl (sS rfl (sS rfl (sS (by first|rfl|(rw [hg1];rfl)|rw [hg1]) (sS (by first|rfl|(rw [hg1];rfl)|rw [hg1]) (sN))))))))))) (List.Sublist.refl _))
 refine AJ rfl ?_
 refine AD.mid (FM:=[(1,(pP bo.b 0)),(2,(pP b1 0)),(3,(Value.bool false)),(4,(pP b1 0)),(5,(vN t.1)),(6,(vN n)),(7,(Value.bool (decide (t.1<n)))),(8,(Value.bool (!(decide (t.1<n))))),(9,(Value.bool (!(decide (t.1<n))))),(15,(Value.bool ((!(decide (t.1<n)))||(!(decide (t.2.1<n)))))),(16,(Value.bool ((!(decide (t.1<n)))||(!(decide (t.2.1<n)))))),(22,(Value.bool (((!(decide (t.1<n)))||(!(decide (t.2.1<n))))||(!(decide (t.2.2<n))))))]) (LM:=[Ab b1 53 (Aq t),AI (some ⟨bo.b,0,none⟩) ([(vN n)])]) 6 ?_ ?_
 ·rcases Bool.eq_false_or_eq_true ((!(decide (t.1<n)))||(!(decide (t.2.1<n)))) with hg2|hg2
  ·skip
   refine AD.retell (k:=16) (u:=Value.bool true) rfl (by rw [hg2]) ?_
   have hg2':=hg2
   simp only [Bool.and_eq_true,Bool.or_eq_true,Bool.and_eq_false_iff,Bool.or_eq_false_iff,Bool.not_eq_true',Bool.not_eq_false',decide_eq_true_eq,decide_eq_false_iff_not] at hg2'
   refine AD.skip (AG rfl) rfl (AY rfl) (AD.skip (AG rfl) rfl (AY rfl) (AD.skip (AG rfl) rfl (AY rfl) (AD.skip (AG rfl) rfl (AY rfl) (AD.skip (AG rfl) rfl (AY rfl) (AH (v:=(Value.bool true)) (AT rfl rfl) rfl ?_)))))
   exact AD.nil (AC.mid (sS rfl (sS rfl (sS rfl (sS rfl (sS rfl (sS rfl (sS rfl (sS rfl (sS rfl (sS rfl (sS (by first|rfl|(rw [hg2];rfl)|rw [hg2]) (sS (by first|rfl|(rw [hg2];rfl)|rw [hg2]) (sN))))))))))))) (List.Sublist.refl _))
  ·skip
   refine AD.retell (k:=16) (u:=Value.bool false) rfl (by rw [hg2]) ?_
   have hg2':=hg2
   simp only [Bool.and_eq_true,Bool.or_eq_true,Bool.and_eq_false_iff,Bool.or_eq_false_iff,Bool.not_eq_true',Bool.not_eq_false',decide_eq_true_eq,decide_eq_false_iff_not] at hg2'
   refine AD.step (v:=(pP b1 2)) (AB rfl) (AX (j:=2) rfl rfl Tryz.underlying53 Tryz.sizeOf3 rfl (by decide) rfl) rfl (AY rfl) (AD.step (v:=(vN t.2.2)) (AB rfl) (AP (i:=0) (v:=(vN t.2.2)) rfl rfl Be.a rfl) rfl (AY rfl) (AD.step (v:=(vN n)) (AB rfl) (AZ (q:=some ⟨bo.b,0,none⟩) (v:=(vN n)) (off:=0) (i:=1) rfl rfl (λe=>by cases e) Be rfl) rfl (AY rfl) (AD.call (v:=(Value.bool (decide (t.2.2<n)))) (AB rfl) (Ay (args:=[(vN t.2.2),(vN n)]) rfl rfl Tryz.call85) (λw hw=>JI t.2.2 n w) rfl (AY rfl) (AD.step (v:=(Value.bool (!(decide (t.2.2<n))))) (AB rfl) (Bw (c:=(!(decide (t.2.2<n)))) rfl rfl) rfl (AY rfl) (AH (v:=(Value.bool (!(decide (t.2.2<n))))) (AV rfl rfl) rfl ?_)))))
   exact AD.nil (AC.mid (sS rfl (sS rfl (sS rfl (sS rfl (sS rfl (sS rfl (sS rfl (sS rfl (sS rfl (sS rfl (sS (by first|rfl|(rw [hg2];rfl)|rw [hg2]) (sS (by first|rfl|(rw [hg2];rfl)|rw [hg2]) (sN))))))))))))) (List.Sublist.refl _))
 refine AJ rfl ?_
 refine AD.mid (FM:=[(1,(pP bo.b 0)),(2,(pP b1 0)),(3,(Value.bool false)),(4,(pP b1 0)),(5,(vN t.1)),(6,(vN n)),(7,(Value.bool (decide (t.1<n)))),(8,(Value.bool (!(decide (t.1<n))))),(9,(Value.bool (!(decide (t.1<n))))),(15,(Value.bool ((!(decide (t.1<n)))||(!(decide (t.2.1<n)))))),(16,(Value.bool ((!(decide (t.1<n)))||(!(decide (t.2.1<n)))))),(22,(Value.bool (((!(decide (t.1<n)))||(!(decide (t.2.1<n))))||(!(decide (t.2.2<n)))))),(23,(Value.bool (((!(decide (t.1<n)))||(!(decide (t.2.1<n))))||(!(decide (t.2.2<n)))))),(29,(Value.bool ((((!(decide (t.1<n)))||(!(decide (t.2.1<n))))||(!(decide (t.2.2<n))))||(decide (t.1=t.2.1)))))]) (LM:=[Ab b1 53 (Aq t),AI (some ⟨bo.b,0,none⟩) ([(vN n)])]) 6 ?_ ?_
 ·rcases Bool.eq_false_or_eq_true (((!(decide (t.1<n)))||(!(decide (t.2.1<n))))||(!(decide (t.2.2<n)))) with hg3|hg3
  ·skip
   refine AD.retell (k:=23) (u:=Value.bool true) rfl (by rw [hg3]) ?_
   have hg3':=hg3
   simp only [Bool.and_eq_true,Bool.or_eq_true,Bool.and_eq_false_iff,Bool.or_eq_false_iff,Bool.not_eq_true',Bool.not_eq_false',decide_eq_true_eq,decide_eq_false_iff_not] at hg3'
   refine AD.skip (AG rfl) rfl (AY rfl) (AD.skip (AG rfl) rfl (AY rfl) (AD.skip (AG rfl) rfl (AY rfl) (AD.skip (AG rfl) rfl (AY rfl) (AD.skip (AG rfl) rfl (AY rfl) (AH (v:=(Value.bool true)) (AT rfl rfl) rfl ?_)))))
   exact AD.nil (AC.mid (sS rfl (sS rfl (sS rfl (sS rfl (sS rfl (sS rfl (sS rfl (sS rfl (sS rfl (sS rfl (sS rfl (sS rfl (sS (by first|rfl|(rw [hg3];rfl)|rw [hg3]) (sS (by first|rfl|(rw [hg3];rfl)|rw [hg3]) (sN))))))))))))))) (List.Sublist.refl _))
  ·skip
   refine AD.retell (k:=23) (u:=Value.bool false) rfl (by rw [hg3]) ?_
   have hg3':=hg3
   simp only [Bool.and_eq_true,Bool.or_eq_true,Bool.and_eq_false_iff,Bool.or_eq_false_iff,Bool.not_eq_true',Bool.not_eq_false',decide_eq_true_eq,decide_eq_false_iff_not] at hg3'
   refine AD.step (v:=(pP b1 0)) (AB rfl) (AX (j:=0) rfl rfl Tryz.underlying53 Tryz.sizeOf3 rfl (by decide) rfl) rfl (AY rfl) (AD.step (v:=(vN t.1)) (AB rfl) (AP (i:=0) (v:=(vN t.1)) rfl rfl Be.a rfl) rfl (AY rfl) (AD.step (v:=(pP b1 1)) (AB rfl) (AX (j:=1) rfl rfl Tryz.underlying53 Tryz.sizeOf3 rfl (by decide) rfl) rfl (AY rfl) (AD.step (v:=(vN t.2.1)) (AB rfl) (AP (i:=0) (v:=(vN t.2.1)) rfl rfl Be.a rfl) rfl (AY rfl) (AD.step (v:=(Value.bool (decide (t.1=t.2.1)))) (AB rfl) (BJ (c:=(decide (t.1=t.2.1))) rfl rfl (RG (a:=t.1) (b:=t.2.1))) rfl (AY rfl) (AH (v:=(Value.bool (decide (t.1=t.2.1)))) (AV rfl rfl) rfl ?_)))))
   exact AD.nil (AC.mid (sS rfl (sS rfl (sS rfl (sS rfl (sS rfl (sS rfl (sS rfl (sS rfl (sS rfl (sS rfl (sS rfl (sS rfl (sS (by first|rfl|(rw [hg3];rfl)|rw [hg3]) (sS (by first|rfl|(rw [hg3];rfl)|rw [hg3]) (sN))))))))))))))) (List.Sublist.refl _))
 refine AJ rfl ?_
 refine AD.mid (FM:=[(1,(pP bo.b 0)),(2,(pP b1 0)),(3,(Value.bool false)),(4,(pP b1 0)),(5,(vN t.1)),(6,(vN n)),(7,(Value.bool (decide (t.1<n)))),(8,(Value.bool (!(decide (t.1<n))))),(9,(Value.bool (!(decide (t.1<n))))),(15,(Value.bool ((!(decide (t.1<n)))||(!(decide (t.2.1<n)))))),(16,(Value.bool ((!(decide (t.1<n)))||(!(decide (t.2.1<n)))))),(22,(Value.bool (((!(decide (t.1<n)))||(!(decide (t.2.1<n))))||(!(decide (t.2.2<n)))))),(23,(Value.bool (((!(decide (t.1<n)))||(!(decide (t.2.1<n))))||(!(decide (t.2.2<n)))))),(29,(Value.bool ((((!(decide (t.1<n)))||(!(decide (t.2.1<n))))||(!(decide (t.2.2<n))))||(decide (t.1=t.2.1))))),(30,(Value.bool ((((!(decide (t.1<n)))||(!(decide (t.2.1<n))))||(!(decide (t.2.2<n))))||(decide (t.1=t.2.1))))),(36,(Value.bool (((((!(decide (t.1<n)))||(!(decide (t.2.1<n))))||(!(decide (t.2.2<n))))||(decide (t.1=t.2.1)))||(decide (t.2.1=t.2.2)))))]) (LM:=[Ab b1 53 (Aq t),AI (some ⟨bo.b,0,none⟩) ([(vN n)])]) 6 ?_ ?_
 ·rcases Bool.eq_false_or_eq_true ((((!(decide (t.1<n)))||(!(decide (t.2.1<n))))||(!(decide (t.2.2<n))))||(decide (t.1=t.2.1))) with hg4|hg4
  ·skip
   refine AD.retell (k:=30) (u:=Value.bool true) rfl (by rw [hg4]) ?_
   have hg4':=hg4
   simp only [Bool.and_eq_true,Bool.or_eq_true,Bool.and_eq_false_iff,Bool.or_eq_false_iff,Bool.not_eq_true',Bool.not_eq_false',decide_eq_true_eq,decide_eq_false_iff_not] at hg4'
   refine AD.skip (AG rfl) rfl (AY rfl) (AD.skip (AG rfl) rfl (AY rfl) (AD.skip (AG rfl) rfl (AY rfl) (AD.skip (AG rfl) rfl (AY rfl) (AD.skip (AG rfl) rfl (AY rfl) (AH (v:=(Value.bool true)) (AT rfl rfl) rfl ?_)))))
   exact AD.nil (AC.mid (sS rfl (sS rfl (sS rfl (sS rfl (sS rfl (sS rfl (sS rfl (sS rfl (sS rfl (sS rfl (sS rfl (sS rfl (sS rfl (sS rfl (sS (by first|rfl|(rw [hg4];rfl)|rw [hg4]) (sS (by first|rfl|(rw [hg4];rfl)|rw [hg4]) (sN))))))))))))))))) (List.Sublist.refl _))
  ·skip
   refine AD.retell (k:=30) (u:=Value.bool false) rfl (by rw [hg4]) ?_
   have hg4':=hg4
   simp only [Bool.and_eq_true,Bool.or_eq_true,Bool.and_eq_false_iff,Bool.or_eq_false_iff,Bool.not_eq_true',Bool.not_eq_false',decide_eq_true_eq,decide_eq_false_iff_not] at hg4'
   refine AD.step (v:=(pP b1 1)) (AB rfl) (AX (j:=1) rfl rfl Tryz.underlying53 Tryz.sizeOf3 rfl (by decide) rfl) rfl (AY rfl) (AD.step (v:=(vN t.2.1)) (AB rfl) (AP (i:=0) (v:=(vN t.2.1)) rfl rfl Be.a rfl) rfl (AY rfl) (AD.step (v:=(pP b1 2)) (AB rfl) (AX (j:=2) rfl rfl Tryz.underlying53 Tryz.sizeOf3 rfl (by decide) rfl) rfl (AY rfl) (AD.step (v:=(vN t.2.2)) (AB rfl) (AP (i:=0) (v:=(vN t.2.2)) rfl rfl Be.a rfl) rfl (AY rfl) (AD.step (v:=(Value.bool (decide (t.2.1=t.2.2)))) (AB rfl) (BJ (c:=(decide (t.2.1=t.2.2))) rfl rfl (RG (a:=t.2.1) (b:=t.2.2))) rfl (AY rfl) (AH (v:=(Value.bool (decide (t.2.1=t.2.2)))) (AV rfl rfl) rfl ?_)))))
   exact AD.nil (AC.mid (sS rfl (sS rfl (sS rfl (sS rfl (sS rfl (sS rfl (sS rfl (sS rfl (sS rfl (sS rfl (sS rfl (sS rfl (sS rfl (sS rfl (sS (by first|rfl|(rw [hg4];rfl)|rw [hg4]) (sS (by first|rfl|(rw [hg4];rfl)|rw [hg4]) (sN))))))))))))))))) (List.Sublist.refl _))
 refine AJ rfl ?_
 refine AD.mid (FM:=[(1,(pP bo.b 0)),(2,(pP b1 0)),(3,(Value.bool false)),(4,(pP b1 0)),(5,(vN t.1)),(6,(vN n)),(7,(Value.bool (decide (t.1<n)))),(8,(Value.bool (!(decide (t.1<n))))),(9,(Value.bool (!(decide (t.1<n))))),(15,(Value.bool ((!(decide (t.1<n)))||(!(decide (t.2.1<n)))))),(16,(Value.bool ((!(decide (t.1<n)))||(!(decide (t.2.1<n)))))),(22,(Value.bool (((!(decide (t.1<n)))||(!(decide (t.2.1<n))))||(!(decide (t.2.2<n)))))),(23,(Value.bool (((!(decide (t.1<n)))||(!(decide (t.2.1<n))))||(!(decide (t.2.2<n)))))),(29,(Value.bool ((((!(decide (t.1<n)))||(!(decide (t.2.1<n))))||(!(decide (t.2.2<n))))||(decide (t.1=t.2.1))))),(30,(Value.bool ((((!(decide (t.1<n)))||(!(decide (t.2.1<n))))||(!(decide (t.2.2<n))))||(decide (t.1=t.2.1))))),(36,(Value.bool (((((!(decide (t.1<n)))||(!(decide (t.2.1<n))))||(!(decide (t.2.2<n))))||(decide (t.1=t.2.1)))||(decide (t.2.1=t.2.2))))),(37,(Value.bool (((((!(decide (t.1<n)))||(!(decide (t.2.1<n))))||(!(decide (t.2.2<n))))||(decide (t.1=t.2.1)))||(decide (t.2.1=t.2.2))))),(43,(Value.bool ((((((!(decide (t.1<n)))||(!(decide (t.2.1<n))))||(!(decide (t.2.2<n))))||(decide (t.1=t.2.1)))||(decide (t.2.1=t.2.2)))||(decide (t.2.2=t.1)))))]) (LM:=[Ab b1 53 (Aq t),AI (some ⟨bo.b,0,none⟩) ([(vN n)])]) 6 ?_ ?_
 ·rcases Bool.eq_false_or_eq_true (((((!(decide (t.1<n)))||(!(decide (t.2.1<n))))||(!(decide (t.2.2<n))))||(decide (t.1=t.2.1)))||(decide (t.2.1=t.2.2))) with hg5|hg5
  ·skip
   refine AD.retell (k:=37) (u:=Value.bool true) rfl (by rw [hg5]) ?_
   have hg5':=hg5
   simp only [Bool.and_eq_true,Bool.or_eq_true,Bool.and_eq_false_iff,Bool.or_eq_false_iff,Bool.not_eq_true',Bool.not_eq_false',decide_eq_true_eq,decide_eq_false_iff_not] at hg5'
   refine AD.skip (AG rfl) rfl (AY rfl) (AD.skip (AG rfl) rfl (AY rfl) (AD.skip (AG rfl) rfl (AY rfl) (AD.skip (AG rfl) rfl (AY rfl) (AD.skip (AG rfl) rfl (AY rfl) (AH (v:=(Value.bool true)) (AT rfl rfl) rfl ?_)))))
   exact AD.nil (AC.mid (sS rfl (sS rfl (sS rfl (sS rfl (sS rfl (sS rfl (sS rfl (sS rfl (sS rfl (sS rfl (sS rfl (sS rfl (sS rfl (sS rfl (sS rfl (sS rfl (sS (by first|rfl|(rw [hg5];rfl)|rw [hg5]) (sS (by first|rfl|(rw [hg5];rfl)|rw [hg5]) (sN))))))))))))))))))) (List.Sublist.refl _))
  ·skip
   refine AD.retell (k:=37) (u:=Value.bool false) rfl (by rw [hg5]) ?_
   have hg5':=hg5
   simp only [Bool.and_eq_true,Bool.or_eq_true,Bool.and_eq_false_iff,Bool.or_eq_false_iff,Bool.not_eq_true',Bool.not_eq_false',decide_eq_true_eq,decide_eq_false_iff_not] at hg5'
   refine AD.step (v:=(pP b1 2)) (AB rfl) (AX (j:=2) rfl rfl Tryz.underlying53 Tryz.sizeOf3 rfl (by decide) rfl) rfl (AY rfl) (AD.step (v:=(vN t.2.2)) (AB rfl) (AP (i:=0) (v:=(vN t.2.2)) rfl rfl Be.a rfl) rfl (AY rfl) (AD.step (v:=(pP b1 0)) (AB rfl) (AX (j:=0) rfl rfl Tryz.underlying53 Tryz.sizeOf3 rfl (by decide) rfl) rfl (AY rfl) (AD.step (v:=(vN t.1)) (AB rfl) (AP (i:=0) (v:=(vN t.1)) rfl rfl Be.a rfl) rfl (AY rfl) (AD.step (v:=(Value.bool (decide (t.2.2=t.1)))) (AB rfl) (BJ (c:=(decide (t.2.2=t.1))) rfl rfl (RG (a:=t.2.2) (b:=t.1))) rfl (AY rfl) (AH (v:=(Value.bool (decide (t.2.2=t.1)))) (AV rfl rfl) rfl ?_)))))
   exact AD.nil (AC.mid (sS rfl (sS rfl (sS rfl (sS rfl (sS rfl (sS rfl (sS rfl (sS rfl (sS rfl (sS rfl (sS rfl (sS rfl (sS rfl (sS rfl (sS rfl (sS rfl (sS (by first|rfl|(rw [hg5];rfl)|rw [hg5]) (sS (by first|rfl|(rw [hg5];rfl)|rw [hg5]) (sN))))))))))))))))))) (List.Sublist.refl _))
 exact asg' rfl (AD.nil (AC.subF (sL [3] rfl) (AC.then_ (AF.ret (AN rfl (AQ (v:=(Value.bool ((((((!(decide (t.1<n)))||(!(decide (t.2.1<n))))||(!(decide (t.2.2<n))))||(decide (t.1=t.2.1)))||(decide (t.2.1=t.2.2)))||(decide (t.2.2=t.1))))) rfl) (λw hw=>⟨by congr 2;rw [Bool.eq_iff_iff];simp [PI]<;>omega,hw.out⟩))))))
theorem XH (n:Nat) (bo:BX [vN n]) (ts:List (Nat×Nat×Nat)) (x:RX (rowsL Aq ts) ts.length) (hl:ts.length<4611686018427387904) (w:World) {S:Nat->Prop} (hbo:Ro S w bo) (hx:Ro S w x):Calls Tryz.prog 244 #[(Value.slice x.p ts.length x.c),(Value.func (.func 189) #[] #[(pP bo.b 0)])] w (An w (vI (idxB n ts 0))):=by
 have lbo:=DF (W:=w) hbo
 have lx:=DF (W:=w) hx
 refine Ah (args:=[(Value.slice x.p ts.length x.c),(Value.func (.func 189) #[] #[(pP bo.b 0)])]) (L:=[AI (some ⟨bo.b,0,none⟩) ([(vN n)]),AI x.p (rowsL Aq ts)]) Tryz.func244 rfl rfl (AY rfl) (EV hbo (EV hx Ar)) (AF.subF (sL [0,1] rfl) (q4 (asg' rfl (AD.nil (q1 ?_)))))
 refine q4 (AJ rfl (AH (v:=(vN ts.length)) (AE rfl Tryz.underlying23) rfl (AJ rfl (AD.nil (AC.subF (sL [0,1,4,7,8] rfl) ?_)))))
 refine AC.then_ (AF.block ?_)
 refine AF.lp1 (tg λ(j:Nat)=>j<=ts.length/\idxB n ts 0=idxB n (ts.drop j) j) (tg λ(j:Nat)=>[(0,(Value.slice x.p ts.length x.c)),(1,(Value.func (.func 189) #[] #[(pP bo.b 0)])),(7,(vN ts.length)),(8,(vN j))]) (tg λ(j:Nat)=>[AI (some ⟨bo.b,0,none⟩) ([(vN n)]),AI x.p (rowsL Aq ts)]) (tg λ(j:Nat)=>ts.length-j) 0 (⟨Nat.zero_le _,rfl⟩) (sF rfl) sr (λj hJ=>?_)
 obtain ⟨hj,he⟩:=hJ
 refine q4 (AH (Ad (c:=(decide (j<ts.length))) rfl rfl (CB (a:=j) (b:=ts.length))) rfl (AD.nil (q1 ?_)))
 refine AF.cond rfl (λhc0=>?_) (λhc0=>?_)
 ·replace hc0:=of_decide_eq_true hc0
  refine AF.skip (q1 (AF.block (q4 (AJ rfl (asg' rfl ?_)))))
  refine q3 (sL [0,1,7,8,5] rfl) (AJ rfl (AJ rfl (AJ rfl (AH (v:=(pP (pB x.p) (pO x.p+j*3))) (AL (j:=j) rfl rfl x.ok Tryz.underlying23 Tryz.sizeOf53 rfl (by omega)) rfl (AH (v:=(aG (Aq (ts.getD j ((0,0,0):Nat×Nat×Nat))))) (Ae (vs:=Aq (ts.getD j ((0,0,0):Nat×Nat×Nat))) (i:=1) rfl rfl (A6.ne x.ok (by omega)) GL (Ax BR _ _ _ (by omega)) (BR _)) rfl ?_)))))
  refine AD.call (v:=(Value.bool (!PI n (ts.getD j ((0,0,0):Nat×Nat×Nat))))) (AO rfl) (Pa (args:=[(aG (Aq (ts.getD j ((0,0,0):Nat×Nat×Nat))))]) (caps:=[(pP bo.b 0)]) (all:=[(aG (Aq (ts.getD j ((0,0,0):Nat×Nat×Nat)))),(pP bo.b 0)]) rfl rfl rfl Tryz.call189) (λw hw=>SI (ts.getD j ((0,0,0):Nat×Nat×Nat)) n bo w (inS hw 0 rfl lbo)) rfl (AY rfl) (AD.nil (AC.subF (sL [0,1,7,8,5,16] rfl) (AC.then_ ?_)))
  refine AF.cond rfl (λhc1=>?_) (λhc1=>?_)
  ·simp only [Bool.and_eq_true,Bool.or_eq_true,Bool.and_eq_false_iff,Bool.or_eq_false_iff,Bool.not_eq_true',Bool.not_eq_false',decide_eq_true_eq,decide_eq_false_iff_not] at hc1
   have hfin:=he.trans (TB (by omega) (by simpa using hc1))
   refine q4 (AJ rfl (asg' rfl (AD.nil (AC.subF (sL [0,1,7,8,5,4] rfl) (AC.then_ ?_)))))
   exact AF.ret (AC.in_ret (AC.then_ret (AC.round1_ret (AC.in_ret (AC.then_ret (AN rfl (AQ (v:=(vN j)) rfl) (λw hw=>⟨by rw [hfin],hw.out⟩)))))))
  ·simp only [Bool.and_eq_true,Bool.or_eq_true,Bool.and_eq_false_iff,Bool.or_eq_false_iff,Bool.not_eq_true',Bool.not_eq_false',decide_eq_true_eq,decide_eq_false_iff_not] at hc1
   refine AF.skip (AC.in_normal (AC.then_ (AF.region (AH (AW (c:=((j+1:Nat):Int)) rfl rfl (AR (a:=j) (b:=1) (by omega))) rfl (AJ rfl ?_)))))
   exact AD.nil (AC.subF (sL [0,1,7,8,5] rfl) (AC.round1 (j+1) (⟨by omega,he.trans (P0 (by omega) (by simpa using hc1))⟩) (by omega) (sF rfl) sr))
 ·replace hc0:=of_decide_eq_false hc0
  have hfin:=he.trans (Rc hc0)
  refine AF.exit (AC.then_exit (AC.round1_exit (AC.in_exit (q2 (asg' rfl ?_)))))
  exact AD.nil (AC.then_ (AF.ret (AN rfl (AQ (v:=(vI (-1:Int))) rfl) (λw hw=>⟨by rw [hfin],hw.out⟩))))
theorem VS (n:Nat) (bo:BX [vN n]) (ts:List (Nat×Nat×Nat)) (x:RX (rowsL Aq ts) ts.length) (hl:ts.length<4611686018427387904) (w:World) {S:Nat->Prop} (hbo:Ro S w bo) (hx:Ro S w x):Calls Tryz.prog 188 #[(Value.slice x.p ts.length x.c),(Value.func (.func 189) #[] #[(pP bo.b 0)])] w (An w (Value.bool (!By n ts))):=by
 have lbo:=DF (W:=w) hbo
 have lx:=DF (W:=w) hx
 refine Ah (args:=[(Value.slice x.p ts.length x.c),(Value.func (.func 189) #[] #[(pP bo.b 0)])]) (L:=[AI (some ⟨bo.b,0,none⟩) ([(vN n)]),AI x.p (rowsL Aq ts)]) Tryz.func188 rfl rfl (AY rfl) (EV hbo (EV hx Ar)) (AF.subF (sL [0,1] rfl) (q4 (asg' rfl (AD.nil (q2 ?_)))))
 refine AJ rfl (AJ rfl (DC Tryz.call244 (λw hw=>XH n bo ts x hl w (inS hw 0 rfl lbo) (inS hw 1 rfl lx)) rfl (AH (C_ (c:=(!By n ts)) rfl rfl (KO n ts 0)) rfl (asg' rfl (AD.nil ?_)))))
 exact AC.subF (sL [4] rfl) (AC.then_ (AF.ret (AN rfl (AQ (v:=(Value.bool (!By n ts))) rfl) (λw hw=>⟨rfl,hw.out⟩))))
theorem Og (n:Nat) (ts:List (Nat×Nat×Nat)) (x:RX (rowsL Aq ts) ts.length) (hl:ts.length<4611686018427387904) (w:World) {S:Nat->Prop} (hx:Ro S w x):Calls Tryz.prog 132 #[(Value.slice x.p ts.length x.c),(vN n)] w (An w (Value.bool (By n ts))):=by
 have lx:=DF (W:=w) hx
 refine Ah (args:=[(Value.slice x.p ts.length x.c),(vN n)]) (L:=[AI x.p (rowsL Aq ts)]) Tryz.func132 rfl rfl (AY rfl) (EV hx Ar) (AF.subF (sL [0,1] rfl) (q4 (B9 (cs:=[(vN n)]) rfl λb1=>AD.frzX 0 rfl rfl λhnb1=>asg' rfl ?_)))
 refine q3 (sL [0,3,4] rfl) (AJ rfl (AH (v:=(Value.func (.func 189) #[] #[(pP b1 0)])) (Mr (vs:=[]) (us:=[(pP b1 0)]) rfl rfl) rfl (DC Tryz.call188 (λw hw=>VS n ⟨b1⟩ ts x hl w (ZY (x:=(⟨b1⟩:BX [vN n])) hw 0 rfl hnb1) (inS hw 1 rfl lx)) rfl (AH (Bw (c:=(!(!By n ts))) rfl rfl) rfl (asg' rfl ?_)))))
 exact AD.nil (AC.subF (sL [4] rfl) (AC.then_ (AF.ret (AN rfl (AQ (v:=(Value.bool (!(!By n ts)))) rfl) (λw hw=>⟨by simp,hw.out⟩)))))
theorem IY {ps:List Pt} {ts ss:List (Nat×Nat×Nat)} (x:MX ps ts ss) (hl:ts.length<4611686018427387904) (w:World) {S:Nat->Prop} (hx:Ro S w x):Calls Tryz.prog 76 #[(aG (CC x))] w (An w (Value.bool (By ps.length ts))):=by
 have lx:=DF (W:=w) hx
 refine Ah (args:=[(aG (CC x))]) (L:=[AI x.a.p (rowsL BE ps),AI x.b.p (rowsL Aq ts),AI x.c.p (rowsL Aq ss)]) Tryz.func76 rfl rfl (AY rfl) (EV hx Ar) (AF.subF (sL [0] rfl) (q4 (B9 (cs:=CC x) rfl λb1=>asg' rfl (q3 (sL [1,2] rfl) ?_))))
 refine AH (v:=(pP b1 1)) (AA rfl Tryz.underlying30 rfl Tryz.sizeOf23 rfl) rfl (BD 0 (Value.slice x.b.p ts.length x.b.c) EU rfl (AH (v:=(pP b1 0)) (AA rfl Tryz.underlying30 rfl Tryz.sizeOf28 rfl) rfl (BD 0 (Value.slice x.a.p ps.length x.a.c) LT rfl (AH (v:=(vN ps.length)) (AE rfl Tryz.underlying28) rfl (DC Tryz.call132 (λw hw=>Og ps.length ts x.b hl w (V9 (inS hw 1 rfl lx))) rfl ?_)))))
 exact asg' rfl (AD.nil (AC.subF (sL [2] rfl) (AC.then_ (AF.ret (AN rfl (AQ (v:=(Value.bool (By ps.length ts))) rfl) (λw hw=>⟨rfl,hw.out⟩))))))
end
section
set_option maxRecDepth 100000
theorem R4 (a:Nat) (w:World)  :Calls Tryz.prog 207 #[(vN a)] w (An w (Value.bool false)):=by
 refine Ag (args:=[(vN a)]) Tryz.func207 rfl rfl (AY rfl) (AF.subF (sL [0] rfl) (q4 (asg' rfl (AD.nil (q2 ?_)))))
 refine AJ rfl (AJ rfl (AH (B7 (c:=false) rfl rfl (by simp)) rfl (asg' rfl (AD.nil (AC.subF (sL [2] rfl) ?_)))))
 exact AC.then_ (AF.ret (AN rfl (AQ (v:=(Value.bool false)) rfl) (λw hw=>⟨rfl,hw.out⟩)))
theorem Ky (a b:Nat) (w:World)  :Calls Tryz.prog 157 #[(vN a),(vN b)] w (An w (vI (DZ a b))):=by
 refine Ag (args:=[(vN a),(vN b)]) Tryz.func157 rfl rfl (AY rfl) (AF.subF (sL [0,1] rfl) (q4 (asg' rfl (AD.nil (q2 ?_)))))
 refine AJ rfl (ck' Tryz.call207 (R4 a) rfl (asg' rfl (q3 (sL [0,1,4,5] rfl) (AJ rfl (ck' Tryz.call207 (R4 b) rfl ?_)))))
 refine asg' rfl (q6 (sL [0,1,4,5,6] rfl) (q4 (AJ rfl (AD.nil (AC.subF (sL [0,1,4,6,11] rfl) ?_)))))
 refine AC.then_ (AF.cond_false rfl (AF.skip (q1 (q4 (AJ rfl ?_)))))
 refine AD.nil (AC.subF (sL [0,1,4,6,13] rfl) (AC.then_ (AF.cond_false rfl (AF.skip (q1 ?_)))))
 refine q4 (AJ rfl (AJ rfl (AH (Ad (c:=(decide (a<b))) rfl rfl (CB (a:=a) (b:=b))) rfl (AD.nil (AC.subF (sL [0,1,4,6,16] rfl) ?_)))))
 refine AC.then_ ?_
 refine AF.cond rfl (λhc3=>?_) (λhc3=>?_)
 ·replace hc3:=of_decide_eq_true hc3
  have hr:=Ot hc3
  exact q4 (asg' rfl (AD.nil (AC.then_ (AF.ret (AC.then_ret (AN rfl (AQ (v:=(vI (-1:Int))) rfl) (λw hw=>⟨by rw [hr]<;>rfl,hw.out⟩)))))))
 ·replace hc3:=of_decide_eq_false hc3
  refine AF.skip (q1 (q4 (AJ rfl (AJ rfl (AH (Bg (c:=(decide (b<a))) rfl rfl (CB (a:=b) (b:=a))) rfl ?_)))))
  refine AD.nil (AC.subF (sL [0,1,4,6,19] rfl) (AC.then_ ?_))
  refine AF.cond rfl (λhc4=>?_) (λhc4=>?_)
  ·replace hc4:=of_decide_eq_true hc4
   have hr:=Pl hc3 hc4
   exact q4 (asg' rfl (AD.nil (AC.then_ (AF.ret (AC.then_ret (AN rfl (AQ (v:=(vI 1)) rfl) (λw hw=>⟨by rw [hr]<;>rfl,hw.out⟩)))))))
  ·replace hc4:=of_decide_eq_false hc4
   have hr:=PF hc3 hc4
   exact AF.skip (q2 (asg' rfl (AD.nil (AC.then_ (AF.ret (AN rfl (AQ (v:=(vI 0)) rfl) (λw hw=>⟨by rw [hr]<;>rfl,hw.out⟩)))))))
theorem Rl (a b:Int) (g:Nat) (w:World) (hg:w.heap[g]?=some (.cells ([(vI a),(vI b)]).toArray 3 (0,0))):Calls Tryz.prog 156 #[(Value.slice (some ⟨g,0,none⟩) 2 2)] w (λe w'=>e=.returned (Value.int .i64 (Sk a b))/\I8 w w' (some g)/\w'.heap[g]?=some (.cells ([(vI a),(vI b)]).toArray 3 (0,0))):=by
 refine HY (args:=[(Value.slice (some ⟨g,0,none⟩) 2 2)]) (g:=g) (T:=3) (cs:=[(vI a),(vI b)]) Tryz.func156 rfl rfl (AY rfl) hg (AF.subF (sL [0] rfl) (q4 (asg' rfl (AD.nil (q2 ?_)))))
 refine asg' rfl (AD.nil (q1 (q4 (AJ rfl (AH (v:=(vI 2)) (AE rfl Tryz.underlying70) rfl ?_)))))
 refine AJ rfl (AD.nil (AC.subF (sL [2,3,6,7,8] rfl) (AC.then_ (AF.block (AF.unroll 4 ?_)))))
 refine Gd.step (q4 (AH (Ad (c:=true) rfl rfl (by decide)) rfl (AD.nil (q1 (AF.cond_true rfl ?_)))))
 refine AF.skip (q1 (AF.block (q4 (AH (v:=(pP g 0)) (AK (j:=0) rfl rfl Tryz.underlying70 Tryz.sizeOf3 rfl (by omega) rfl) rfl (BD 0 (vI a) Be rfl ?_)))))
 refine asg' rfl (q3 (sL [2,3,6,7,8,5] rfl) (AJ rfl (AJ rfl (AH (B7 (c:=(decide (a≠(0:Int)))) rfl rfl rfl) rfl (AD.nil ?_)))))
 refine AC.subF (sL [2,3,6,7,8,5,14] rfl) (AC.then_ ?_)
 refine AF.cond rfl (λhc1=>?_) (λhc1=>?_)
 ·replace hc1:=of_decide_eq_true hc1
  have hr:Sk a b=a:=if_pos hc1
  refine q4 (AJ rfl (asg' rfl (AD.nil (AC.subF (sL [2,3,6,7,8,5] rfl) (AC.then_ ?_)))))
  exact AF.ret (AC.in_ret (AC.then_ret (AC.then_ret (AC.in_ret (AC.then_ret (AN rfl (AQ (v:=(vI a)) rfl) (λw hw=>⟨by rw [hr]<;>rfl,hw.1,hw.get (i:=0) rfl⟩)))))))
 ·replace hc1:=of_decide_eq_false hc1
  have hq:=hc1
  refine AF.skip (AC.in_normal (AC.then_ (AF.region (AH (AW (c:=(1:Int)) rfl rfl (by decide)) rfl (AJ rfl ?_)))))
  refine AD.nil (AC.subF (sL [2,3,6,7,8,5] rfl) (AC.again (Gd.step (q4 (AH (Ad (c:=true) rfl rfl (by decide)) rfl ?_)))))
  refine AD.nil (q1 (AF.cond_true rfl (AF.skip (q1 (AF.block ?_)))))
  refine q4 (AH (v:=(pP g 1)) (AK (j:=1) rfl rfl Tryz.underlying70 Tryz.sizeOf3 rfl (by omega) rfl) rfl (BD 0 (vI b) Be rfl (asg' rfl (q3 (sL [2,3,6,7,8,5] rfl) (AJ rfl ?_)))))
  refine AJ rfl (AH (B7 (c:=(decide (b≠(0:Int)))) rfl rfl rfl) rfl (AD.nil (AC.subF (sL [2,3,6,7,8,5,14] rfl) (AC.then_ ?_))))
  refine AF.cond rfl (λhc1=>?_) (λhc1=>?_)
  ·replace hc1:=of_decide_eq_true hc1
   have hr:Sk a b=b:=by rw [Sk,if_neg hq,if_pos hc1]
   refine q4 (AJ rfl (asg' rfl (AD.nil (AC.subF (sL [2,3,6,7,8,5] rfl) (AC.then_ ?_)))))
   exact AF.ret (AC.in_ret (AC.then_ret (AC.then_ret (AC.in_ret (AC.then_ret (AN rfl (AQ (v:=(vI b)) rfl) (λw hw=>⟨by rw [hr]<;>rfl,hw.1,hw.get (i:=0) rfl⟩)))))))
  ·replace hc1:=of_decide_eq_false hc1
   have hr:Sk a b=0:=by rw [Sk,if_neg hq,if_neg hc1]
   refine AF.skip (AC.in_normal (AC.then_ (AF.region (AH (AW (c:=(2:Int)) rfl rfl (by decide)) rfl (AJ rfl ?_)))))
   refine AD.nil (AC.subF (sL [2,3,6,7,8,5] rfl) (AC.again (Gd.step (q4 (AH (Ad (c:=false) rfl rfl (by decide)) rfl ?_)))))
   refine AD.nil (q1 (AF.cond_false rfl (AF.exit (AC.then_exit (AC.then_exit ?_)))))
   refine AC.in_exit (q2 (AJ rfl (asg' rfl (AD.nil (AC.subF (sL [2,3,6,7,8,5] rfl) ?_)))))
   exact AC.then_ (AF.ret (AN rfl (AQ (v:=(vI 0)) rfl) (λw hw=>⟨by rw [hr]<;>rfl,hw.1,hw.get (i:=0) rfl⟩)))
end
end Go.Proofs.YtpgncndhhhllfaaGreatDoor
