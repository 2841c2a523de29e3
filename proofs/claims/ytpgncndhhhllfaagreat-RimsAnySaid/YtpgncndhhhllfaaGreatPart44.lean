import Derived.Test.YtpgncndhhhllfaaGreatPart17
import Derived.Test.YtpgncndhhhllfaaGreatPart25
import Derived.Test.YtpgncndhhhllfaaGreatPart43
namespace Go.Proofs.YtpgncndhhhllfaaGreat
open Go Go.RowKit Go.Proofs.Tryz
set_option linter.unusedVariables false
set_option linter.unusedSimpArgs false
section
set_option maxRecDepth 100000
theorem IJ (p:Int) (n:Nat) (w:World)  :Calls prog 70 #[(vI p),(vN n)] w (Ak w (Value.bool (BI n p))):=by
 refine An (args:=[(vI p),(vN n)]) func70 O O (AV O) (AE.subF (sL [0,1] O) (q4 (AI O (AC.nil (q2 (AM O (AK (CI (c:=(decide ((0:Int)<=p))) O O O) O (AM O ?_))))))))
 refine AC.mid (FM:=[(0,(vI p)),(1,(vN n)),(4,(Value.bool false)),(5,(vI p)),(6,(Value.bool (decide ((0:Int)<=p)))),(7,(Value.bool (decide ((0:Int)<=p)))),(11,(Value.bool ((decide ((0:Int)<=p))&&(decide (p<((n:Nat):Int))))))]) (LM:=[]) 4 ?_ ?_
 ·rcases Bool.eq_false_or_eq_true (decide ((0:Int)<=p)) with hg1|hg1
  ·skip
   refine AC.retell (k:=7) (u:=Value.bool true) O (by rw [hg1]) ?_
   have hg1':=hg1
   replace hg1':=of_decide_eq_true hg1'
   exact AC.step (v:=(vI p)) (AA O) (AW O) O (AV O) (AC.step (v:=(vN n)) (AA O) (AW O) O (AV O) (AC.step (v:=(Value.bool (decide (p<((n:Nat):Int))))) (AA O) (Ad (c:=(decide (p<((n:Nat):Int)))) O O O) O (AV O) (AK (v:=(Value.bool (decide (p<((n:Nat):Int))))) (AR O O) O (AC.nil (OkQ.mid (sS O (sS O (sS O (sS O (sS O (sS (by first|rfl|(rw [hg1];rfl)|rw [hg1]) (sS (by first|rfl|(rw [hg1];rfl)|rw [hg1]) (sN)))))))) (List.Sublist.refl _))))))
  ·skip
   refine AC.retell (k:=7) (u:=Value.bool false) O (by rw [hg1]) ?_
   have hg1':=hg1
   replace hg1':=of_decide_eq_false hg1'
   exact AC.skip (AD O) O (AV O) (AC.skip (AD O) O (AV O) (AC.skip (AD O) O (AV O) (AK (v:=(Value.bool false)) (AO O O) O (AC.nil (OkQ.mid (sS O (sS O (sS O (sS O (sS O (sS (by first|rfl|(rw [hg1];rfl)|rw [hg1]) (sS (by first|rfl|(rw [hg1];rfl)|rw [hg1]) (sN)))))))) (List.Sublist.refl _))))))
 exact AI O (AC.nil (OkQ.subF (sL [4] O) (OkQ.then_ (AE.ret (AS O (AZ (v:=(Value.bool ((decide ((0:Int)<=p))&&(decide (p<((n:Nat):Int)))))) O) (λw hw=>⟨by unfold BI;first|rfl|simp,hw.out⟩))))))
theorem R4 (t:Z3) (n:Nat) (bo:BX [vN n]) (w:World) {S:Nat->Prop} (hbo:Ro S w bo):Calls prog 69 #[(aG (Bg t)),(pP bo.b 0)] w (Ak w (Value.bool (!OJ n t))):=by
 have lbo:=CV (W:=w) hbo
 refine Ag (args:=[(aG (Bg t)),(pP bo.b 0)]) (L:=[AJ (some ⟨bo.b,0,none⟩) ([(vN n)])]) func69 O O (AV O) (C4 hbo Ao) (AE.subF (sL [0,1] O) (q4 (B0 (cs:=Bg t) O λb1=>AI O (q3 (sL [1,2,3] O) (AK (v:=(pP b1 0)) (AG (j:=0) O O underlying68 sizeOf3 O (by decide) O) O (BL 0 (vI t.1) BR O (AK (AL (q:=some ⟨bo.b,0,none⟩) (v:=(vN n)) (off:=0) (i:=1) O O (λe=>by cases e) BR O) O (ck' call70 (IJ t.1 n) O (AK (BF (c:=(!(BI n t.1))) O O) O (AM O ?_))))))))))
 refine AC.mid (FM:=[(1,(pP bo.b 0)),(2,(pP b1 0)),(3,(Value.bool false)),(4,(pP b1 0)),(5,(vI t.1)),(6,(vN n)),(7,(Value.bool (BI n t.1))),(8,(Value.bool (!(BI n t.1)))),(9,(Value.bool (!(BI n t.1)))),(15,(Value.bool ((!(BI n t.1))||(!(BI n t.2.1)))))]) (LM:=[Ah b1 68 (Bg t),AJ (some ⟨bo.b,0,none⟩) ([(vN n)])]) 6 ?_ ?_
 ·rcases Bool.eq_false_or_eq_true (!(BI n t.1)) with hg1|hg1
  ·skip
   refine AC.retell (k:=9) (u:=Value.bool true) O (by rw [hg1]) ?_
   have hg1':=hg1
   simp only [Bool.and_eq_true,Bool.or_eq_true,Bool.and_eq_false_iff,Bool.or_eq_false_iff,Bool.not_eq_true',Bool.not_eq_false',decide_eq_true_eq,decide_eq_false_iff_not] at hg1'
   exact AC.skip (AD O) O (AV O) (AC.skip (AD O) O (AV O) (AC.skip (AD O) O (AV O) (AC.skip (AD O) O (AV O) (AC.skip (AD O) O (AV O) (AK (v:=(Value.bool true)) (AR O O) O (AC.nil (OkQ.mid (sS O (sS O (sS O (sS O (sS O (sS O (sS O (sS O (sS (by first|rfl|(rw [hg1];rfl)|rw [hg1]) (sS (by first|rfl|(rw [hg1];rfl)|rw [hg1]) (sN))))))))))) (List.Sublist.refl _))))))))
  ·skip
   refine AC.retell (k:=9) (u:=Value.bool false) O (by rw [hg1]) ?_
   have hg1':=hg1
   simp only [Bool.and_eq_true,Bool.or_eq_true,Bool.and_eq_false_iff,Bool.or_eq_false_iff,Bool.not_eq_true',Bool.not_eq_false',decide_eq_true_eq,decide_eq_false_iff_not] at hg1'
   exact AC.step (v:=(pP b1 1)) (AA O) (AG (j:=1) O O underlying68 sizeOf3 O (by decide) O) O (AV O) (AC.step (v:=(vI t.2.1)) (AA O) (AN (i:=0) (v:=(vI t.2.1)) O O BR.a O) O (AV O) (AC.step (v:=(vN n)) (AA O) (AL (q:=some ⟨bo.b,0,none⟩) (v:=(vN n)) (off:=0) (i:=1) O O (λe=>by cases e) BR O) O (AV O) (AC.call (v:=(Value.bool (BI n t.2.1))) (AA O) (Aw (args:=[(vI t.2.1),(vN n)]) O O call70) (λw hw=>IJ t.2.1 n w) O (AV O) (AC.step (v:=(Value.bool (!(BI n t.2.1)))) (AA O) (BF (c:=(!(BI n t.2.1))) O O) O (AV O) (AK (v:=(Value.bool (!(BI n t.2.1)))) (AO O O) O (AC.nil (OkQ.mid (sS O (sS O (sS O (sS O (sS O (sS O (sS O (sS O (sS (by first|rfl|(rw [hg1];rfl)|rw [hg1]) (sS (by first|rfl|(rw [hg1];rfl)|rw [hg1]) (sN))))))))))) (List.Sublist.refl _))))))))
 refine AM O ?_
 refine AC.mid (FM:=[(1,(pP bo.b 0)),(2,(pP b1 0)),(3,(Value.bool false)),(4,(pP b1 0)),(5,(vI t.1)),(6,(vN n)),(7,(Value.bool (BI n t.1))),(8,(Value.bool (!(BI n t.1)))),(9,(Value.bool (!(BI n t.1)))),(15,(Value.bool ((!(BI n t.1))||(!(BI n t.2.1))))),(16,(Value.bool ((!(BI n t.1))||(!(BI n t.2.1))))),(22,(Value.bool (((!(BI n t.1))||(!(BI n t.2.1)))||(!(BI n t.2.2)))))]) (LM:=[Ah b1 68 (Bg t),AJ (some ⟨bo.b,0,none⟩) ([(vN n)])]) 6 ?_ ?_
 ·rcases Bool.eq_false_or_eq_true ((!(BI n t.1))||(!(BI n t.2.1))) with hg2|hg2
  ·skip
   refine AC.retell (k:=16) (u:=Value.bool true) O (by rw [hg2]) ?_
   have hg2':=hg2
   simp only [Bool.and_eq_true,Bool.or_eq_true,Bool.and_eq_false_iff,Bool.or_eq_false_iff,Bool.not_eq_true',Bool.not_eq_false',decide_eq_true_eq,decide_eq_false_iff_not] at hg2'
   exact AC.skip (AD O) O (AV O) (AC.skip (AD O) O (AV O) (AC.skip (AD O) O (AV O) (AC.skip (AD O) O (AV O) (AC.skip (AD O) O (AV O) (AK (v:=(Value.bool true)) (AR O O) O (AC.nil (OkQ.mid (sS O (sS O (sS O (sS O (sS O (sS O (sS O (sS O (sS O (sS O (sS (by first|rfl|(rw [hg2];rfl)|rw [hg2]) (sS (by first|rfl|(rw [hg2];rfl)|rw [hg2]) (sN))))))))))))) (List.Sublist.refl _))))))))
  ·skip
   refine AC.retell (k:=16) (u:=Value.bool false) O (by rw [hg2]) ?_
   have hg2':=hg2
   simp only [Bool.and_eq_true,Bool.or_eq_true,Bool.and_eq_false_iff,Bool.or_eq_false_iff,Bool.not_eq_true',Bool.not_eq_false',decide_eq_true_eq,decide_eq_false_iff_not] at hg2'
   exact AC.step (v:=(pP b1 2)) (AA O) (AG (j:=2) O O underlying68 sizeOf3 O (by decide) O) O (AV O) (AC.step (v:=(vI t.2.2)) (AA O) (AN (i:=0) (v:=(vI t.2.2)) O O BR.a O) O (AV O) (AC.step (v:=(vN n)) (AA O) (AL (q:=some ⟨bo.b,0,none⟩) (v:=(vN n)) (off:=0) (i:=1) O O (λe=>by cases e) BR O) O (AV O) (AC.call (v:=(Value.bool (BI n t.2.2))) (AA O) (Aw (args:=[(vI t.2.2),(vN n)]) O O call70) (λw hw=>IJ t.2.2 n w) O (AV O) (AC.step (v:=(Value.bool (!(BI n t.2.2)))) (AA O) (BF (c:=(!(BI n t.2.2))) O O) O (AV O) (AK (v:=(Value.bool (!(BI n t.2.2)))) (AO O O) O (AC.nil (OkQ.mid (sS O (sS O (sS O (sS O (sS O (sS O (sS O (sS O (sS O (sS O (sS (by first|rfl|(rw [hg2];rfl)|rw [hg2]) (sS (by first|rfl|(rw [hg2];rfl)|rw [hg2]) (sN))))))))))))) (List.Sublist.refl _))))))))
 refine AM O ?_
 refine AC.mid (FM:=[(1,(pP bo.b 0)),(2,(pP b1 0)),(3,(Value.bool false)),(4,(pP b1 0)),(5,(vI t.1)),(6,(vN n)),(7,(Value.bool (BI n t.1))),(8,(Value.bool (!(BI n t.1)))),(9,(Value.bool (!(BI n t.1)))),(15,(Value.bool ((!(BI n t.1))||(!(BI n t.2.1))))),(16,(Value.bool ((!(BI n t.1))||(!(BI n t.2.1))))),(22,(Value.bool (((!(BI n t.1))||(!(BI n t.2.1)))||(!(BI n t.2.2))))),(23,(Value.bool (((!(BI n t.1))||(!(BI n t.2.1)))||(!(BI n t.2.2))))),(29,(Value.bool ((((!(BI n t.1))||(!(BI n t.2.1)))||(!(BI n t.2.2)))||(decide (t.1=t.2.1)))))]) (LM:=[Ah b1 68 (Bg t),AJ (some ⟨bo.b,0,none⟩) ([(vN n)])]) 6 ?_ ?_
 ·rcases Bool.eq_false_or_eq_true (((!(BI n t.1))||(!(BI n t.2.1)))||(!(BI n t.2.2))) with hg3|hg3
  ·skip
   refine AC.retell (k:=23) (u:=Value.bool true) O (by rw [hg3]) ?_
   have hg3':=hg3
   simp only [Bool.and_eq_true,Bool.or_eq_true,Bool.and_eq_false_iff,Bool.or_eq_false_iff,Bool.not_eq_true',Bool.not_eq_false',decide_eq_true_eq,decide_eq_false_iff_not] at hg3'
   exact AC.skip (AD O) O (AV O) (AC.skip (AD O) O (AV O) (AC.skip (AD O) O (AV O) (AC.skip (AD O) O (AV O) (AC.skip (AD O) O (AV O) (AK (v:=(Value.bool true)) (AR O O) O (AC.nil (OkQ.mid (sS O (sS O (sS O (sS O (sS O (sS O (sS O (sS O (sS O (sS O (sS O (sS O (sS (by first|rfl|(rw [hg3];rfl)|rw [hg3]) (sS (by first|rfl|(rw [hg3];rfl)|rw [hg3]) (sN))))))))))))))) (List.Sublist.refl _))))))))
  ·skip
   refine AC.retell (k:=23) (u:=Value.bool false) O (by rw [hg3]) ?_
   have hg3':=hg3
   simp only [Bool.and_eq_true,Bool.or_eq_true,Bool.and_eq_false_iff,Bool.or_eq_false_iff,Bool.not_eq_true',Bool.not_eq_false',decide_eq_true_eq,decide_eq_false_iff_not] at hg3'
   exact AC.step (v:=(pP b1 0)) (AA O) (AG (j:=0) O O underlying68 sizeOf3 O (by decide) O) O (AV O) (AC.step (v:=(vI t.1)) (AA O) (AN (i:=0) (v:=(vI t.1)) O O BR.a O) O (AV O) (AC.step (v:=(pP b1 1)) (AA O) (AG (j:=1) O O underlying68 sizeOf3 O (by decide) O) O (AV O) (AC.step (v:=(vI t.2.1)) (AA O) (AN (i:=0) (v:=(vI t.2.1)) O O BR.a O) O (AV O) (AC.step (v:=(Value.bool (decide (t.1=t.2.1)))) (AA O) (BA (c:=(decide (t.1=t.2.1))) O O O) O (AV O) (AK (v:=(Value.bool (decide (t.1=t.2.1)))) (AO O O) O (AC.nil (OkQ.mid (sS O (sS O (sS O (sS O (sS O (sS O (sS O (sS O (sS O (sS O (sS O (sS O (sS (by first|rfl|(rw [hg3];rfl)|rw [hg3]) (sS (by first|rfl|(rw [hg3];rfl)|rw [hg3]) (sN))))))))))))))) (List.Sublist.refl _))))))))
 refine AM O ?_
 refine AC.mid (FM:=[(1,(pP bo.b 0)),(2,(pP b1 0)),(3,(Value.bool false)),(4,(pP b1 0)),(5,(vI t.1)),(6,(vN n)),(7,(Value.bool (BI n t.1))),(8,(Value.bool (!(BI n t.1)))),(9,(Value.bool (!(BI n t.1)))),(15,(Value.bool ((!(BI n t.1))||(!(BI n t.2.1))))),(16,(Value.bool ((!(BI n t.1))||(!(BI n t.2.1))))),(22,(Value.bool (((!(BI n t.1))||(!(BI n t.2.1)))||(!(BI n t.2.2))))),(23,(Value.bool (((!(BI n t.1))||(!(BI n t.2.1)))||(!(BI n t.2.2))))),(29,(Value.bool ((((!(BI n t.1))||(!(BI n t.2.1)))||(!(BI n t.2.2)))||(decide (t.1=t.2.1))))),(30,(Value.bool ((((!(BI n t.1))||(!(BI n t.2.1)))||(!(BI n t.2.2)))||(decide (t.1=t.2.1))))),(36,(Value.bool (((((!(BI n t.1))||(!(BI n t.2.1)))||(!(BI n t.2.2)))||(decide (t.1=t.2.1)))||(decide (t.2.1=t.2.2)))))]) (LM:=[Ah b1 68 (Bg t),AJ (some ⟨bo.b,0,none⟩) ([(vN n)])]) 6 ?_ ?_
 ·rcases Bool.eq_false_or_eq_true ((((!(BI n t.1))||(!(BI n t.2.1)))||(!(BI n t.2.2)))||(decide (t.1=t.2.1))) with hg4|hg4
  ·skip
   refine AC.retell (k:=30) (u:=Value.bool true) O (by rw [hg4]) ?_
   have hg4':=hg4
   simp only [Bool.and_eq_true,Bool.or_eq_true,Bool.and_eq_false_iff,Bool.or_eq_false_iff,Bool.not_eq_true',Bool.not_eq_false',decide_eq_true_eq,decide_eq_false_iff_not] at hg4'
   exact AC.skip (AD O) O (AV O) (AC.skip (AD O) O (AV O) (AC.skip (AD O) O (AV O) (AC.skip (AD O) O (AV O) (AC.skip (AD O) O (AV O) (AK (v:=(Value.bool true)) (AR O O) O (AC.nil (OkQ.mid (sS O (sS O (sS O (sS O (sS O (sS O (sS O (sS O (sS O (sS O (sS O (sS O (sS O (sS O (sS (by first|rfl|(rw [hg4];rfl)|rw [hg4]) (sS (by first|rfl|(rw [hg4];rfl)|rw [hg4]) (sN))))))))))))))))) (List.Sublist.refl _))))))))
  ·skip
   refine AC.retell (k:=30) (u:=Value.bool false) O (by rw [hg4]) ?_
   have hg4':=hg4
   simp only [Bool.and_eq_true,Bool.or_eq_true,Bool.and_eq_false_iff,Bool.or_eq_false_iff,Bool.not_eq_true',Bool.not_eq_false',decide_eq_true_eq,decide_eq_false_iff_not] at hg4'
   exact AC.step (v:=(pP b1 1)) (AA O) (AG (j:=1) O O underlying68 sizeOf3 O (by decide) O) O (AV O) (AC.step (v:=(vI t.2.1)) (AA O) (AN (i:=0) (v:=(vI t.2.1)) O O BR.a O) O (AV O) (AC.step (v:=(pP b1 2)) (AA O) (AG (j:=2) O O underlying68 sizeOf3 O (by decide) O) O (AV O) (AC.step (v:=(vI t.2.2)) (AA O) (AN (i:=0) (v:=(vI t.2.2)) O O BR.a O) O (AV O) (AC.step (v:=(Value.bool (decide (t.2.1=t.2.2)))) (AA O) (BA (c:=(decide (t.2.1=t.2.2))) O O O) O (AV O) (AK (v:=(Value.bool (decide (t.2.1=t.2.2)))) (AO O O) O (AC.nil (OkQ.mid (sS O (sS O (sS O (sS O (sS O (sS O (sS O (sS O (sS O (sS O (sS O (sS O (sS O (sS O (sS (by first|rfl|(rw [hg4];rfl)|rw [hg4]) (sS (by first|rfl|(rw [hg4];rfl)|rw [hg4]) (sN))))))))))))))))) (List.Sublist.refl _))))))))
 refine AM O ?_
 refine AC.mid (FM:=[(1,(pP bo.b 0)),(2,(pP b1 0)),(3,(Value.bool false)),(4,(pP b1 0)),(5,(vI t.1)),(6,(vN n)),(7,(Value.bool (BI n t.1))),(8,(Value.bool (!(BI n t.1)))),(9,(Value.bool (!(BI n t.1)))),(15,(Value.bool ((!(BI n t.1))||(!(BI n t.2.1))))),(16,(Value.bool ((!(BI n t.1))||(!(BI n t.2.1))))),(22,(Value.bool (((!(BI n t.1))||(!(BI n t.2.1)))||(!(BI n t.2.2))))),(23,(Value.bool (((!(BI n t.1))||(!(BI n t.2.1)))||(!(BI n t.2.2))))),(29,(Value.bool ((((!(BI n t.1))||(!(BI n t.2.1)))||(!(BI n t.2.2)))||(decide (t.1=t.2.1))))),(30,(Value.bool ((((!(BI n t.1))||(!(BI n t.2.1)))||(!(BI n t.2.2)))||(decide (t.1=t.2.1))))),(36,(Value.bool (((((!(BI n t.1))||(!(BI n t.2.1)))||(!(BI n t.2.2)))||(decide (t.1=t.2.1)))||(decide (t.2.1=t.2.2))))),(37,(Value.bool (((((!(BI n t.1))||(!(BI n t.2.1)))||(!(BI n t.2.2)))||(decide (t.1=t.2.1)))||(decide (t.2.1=t.2.2))))),(43,(Value.bool ((((((!(BI n t.1))||(!(BI n t.2.1)))||(!(BI n t.2.2)))||(decide (t.1=t.2.1)))||(decide (t.2.1=t.2.2)))||(decide (t.2.2=t.1)))))]) (LM:=[Ah b1 68 (Bg t),AJ (some ⟨bo.b,0,none⟩) ([(vN n)])]) 6 ?_ ?_
 ·rcases Bool.eq_false_or_eq_true (((((!(BI n t.1))||(!(BI n t.2.1)))||(!(BI n t.2.2)))||(decide (t.1=t.2.1)))||(decide (t.2.1=t.2.2))) with hg5|hg5
  ·skip
   refine AC.retell (k:=37) (u:=Value.bool true) O (by rw [hg5]) ?_
   have hg5':=hg5
   simp only [Bool.and_eq_true,Bool.or_eq_true,Bool.and_eq_false_iff,Bool.or_eq_false_iff,Bool.not_eq_true',Bool.not_eq_false',decide_eq_true_eq,decide_eq_false_iff_not] at hg5'
   exact AC.skip (AD O) O (AV O) (AC.skip (AD O) O (AV O) (AC.skip (AD O) O (AV O) (AC.skip (AD O) O (AV O) (AC.skip (AD O) O (AV O) (AK (v:=(Value.bool true)) (AR O O) O (AC.nil (OkQ.mid (sS O (sS O (sS O (sS O (sS O (sS O (sS O (sS O (sS O (sS O (sS O (sS O (sS O (sS O (sS O (sS O (sS (by first|rfl|(rw [hg5];rfl)|rw [hg5]) (sS (by first|rfl|(rw [hg5];rfl)|rw [hg5]) (sN))))))))))))))))))) (List.Sublist.refl _))))))))
  ·skip
   refine AC.retell (k:=37) (u:=Value.bool false) O (by rw [hg5]) ?_
   have hg5':=hg5
   simp only [Bool.and_eq_true,Bool.or_eq_true,Bool.and_eq_false_iff,Bool.or_eq_false_iff,Bool.not_eq_true',Bool.not_eq_false',decide_eq_true_eq,decide_eq_false_iff_not] at hg5'
   exact AC.step (v:=(pP b1 2)) (AA O) (AG (j:=2) O O underlying68 sizeOf3 O (by decide) O) O (AV O) (AC.step (v:=(vI t.2.2)) (AA O) (AN (i:=0) (v:=(vI t.2.2)) O O BR.a O) O (AV O) (AC.step (v:=(pP b1 0)) (AA O) (AG (j:=0) O O underlying68 sizeOf3 O (by decide) O) O (AV O) (AC.step (v:=(vI t.1)) (AA O) (AN (i:=0) (v:=(vI t.1)) O O BR.a O) O (AV O) (AC.step (v:=(Value.bool (decide (t.2.2=t.1)))) (AA O) (BA (c:=(decide (t.2.2=t.1))) O O O) O (AV O) (AK (v:=(Value.bool (decide (t.2.2=t.1)))) (AO O O) O (AC.nil (OkQ.mid (sS O (sS O (sS O (sS O (sS O (sS O (sS O (sS O (sS O (sS O (sS O (sS O (sS O (sS O (sS O (sS O (sS (by first|rfl|(rw [hg5];rfl)|rw [hg5]) (sS (by first|rfl|(rw [hg5];rfl)|rw [hg5]) (sN))))))))))))))))))) (List.Sublist.refl _))))))))
 exact AI O (AC.nil (OkQ.subF (sL [3] O) (OkQ.then_ (AE.ret (AS O (AZ (v:=(Value.bool ((((((!(BI n t.1))||(!(BI n t.2.1)))||(!(BI n t.2.2)))||(decide (t.1=t.2.1)))||(decide (t.2.1=t.2.2)))||(decide (t.2.2=t.1))))) O) (λw hw=>⟨by unfold OJ;generalize BI n t.1=q1;generalize BI n t.2.1=q2;generalize BI n t.2.2=q3;generalize decide (t.1=t.2.1)=q4;generalize decide (t.2.1=t.2.2)=q5;generalize decide (t.2.2=t.1)=q6;cases q1<;>cases q2<;>cases q3<;>cases q4<;>cases q5<;>cases q6<;>rfl,hw.out⟩))))))
theorem Wa (n:Nat) (bo:BX [vN n]) (ts:List Z3) (x:RX (rowsL Bg ts) ts.length) (hl:ts.length<4611686018427387904) (w:World) {S:Nat->Prop} (hbo:Ro S w bo) (hx:Ro S w x):Calls prog 96 #[(Value.slice x.p ts.length x.c),(Value.func (.func 69) #[] #[(pP bo.b 0)])] w (Ak w (vI (idxZ n ts 0))):=by
 have lbo:=CV (W:=w) hbo
 have lx:=CV (W:=w) hx
 refine Ag (args:=[(Value.slice x.p ts.length x.c),(Value.func (.func 69) #[] #[(pP bo.b 0)])]) (L:=[AJ (some ⟨bo.b,0,none⟩) ([(vN n)]),AJ x.p (rowsL Bg ts)]) func96 O O (AV O) (C4 hbo (C4 hx Ao)) (AE.subF (sL [0,1] O) (q4 (AI O (AC.nil (q1 (q4 (AM O (AK (v:=(vN ts.length)) (AF O underlying28) O (AM O (AC.nil (OkQ.subF (sL [0,1,4,7,8] O) ?_)))))))))))
 refine OkQ.then_ (AE.block ?_)
 refine AE.lp1 (tg λ(j:Nat)=>j<=ts.length/\idxZ n ts 0=idxZ n (ts.drop j) j) (tg λ(j:Nat)=>[(0,(Value.slice x.p ts.length x.c)),(1,(Value.func (.func 69) #[] #[(pP bo.b 0)])),(7,(vN ts.length)),(8,(vN j))]) (tg λ(j:Nat)=>[AJ (some ⟨bo.b,0,none⟩) ([(vN n)]),AJ x.p (rowsL Bg ts)]) (tg λ(j:Nat)=>ts.length-j) 0 (⟨Nat.zero_le _,rfl⟩) (sF O) sr (λj hJ=>?_)
 obtain ⟨hj,he⟩:=hJ
 refine q4 (AK (Ad (c:=(decide (j<ts.length))) O O (B7 (a:=j) (b:=ts.length))) O (AC.nil (q1 ?_)))
 refine AE.cond O (λhc0=>?_) (λhc0=>?_)
 ·replace hc0:=of_decide_eq_true hc0
  refine AE.skip (q1 (AE.block (q4 (AM O (AI O (q3 (sL [0,1,7,8,5] O) (AM O (AM O (AM O (AK (v:=(pP (pB x.p) (pO x.p+j*3))) (AH (j:=j) O O x.ok underlying28 sizeOf68 O Z) O (AK (v:=(aG (Bg (ts.getD j ((0,0,0):Z3))))) (Ai (vs:=Bg (ts.getD j ((0,0,0):Z3))) (i:=1) O O (Ar.ne x.ok Z) DL (A8 CQ _ _ _ Z) (CQ _)) O ?_)))))))))))
  refine AC.call (v:=(Value.bool (!OJ n (ts.getD j ((0,0,0):Z3))))) (AT O) (MJ (args:=[(aG (Bg (ts.getD j ((0,0,0):Z3))))]) (caps:=[(pP bo.b 0)]) (all:=[(aG (Bg (ts.getD j ((0,0,0):Z3)))),(pP bo.b 0)]) O O O call69) (λw hw=>R4 (ts.getD j ((0,0,0):Z3)) n bo w (Bc hw 0 O lbo)) O (AV O) (AC.nil (OkQ.subF (sL [0,1,7,8,5,16] O) (OkQ.then_ ?_)))
  refine AE.cond O (λhc1=>?_) (λhc1=>?_)
  ·simp only [Bool.and_eq_true,Bool.or_eq_true,Bool.and_eq_false_iff,Bool.or_eq_false_iff,Bool.not_eq_true',Bool.not_eq_false',decide_eq_true_eq,decide_eq_false_iff_not] at hc1
   have hfin:=he.trans (Tz Z (by simpa using hc1))
   exact q4 (AM O (AI O (AC.nil (OkQ.subF (sL [0,1,7,8,5,4] O) (OkQ.then_ (AE.ret (OkQ.in_ret (OkQ.then_ret (OkQ.round1_ret (OkQ.in_ret (OkQ.then_ret (AS O (AZ (v:=(vN j)) O) (λw hw=>⟨by rw [hfin],hw.out⟩)))))))))))))
  ·simp only [Bool.and_eq_true,Bool.or_eq_true,Bool.and_eq_false_iff,Bool.or_eq_false_iff,Bool.not_eq_true',Bool.not_eq_false',decide_eq_true_eq,decide_eq_false_iff_not] at hc1
   exact AE.skip (OkQ.in_normal (OkQ.then_ (AE.region (AK (AY (c:=((j+1:Nat):Int)) O O (AU (a:=j) (b:=1) Z)) O (AM O (AC.nil (OkQ.subF (sL [0,1,7,8,5] O) (OkQ.round1 (j+1) (⟨Z,he.trans (Ru Z (by simpa using hc1))⟩) Z (sF O) sr))))))))
 ·replace hc0:=of_decide_eq_false hc0
  have hfin:=he.trans (T_ hc0)
  exact AE.exit (OkQ.then_exit (OkQ.round1_exit (OkQ.in_exit (q2 (AI O (AC.nil (OkQ.then_ (AE.ret (AS O (AZ (v:=(vI (-1:Int))) O) (λw hw=>⟨by rw [hfin],hw.out⟩))))))))))
theorem VN (n:Nat) (bo:BX [vN n]) (ts:List Z3) (x:RX (rowsL Bg ts) ts.length) (hl:ts.length<4611686018427387904) (w:World) {S:Nat->Prop} (hbo:Ro S w bo) (hx:Ro S w x):Calls prog 68 #[(Value.slice x.p ts.length x.c),(Value.func (.func 69) #[] #[(pP bo.b 0)])] w (Ak w (Value.bool (!E5 n ts))):=by
 have lbo:=CV (W:=w) hbo
 have lx:=CV (W:=w) hx
 refine Ag (args:=[(Value.slice x.p ts.length x.c),(Value.func (.func 69) #[] #[(pP bo.b 0)])]) (L:=[AJ (some ⟨bo.b,0,none⟩) ([(vN n)]),AJ x.p (rowsL Bg ts)]) func68 O O (AV O) (C4 hbo (C4 hx Ao)) (AE.subF (sL [0,1] O) (q4 (AI O (AC.nil (q2 (AM O (AM O (Cc call96 (λw hw=>Wa n bo ts x hl w (Bc hw 0 O lbo) (Bc hw 1 O lx)) O (AK (CI (c:=(!E5 n ts)) O O (LY n ts 0)) O (AI O (AC.nil ?_)))))))))))
 exact OkQ.subF (sL [4] O) (OkQ.then_ (AE.ret (AS O (AZ (v:=(Value.bool (!E5 n ts))) O) (λw hw=>⟨rfl,hw.out⟩))))
theorem Uq (n:Nat) (ts:List Z3) (x:RX (rowsL Bg ts) ts.length) (hl:ts.length<4611686018427387904) (w:World) {S:Nat->Prop} (hx:Ro S w x):Calls prog 52 #[(Value.slice x.p ts.length x.c),(vN n)] w (Ak w (Value.bool (E5 n ts))):=by
 have lx:=CV (W:=w) hx
 refine Ag (args:=[(Value.slice x.p ts.length x.c),(vN n)]) (L:=[AJ x.p (rowsL Bg ts)]) func52 O O (AV O) (C4 hx Ao) (AE.subF (sL [0,1] O) (q4 (B0 (cs:=[(vN n)]) O λb1=>AC.frzX 0 O O λhnb1=>AI O (q3 (sL [0,3,4] O) (AM O (AK (v:=(Value.func (.func 69) #[] #[(pP b1 0)])) (If (vs:=[]) (us:=[(pP b1 0)]) O O) O (Cc call68 (λw hw=>VN n ⟨b1⟩ ts x hl w (b9 (x:=(⟨b1⟩:BX [vN n])) hw 0 O hnb1) (Bc hw 1 O lx)) O (AK (BF (c:=(!(!E5 n ts))) O O) O (AI O ?_)))))))))
 exact AC.nil (OkQ.subF (sL [4] O) (OkQ.then_ (AE.ret (AS O (AZ (v:=(Value.bool (!(!E5 n ts)))) O) (λw hw=>⟨by simp,hw.out⟩)))))
theorem Tx {N K:Nat} {zs:List Z3} (x:RQ N K zs) (hl:zs.length<4611686018427387904) (w:World) {S:Nat->Prop} (hx:Ro S w x):Calls prog 35 #[(aG (Ge x))] w (Ak w (Value.bool (E5 N zs))):=by
 have lx:=CV (W:=w) hx
 refine Ag (args:=[(aG (Ge x))]) (L:=[AJ x.a.p (x.cs),AJ x.b.p (rowsL Bg zs),AJ x.c.p (x.ds)]) func35 O O (AV O) (C4 hx Ao) (AE.subF (sL [0] O) (q4 (B0 (cs:=Ge x) O λb1=>AI O (q3 (sL [1,2] O) (AK (v:=(pP b1 1)) (AB O underlying31 O sizeOf28 O) O (BL 0 (Value.slice x.b.p zs.length x.b.c) Bp O (AK (v:=(pP b1 0)) (AB O underlying31 O sizeOf27 O) O (BL 0 (Value.slice x.a.p N x.a.c) WJ O (AK (v:=(vN N)) (AF O underlying27) O (Cc call52 (λw hw=>Uq N zs x.b hl w (bZ (Bc hw 1 O lx))) O ?_))))))))))
 exact AI O (AC.nil (OkQ.subF (sL [2] O) (OkQ.then_ (AE.ret (AS O (AZ (v:=(Value.bool (E5 N zs))) O) (λw hw=>⟨rfl,hw.out⟩))))))
theorem Mi {N K:Nat} {zs:List Z3} (x:RQ N K zs) (p:Int) (w:World) {S:Nat->Prop} (hx:Ro S w x):Calls prog 56 #[(aG (Ge x)),(vI p)] w (Ak w (Value.bool (BI N p))):=by
 have lx:=CV (W:=w) hx
 refine Ag (args:=[(aG (Ge x)),(vI p)]) (L:=[AJ x.a.p (x.cs),AJ x.b.p (rowsL Bg zs),AJ x.c.p (x.ds)]) func56 O O (AV O) (C4 hx Ao) (AE.subF (sL [0,1] O) (q4 (B0 (cs:=Ge x) O λb1=>AI O (q3 (sL [1,2,4] O) (AM O (AK (CI (c:=(decide ((0:Int)<=p))) O O O) O (AM O ?_)))))))
 refine AC.mid (FM:=[(1,(vI p)),(2,(pP b1 0)),(4,(Value.bool false)),(5,(vI p)),(6,(Value.bool (decide ((0:Int)<=p)))),(7,(Value.bool (decide ((0:Int)<=p)))),(13,(Value.bool ((decide ((0:Int)<=p))&&(decide (p<((N:Nat):Int))))))]) (LM:=[Ah b1 38 (Ge x),AJ x.a.p (x.cs),AJ x.b.p (rowsL Bg zs),AJ x.c.p (x.ds)]) 6 ?_ ?_
 ·rcases Bool.eq_false_or_eq_true (decide ((0:Int)<=p)) with hg1|hg1
  ·skip
   refine AC.retell (k:=7) (u:=Value.bool true) O (by rw [hg1]) ?_
   have hg1':=hg1
   replace hg1':=of_decide_eq_true hg1'
   exact AC.step (v:=(vI p)) (AA O) (AW O) O (AV O) (AC.step (v:=(pP b1 0)) (AA O) (AB O underlying38 O sizeOf35 O) O (AV O) (AC.step (v:=(Value.slice x.a.p N x.a.c)) (AA O) (AN (i:=0) (v:=(Value.slice x.a.p N x.a.c)) O O N5.a O) O (AV O) (AC.step (v:=(vN N)) (AA O) (AF O underlying35) O (AV O) (AC.step (v:=(Value.bool (decide (p<((N:Nat):Int))))) (AA O) (Ad (c:=(decide (p<((N:Nat):Int)))) O O O) O (AV O) (AK (v:=(Value.bool (decide (p<((N:Nat):Int))))) (AR O O) O (AC.nil (OkQ.mid (sS O (sS O (sS O (sS O (sS O (sS (by first|rfl|(rw [hg1];rfl)|rw [hg1]) (sS (by first|rfl|(rw [hg1];rfl)|rw [hg1]) (sN)))))))) (List.Sublist.refl _))))))))
  ·skip
   refine AC.retell (k:=7) (u:=Value.bool false) O (by rw [hg1]) ?_
   have hg1':=hg1
   replace hg1':=of_decide_eq_false hg1'
   exact AC.skip (AD O) O (AV O) (AC.skip (AD O) O (AV O) (AC.skip (AD O) O (AV O) (AC.skip (AD O) O (AV O) (AC.skip (AD O) O (AV O) (AK (v:=(Value.bool false)) (AO O O) O (AC.nil (OkQ.mid (sS O (sS O (sS O (sS O (sS O (sS (by first|rfl|(rw [hg1];rfl)|rw [hg1]) (sS (by first|rfl|(rw [hg1];rfl)|rw [hg1]) (sN)))))))) (List.Sublist.refl _))))))))
 exact AI O (AC.nil (OkQ.subF (sL [4] O) (OkQ.then_ (AE.ret (AS O (AZ (v:=(Value.bool ((decide ((0:Int)<=p))&&(decide (p<((N:Nat):Int)))))) O) (λw hw=>⟨by unfold BI;first|rfl|simp,hw.out⟩))))))
set_option maxHeartbeats 1000000 in
theorem Tr {N K:Nat} {zs:List Z3} (x:RQ N K zs) (hl:zs.length<=1000000) (w:World) {S:Nat->Prop} (hx:Ro S w x):Calls prog 39 #[(aG (Ge x))] w (Ak w (Value.bool (E5 N zs))):=by
 have lx:=CV (W:=w) hx
 refine Ag (args:=[(aG (Ge x))]) (L:=[AJ x.a.p (x.cs),AJ x.b.p (rowsL Bg zs),AJ x.c.p (x.ds)]) func39 O O (AV O) (C4 hx Ao) (AE.subF (sL [0] O) (q4 (B0 (cs:=Ge x) O λb1=>AI O (q6 (sL [1,2] O) (q4 (AI O (AC.nil (OkQ.then_ (AE.block ?_)))))))))
 refine AE.lp1 (tg λ(i:Nat)=>i<=zs.length/\∀j,j<i->OJ N (zs.getD j (0,0,0))=true) (tg λ(i:Nat)=>[(1,(pP b1 0)),(3,(vN i))]) (tg λ(i:Nat)=>[Ah b1 38 (Ge x),AJ x.a.p (x.cs),AJ x.b.p (rowsL Bg zs),AJ x.c.p (x.ds)]) (tg λ(i:Nat)=>zs.length-i) 0 (⟨Nat.zero_le _,λj h=>absurd h (Nat.not_lt_zero _)⟩) (sF O) sr (λi hJ=>?_)
 obtain ⟨hi,hok⟩:=hJ
 refine AE.seq (q4 (AM O (AK (v:=(pP b1 1)) (AB O underlying38 O sizeOf28 O) O (BL 0 (Value.slice x.b.p zs.length x.b.c) Bp O (AK (v:=(vN zs.length)) (AF O underlying28) O (AK (Ad (c:=(decide (i<zs.length))) O O (B7 (a:=i) (b:=zs.length))) O (AC.nil (OkQ.subF (sL [1,3,9] O) (OkQ.then_ ?_)))))))))
 refine AE.cond O (λhc0=>?_) (λhc0=>?_)
 ·replace hc0:=of_decide_eq_true hc0
  obtain ⟨T,hT⟩:∃q,q=zs.getD i (0,0,0):=⟨_,rfl⟩
  refine AE.skip (q1 (AE.block (q4 (AK (v:=(pP b1 1)) (AB O underlying38 O sizeOf28 O) O (BL 0 (Value.slice x.b.p zs.length x.b.c) Bp O (AM O (AK (v:=(pP (pB x.b.p) (pO x.b.p+i*3))) (AH (j:=i) O O x.b.ok underlying28 sizeOf68 O Z) O (AK (v:=(aG (Bg (zs.getD i ((0,0,0):Z3))))) (Ai (vs:=Bg (zs.getD i ((0,0,0):Z3))) (i:=2) O O (Ar.ne x.b.ok Z) DL (A8 CQ _ _ _ Z) (CQ _)) O (AC.retell (k:=16) (u:=(aG (Bg T))) O (by rw [hT]) (al Ng O λb2=>BP O sizeOf68 O ?_))))))))))
  refine q3 (sL [1,3,4] O) (BC 1 CH O (AK (v:=(pP b2 0)) (AG (j:=0) O O underlying68 sizeOf3 O (by decide) O) O (BL 0 (vI T.1) BR O (Cc call56 (λw hw=>Mi x T.1 w (Bc hw 2 O lx)) O (AK (BF (c:=(!(BI N T.1))) O O) O (AM O ?_))))))
  refine AC.mid (FM:=[(1,(pP b1 0)),(3,(vN i)),(4,(pP b2 0)),(17,(aG (Ge x))),(18,(pP b2 0)),(19,(vI T.1)),(20,(Value.bool (BI N T.1))),(21,(Value.bool (!(BI N T.1)))),(22,(Value.bool (!(BI N T.1)))),(28,(Value.bool ((!(BI N T.1))||(!(BI N T.2.1)))))]) (LM:=[Ah b2 68 (Bg T),Ah b1 38 (Ge x),AJ x.a.p (x.cs),AJ x.b.p (rowsL Bg zs),AJ x.c.p (x.ds)]) 6 ?_ ?_
  ·rcases Bool.eq_false_or_eq_true (!(BI N T.1)) with hg1|hg1
   ·skip
    refine AC.retell (k:=22) (u:=Value.bool true) O (by rw [hg1]) ?_
    have hg1':=hg1
    simp only [Bool.and_eq_true,Bool.or_eq_true,Bool.and_eq_false_iff,Bool.or_eq_false_iff,Bool.not_eq_true',Bool.not_eq_false',decide_eq_true_eq,decide_eq_false_iff_not] at hg1'
    exact AC.skip (AD O) O (AV O) (AC.skip (AD O) O (AV O) (AC.skip (AD O) O (AV O) (AC.skip (AD O) O (AV O) (AC.skip (AD O) O (AV O) (AK (v:=(Value.bool true)) (AR O O) O (AC.nil (OkQ.mid (sS O (sS O (sS O (sS O (sS O (sS O (sS O (sS O (sS (by first|rfl|(rw [hg1];rfl)|rw [hg1]) (sS (by first|rfl|(rw [hg1];rfl)|rw [hg1]) (sN))))))))))) (List.Sublist.refl _))))))))
   ·skip
    refine AC.retell (k:=22) (u:=Value.bool false) O (by rw [hg1]) ?_
    have hg1':=hg1
    simp only [Bool.and_eq_true,Bool.or_eq_true,Bool.and_eq_false_iff,Bool.or_eq_false_iff,Bool.not_eq_true',Bool.not_eq_false',decide_eq_true_eq,decide_eq_false_iff_not] at hg1'
    exact AC.step (v:=(aG (Ge x))) (AA O) (BK (i:=1) (vs:=Ge x) O O CH.a CH.s O O) O (AV O) (AC.step (v:=(pP b2 1)) (AA O) (AG (j:=1) O O underlying68 sizeOf3 O (by decide) O) O (AV O) (AC.step (v:=(vI T.2.1)) (AA O) (AN (i:=0) (v:=(vI T.2.1)) O O BR.a O) O (AV O) (AC.call (v:=(Value.bool (BI N T.2.1))) (AA O) (Aw (args:=[(aG (Ge x)),(vI T.2.1)]) O O call56) (λw hw=>Mi x T.2.1 w (Bc hw 2 O lx)) O (AV O) (AC.step (v:=(Value.bool (!(BI N T.2.1)))) (AA O) (BF (c:=(!(BI N T.2.1))) O O) O (AV O) (AK (v:=(Value.bool (!(BI N T.2.1)))) (AO O O) O (AC.nil (OkQ.mid (sS O (sS O (sS O (sS O (sS O (sS O (sS O (sS O (sS (by first|rfl|(rw [hg1];rfl)|rw [hg1]) (sS (by first|rfl|(rw [hg1];rfl)|rw [hg1]) (sN))))))))))) (List.Sublist.refl _))))))))
  refine AM O ?_
  refine AC.mid (FM:=[(1,(pP b1 0)),(3,(vN i)),(4,(pP b2 0)),(17,(aG (Ge x))),(18,(pP b2 0)),(19,(vI T.1)),(20,(Value.bool (BI N T.1))),(21,(Value.bool (!(BI N T.1)))),(22,(Value.bool (!(BI N T.1)))),(28,(Value.bool ((!(BI N T.1))||(!(BI N T.2.1))))),(29,(Value.bool ((!(BI N T.1))||(!(BI N T.2.1))))),(35,(Value.bool (((!(BI N T.1))||(!(BI N T.2.1)))||(!(BI N T.2.2)))))]) (LM:=[Ah b2 68 (Bg T),Ah b1 38 (Ge x),AJ x.a.p (x.cs),AJ x.b.p (rowsL Bg zs),AJ x.c.p (x.ds)]) 6 ?_ ?_
  ·rcases Bool.eq_false_or_eq_true ((!(BI N T.1))||(!(BI N T.2.1))) with hg2|hg2
   ·skip
    refine AC.retell (k:=29) (u:=Value.bool true) O (by rw [hg2]) ?_
    have hg2':=hg2
    simp only [Bool.and_eq_true,Bool.or_eq_true,Bool.and_eq_false_iff,Bool.or_eq_false_iff,Bool.not_eq_true',Bool.not_eq_false',decide_eq_true_eq,decide_eq_false_iff_not] at hg2'
    exact AC.skip (AD O) O (AV O) (AC.skip (AD O) O (AV O) (AC.skip (AD O) O (AV O) (AC.skip (AD O) O (AV O) (AC.skip (AD O) O (AV O) (AK (v:=(Value.bool true)) (AR O O) O (AC.nil (OkQ.mid (sS O (sS O (sS O (sS O (sS O (sS O (sS O (sS O (sS O (sS O (sS (by first|rfl|(rw [hg2];rfl)|rw [hg2]) (sS (by first|rfl|(rw [hg2];rfl)|rw [hg2]) (sN))))))))))))) (List.Sublist.refl _))))))))
   ·skip
    refine AC.retell (k:=29) (u:=Value.bool false) O (by rw [hg2]) ?_
    have hg2':=hg2
    simp only [Bool.and_eq_true,Bool.or_eq_true,Bool.and_eq_false_iff,Bool.or_eq_false_iff,Bool.not_eq_true',Bool.not_eq_false',decide_eq_true_eq,decide_eq_false_iff_not] at hg2'
    exact AC.step (v:=(aG (Ge x))) (AA O) (BK (i:=1) (vs:=Ge x) O O CH.a CH.s O O) O (AV O) (AC.step (v:=(pP b2 2)) (AA O) (AG (j:=2) O O underlying68 sizeOf3 O (by decide) O) O (AV O) (AC.step (v:=(vI T.2.2)) (AA O) (AN (i:=0) (v:=(vI T.2.2)) O O BR.a O) O (AV O) (AC.call (v:=(Value.bool (BI N T.2.2))) (AA O) (Aw (args:=[(aG (Ge x)),(vI T.2.2)]) O O call56) (λw hw=>Mi x T.2.2 w (Bc hw 2 O lx)) O (AV O) (AC.step (v:=(Value.bool (!(BI N T.2.2)))) (AA O) (BF (c:=(!(BI N T.2.2))) O O) O (AV O) (AK (v:=(Value.bool (!(BI N T.2.2)))) (AO O O) O (AC.nil (OkQ.mid (sS O (sS O (sS O (sS O (sS O (sS O (sS O (sS O (sS O (sS O (sS (by first|rfl|(rw [hg2];rfl)|rw [hg2]) (sS (by first|rfl|(rw [hg2];rfl)|rw [hg2]) (sN))))))))))))) (List.Sublist.refl _))))))))
  refine AM O ?_
  refine AC.mid (FM:=[(1,(pP b1 0)),(3,(vN i)),(4,(pP b2 0)),(17,(aG (Ge x))),(18,(pP b2 0)),(19,(vI T.1)),(20,(Value.bool (BI N T.1))),(21,(Value.bool (!(BI N T.1)))),(22,(Value.bool (!(BI N T.1)))),(28,(Value.bool ((!(BI N T.1))||(!(BI N T.2.1))))),(29,(Value.bool ((!(BI N T.1))||(!(BI N T.2.1))))),(35,(Value.bool (((!(BI N T.1))||(!(BI N T.2.1)))||(!(BI N T.2.2))))),(36,(Value.bool (((!(BI N T.1))||(!(BI N T.2.1)))||(!(BI N T.2.2))))),(42,(Value.bool ((((!(BI N T.1))||(!(BI N T.2.1)))||(!(BI N T.2.2)))||(decide (T.1=T.2.1)))))]) (LM:=[Ah b2 68 (Bg T),Ah b1 38 (Ge x),AJ x.a.p (x.cs),AJ x.b.p (rowsL Bg zs),AJ x.c.p (x.ds)]) 6 ?_ ?_
  ·rcases Bool.eq_false_or_eq_true (((!(BI N T.1))||(!(BI N T.2.1)))||(!(BI N T.2.2))) with hg3|hg3
   ·skip
    refine AC.retell (k:=36) (u:=Value.bool true) O (by rw [hg3]) ?_
    have hg3':=hg3
    simp only [Bool.and_eq_true,Bool.or_eq_true,Bool.and_eq_false_iff,Bool.or_eq_false_iff,Bool.not_eq_true',Bool.not_eq_false',decide_eq_true_eq,decide_eq_false_iff_not] at hg3'
    exact AC.skip (AD O) O (AV O) (AC.skip (AD O) O (AV O) (AC.skip (AD O) O (AV O) (AC.skip (AD O) O (AV O) (AC.skip (AD O) O (AV O) (AK (v:=(Value.bool true)) (AR O O) O (AC.nil (OkQ.mid (sS O (sS O (sS O (sS O (sS O (sS O (sS O (sS O (sS O (sS O (sS O (sS O (sS (by first|rfl|(rw [hg3];rfl)|rw [hg3]) (sS (by first|rfl|(rw [hg3];rfl)|rw [hg3]) (sN))))))))))))))) (List.Sublist.refl _))))))))
   ·skip
    refine AC.retell (k:=36) (u:=Value.bool false) O (by rw [hg3]) ?_
    have hg3':=hg3
    simp only [Bool.and_eq_true,Bool.or_eq_true,Bool.and_eq_false_iff,Bool.or_eq_false_iff,Bool.not_eq_true',Bool.not_eq_false',decide_eq_true_eq,decide_eq_false_iff_not] at hg3'
    exact AC.step (v:=(pP b2 0)) (AA O) (AG (j:=0) O O underlying68 sizeOf3 O (by decide) O) O (AV O) (AC.step (v:=(vI T.1)) (AA O) (AN (i:=0) (v:=(vI T.1)) O O BR.a O) O (AV O) (AC.step (v:=(pP b2 1)) (AA O) (AG (j:=1) O O underlying68 sizeOf3 O (by decide) O) O (AV O) (AC.step (v:=(vI T.2.1)) (AA O) (AN (i:=0) (v:=(vI T.2.1)) O O BR.a O) O (AV O) (AC.step (v:=(Value.bool (decide (T.1=T.2.1)))) (AA O) (BA (c:=(decide (T.1=T.2.1))) O O O) O (AV O) (AK (v:=(Value.bool (decide (T.1=T.2.1)))) (AO O O) O (AC.nil (OkQ.mid (sS O (sS O (sS O (sS O (sS O (sS O (sS O (sS O (sS O (sS O (sS O (sS O (sS (by first|rfl|(rw [hg3];rfl)|rw [hg3]) (sS (by first|rfl|(rw [hg3];rfl)|rw [hg3]) (sN))))))))))))))) (List.Sublist.refl _))))))))
  refine AM O ?_
  refine AC.mid (FM:=[(1,(pP b1 0)),(3,(vN i)),(4,(pP b2 0)),(17,(aG (Ge x))),(18,(pP b2 0)),(19,(vI T.1)),(20,(Value.bool (BI N T.1))),(21,(Value.bool (!(BI N T.1)))),(22,(Value.bool (!(BI N T.1)))),(28,(Value.bool ((!(BI N T.1))||(!(BI N T.2.1))))),(29,(Value.bool ((!(BI N T.1))||(!(BI N T.2.1))))),(35,(Value.bool (((!(BI N T.1))||(!(BI N T.2.1)))||(!(BI N T.2.2))))),(36,(Value.bool (((!(BI N T.1))||(!(BI N T.2.1)))||(!(BI N T.2.2))))),(42,(Value.bool ((((!(BI N T.1))||(!(BI N T.2.1)))||(!(BI N T.2.2)))||(decide (T.1=T.2.1))))),(43,(Value.bool ((((!(BI N T.1))||(!(BI N T.2.1)))||(!(BI N T.2.2)))||(decide (T.1=T.2.1))))),(49,(Value.bool (((((!(BI N T.1))||(!(BI N T.2.1)))||(!(BI N T.2.2)))||(decide (T.1=T.2.1)))||(decide (T.1=T.2.2)))))]) (LM:=[Ah b2 68 (Bg T),Ah b1 38 (Ge x),AJ x.a.p (x.cs),AJ x.b.p (rowsL Bg zs),AJ x.c.p (x.ds)]) 6 ?_ ?_
  ·rcases Bool.eq_false_or_eq_true ((((!(BI N T.1))||(!(BI N T.2.1)))||(!(BI N T.2.2)))||(decide (T.1=T.2.1))) with hg4|hg4
   ·skip
    refine AC.retell (k:=43) (u:=Value.bool true) O (by rw [hg4]) ?_
    have hg4':=hg4
    simp only [Bool.and_eq_true,Bool.or_eq_true,Bool.and_eq_false_iff,Bool.or_eq_false_iff,Bool.not_eq_true',Bool.not_eq_false',decide_eq_true_eq,decide_eq_false_iff_not] at hg4'
    exact AC.skip (AD O) O (AV O) (AC.skip (AD O) O (AV O) (AC.skip (AD O) O (AV O) (AC.skip (AD O) O (AV O) (AC.skip (AD O) O (AV O) (AK (v:=(Value.bool true)) (AR O O) O (AC.nil (OkQ.mid (sS O (sS O (sS O (sS O (sS O (sS O (sS O (sS O (sS O (sS O (sS O (sS O (sS O (sS O (sS (by first|rfl|(rw [hg4];rfl)|rw [hg4]) (sS (by first|rfl|(rw [hg4];rfl)|rw [hg4]) (sN))))))))))))))))) (List.Sublist.refl _))))))))
   ·skip
    refine AC.retell (k:=43) (u:=Value.bool false) O (by rw [hg4]) ?_
    have hg4':=hg4
    simp only [Bool.and_eq_true,Bool.or_eq_true,Bool.and_eq_false_iff,Bool.or_eq_false_iff,Bool.not_eq_true',Bool.not_eq_false',decide_eq_true_eq,decide_eq_false_iff_not] at hg4'
    exact AC.step (v:=(pP b2 0)) (AA O) (AG (j:=0) O O underlying68 sizeOf3 O (by decide) O) O (AV O) (AC.step (v:=(vI T.1)) (AA O) (AN (i:=0) (v:=(vI T.1)) O O BR.a O) O (AV O) (AC.step (v:=(pP b2 2)) (AA O) (AG (j:=2) O O underlying68 sizeOf3 O (by decide) O) O (AV O) (AC.step (v:=(vI T.2.2)) (AA O) (AN (i:=0) (v:=(vI T.2.2)) O O BR.a O) O (AV O) (AC.step (v:=(Value.bool (decide (T.1=T.2.2)))) (AA O) (BA (c:=(decide (T.1=T.2.2))) O O O) O (AV O) (AK (v:=(Value.bool (decide (T.1=T.2.2)))) (AO O O) O (AC.nil (OkQ.mid (sS O (sS O (sS O (sS O (sS O (sS O (sS O (sS O (sS O (sS O (sS O (sS O (sS O (sS O (sS (by first|rfl|(rw [hg4];rfl)|rw [hg4]) (sS (by first|rfl|(rw [hg4];rfl)|rw [hg4]) (sN))))))))))))))))) (List.Sublist.refl _))))))))
  refine AM O ?_
  refine AC.mid (FM:=[(1,(pP b1 0)),(3,(vN i)),(4,(pP b2 0)),(17,(aG (Ge x))),(18,(pP b2 0)),(19,(vI T.1)),(20,(Value.bool (BI N T.1))),(21,(Value.bool (!(BI N T.1)))),(22,(Value.bool (!(BI N T.1)))),(28,(Value.bool ((!(BI N T.1))||(!(BI N T.2.1))))),(29,(Value.bool ((!(BI N T.1))||(!(BI N T.2.1))))),(35,(Value.bool (((!(BI N T.1))||(!(BI N T.2.1)))||(!(BI N T.2.2))))),(36,(Value.bool (((!(BI N T.1))||(!(BI N T.2.1)))||(!(BI N T.2.2))))),(42,(Value.bool ((((!(BI N T.1))||(!(BI N T.2.1)))||(!(BI N T.2.2)))||(decide (T.1=T.2.1))))),(43,(Value.bool ((((!(BI N T.1))||(!(BI N T.2.1)))||(!(BI N T.2.2)))||(decide (T.1=T.2.1))))),(49,(Value.bool (((((!(BI N T.1))||(!(BI N T.2.1)))||(!(BI N T.2.2)))||(decide (T.1=T.2.1)))||(decide (T.1=T.2.2))))),(50,(Value.bool (((((!(BI N T.1))||(!(BI N T.2.1)))||(!(BI N T.2.2)))||(decide (T.1=T.2.1)))||(decide (T.1=T.2.2))))),(56,(Value.bool ((((((!(BI N T.1))||(!(BI N T.2.1)))||(!(BI N T.2.2)))||(decide (T.1=T.2.1)))||(decide (T.1=T.2.2)))||(decide (T.2.1=T.2.2)))))]) (LM:=[Ah b2 68 (Bg T),Ah b1 38 (Ge x),AJ x.a.p (x.cs),AJ x.b.p (rowsL Bg zs),AJ x.c.p (x.ds)]) 6 ?_ ?_
  ·rcases Bool.eq_false_or_eq_true (((((!(BI N T.1))||(!(BI N T.2.1)))||(!(BI N T.2.2)))||(decide (T.1=T.2.1)))||(decide (T.1=T.2.2))) with hg5|hg5
   ·skip
    refine AC.retell (k:=50) (u:=Value.bool true) O (by rw [hg5]) ?_
    have hg5':=hg5
    simp only [Bool.and_eq_true,Bool.or_eq_true,Bool.and_eq_false_iff,Bool.or_eq_false_iff,Bool.not_eq_true',Bool.not_eq_false',decide_eq_true_eq,decide_eq_false_iff_not] at hg5'
    exact AC.skip (AD O) O (AV O) (AC.skip (AD O) O (AV O) (AC.skip (AD O) O (AV O) (AC.skip (AD O) O (AV O) (AC.skip (AD O) O (AV O) (AK (v:=(Value.bool true)) (AR O O) O (AC.nil (OkQ.mid (sS O (sS O (sS O (sS O (sS O (sS O (sS O (sS O (sS O (sS O (sS O (sS O (sS O (sS O (sS O (sS O (sS (by first|rfl|(rw [hg5];rfl)|rw [hg5]) (sS (by first|rfl|(rw [hg5];rfl)|rw [hg5]) (sN))))))))))))))))))) (List.Sublist.refl _))))))))
   ·skip
    refine AC.retell (k:=50) (u:=Value.bool false) O (by rw [hg5]) ?_
    have hg5':=hg5
    simp only [Bool.and_eq_true,Bool.or_eq_true,Bool.and_eq_false_iff,Bool.or_eq_false_iff,Bool.not_eq_true',Bool.not_eq_false',decide_eq_true_eq,decide_eq_false_iff_not] at hg5'
    exact AC.step (v:=(pP b2 1)) (AA O) (AG (j:=1) O O underlying68 sizeOf3 O (by decide) O) O (AV O) (AC.step (v:=(vI T.2.1)) (AA O) (AN (i:=0) (v:=(vI T.2.1)) O O BR.a O) O (AV O) (AC.step (v:=(pP b2 2)) (AA O) (AG (j:=2) O O underlying68 sizeOf3 O (by decide) O) O (AV O) (AC.step (v:=(vI T.2.2)) (AA O) (AN (i:=0) (v:=(vI T.2.2)) O O BR.a O) O (AV O) (AC.step (v:=(Value.bool (decide (T.2.1=T.2.2)))) (AA O) (BA (c:=(decide (T.2.1=T.2.2))) O O O) O (AV O) (AK (v:=(Value.bool (decide (T.2.1=T.2.2)))) (AO O O) O (AC.nil (OkQ.mid (sS O (sS O (sS O (sS O (sS O (sS O (sS O (sS O (sS O (sS O (sS O (sS O (sS O (sS O (sS O (sS O (sS (by first|rfl|(rw [hg5];rfl)|rw [hg5]) (sS (by first|rfl|(rw [hg5];rfl)|rw [hg5]) (sN))))))))))))))))))) (List.Sublist.refl _))))))))
  refine AC.nil (OkQ.subF (sL [1,3,4,56] O) (OkQ.then_ ?_))
  refine AE.cond O (λhc1=>?_) (λhc1=>?_)
  ·simp only [Bool.and_eq_true,Bool.or_eq_true,Bool.and_eq_false_iff,Bool.or_eq_false_iff,Bool.not_eq_true',Bool.not_eq_false',decide_eq_true_eq,decide_eq_false_iff_not] at hc1
   exact q4 (AI O (AC.nil (OkQ.then_ (AE.ret (OkQ.in_ret (OkQ.then_ret (OkQ.round1_ret (OkQ.in_ret (OkQ.then_ret (AS O (AZ (v:=(Value.bool false)) O) (λw hw=>⟨by rw [XE (j:=i) Z (by rw [<-hT];unfold OJ;rw [Bool.eq_false_iff];intro h9;simp only [Bool.and_eq_true,Bool.not_eq_true',decide_eq_false_iff_not] at h9;grind)],hw.out⟩)))))))))))
  ·simp only [Bool.and_eq_true,Bool.or_eq_true,Bool.and_eq_false_iff,Bool.or_eq_false_iff,Bool.not_eq_true',Bool.not_eq_false',decide_eq_true_eq,decide_eq_false_iff_not] at hc1
   exact AE.skip (OkQ.in_normal (OkQ.then_ (AE.region (AM O (AK (AY (c:=((i+1:Nat):Int)) O O (AU (a:=i) (b:=1) Z)) O (AI O (AC.nil (OkQ.subF (sL [1,3,4] O) (OkQ.round1 (i+1) (⟨Z,λj hj=>by rcases Nat.lt_or_ge j i with h9|h9;exact hok j h9;rw [show j=i by omega,<-hT];unfold OJ;simp only [Bool.and_eq_true,Bool.not_eq_true',decide_eq_false_iff_not];grind⟩) Z (sF O) (sl sr))))))))))
 ·replace hc0:=of_decide_eq_false hc0
  exact AE.exit (OkQ.then_exit (OkQ.round1_exit (OkQ.in_exit (q2 (AI O (AC.nil (OkQ.then_ (AE.ret (AS O (AZ (v:=(Value.bool true)) O) (λw hw=>⟨by rw [Ud λj hj=>hok j Z],hw.out⟩))))))))))
end
end Go.Proofs.YtpgncndhhhllfaaGreat
