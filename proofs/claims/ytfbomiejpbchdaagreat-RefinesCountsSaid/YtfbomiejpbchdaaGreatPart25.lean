import Derived.Test.YtfbomiejpbchdaaGreatPart06
import Derived.Test.YtfbomiejpbchdaaGreatPart08
import Derived.Test.YtfbomiejpbchdaaGreatPart24
namespace Go.Proofs.YtfbomiejpbchdaaGreat
open Go Go.RowKit
set_option linter.unusedVariables false
set_option linter.unusedSimpArgs false
section
set_option maxRecDepth 100000
theorem Js (p n:Nat) (w:World)  :Calls Tryz.prog 61 #[(vN p),(vN n)] w (Ax w (Value.bool (decide (p<n)))):=by
 refine Ad (args:=[(vN p),(vN n)]) Tryz.func61 rfl rfl (Af rfl) (AE.subF (sL [0,1] rfl) (q4 (AL rfl (AD.nil (q2 ?_)))))
 refine AO rfl (AH (FB (c:=(decide (0<=p))) rfl rfl (Um (a:=0) (b:=p))) rfl (AO rfl ?_))
 refine AD.mid (FM:=[(0,(vN p)),(1,(vN n)),(4,(Value.bool false)),(5,(vN p)),(6,(Value.bool (decide (0<=p)))),(7,(Value.bool (decide (0<=p)))),(11,(Value.bool ((decide (0<=p))&&(decide (p<n)))))]) (LM:=[]) 4 ?_ ?_
 ·rcases Bool.eq_false_or_eq_true (decide (0<=p)) with hg1|hg1
  ·skip
   refine AD.retell (k:=7) (u:=Value.bool true) rfl (by rw [hg1]) ?_
   have hg1':=hg1
   replace hg1':=of_decide_eq_true hg1'
   exact AD.step (v:=(vN p)) (AB rfl) (BU rfl) rfl (Af rfl) (AD.step (v:=(vN n)) (AB rfl) (BU rfl) rfl (Af rfl) (AD.step (v:=(Value.bool (decide (p<n)))) (AB rfl) (Ag (c:=(decide (p<n))) rfl rfl (DA (a:=p) (b:=n))) rfl (Af rfl) (AH (v:=(Value.bool (decide (p<n)))) (Ae rfl rfl) rfl (AD.nil (AC.mid (sS rfl (sS rfl (sS rfl (sS rfl (sS rfl (sS (by first|rfl|(rw [hg1];rfl)|rw [hg1]) (sS (by first|rfl|(rw [hg1];rfl)|rw [hg1]) (sN)))))))) (List.Sublist.refl _))))))
  ·skip
   refine AD.retell (k:=7) (u:=Value.bool false) rfl (by rw [hg1]) ?_
   have hg1':=hg1
   replace hg1':=of_decide_eq_false hg1'
   exact AD.skip (AM rfl) rfl (Af rfl) (AD.skip (AM rfl) rfl (Af rfl) (AD.skip (AM rfl) rfl (Af rfl) (AH (v:=(Value.bool false)) (Aa rfl rfl) rfl (AD.nil (AC.mid (sS rfl (sS rfl (sS rfl (sS rfl (sS rfl (sS (by first|rfl|(rw [hg1];rfl)|rw [hg1]) (sS (by first|rfl|(rw [hg1];rfl)|rw [hg1]) (sN)))))))) (List.Sublist.refl _))))))
 exact AL rfl (AD.nil (AC.subF (sL [4] rfl) (AC.then_ (AE.ret (AU rfl (Am (v:=(Value.bool ((decide (0<=p))&&(decide (p<n))))) rfl) (λw hw=>⟨by simp,hw.out⟩))))))
theorem TQ (t:Nat×Nat×Nat) (n:Nat) (bo:BX [vN n]) (w:World) {S:Nat->Prop} (hbo:Ro S w bo):Calls Tryz.prog 171 #[(aG (Ai t)),(pP bo.b 0)] w (Ax w (Value.bool (!M2 n t))):=by
 have lbo:=H0 (W:=w) hbo
 refine BQ (args:=[(aG (Ai t)),(pP bo.b 0)]) (L:=[AX (some ⟨bo.b,0,none⟩) ([(vN n)])]) Tryz.func171 rfl rfl (Af rfl) (Hy hbo Bo) (AE.subF (sL [0,1] rfl) (q4 (CB (cs:=Ai t) rfl λb1=>AL rfl (q3 (sL [1,2,3] rfl) ?_))))
 refine AH (v:=(pP b1 0)) (AG (j:=0) rfl rfl Tryz.underlying76 Tryz.sizeOf3 rfl (by decide) rfl) rfl (BI 0 (vN t.1) B_ rfl (AH (BD (q:=some ⟨bo.b,0,none⟩) (v:=(vN n)) (off:=0) (i:=1) rfl rfl (λe=>by cases e) B_ rfl) rfl (BY Tryz.call61 (Js t.1 n) rfl (AH (CR (c:=(!(decide (t.1<n)))) rfl rfl) rfl (AO rfl ?_)))))
 refine AD.mid (FM:=[(1,(pP bo.b 0)),(2,(pP b1 0)),(3,(Value.bool false)),(4,(pP b1 0)),(5,(vN t.1)),(6,(vN n)),(7,(Value.bool (decide (t.1<n)))),(8,(Value.bool (!(decide (t.1<n))))),(9,(Value.bool (!(decide (t.1<n))))),(15,(Value.bool ((!(decide (t.1<n)))||(!(decide (t.2.1<n))))))]) (LM:=[Ac b1 76 (Ai t),AX (some ⟨bo.b,0,none⟩) ([(vN n)])]) 6 ?_ ?_
 ·rcases Bool.eq_false_or_eq_true (!(decide (t.1<n))) with hg1|hg1
  ·skip
   refine AD.retell (k:=9) (u:=Value.bool true) rfl (by rw [hg1]) ?_
   have hg1':=hg1
   simp only [Bool.and_eq_true,Bool.or_eq_true,Bool.and_eq_false_iff,Bool.or_eq_false_iff,Bool.not_eq_true',Bool.not_eq_false',decide_eq_true_eq,decide_eq_false_iff_not] at hg1'
   refine AD.skip (AM rfl) rfl (Af rfl) (AD.skip (AM rfl) rfl (Af rfl) (AD.skip (AM rfl) rfl (Af rfl) (AD.skip (AM rfl) rfl (Af rfl) (AD.skip (AM rfl) rfl (Af rfl) (AH (v:=(Value.bool true)) (Ae rfl rfl) rfl ?_)))))
   exact AD.nil (AC.mid (sS rfl (sS rfl (sS rfl (sS rfl (sS rfl (sS rfl (sS rfl (sS rfl (sS (by first|rfl|(rw [hg1];rfl)|rw [hg1]) (sS (by first|rfl|(rw [hg1];rfl)|rw [hg1]) (sN))))))))))) (List.Sublist.refl _))
  ·skip
   refine AD.retell (k:=9) (u:=Value.bool false) rfl (by rw [hg1]) ?_
   have hg1':=hg1
   simp only [Bool.and_eq_true,Bool.or_eq_true,Bool.and_eq_false_iff,Bool.or_eq_false_iff,Bool.not_eq_true',Bool.not_eq_false',decide_eq_true_eq,decide_eq_false_iff_not] at hg1'
   refine AD.step (v:=(pP b1 1)) (AB rfl) (AG (j:=1) rfl rfl Tryz.underlying76 Tryz.sizeOf3 rfl (by decide) rfl) rfl (Af rfl) (AD.step (v:=(vN t.2.1)) (AB rfl) (AK (i:=0) (v:=(vN t.2.1)) rfl rfl B_.a rfl) rfl (Af rfl) (AD.step (v:=(vN n)) (AB rfl) (BD (q:=some ⟨bo.b,0,none⟩) (v:=(vN n)) (off:=0) (i:=1) rfl rfl (λe=>by cases e) B_ rfl) rfl (Af rfl) (AD.call (v:=(Value.bool (decide (t.2.1<n)))) (AB rfl) (A8 (args:=[(vN t.2.1),(vN n)]) rfl rfl Tryz.call61) (λw hw=>Js t.2.1 n w) rfl (Af rfl) (AD.step (v:=(Value.bool (!(decide (t.2.1<n))))) (AB rfl) (CR (c:=(!(decide (t.2.1<n)))) rfl rfl) rfl (Af rfl) (AH (v:=(Value.bool (!(decide (t.2.1<n))))) (Aa rfl rfl) rfl ?_)))))
   exact AD.nil (AC.mid (sS rfl (sS rfl (sS rfl (sS rfl (sS rfl (sS rfl (sS rfl (sS rfl (sS (by first|rfl|(rw [hg1];rfl)|rw [hg1]) (sS (by first|rfl|(rw [hg1];rfl)|rw [hg1]) (sN))))))))))) (List.Sublist.refl _))
 refine AO rfl ?_
 refine AD.mid (FM:=[(1,(pP bo.b 0)),(2,(pP b1 0)),(3,(Value.bool false)),(4,(pP b1 0)),(5,(vN t.1)),(6,(vN n)),(7,(Value.bool (decide (t.1<n)))),(8,(Value.bool (!(decide (t.1<n))))),(9,(Value.bool (!(decide (t.1<n))))),(15,(Value.bool ((!(decide (t.1<n)))||(!(decide (t.2.1<n)))))),(16,(Value.bool ((!(decide (t.1<n)))||(!(decide (t.2.1<n)))))),(22,(Value.bool (((!(decide (t.1<n)))||(!(decide (t.2.1<n))))||(!(decide (t.2.2<n))))))]) (LM:=[Ac b1 76 (Ai t),AX (some ⟨bo.b,0,none⟩) ([(vN n)])]) 6 ?_ ?_
 ·rcases Bool.eq_false_or_eq_true ((!(decide (t.1<n)))||(!(decide (t.2.1<n)))) with hg2|hg2
  ·skip
   refine AD.retell (k:=16) (u:=Value.bool true) rfl (by rw [hg2]) ?_
   have hg2':=hg2
   simp only [Bool.and_eq_true,Bool.or_eq_true,Bool.and_eq_false_iff,Bool.or_eq_false_iff,Bool.not_eq_true',Bool.not_eq_false',decide_eq_true_eq,decide_eq_false_iff_not] at hg2'
   refine AD.skip (AM rfl) rfl (Af rfl) (AD.skip (AM rfl) rfl (Af rfl) (AD.skip (AM rfl) rfl (Af rfl) (AD.skip (AM rfl) rfl (Af rfl) (AD.skip (AM rfl) rfl (Af rfl) (AH (v:=(Value.bool true)) (Ae rfl rfl) rfl ?_)))))
   exact AD.nil (AC.mid (sS rfl (sS rfl (sS rfl (sS rfl (sS rfl (sS rfl (sS rfl (sS rfl (sS rfl (sS rfl (sS (by first|rfl|(rw [hg2];rfl)|rw [hg2]) (sS (by first|rfl|(rw [hg2];rfl)|rw [hg2]) (sN))))))))))))) (List.Sublist.refl _))
  ·skip
   refine AD.retell (k:=16) (u:=Value.bool false) rfl (by rw [hg2]) ?_
   have hg2':=hg2
   simp only [Bool.and_eq_true,Bool.or_eq_true,Bool.and_eq_false_iff,Bool.or_eq_false_iff,Bool.not_eq_true',Bool.not_eq_false',decide_eq_true_eq,decide_eq_false_iff_not] at hg2'
   refine AD.step (v:=(pP b1 2)) (AB rfl) (AG (j:=2) rfl rfl Tryz.underlying76 Tryz.sizeOf3 rfl (by decide) rfl) rfl (Af rfl) (AD.step (v:=(vN t.2.2)) (AB rfl) (AK (i:=0) (v:=(vN t.2.2)) rfl rfl B_.a rfl) rfl (Af rfl) (AD.step (v:=(vN n)) (AB rfl) (BD (q:=some ⟨bo.b,0,none⟩) (v:=(vN n)) (off:=0) (i:=1) rfl rfl (λe=>by cases e) B_ rfl) rfl (Af rfl) (AD.call (v:=(Value.bool (decide (t.2.2<n)))) (AB rfl) (A8 (args:=[(vN t.2.2),(vN n)]) rfl rfl Tryz.call61) (λw hw=>Js t.2.2 n w) rfl (Af rfl) (AD.step (v:=(Value.bool (!(decide (t.2.2<n))))) (AB rfl) (CR (c:=(!(decide (t.2.2<n)))) rfl rfl) rfl (Af rfl) (AH (v:=(Value.bool (!(decide (t.2.2<n))))) (Aa rfl rfl) rfl ?_)))))
   exact AD.nil (AC.mid (sS rfl (sS rfl (sS rfl (sS rfl (sS rfl (sS rfl (sS rfl (sS rfl (sS rfl (sS rfl (sS (by first|rfl|(rw [hg2];rfl)|rw [hg2]) (sS (by first|rfl|(rw [hg2];rfl)|rw [hg2]) (sN))))))))))))) (List.Sublist.refl _))
 refine AO rfl ?_
 refine AD.mid (FM:=[(1,(pP bo.b 0)),(2,(pP b1 0)),(3,(Value.bool false)),(4,(pP b1 0)),(5,(vN t.1)),(6,(vN n)),(7,(Value.bool (decide (t.1<n)))),(8,(Value.bool (!(decide (t.1<n))))),(9,(Value.bool (!(decide (t.1<n))))),(15,(Value.bool ((!(decide (t.1<n)))||(!(decide (t.2.1<n)))))),(16,(Value.bool ((!(decide (t.1<n)))||(!(decide (t.2.1<n)))))),(22,(Value.bool (((!(decide (t.1<n)))||(!(decide (t.2.1<n))))||(!(decide (t.2.2<n)))))),(23,(Value.bool (((!(decide (t.1<n)))||(!(decide (t.2.1<n))))||(!(decide (t.2.2<n)))))),(29,(Value.bool ((((!(decide (t.1<n)))||(!(decide (t.2.1<n))))||(!(decide (t.2.2<n))))||(decide (t.1=t.2.1)))))]) (LM:=[Ac b1 76 (Ai t),AX (some ⟨bo.b,0,none⟩) ([(vN n)])]) 6 ?_ ?_
 ·rcases Bool.eq_false_or_eq_true (((!(decide (t.1<n)))||(!(decide (t.2.1<n))))||(!(decide (t.2.2<n)))) with hg3|hg3
  ·skip
   refine AD.retell (k:=23) (u:=Value.bool true) rfl (by rw [hg3]) ?_
   have hg3':=hg3
   simp only [Bool.and_eq_true,Bool.or_eq_true,Bool.and_eq_false_iff,Bool.or_eq_false_iff,Bool.not_eq_true',Bool.not_eq_false',decide_eq_true_eq,decide_eq_false_iff_not] at hg3'
   refine AD.skip (AM rfl) rfl (Af rfl) (AD.skip (AM rfl) rfl (Af rfl) (AD.skip (AM rfl) rfl (Af rfl) (AD.skip (AM rfl) rfl (Af rfl) (AD.skip (AM rfl) rfl (Af rfl) (AH (v:=(Value.bool true)) (Ae rfl rfl) rfl ?_)))))
   exact AD.nil (AC.mid (sS rfl (sS rfl (sS rfl (sS rfl (sS rfl (sS rfl (sS rfl (sS rfl (sS rfl (sS rfl (sS rfl (sS rfl (sS (by first|rfl|(rw [hg3];rfl)|rw [hg3]) (sS (by first|rfl|(rw [hg3];rfl)|rw [hg3]) (sN))))))))))))))) (List.Sublist.refl _))
  ·skip
   refine AD.retell (k:=23) (u:=Value.bool false) rfl (by rw [hg3]) ?_
   have hg3':=hg3
   simp only [Bool.and_eq_true,Bool.or_eq_true,Bool.and_eq_false_iff,Bool.or_eq_false_iff,Bool.not_eq_true',Bool.not_eq_false',decide_eq_true_eq,decide_eq_false_iff_not] at hg3'
   refine AD.step (v:=(pP b1 0)) (AB rfl) (AG (j:=0) rfl rfl Tryz.underlying76 Tryz.sizeOf3 rfl (by decide) rfl) rfl (Af rfl) (AD.step (v:=(vN t.1)) (AB rfl) (AK (i:=0) (v:=(vN t.1)) rfl rfl B_.a rfl) rfl (Af rfl) (AD.step (v:=(pP b1 1)) (AB rfl) (AG (j:=1) rfl rfl Tryz.underlying76 Tryz.sizeOf3 rfl (by decide) rfl) rfl (Af rfl) (AD.step (v:=(vN t.2.1)) (AB rfl) (AK (i:=0) (v:=(vN t.2.1)) rfl rfl B_.a rfl) rfl (Af rfl) (AD.step (v:=(Value.bool (decide (t.1=t.2.1)))) (AB rfl) (Bp (c:=(decide (t.1=t.2.1))) rfl rfl (Pm (a:=t.1) (b:=t.2.1))) rfl (Af rfl) (AH (v:=(Value.bool (decide (t.1=t.2.1)))) (Aa rfl rfl) rfl ?_)))))
   exact AD.nil (AC.mid (sS rfl (sS rfl (sS rfl (sS rfl (sS rfl (sS rfl (sS rfl (sS rfl (sS rfl (sS rfl (sS rfl (sS rfl (sS (by first|rfl|(rw [hg3];rfl)|rw [hg3]) (sS (by first|rfl|(rw [hg3];rfl)|rw [hg3]) (sN))))))))))))))) (List.Sublist.refl _))
 refine AO rfl ?_
 refine AD.mid (FM:=[(1,(pP bo.b 0)),(2,(pP b1 0)),(3,(Value.bool false)),(4,(pP b1 0)),(5,(vN t.1)),(6,(vN n)),(7,(Value.bool (decide (t.1<n)))),(8,(Value.bool (!(decide (t.1<n))))),(9,(Value.bool (!(decide (t.1<n))))),(15,(Value.bool ((!(decide (t.1<n)))||(!(decide (t.2.1<n)))))),(16,(Value.bool ((!(decide (t.1<n)))||(!(decide (t.2.1<n)))))),(22,(Value.bool (((!(decide (t.1<n)))||(!(decide (t.2.1<n))))||(!(decide (t.2.2<n)))))),(23,(Value.bool (((!(decide (t.1<n)))||(!(decide (t.2.1<n))))||(!(decide (t.2.2<n)))))),(29,(Value.bool ((((!(decide (t.1<n)))||(!(decide (t.2.1<n))))||(!(decide (t.2.2<n))))||(decide (t.1=t.2.1))))),(30,(Value.bool ((((!(decide (t.1<n)))||(!(decide (t.2.1<n))))||(!(decide (t.2.2<n))))||(decide (t.1=t.2.1))))),(36,(Value.bool (((((!(decide (t.1<n)))||(!(decide (t.2.1<n))))||(!(decide (t.2.2<n))))||(decide (t.1=t.2.1)))||(decide (t.2.1=t.2.2)))))]) (LM:=[Ac b1 76 (Ai t),AX (some ⟨bo.b,0,none⟩) ([(vN n)])]) 6 ?_ ?_
 ·rcases Bool.eq_false_or_eq_true ((((!(decide (t.1<n)))||(!(decide (t.2.1<n))))||(!(decide (t.2.2<n))))||(decide (t.1=t.2.1))) with hg4|hg4
  ·skip
   refine AD.retell (k:=30) (u:=Value.bool true) rfl (by rw [hg4]) ?_
   have hg4':=hg4
   simp only [Bool.and_eq_true,Bool.or_eq_true,Bool.and_eq_false_iff,Bool.or_eq_false_iff,Bool.not_eq_true',Bool.not_eq_false',decide_eq_true_eq,decide_eq_false_iff_not] at hg4'
   refine AD.skip (AM rfl) rfl (Af rfl) (AD.skip (AM rfl) rfl (Af rfl) (AD.skip (AM rfl) rfl (Af rfl) (AD.skip (AM rfl) rfl (Af rfl) (AD.skip (AM rfl) rfl (Af rfl) (AH (v:=(Value.bool true)) (Ae rfl rfl) rfl ?_)))))
   exact AD.nil (AC.mid (sS rfl (sS rfl (sS rfl (sS rfl (sS rfl (sS rfl (sS rfl (sS rfl (sS rfl (sS rfl (sS rfl (sS rfl (sS rfl (sS rfl (sS (by first|rfl|(rw [hg4];rfl)|rw [hg4]) (sS (by first|rfl|(rw [hg4];rfl)|rw [hg4]) (sN))))))))))))))))) (List.Sublist.refl _))
  ·skip
   refine AD.retell (k:=30) (u:=Value.bool false) rfl (by rw [hg4]) ?_
   have hg4':=hg4
   simp only [Bool.and_eq_true,Bool.or_eq_true,Bool.and_eq_false_iff,Bool.or_eq_false_iff,Bool.not_eq_true',Bool.not_eq_false',decide_eq_true_eq,decide_eq_false_iff_not] at hg4'
   refine AD.step (v:=(pP b1 1)) (AB rfl) (AG (j:=1) rfl rfl Tryz.underlying76 Tryz.sizeOf3 rfl (by decide) rfl) rfl (Af rfl) (AD.step (v:=(vN t.2.1)) (AB rfl) (AK (i:=0) (v:=(vN t.2.1)) rfl rfl B_.a rfl) rfl (Af rfl) (AD.step (v:=(pP b1 2)) (AB rfl) (AG (j:=2) rfl rfl Tryz.underlying76 Tryz.sizeOf3 rfl (by decide) rfl) rfl (Af rfl) (AD.step (v:=(vN t.2.2)) (AB rfl) (AK (i:=0) (v:=(vN t.2.2)) rfl rfl B_.a rfl) rfl (Af rfl) (AD.step (v:=(Value.bool (decide (t.2.1=t.2.2)))) (AB rfl) (Bp (c:=(decide (t.2.1=t.2.2))) rfl rfl (Pm (a:=t.2.1) (b:=t.2.2))) rfl (Af rfl) (AH (v:=(Value.bool (decide (t.2.1=t.2.2)))) (Aa rfl rfl) rfl ?_)))))
   exact AD.nil (AC.mid (sS rfl (sS rfl (sS rfl (sS rfl (sS rfl (sS rfl (sS rfl (sS rfl (sS rfl (sS rfl (sS rfl (sS rfl (sS rfl (sS rfl (sS (by first|rfl|(rw [hg4];rfl)|rw [hg4]) (sS (by first|rfl|(rw [hg4];rfl)|rw [hg4]) (sN))))))))))))))))) (List.Sublist.refl _))
 refine AO rfl ?_
 refine AD.mid (FM:=[(1,(pP bo.b 0)),(2,(pP b1 0)),(3,(Value.bool false)),(4,(pP b1 0)),(5,(vN t.1)),(6,(vN n)),(7,(Value.bool (decide (t.1<n)))),(8,(Value.bool (!(decide (t.1<n))))),(9,(Value.bool (!(decide (t.1<n))))),(15,(Value.bool ((!(decide (t.1<n)))||(!(decide (t.2.1<n)))))),(16,(Value.bool ((!(decide (t.1<n)))||(!(decide (t.2.1<n)))))),(22,(Value.bool (((!(decide (t.1<n)))||(!(decide (t.2.1<n))))||(!(decide (t.2.2<n)))))),(23,(Value.bool (((!(decide (t.1<n)))||(!(decide (t.2.1<n))))||(!(decide (t.2.2<n)))))),(29,(Value.bool ((((!(decide (t.1<n)))||(!(decide (t.2.1<n))))||(!(decide (t.2.2<n))))||(decide (t.1=t.2.1))))),(30,(Value.bool ((((!(decide (t.1<n)))||(!(decide (t.2.1<n))))||(!(decide (t.2.2<n))))||(decide (t.1=t.2.1))))),(36,(Value.bool (((((!(decide (t.1<n)))||(!(decide (t.2.1<n))))||(!(decide (t.2.2<n))))||(decide (t.1=t.2.1)))||(decide (t.2.1=t.2.2))))),(37,(Value.bool (((((!(decide (t.1<n)))||(!(decide (t.2.1<n))))||(!(decide (t.2.2<n))))||(decide (t.1=t.2.1)))||(decide (t.2.1=t.2.2))))),(43,(Value.bool ((((((!(decide (t.1<n)))||(!(decide (t.2.1<n))))||(!(decide (t.2.2<n))))||(decide (t.1=t.2.1)))||(decide (t.2.1=t.2.2)))||(decide (t.2.2=t.1)))))]) (LM:=[Ac b1 76 (Ai t),AX (some ⟨bo.b,0,none⟩) ([(vN n)])]) 6 ?_ ?_
 ·rcases Bool.eq_false_or_eq_true (((((!(decide (t.1<n)))||(!(decide (t.2.1<n))))||(!(decide (t.2.2<n))))||(decide (t.1=t.2.1)))||(decide (t.2.1=t.2.2))) with hg5|hg5
  ·skip
   refine AD.retell (k:=37) (u:=Value.bool true) rfl (by rw [hg5]) ?_
   have hg5':=hg5
   simp only [Bool.and_eq_true,Bool.or_eq_true,Bool.and_eq_false_iff,Bool.or_eq_false_iff,Bool.not_eq_true',Bool.not_eq_false',decide_eq_true_eq,decide_eq_false_iff_not] at hg5'
   refine AD.skip (AM rfl) rfl (Af rfl) (AD.skip (AM rfl) rfl (Af rfl) (AD.skip (AM rfl) rfl (Af rfl) (AD.skip (AM rfl) rfl (Af rfl) (AD.skip (AM rfl) rfl (Af rfl) (AH (v:=(Value.bool true)) (Ae rfl rfl) rfl ?_)))))
   exact AD.nil (AC.mid (sS rfl (sS rfl (sS rfl (sS rfl (sS rfl (sS rfl (sS rfl (sS rfl (sS rfl (sS rfl (sS rfl (sS rfl (sS rfl (sS rfl (sS rfl (sS rfl (sS (by first|rfl|(rw [hg5];rfl)|rw [hg5]) (sS (by first|rfl|(rw [hg5];rfl)|rw [hg5]) (sN))))))))))))))))))) (List.Sublist.refl _))
  ·skip
   refine AD.retell (k:=37) (u:=Value.bool false) rfl (by rw [hg5]) ?_
   have hg5':=hg5
   simp only [Bool.and_eq_true,Bool.or_eq_true,Bool.and_eq_false_iff,Bool.or_eq_false_iff,Bool.not_eq_true',Bool.not_eq_false',decide_eq_true_eq,decide_eq_false_iff_not] at hg5'
   refine AD.step (v:=(pP b1 2)) (AB rfl) (AG (j:=2) rfl rfl Tryz.underlying76 Tryz.sizeOf3 rfl (by decide) rfl) rfl (Af rfl) (AD.step (v:=(vN t.2.2)) (AB rfl) (AK (i:=0) (v:=(vN t.2.2)) rfl rfl B_.a rfl) rfl (Af rfl) (AD.step (v:=(pP b1 0)) (AB rfl) (AG (j:=0) rfl rfl Tryz.underlying76 Tryz.sizeOf3 rfl (by decide) rfl) rfl (Af rfl) (AD.step (v:=(vN t.1)) (AB rfl) (AK (i:=0) (v:=(vN t.1)) rfl rfl B_.a rfl) rfl (Af rfl) (AD.step (v:=(Value.bool (decide (t.2.2=t.1)))) (AB rfl) (Bp (c:=(decide (t.2.2=t.1))) rfl rfl (Pm (a:=t.2.2) (b:=t.1))) rfl (Af rfl) (AH (v:=(Value.bool (decide (t.2.2=t.1)))) (Aa rfl rfl) rfl ?_)))))
   exact AD.nil (AC.mid (sS rfl (sS rfl (sS rfl (sS rfl (sS rfl (sS rfl (sS rfl (sS rfl (sS rfl (sS rfl (sS rfl (sS rfl (sS rfl (sS rfl (sS rfl (sS rfl (sS (by first|rfl|(rw [hg5];rfl)|rw [hg5]) (sS (by first|rfl|(rw [hg5];rfl)|rw [hg5]) (sN))))))))))))))))))) (List.Sublist.refl _))
 exact AL rfl (AD.nil (AC.subF (sL [3] rfl) (AC.then_ (AE.ret (AU rfl (Am (v:=(Value.bool ((((((!(decide (t.1<n)))||(!(decide (t.2.1<n))))||(!(decide (t.2.2<n))))||(decide (t.1=t.2.1)))||(decide (t.2.1=t.2.2)))||(decide (t.2.2=t.1))))) rfl) (λw hw=>⟨by congr 2;rw [Bool.eq_iff_iff];simp [M2]<;>omega,hw.out⟩))))))
theorem XC (n:Nat) (bo:BX [vN n]) (ts:List (Nat×Nat×Nat)) (x:RX (rowsL Ai ts) ts.length) (hl:ts.length<4611686018427387904) (w:World) {S:Nat->Prop} (hbo:Ro S w bo) (hx:Ro S w x):Calls Tryz.prog 213 #[(Value.slice x.p ts.length x.c),(Value.func (.func 171) #[] #[(pP bo.b 0)])] w (Ax w (vI (idxB n ts 0))):=by
 have lbo:=H0 (W:=w) hbo
 have lx:=H0 (W:=w) hx
 refine BQ (args:=[(Value.slice x.p ts.length x.c),(Value.func (.func 171) #[] #[(pP bo.b 0)])]) (L:=[AX (some ⟨bo.b,0,none⟩) ([(vN n)]),AX x.p (rowsL Ai ts)]) Tryz.func213 rfl rfl (Af rfl) (Hy hbo (Hy hx Bo)) (AE.subF (sL [0,1] rfl) (q4 (AL rfl (AD.nil (q1 ?_)))))
 refine q4 (AO rfl (AH (v:=(vN ts.length)) (AF rfl Tryz.underlying28) rfl (AO rfl (AD.nil (AC.subF (sL [0,1,4,7,8] rfl) ?_)))))
 refine AC.then_ (AE.block ?_)
 refine AE.lp1 (tg λ(j:Nat)=>j<=ts.length/\idxB n ts 0=idxB n (ts.drop j) j) (tg λ(j:Nat)=>[(0,(Value.slice x.p ts.length x.c)),(1,(Value.func (.func 171) #[] #[(pP bo.b 0)])),(7,(vN ts.length)),(8,(vN j))]) (tg λ(j:Nat)=>[AX (some ⟨bo.b,0,none⟩) ([(vN n)]),AX x.p (rowsL Ai ts)]) (tg λ(j:Nat)=>ts.length-j) 0 (⟨Nat.zero_le _,rfl⟩) (sF rfl) sr (λj hJ=>?_)
 obtain ⟨hj,he⟩:=hJ
 refine q4 (AH (Ag (c:=(decide (j<ts.length))) rfl rfl (DA (a:=j) (b:=ts.length))) rfl (AD.nil (q1 ?_)))
 refine AE.cond rfl (λhc0=>?_) (λhc0=>?_)
 ·replace hc0:=of_decide_eq_true hc0
  refine AE.skip (q1 (AE.block (q4 (AO rfl (AL rfl ?_)))))
  refine q3 (sL [0,1,7,8,5] rfl) (AO rfl (AO rfl (AO rfl (AH (v:=(pP (pB x.p) (pO x.p+j*3))) (AQ (j:=j) rfl rfl x.ok Tryz.underlying28 Tryz.sizeOf76 rfl (by omega)) rfl (AH (v:=(aG (Ai (ts.getD j ((0,0,0):Nat×Nat×Nat))))) (AZ (vs:=Ai (ts.getD j ((0,0,0):Nat×Nat×Nat))) (i:=1) rfl rfl (BL.ne x.ok (by omega)) Hs (A7 Aq _ _ _ (by omega)) (Aq _)) rfl ?_)))))
  refine AD.call (v:=(Value.bool (!M2 n (ts.getD j ((0,0,0):Nat×Nat×Nat))))) (AN rfl) (I_ (args:=[(aG (Ai (ts.getD j ((0,0,0):Nat×Nat×Nat))))]) (caps:=[(pP bo.b 0)]) (all:=[(aG (Ai (ts.getD j ((0,0,0):Nat×Nat×Nat)))),(pP bo.b 0)]) rfl rfl rfl Tryz.call171) (λw hw=>TQ (ts.getD j ((0,0,0):Nat×Nat×Nat)) n bo w (Eu hw 0 rfl lbo)) rfl (Af rfl) (AD.nil (AC.subF (sL [0,1,7,8,5,16] rfl) (AC.then_ ?_)))
  refine AE.cond rfl (λhc1=>?_) (λhc1=>?_)
  ·simp only [Bool.and_eq_true,Bool.or_eq_true,Bool.and_eq_false_iff,Bool.or_eq_false_iff,Bool.not_eq_true',Bool.not_eq_false',decide_eq_true_eq,decide_eq_false_iff_not] at hc1
   have hfin:=he.trans (TZ (by omega) (by simpa using hc1))
   refine q4 (AO rfl (AL rfl (AD.nil (AC.subF (sL [0,1,7,8,5,4] rfl) (AC.then_ ?_)))))
   exact AE.ret (AC.in_ret (AC.then_ret (AC.round1_ret (AC.in_ret (AC.then_ret (AU rfl (Am (v:=(vN j)) rfl) (λw hw=>⟨by rw [hfin],hw.out⟩)))))))
  ·simp only [Bool.and_eq_true,Bool.or_eq_true,Bool.and_eq_false_iff,Bool.or_eq_false_iff,Bool.not_eq_true',Bool.not_eq_false',decide_eq_true_eq,decide_eq_false_iff_not] at hc1
   refine AE.skip (AC.in_normal (AC.then_ (AE.region (AH (AT (c:=((j+1:Nat):Int)) rfl rfl (AR (a:=j) (b:=1) (by omega))) rfl (AO rfl ?_)))))
   exact AD.nil (AC.subF (sL [0,1,7,8,5] rfl) (AC.round1 (j+1) (⟨by omega,he.trans (QT (by omega) (by simpa using hc1))⟩) (by omega) (sF rfl) sr))
 ·replace hc0:=of_decide_eq_false hc0
  have hfin:=he.trans (Sj hc0)
  refine AE.exit (AC.then_exit (AC.round1_exit (AC.in_exit (q2 (AL rfl ?_)))))
  exact AD.nil (AC.then_ (AE.ret (AU rfl (Am (v:=(vI (-1:Int))) rfl) (λw hw=>⟨by rw [hfin],hw.out⟩))))
theorem Vb (n:Nat) (bo:BX [vN n]) (ts:List (Nat×Nat×Nat)) (x:RX (rowsL Ai ts) ts.length) (hl:ts.length<4611686018427387904) (w:World) {S:Nat->Prop} (hbo:Ro S w bo) (hx:Ro S w x):Calls Tryz.prog 170 #[(Value.slice x.p ts.length x.c),(Value.func (.func 171) #[] #[(pP bo.b 0)])] w (Ax w (Value.bool (!Ba n ts))):=by
 have lbo:=H0 (W:=w) hbo
 have lx:=H0 (W:=w) hx
 refine BQ (args:=[(Value.slice x.p ts.length x.c),(Value.func (.func 171) #[] #[(pP bo.b 0)])]) (L:=[AX (some ⟨bo.b,0,none⟩) ([(vN n)]),AX x.p (rowsL Ai ts)]) Tryz.func170 rfl rfl (Af rfl) (Hy hbo (Hy hx Bo)) (AE.subF (sL [0,1] rfl) (q4 (AL rfl (AD.nil (q2 ?_)))))
 refine AO rfl (AO rfl (IC Tryz.call213 (λw hw=>XC n bo ts x hl w (Eu hw 0 rfl lbo) (Eu hw 1 rfl lx)) rfl (AH (FB (c:=(!Ba n ts)) rfl rfl (LU n ts 0)) rfl (AL rfl (AD.nil ?_)))))
 exact AC.subF (sL [4] rfl) (AC.then_ (AE.ret (AU rfl (Am (v:=(Value.bool (!Ba n ts))) rfl) (λw hw=>⟨rfl,hw.out⟩))))
theorem PM (n:Nat) (ts:List (Nat×Nat×Nat)) (x:RX (rowsL Ai ts) ts.length) (hl:ts.length<4611686018427387904) (w:World) {S:Nat->Prop} (hx:Ro S w x):Calls Tryz.prog 116 #[(Value.slice x.p ts.length x.c),(vN n)] w (Ax w (Value.bool (Ba n ts))):=by
 have lx:=H0 (W:=w) hx
 refine BQ (args:=[(Value.slice x.p ts.length x.c),(vN n)]) (L:=[AX x.p (rowsL Ai ts)]) Tryz.func116 rfl rfl (Af rfl) (Hy hx Bo) (AE.subF (sL [0,1] rfl) (q4 (CB (cs:=[(vN n)]) rfl λb1=>AD.frzX 0 rfl rfl λhnb1=>AL rfl ?_)))
 refine q3 (sL [0,3,4] rfl) (AO rfl (AH (v:=(Value.func (.func 171) #[] #[(pP b1 0)])) (Ii (vs:=[]) (us:=[(pP b1 0)]) rfl rfl) rfl (IC Tryz.call170 (λw hw=>Vb n ⟨b1⟩ ts x hl w (Yd (x:=(⟨b1⟩:BX [vN n])) hw 0 rfl hnb1) (Eu hw 1 rfl lx)) rfl (AH (CR (c:=(!(!Ba n ts))) rfl rfl) rfl (AL rfl ?_)))))
 exact AD.nil (AC.subF (sL [4] rfl) (AC.then_ (AE.ret (AU rfl (Am (v:=(Value.bool (!(!Ba n ts)))) rfl) (λw hw=>⟨by simp,hw.out⟩)))))
theorem JL {ps:List Pt} {ts ss:List (Nat×Nat×Nat)} (x:MX ps ts ss) (hl:ts.length<4611686018427387904) (w:World) {S:Nat->Prop} (hx:Ro S w x):Calls Tryz.prog 46 #[(aG (B5 x))] w (Ax w (Value.bool (Ba ps.length ts))):=by
 have lx:=H0 (W:=w) hx
 refine BQ (args:=[(aG (B5 x))]) (L:=[AX x.a.p (rowsL An ps),AX x.b.p (rowsL Ai ts),AX x.c.p (rowsL Ai ss)]) Tryz.func46 rfl rfl (Af rfl) (Hy hx Bo) (AE.subF (sL [0] rfl) (q4 (CB (cs:=B5 x) rfl λb1=>AL rfl (q3 (sL [1,2] rfl) ?_))))
 refine AH (v:=(pP b1 1)) (AA rfl Tryz.underlying31 rfl Tryz.sizeOf28 rfl) rfl (BI 0 (Value.slice x.b.p ts.length x.b.c) Di rfl (AH (v:=(pP b1 0)) (AA rfl Tryz.underlying31 rfl Tryz.sizeOf27 rfl) rfl (BI 0 (Value.slice x.a.p ps.length x.a.c) Dr rfl (AH (v:=(vN ps.length)) (AF rfl Tryz.underlying27) rfl (IC Tryz.call116 (λw hw=>PM ps.length ts x.b hl w (XT (Eu hw 1 rfl lx))) rfl ?_)))))
 exact AL rfl (AD.nil (AC.subF (sL [2] rfl) (AC.then_ (AE.ret (AU rfl (Am (v:=(Value.bool (Ba ps.length ts))) rfl) (λw hw=>⟨rfl,hw.out⟩))))))
end
section
set_option maxRecDepth 100000
theorem Ti (a:Nat) (w:World)  :Calls Tryz.prog 176 #[(vN a)] w (Ax w (Value.bool false)):=by
 refine Ad (args:=[(vN a)]) Tryz.func176 rfl rfl (Af rfl) (AE.subF (sL [0] rfl) (q4 (AL rfl (AD.nil (q2 ?_)))))
 refine AO rfl (AO rfl (AH (CX (c:=false) rfl rfl (by simp)) rfl (AL rfl (AD.nil (AC.subF (sL [2] rfl) ?_)))))
 exact AC.then_ (AE.ret (AU rfl (Am (v:=(Value.bool false)) rfl) (λw hw=>⟨rfl,hw.out⟩)))
theorem PZ (a b:Nat) (w:World)  :Calls Tryz.prog 127 #[(vN a),(vN b)] w (Ax w (vI (Dn a b))):=by
 refine Ad (args:=[(vN a),(vN b)]) Tryz.func127 rfl rfl (Af rfl) (AE.subF (sL [0,1] rfl) (q4 (AL rfl (AD.nil (q2 ?_)))))
 refine AO rfl (BY Tryz.call176 (Ti a) rfl (AL rfl (q3 (sL [0,1,4,5] rfl) (AO rfl (BY Tryz.call176 (Ti b) rfl ?_)))))
 refine AL rfl (q6 (sL [0,1,4,5,6] rfl) (q4 (AO rfl (AD.nil (AC.subF (sL [0,1,4,6,11] rfl) ?_)))))
 refine AC.then_ (AE.cond_false rfl (AE.skip (q1 (q4 (AO rfl ?_)))))
 refine AD.nil (AC.subF (sL [0,1,4,6,13] rfl) (AC.then_ (AE.cond_false rfl (AE.skip (q1 ?_)))))
 refine q4 (AO rfl (AO rfl (AH (Ag (c:=(decide (a<b))) rfl rfl (DA (a:=a) (b:=b))) rfl (AD.nil (AC.subF (sL [0,1,4,6,16] rfl) ?_)))))
 refine AC.then_ ?_
 refine AE.cond rfl (λhc3=>?_) (λhc3=>?_)
 ·replace hc3:=of_decide_eq_true hc3
  have hr:=P7 hc3
  exact q4 (AL rfl (AD.nil (AC.then_ (AE.ret (AC.then_ret (AU rfl (Am (v:=(vI (-1:Int))) rfl) (λw hw=>⟨by rw [hr]<;>rfl,hw.out⟩)))))))
 ·replace hc3:=of_decide_eq_false hc3
  refine AE.skip (q1 (q4 (AO rfl (AO rfl (AH (Eb (c:=(decide (b<a))) rfl rfl (DA (a:=b) (b:=a))) rfl ?_)))))
  refine AD.nil (AC.subF (sL [0,1,4,6,19] rfl) (AC.then_ ?_))
  refine AE.cond rfl (λhc4=>?_) (λhc4=>?_)
  ·replace hc4:=of_decide_eq_true hc4
   have hr:=Px hc3 hc4
   exact q4 (AL rfl (AD.nil (AC.then_ (AE.ret (AC.then_ret (AU rfl (Am (v:=(vI 1)) rfl) (λw hw=>⟨by rw [hr]<;>rfl,hw.out⟩)))))))
  ·replace hc4:=of_decide_eq_false hc4
   have hr:=PU hc3 hc4
   exact AE.skip (q2 (AL rfl (AD.nil (AC.then_ (AE.ret (AU rfl (Am (v:=(vI 0)) rfl) (λw hw=>⟨by rw [hr]<;>rfl,hw.out⟩)))))))
theorem Rw (a b:Int) (g:Nat) (w:World) (hg:w.heap[g]?=some (.cells ([(vI a),(vI b)]).toArray 3 (0,0))):Calls Tryz.prog 126 #[(Value.slice (some ⟨g,0,none⟩) 2 2)] w (λe w'=>e=.returned (Value.int .i64 (Rq a b))/\M0 w w' (some g)/\w'.heap[g]?=some (.cells ([(vI a),(vI b)]).toArray 3 (0,0))):=by
 refine IE (args:=[(Value.slice (some ⟨g,0,none⟩) 2 2)]) (g:=g) (T:=3) (cs:=[(vI a),(vI b)]) Tryz.func126 rfl rfl (Af rfl) hg (AE.subF (sL [0] rfl) (q4 (AL rfl (AD.nil (q2 ?_)))))
 refine AL rfl (AD.nil (q1 (q4 (AO rfl (AH (v:=(vI 2)) (AF rfl Tryz.underlying33) rfl ?_)))))
 refine AO rfl (AD.nil (AC.subF (sL [2,3,6,7,8] rfl) (AC.then_ (AE.block (AE.unroll 4 ?_)))))
 refine F1.step (q4 (AH (Ag (c:=true) rfl rfl (by decide)) rfl (AD.nil (q1 (AE.cond_true rfl ?_)))))
 refine AE.skip (q1 (AE.block (q4 (AH (v:=(pP g 0)) (AI (j:=0) rfl rfl Tryz.underlying33 Tryz.sizeOf3 rfl (by omega) rfl) rfl (BI 0 (vI a) B_ rfl ?_)))))
 refine AL rfl (q3 (sL [2,3,6,7,8,5] rfl) (AO rfl (AO rfl (AH (CX (c:=(decide (a≠(0:Int)))) rfl rfl rfl) rfl (AD.nil ?_)))))
 refine AC.subF (sL [2,3,6,7,8,5,14] rfl) (AC.then_ ?_)
 refine AE.cond rfl (λhc1=>?_) (λhc1=>?_)
 ·replace hc1:=of_decide_eq_true hc1
  have hr:Rq a b=a:=if_pos hc1
  refine q4 (AO rfl (AL rfl (AD.nil (AC.subF (sL [2,3,6,7,8,5] rfl) (AC.then_ ?_)))))
  exact AE.ret (AC.in_ret (AC.then_ret (AC.then_ret (AC.in_ret (AC.then_ret (AU rfl (Am (v:=(vI a)) rfl) (λw hw=>⟨by rw [hr]<;>rfl,hw.1,hw.get (i:=0) rfl⟩)))))))
 ·replace hc1:=of_decide_eq_false hc1
  have hq:=hc1
  refine AE.skip (AC.in_normal (AC.then_ (AE.region (AH (AT (c:=(1:Int)) rfl rfl (by decide)) rfl (AO rfl ?_)))))
  refine AD.nil (AC.subF (sL [2,3,6,7,8,5] rfl) (AC.again (F1.step (q4 (AH (Ag (c:=true) rfl rfl (by decide)) rfl ?_)))))
  refine AD.nil (q1 (AE.cond_true rfl (AE.skip (q1 (AE.block ?_)))))
  refine q4 (AH (v:=(pP g 1)) (AI (j:=1) rfl rfl Tryz.underlying33 Tryz.sizeOf3 rfl (by omega) rfl) rfl (BI 0 (vI b) B_ rfl (AL rfl (q3 (sL [2,3,6,7,8,5] rfl) (AO rfl ?_)))))
  refine AO rfl (AH (CX (c:=(decide (b≠(0:Int)))) rfl rfl rfl) rfl (AD.nil (AC.subF (sL [2,3,6,7,8,5,14] rfl) (AC.then_ ?_))))
  refine AE.cond rfl (λhc1=>?_) (λhc1=>?_)
  ·replace hc1:=of_decide_eq_true hc1
   have hr:Rq a b=b:=by rw [Rq,if_neg hq,if_pos hc1]
   refine q4 (AO rfl (AL rfl (AD.nil (AC.subF (sL [2,3,6,7,8,5] rfl) (AC.then_ ?_)))))
   exact AE.ret (AC.in_ret (AC.then_ret (AC.then_ret (AC.in_ret (AC.then_ret (AU rfl (Am (v:=(vI b)) rfl) (λw hw=>⟨by rw [hr]<;>rfl,hw.1,hw.get (i:=0) rfl⟩)))))))
  ·replace hc1:=of_decide_eq_false hc1
   have hr:Rq a b=0:=by rw [Rq,if_neg hq,if_neg hc1]
   refine AE.skip (AC.in_normal (AC.then_ (AE.region (AH (AT (c:=(2:Int)) rfl rfl (by decide)) rfl (AO rfl ?_)))))
   refine AD.nil (AC.subF (sL [2,3,6,7,8,5] rfl) (AC.again (F1.step (q4 (AH (Ag (c:=false) rfl rfl (by decide)) rfl ?_)))))
   refine AD.nil (q1 (AE.cond_false rfl (AE.exit (AC.then_exit (AC.then_exit ?_)))))
   refine AC.in_exit (q2 (AO rfl (AL rfl (AD.nil (AC.subF (sL [2,3,6,7,8,5] rfl) ?_)))))
   exact AC.then_ (AE.ret (AU rfl (Am (v:=(vI 0)) rfl) (λw hw=>⟨by rw [hr]<;>rfl,hw.1,hw.get (i:=0) rfl⟩)))
end
end Go.Proofs.YtfbomiejpbchdaaGreat
