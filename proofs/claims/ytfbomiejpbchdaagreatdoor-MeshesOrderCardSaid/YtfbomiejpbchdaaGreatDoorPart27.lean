import Derived.Test.YtfbomiejpbchdaaGreatDoorPart06
import Derived.Test.YtfbomiejpbchdaaGreatDoorPart22
import Derived.Test.YtfbomiejpbchdaaGreatDoorPart23
import Derived.Test.YtfbomiejpbchdaaGreatDoorPart26
namespace Go.Proofs.YtfbomiejpbchdaaGreatDoor
open Go Go.RowKit Go.Proofs.Tryz
set_option linter.unusedVariables false
set_option linter.unusedSimpArgs false
section
set_option maxRecDepth 100000
theorem B6 (p n:Nat) (w:World)  :Calls prog 63 #[(vN p),(vN n)] w (Ak w (Value.bool (decide (p<n)))):=by
 refine Ab (args:=[(vN p),(vN n)]) func63 O O (Ad O) (AF.subF (sL [0,1] O) (q4 (AJ O (AE.nil (q2 ?_)))))
 refine AP O (AH (EV (c:=(decide (0<=p))) O O (Ut (a:=0) (b:=p))) O (AP O ?_))
 refine AE.mid (FM:=[(0,(vN p)),(1,(vN n)),(4,(Value.bool false)),(5,(vN p)),(6,(Value.bool (decide (0<=p)))),(7,(Value.bool (decide (0<=p)))),(11,(Value.bool ((decide (0<=p))&&(decide (p<n)))))]) (LM:=[]) 4 ?_ ?_
 ·rcases Bool.eq_false_or_eq_true (decide (0<=p)) with hg1|hg1
  ·skip
   refine AE.retell (k:=7) (u:=Value.bool true) O (by rw [hg1]) ?_
   have hg1':=hg1
   replace hg1':=of_decide_eq_true hg1'
   exact AE.step (v:=(vN p)) (AB O) (BA O) O (Ad O) (AE.step (v:=(vN n)) (AB O) (BA O) O (Ad O) (AE.step (v:=(Value.bool (decide (p<n)))) (AB O) (Af (c:=(decide (p<n))) O O (DB (a:=p) (b:=n))) O (Ad O) (AH (v:=(Value.bool (decide (p<n)))) (Al O O) O (AE.nil (AD.mid (sS O (sS O (sS O (sS O (sS O (sS (by first|rfl|(rw [hg1];rfl)|rw [hg1]) (sS (by first|rfl|(rw [hg1];rfl)|rw [hg1]) (sN)))))))) (List.Sublist.refl _))))))
  ·skip
   refine AE.retell (k:=7) (u:=Value.bool false) O (by rw [hg1]) ?_
   have hg1':=hg1
   replace hg1':=of_decide_eq_false hg1'
   exact AE.skip (AV O) O (Ad O) (AE.skip (AV O) O (Ad O) (AE.skip (AV O) O (Ad O) (AH (v:=(Value.bool false)) (AW O O) O (AE.nil (AD.mid (sS O (sS O (sS O (sS O (sS O (sS (by first|rfl|(rw [hg1];rfl)|rw [hg1]) (sS (by first|rfl|(rw [hg1];rfl)|rw [hg1]) (sN)))))))) (List.Sublist.refl _))))))
 exact AJ O (AE.nil (AD.subF (sL [4] O) (AD.then_ (AF.ret (AN O (Ac (v:=(Value.bool ((decide (0<=p))&&(decide (p<n))))) O) (λw hw=>⟨by simp,hw.out⟩))))))
theorem SR (t:Nat×Nat×Nat) (n:Nat) (bo:BX [vN n]) (w:World) {S:Nat->Prop} (hbo:Ro S w bo):Calls prog 135 #[(aG (Am t)),(pP bo.b 0)] w (Ak w (Value.bool (!J3 n t))):=by
 have lbo:=Ep (W:=w) hbo
 refine BF (args:=[(aG (Am t)),(pP bo.b 0)]) (L:=[Ah (some ⟨bo.b,0,none⟩) ([(vN n)])]) func135 O O (Ad O) (En hbo BQ) (AF.subF (sL [0,1] O) (q4 (Bk (cs:=Am t) O λb1=>AJ O (q3 (sL [1,2,3] O) ?_))))
 refine AH (v:=(pP b1 0)) (AC (j:=0) O O underlying79 sizeOf3 O (by decide) O) O (BN 0 (vN t.1) B7 O (AH (Av (q:=some ⟨bo.b,0,none⟩) (v:=(vN n)) (off:=0) (i:=1) O O (λe=>by cases e) B7 O) O (BS call63 (B6 t.1 n) O (AH (BY (c:=(!(decide (t.1<n)))) O O) O (AP O ?_)))))
 refine AE.mid (FM:=[(1,(pP bo.b 0)),(2,(pP b1 0)),(3,(Value.bool false)),(4,(pP b1 0)),(5,(vN t.1)),(6,(vN n)),(7,(Value.bool (decide (t.1<n)))),(8,(Value.bool (!(decide (t.1<n))))),(9,(Value.bool (!(decide (t.1<n))))),(15,(Value.bool ((!(decide (t.1<n)))||(!(decide (t.2.1<n))))))]) (LM:=[Ae b1 79 (Am t),Ah (some ⟨bo.b,0,none⟩) ([(vN n)])]) 6 ?_ ?_
 ·rcases Bool.eq_false_or_eq_true (!(decide (t.1<n))) with hg1|hg1
  ·skip
   refine AE.retell (k:=9) (u:=Value.bool true) O (by rw [hg1]) ?_
   have hg1':=hg1
   simp only [Bool.and_eq_true,Bool.or_eq_true,Bool.and_eq_false_iff,Bool.or_eq_false_iff,Bool.not_eq_true',Bool.not_eq_false',decide_eq_true_eq,decide_eq_false_iff_not] at hg1'
   refine AE.skip (AV O) O (Ad O) (AE.skip (AV O) O (Ad O) (AE.skip (AV O) O (Ad O) (AE.skip (AV O) O (Ad O) (AE.skip (AV O) O (Ad O) (AH (v:=(Value.bool true)) (Al O O) O ?_)))))
   exact AE.nil (AD.mid (sS O (sS O (sS O (sS O (sS O (sS O (sS O (sS O (sS (by first|rfl|(rw [hg1];rfl)|rw [hg1]) (sS (by first|rfl|(rw [hg1];rfl)|rw [hg1]) (sN))))))))))) (List.Sublist.refl _))
  ·skip
   refine AE.retell (k:=9) (u:=Value.bool false) O (by rw [hg1]) ?_
   have hg1':=hg1
   simp only [Bool.and_eq_true,Bool.or_eq_true,Bool.and_eq_false_iff,Bool.or_eq_false_iff,Bool.not_eq_true',Bool.not_eq_false',decide_eq_true_eq,decide_eq_false_iff_not] at hg1'
   refine AE.step (v:=(pP b1 1)) (AB O) (AC (j:=1) O O underlying79 sizeOf3 O (by decide) O) O (Ad O) (AE.step (v:=(vN t.2.1)) (AB O) (AM (i:=0) (v:=(vN t.2.1)) O O B7.a O) O (Ad O) (AE.step (v:=(vN n)) (AB O) (Av (q:=some ⟨bo.b,0,none⟩) (v:=(vN n)) (off:=0) (i:=1) O O (λe=>by cases e) B7 O) O (Ad O) (AE.call (v:=(Value.bool (decide (t.2.1<n)))) (AB O) (Ax (args:=[(vN t.2.1),(vN n)]) O O call63) (λw hw=>B6 t.2.1 n w) O (Ad O) (AE.step (v:=(Value.bool (!(decide (t.2.1<n))))) (AB O) (BY (c:=(!(decide (t.2.1<n)))) O O) O (Ad O) (AH (v:=(Value.bool (!(decide (t.2.1<n))))) (AW O O) O ?_)))))
   exact AE.nil (AD.mid (sS O (sS O (sS O (sS O (sS O (sS O (sS O (sS O (sS (by first|rfl|(rw [hg1];rfl)|rw [hg1]) (sS (by first|rfl|(rw [hg1];rfl)|rw [hg1]) (sN))))))))))) (List.Sublist.refl _))
 refine AP O ?_
 refine AE.mid (FM:=[(1,(pP bo.b 0)),(2,(pP b1 0)),(3,(Value.bool false)),(4,(pP b1 0)),(5,(vN t.1)),(6,(vN n)),(7,(Value.bool (decide (t.1<n)))),(8,(Value.bool (!(decide (t.1<n))))),(9,(Value.bool (!(decide (t.1<n))))),(15,(Value.bool ((!(decide (t.1<n)))||(!(decide (t.2.1<n)))))),(16,(Value.bool ((!(decide (t.1<n)))||(!(decide (t.2.1<n)))))),(22,(Value.bool (((!(decide (t.1<n)))||(!(decide (t.2.1<n))))||(!(decide (t.2.2<n))))))]) (LM:=[Ae b1 79 (Am t),Ah (some ⟨bo.b,0,none⟩) ([(vN n)])]) 6 ?_ ?_
 ·rcases Bool.eq_false_or_eq_true ((!(decide (t.1<n)))||(!(decide (t.2.1<n)))) with hg2|hg2
  ·skip
   refine AE.retell (k:=16) (u:=Value.bool true) O (by rw [hg2]) ?_
   have hg2':=hg2
   simp only [Bool.and_eq_true,Bool.or_eq_true,Bool.and_eq_false_iff,Bool.or_eq_false_iff,Bool.not_eq_true',Bool.not_eq_false',decide_eq_true_eq,decide_eq_false_iff_not] at hg2'
   refine AE.skip (AV O) O (Ad O) (AE.skip (AV O) O (Ad O) (AE.skip (AV O) O (Ad O) (AE.skip (AV O) O (Ad O) (AE.skip (AV O) O (Ad O) (AH (v:=(Value.bool true)) (Al O O) O ?_)))))
   exact AE.nil (AD.mid (sS O (sS O (sS O (sS O (sS O (sS O (sS O (sS O (sS O (sS O (sS (by first|rfl|(rw [hg2];rfl)|rw [hg2]) (sS (by first|rfl|(rw [hg2];rfl)|rw [hg2]) (sN))))))))))))) (List.Sublist.refl _))
  ·skip
   refine AE.retell (k:=16) (u:=Value.bool false) O (by rw [hg2]) ?_
   have hg2':=hg2
   simp only [Bool.and_eq_true,Bool.or_eq_true,Bool.and_eq_false_iff,Bool.or_eq_false_iff,Bool.not_eq_true',Bool.not_eq_false',decide_eq_true_eq,decide_eq_false_iff_not] at hg2'
   refine AE.step (v:=(pP b1 2)) (AB O) (AC (j:=2) O O underlying79 sizeOf3 O (by decide) O) O (Ad O) (AE.step (v:=(vN t.2.2)) (AB O) (AM (i:=0) (v:=(vN t.2.2)) O O B7.a O) O (Ad O) (AE.step (v:=(vN n)) (AB O) (Av (q:=some ⟨bo.b,0,none⟩) (v:=(vN n)) (off:=0) (i:=1) O O (λe=>by cases e) B7 O) O (Ad O) (AE.call (v:=(Value.bool (decide (t.2.2<n)))) (AB O) (Ax (args:=[(vN t.2.2),(vN n)]) O O call63) (λw hw=>B6 t.2.2 n w) O (Ad O) (AE.step (v:=(Value.bool (!(decide (t.2.2<n))))) (AB O) (BY (c:=(!(decide (t.2.2<n)))) O O) O (Ad O) (AH (v:=(Value.bool (!(decide (t.2.2<n))))) (AW O O) O ?_)))))
   exact AE.nil (AD.mid (sS O (sS O (sS O (sS O (sS O (sS O (sS O (sS O (sS O (sS O (sS (by first|rfl|(rw [hg2];rfl)|rw [hg2]) (sS (by first|rfl|(rw [hg2];rfl)|rw [hg2]) (sN))))))))))))) (List.Sublist.refl _))
 refine AP O ?_
 refine AE.mid (FM:=[(1,(pP bo.b 0)),(2,(pP b1 0)),(3,(Value.bool false)),(4,(pP b1 0)),(5,(vN t.1)),(6,(vN n)),(7,(Value.bool (decide (t.1<n)))),(8,(Value.bool (!(decide (t.1<n))))),(9,(Value.bool (!(decide (t.1<n))))),(15,(Value.bool ((!(decide (t.1<n)))||(!(decide (t.2.1<n)))))),(16,(Value.bool ((!(decide (t.1<n)))||(!(decide (t.2.1<n)))))),(22,(Value.bool (((!(decide (t.1<n)))||(!(decide (t.2.1<n))))||(!(decide (t.2.2<n)))))),(23,(Value.bool (((!(decide (t.1<n)))||(!(decide (t.2.1<n))))||(!(decide (t.2.2<n)))))),(29,(Value.bool ((((!(decide (t.1<n)))||(!(decide (t.2.1<n))))||(!(decide (t.2.2<n))))||(decide (t.1=t.2.1)))))]) (LM:=[Ae b1 79 (Am t),Ah (some ⟨bo.b,0,none⟩) ([(vN n)])]) 6 ?_ ?_
 ·rcases Bool.eq_false_or_eq_true (((!(decide (t.1<n)))||(!(decide (t.2.1<n))))||(!(decide (t.2.2<n)))) with hg3|hg3
  ·skip
   refine AE.retell (k:=23) (u:=Value.bool true) O (by rw [hg3]) ?_
   have hg3':=hg3
   simp only [Bool.and_eq_true,Bool.or_eq_true,Bool.and_eq_false_iff,Bool.or_eq_false_iff,Bool.not_eq_true',Bool.not_eq_false',decide_eq_true_eq,decide_eq_false_iff_not] at hg3'
   refine AE.skip (AV O) O (Ad O) (AE.skip (AV O) O (Ad O) (AE.skip (AV O) O (Ad O) (AE.skip (AV O) O (Ad O) (AE.skip (AV O) O (Ad O) (AH (v:=(Value.bool true)) (Al O O) O ?_)))))
   exact AE.nil (AD.mid (sS O (sS O (sS O (sS O (sS O (sS O (sS O (sS O (sS O (sS O (sS O (sS O (sS (by first|rfl|(rw [hg3];rfl)|rw [hg3]) (sS (by first|rfl|(rw [hg3];rfl)|rw [hg3]) (sN))))))))))))))) (List.Sublist.refl _))
  ·skip
   refine AE.retell (k:=23) (u:=Value.bool false) O (by rw [hg3]) ?_
   have hg3':=hg3
   simp only [Bool.and_eq_true,Bool.or_eq_true,Bool.and_eq_false_iff,Bool.or_eq_false_iff,Bool.not_eq_true',Bool.not_eq_false',decide_eq_true_eq,decide_eq_false_iff_not] at hg3'
   refine AE.step (v:=(pP b1 0)) (AB O) (AC (j:=0) O O underlying79 sizeOf3 O (by decide) O) O (Ad O) (AE.step (v:=(vN t.1)) (AB O) (AM (i:=0) (v:=(vN t.1)) O O B7.a O) O (Ad O) (AE.step (v:=(pP b1 1)) (AB O) (AC (j:=1) O O underlying79 sizeOf3 O (by decide) O) O (Ad O) (AE.step (v:=(vN t.2.1)) (AB O) (AM (i:=0) (v:=(vN t.2.1)) O O B7.a O) O (Ad O) (AE.step (v:=(Value.bool (decide (t.1=t.2.1)))) (AB O) (BZ (c:=(decide (t.1=t.2.1))) O O (NU (a:=t.1) (b:=t.2.1))) O (Ad O) (AH (v:=(Value.bool (decide (t.1=t.2.1)))) (AW O O) O ?_)))))
   exact AE.nil (AD.mid (sS O (sS O (sS O (sS O (sS O (sS O (sS O (sS O (sS O (sS O (sS O (sS O (sS (by first|rfl|(rw [hg3];rfl)|rw [hg3]) (sS (by first|rfl|(rw [hg3];rfl)|rw [hg3]) (sN))))))))))))))) (List.Sublist.refl _))
 refine AP O ?_
 refine AE.mid (FM:=[(1,(pP bo.b 0)),(2,(pP b1 0)),(3,(Value.bool false)),(4,(pP b1 0)),(5,(vN t.1)),(6,(vN n)),(7,(Value.bool (decide (t.1<n)))),(8,(Value.bool (!(decide (t.1<n))))),(9,(Value.bool (!(decide (t.1<n))))),(15,(Value.bool ((!(decide (t.1<n)))||(!(decide (t.2.1<n)))))),(16,(Value.bool ((!(decide (t.1<n)))||(!(decide (t.2.1<n)))))),(22,(Value.bool (((!(decide (t.1<n)))||(!(decide (t.2.1<n))))||(!(decide (t.2.2<n)))))),(23,(Value.bool (((!(decide (t.1<n)))||(!(decide (t.2.1<n))))||(!(decide (t.2.2<n)))))),(29,(Value.bool ((((!(decide (t.1<n)))||(!(decide (t.2.1<n))))||(!(decide (t.2.2<n))))||(decide (t.1=t.2.1))))),(30,(Value.bool ((((!(decide (t.1<n)))||(!(decide (t.2.1<n))))||(!(decide (t.2.2<n))))||(decide (t.1=t.2.1))))),(36,(Value.bool (((((!(decide (t.1<n)))||(!(decide (t.2.1<n))))||(!(decide (t.2.2<n))))||(decide (t.1=t.2.1)))||(decide (t.2.1=t.2.2)))))]) (LM:=[Ae b1 79 (Am t),Ah (some ⟨bo.b,0,none⟩) ([(vN n)])]) 6 ?_ ?_
 ·rcases Bool.eq_false_or_eq_true ((((!(decide (t.1<n)))||(!(decide (t.2.1<n))))||(!(decide (t.2.2<n))))||(decide (t.1=t.2.1))) with hg4|hg4
  ·skip
   refine AE.retell (k:=30) (u:=Value.bool true) O (by rw [hg4]) ?_
   have hg4':=hg4
   simp only [Bool.and_eq_true,Bool.or_eq_true,Bool.and_eq_false_iff,Bool.or_eq_false_iff,Bool.not_eq_true',Bool.not_eq_false',decide_eq_true_eq,decide_eq_false_iff_not] at hg4'
   refine AE.skip (AV O) O (Ad O) (AE.skip (AV O) O (Ad O) (AE.skip (AV O) O (Ad O) (AE.skip (AV O) O (Ad O) (AE.skip (AV O) O (Ad O) (AH (v:=(Value.bool true)) (Al O O) O ?_)))))
   exact AE.nil (AD.mid (sS O (sS O (sS O (sS O (sS O (sS O (sS O (sS O (sS O (sS O (sS O (sS O (sS O (sS O (sS (by first|rfl|(rw [hg4];rfl)|rw [hg4]) (sS (by first|rfl|(rw [hg4];rfl)|rw [hg4]) (sN))))))))))))))))) (List.Sublist.refl _))
  ·skip
   refine AE.retell (k:=30) (u:=Value.bool false) O (by rw [hg4]) ?_
   have hg4':=hg4
   simp only [Bool.and_eq_true,Bool.or_eq_true,Bool.and_eq_false_iff,Bool.or_eq_false_iff,Bool.not_eq_true',Bool.not_eq_false',decide_eq_true_eq,decide_eq_false_iff_not] at hg4'
   refine AE.step (v:=(pP b1 1)) (AB O) (AC (j:=1) O O underlying79 sizeOf3 O (by decide) O) O (Ad O) (AE.step (v:=(vN t.2.1)) (AB O) (AM (i:=0) (v:=(vN t.2.1)) O O B7.a O) O (Ad O) (AE.step (v:=(pP b1 2)) (AB O) (AC (j:=2) O O underlying79 sizeOf3 O (by decide) O) O (Ad O) (AE.step (v:=(vN t.2.2)) (AB O) (AM (i:=0) (v:=(vN t.2.2)) O O B7.a O) O (Ad O) (AE.step (v:=(Value.bool (decide (t.2.1=t.2.2)))) (AB O) (BZ (c:=(decide (t.2.1=t.2.2))) O O (NU (a:=t.2.1) (b:=t.2.2))) O (Ad O) (AH (v:=(Value.bool (decide (t.2.1=t.2.2)))) (AW O O) O ?_)))))
   exact AE.nil (AD.mid (sS O (sS O (sS O (sS O (sS O (sS O (sS O (sS O (sS O (sS O (sS O (sS O (sS O (sS O (sS (by first|rfl|(rw [hg4];rfl)|rw [hg4]) (sS (by first|rfl|(rw [hg4];rfl)|rw [hg4]) (sN))))))))))))))))) (List.Sublist.refl _))
 refine AP O ?_
 refine AE.mid (FM:=[(1,(pP bo.b 0)),(2,(pP b1 0)),(3,(Value.bool false)),(4,(pP b1 0)),(5,(vN t.1)),(6,(vN n)),(7,(Value.bool (decide (t.1<n)))),(8,(Value.bool (!(decide (t.1<n))))),(9,(Value.bool (!(decide (t.1<n))))),(15,(Value.bool ((!(decide (t.1<n)))||(!(decide (t.2.1<n)))))),(16,(Value.bool ((!(decide (t.1<n)))||(!(decide (t.2.1<n)))))),(22,(Value.bool (((!(decide (t.1<n)))||(!(decide (t.2.1<n))))||(!(decide (t.2.2<n)))))),(23,(Value.bool (((!(decide (t.1<n)))||(!(decide (t.2.1<n))))||(!(decide (t.2.2<n)))))),(29,(Value.bool ((((!(decide (t.1<n)))||(!(decide (t.2.1<n))))||(!(decide (t.2.2<n))))||(decide (t.1=t.2.1))))),(30,(Value.bool ((((!(decide (t.1<n)))||(!(decide (t.2.1<n))))||(!(decide (t.2.2<n))))||(decide (t.1=t.2.1))))),(36,(Value.bool (((((!(decide (t.1<n)))||(!(decide (t.2.1<n))))||(!(decide (t.2.2<n))))||(decide (t.1=t.2.1)))||(decide (t.2.1=t.2.2))))),(37,(Value.bool (((((!(decide (t.1<n)))||(!(decide (t.2.1<n))))||(!(decide (t.2.2<n))))||(decide (t.1=t.2.1)))||(decide (t.2.1=t.2.2))))),(43,(Value.bool ((((((!(decide (t.1<n)))||(!(decide (t.2.1<n))))||(!(decide (t.2.2<n))))||(decide (t.1=t.2.1)))||(decide (t.2.1=t.2.2)))||(decide (t.2.2=t.1)))))]) (LM:=[Ae b1 79 (Am t),Ah (some ⟨bo.b,0,none⟩) ([(vN n)])]) 6 ?_ ?_
 ·rcases Bool.eq_false_or_eq_true (((((!(decide (t.1<n)))||(!(decide (t.2.1<n))))||(!(decide (t.2.2<n))))||(decide (t.1=t.2.1)))||(decide (t.2.1=t.2.2))) with hg5|hg5
  ·skip
   refine AE.retell (k:=37) (u:=Value.bool true) O (by rw [hg5]) ?_
   have hg5':=hg5
   simp only [Bool.and_eq_true,Bool.or_eq_true,Bool.and_eq_false_iff,Bool.or_eq_false_iff,Bool.not_eq_true',Bool.not_eq_false',decide_eq_true_eq,decide_eq_false_iff_not] at hg5'
   refine AE.skip (AV O) O (Ad O) (AE.skip (AV O) O (Ad O) (AE.skip (AV O) O (Ad O) (AE.skip (AV O) O (Ad O) (AE.skip (AV O) O (Ad O) (AH (v:=(Value.bool true)) (Al O O) O ?_)))))
   exact AE.nil (AD.mid (sS O (sS O (sS O (sS O (sS O (sS O (sS O (sS O (sS O (sS O (sS O (sS O (sS O (sS O (sS O (sS O (sS (by first|rfl|(rw [hg5];rfl)|rw [hg5]) (sS (by first|rfl|(rw [hg5];rfl)|rw [hg5]) (sN))))))))))))))))))) (List.Sublist.refl _))
  ·skip
   refine AE.retell (k:=37) (u:=Value.bool false) O (by rw [hg5]) ?_
   have hg5':=hg5
   simp only [Bool.and_eq_true,Bool.or_eq_true,Bool.and_eq_false_iff,Bool.or_eq_false_iff,Bool.not_eq_true',Bool.not_eq_false',decide_eq_true_eq,decide_eq_false_iff_not] at hg5'
   refine AE.step (v:=(pP b1 2)) (AB O) (AC (j:=2) O O underlying79 sizeOf3 O (by decide) O) O (Ad O) (AE.step (v:=(vN t.2.2)) (AB O) (AM (i:=0) (v:=(vN t.2.2)) O O B7.a O) O (Ad O) (AE.step (v:=(pP b1 0)) (AB O) (AC (j:=0) O O underlying79 sizeOf3 O (by decide) O) O (Ad O) (AE.step (v:=(vN t.1)) (AB O) (AM (i:=0) (v:=(vN t.1)) O O B7.a O) O (Ad O) (AE.step (v:=(Value.bool (decide (t.2.2=t.1)))) (AB O) (BZ (c:=(decide (t.2.2=t.1))) O O (NU (a:=t.2.2) (b:=t.1))) O (Ad O) (AH (v:=(Value.bool (decide (t.2.2=t.1)))) (AW O O) O ?_)))))
   exact AE.nil (AD.mid (sS O (sS O (sS O (sS O (sS O (sS O (sS O (sS O (sS O (sS O (sS O (sS O (sS O (sS O (sS O (sS O (sS (by first|rfl|(rw [hg5];rfl)|rw [hg5]) (sS (by first|rfl|(rw [hg5];rfl)|rw [hg5]) (sN))))))))))))))))))) (List.Sublist.refl _))
 exact AJ O (AE.nil (AD.subF (sL [3] O) (AD.then_ (AF.ret (AN O (Ac (v:=(Value.bool ((((((!(decide (t.1<n)))||(!(decide (t.2.1<n))))||(!(decide (t.2.2<n))))||(decide (t.1=t.2.1)))||(decide (t.2.1=t.2.2)))||(decide (t.2.2=t.1))))) O) (λw hw=>⟨by congr 2;rw [Bool.eq_iff_iff];simp [J3]<;>omega,hw.out⟩))))))
theorem Vv (n:Nat) (bo:BX [vN n]) (ts:List (Nat×Nat×Nat)) (x:RX (rowsL Am ts) ts.length) (hl:ts.length<4611686018427387904) (w:World) {S:Nat->Prop} (hbo:Ro S w bo) (hx:Ro S w x):Calls prog 173 #[(Value.slice x.p ts.length x.c),(Value.func (.func 135) #[] #[(pP bo.b 0)])] w (Ak w (vI (idxB n ts 0))):=by
 have lbo:=Ep (W:=w) hbo
 have lx:=Ep (W:=w) hx
 refine BF (args:=[(Value.slice x.p ts.length x.c),(Value.func (.func 135) #[] #[(pP bo.b 0)])]) (L:=[Ah (some ⟨bo.b,0,none⟩) ([(vN n)]),Ah x.p (rowsL Am ts)]) func173 O O (Ad O) (En hbo (En hx BQ)) (AF.subF (sL [0,1] O) (q4 (AJ O (AE.nil (q1 ?_)))))
 refine q4 (AP O (AH (v:=(vN ts.length)) (AG O underlying23) O (AP O (AE.nil (AD.subF (sL [0,1,4,7,8] O) ?_)))))
 refine AD.then_ (AF.block ?_)
 refine AF.lp1 (tg λ(j:Nat)=>j<=ts.length/\idxB n ts 0=idxB n (ts.drop j) j) (tg λ(j:Nat)=>[(0,(Value.slice x.p ts.length x.c)),(1,(Value.func (.func 135) #[] #[(pP bo.b 0)])),(7,(vN ts.length)),(8,(vN j))]) (tg λ(j:Nat)=>[Ah (some ⟨bo.b,0,none⟩) ([(vN n)]),Ah x.p (rowsL Am ts)]) (tg λ(j:Nat)=>ts.length-j) 0 (⟨Nat.zero_le _,rfl⟩) (sF O) sr (λj hJ=>?_)
 obtain ⟨hj,he⟩:=hJ
 refine q4 (AH (Af (c:=(decide (j<ts.length))) O O (DB (a:=j) (b:=ts.length))) O (AE.nil (q1 ?_)))
 refine AF.cond O (λhc0=>?_) (λhc0=>?_)
 ·replace hc0:=of_decide_eq_true hc0
  refine AF.skip (q1 (AF.block (q4 (AP O (AJ O ?_)))))
  refine q3 (sL [0,1,7,8,5] O) (AP O (AP O (AP O (AH (v:=(pP (pB x.p) (pO x.p+j*3))) (AR (j:=j) O O x.ok underlying23 sizeOf79 O Z) O (AH (v:=(aG (Am (ts.getD j ((0,0,0):Nat×Nat×Nat))))) (AY (vs:=Am (ts.getD j ((0,0,0):Nat×Nat×Nat))) (i:=1) O O (BL.ne x.ok Z) Ie (Ar BC _ _ _ Z) (BC _)) O ?_)))))
  refine AE.call (v:=(Value.bool (!J3 n (ts.getD j ((0,0,0):Nat×Nat×Nat))))) (AQ O) (HX (args:=[(aG (Am (ts.getD j ((0,0,0):Nat×Nat×Nat))))]) (caps:=[(pP bo.b 0)]) (all:=[(aG (Am (ts.getD j ((0,0,0):Nat×Nat×Nat)))),(pP bo.b 0)]) O O O call135) (λw hw=>SR (ts.getD j ((0,0,0):Nat×Nat×Nat)) n bo w (D_ hw 0 O lbo)) O (Ad O) (AE.nil (AD.subF (sL [0,1,7,8,5,16] O) (AD.then_ ?_)))
  refine AF.cond O (λhc1=>?_) (λhc1=>?_)
  ·simp only [Bool.and_eq_true,Bool.or_eq_true,Bool.and_eq_false_iff,Bool.or_eq_false_iff,Bool.not_eq_true',Bool.not_eq_false',decide_eq_true_eq,decide_eq_false_iff_not] at hc1
   have hfin:=he.trans (SW Z (by simpa using hc1))
   refine q4 (AP O (AJ O (AE.nil (AD.subF (sL [0,1,7,8,5,4] O) (AD.then_ ?_)))))
   exact AF.ret (AD.in_ret (AD.then_ret (AD.round1_ret (AD.in_ret (AD.then_ret (AN O (Ac (v:=(vN j)) O) (λw hw=>⟨by rw [hfin],hw.out⟩)))))))
  ·simp only [Bool.and_eq_true,Bool.or_eq_true,Bool.and_eq_false_iff,Bool.or_eq_false_iff,Bool.not_eq_true',Bool.not_eq_false',decide_eq_true_eq,decide_eq_false_iff_not] at hc1
   refine AF.skip (AD.in_normal (AD.then_ (AF.region (AH (AX (c:=((j+1:Nat):Int)) O O (AZ (a:=j) (b:=1) Z)) O (AP O ?_)))))
   exact AE.nil (AD.subF (sL [0,1,7,8,5] O) (AD.round1 (j+1) (⟨Z,he.trans (Ps Z (by simpa using hc1))⟩) Z (sF O) sr))
 ·replace hc0:=of_decide_eq_false hc0
  have hfin:=he.trans (TH hc0)
  refine AF.exit (AD.then_exit (AD.round1_exit (AD.in_exit (q2 (AJ O ?_)))))
  exact AE.nil (AD.then_ (AF.ret (AN O (Ac (v:=(vI (-1:Int))) O) (λw hw=>⟨by rw [hfin],hw.out⟩))))
theorem UJ (n:Nat) (bo:BX [vN n]) (ts:List (Nat×Nat×Nat)) (x:RX (rowsL Am ts) ts.length) (hl:ts.length<4611686018427387904) (w:World) {S:Nat->Prop} (hbo:Ro S w bo) (hx:Ro S w x):Calls prog 134 #[(Value.slice x.p ts.length x.c),(Value.func (.func 135) #[] #[(pP bo.b 0)])] w (Ak w (Value.bool (!Bn n ts))):=by
 have lbo:=Ep (W:=w) hbo
 have lx:=Ep (W:=w) hx
 refine BF (args:=[(Value.slice x.p ts.length x.c),(Value.func (.func 135) #[] #[(pP bo.b 0)])]) (L:=[Ah (some ⟨bo.b,0,none⟩) ([(vN n)]),Ah x.p (rowsL Am ts)]) func134 O O (Ad O) (En hbo (En hx BQ)) (AF.subF (sL [0,1] O) (q4 (AJ O (AE.nil (q2 ?_)))))
 refine AP O (AP O (Ef call173 (λw hw=>Vv n bo ts x hl w (D_ hw 0 O lbo) (D_ hw 1 O lx)) O (AH (EV (c:=(!Bn n ts)) O O (K2 n ts 0)) O (AJ O (AE.nil ?_)))))
 exact AD.subF (sL [4] O) (AD.then_ (AF.ret (AN O (Ac (v:=(Value.bool (!Bn n ts))) O) (λw hw=>⟨rfl,hw.out⟩))))
theorem PM (n:Nat) (ts:List (Nat×Nat×Nat)) (x:RX (rowsL Am ts) ts.length) (hl:ts.length<4611686018427387904) (w:World) {S:Nat->Prop} (hx:Ro S w x):Calls prog 90 #[(Value.slice x.p ts.length x.c),(vN n)] w (Ak w (Value.bool (Bn n ts))):=by
 have lx:=Ep (W:=w) hx
 refine BF (args:=[(Value.slice x.p ts.length x.c),(vN n)]) (L:=[Ah x.p (rowsL Am ts)]) func90 O O (Ad O) (En hx BQ) (AF.subF (sL [0,1] O) (q4 (Bk (cs:=[(vN n)]) O λb1=>AE.frzX 0 O O λhnb1=>AJ O ?_)))
 refine q3 (sL [0,3,4] O) (AP O (AH (v:=(Value.func (.func 135) #[] #[(pP b1 0)])) (Em (vs:=[]) (us:=[(pP b1 0)]) O O) O (Ef call134 (λw hw=>UJ n ⟨b1⟩ ts x hl w (Tf (x:=(⟨b1⟩:BX [vN n])) hw 0 O hnb1) (D_ hw 1 O lx)) O (AH (BY (c:=(!(!Bn n ts))) O O) O (AJ O ?_)))))
 exact AE.nil (AD.subF (sL [4] O) (AD.then_ (AF.ret (AN O (Ac (v:=(Value.bool (!(!Bn n ts)))) O) (λw hw=>⟨by simp,hw.out⟩)))))
theorem PG {ps:List Pt} {ts ss:List (Nat×Nat×Nat)} (x:MX ps ts ss) (hl:ts.length<4611686018427387904) (w:World) {S:Nat->Prop} (hx:Ro S w x):Calls prog 48 #[(aG (Cm x))] w (Ak w (Value.bool (Bn ps.length ts))):=by
 have lx:=Ep (W:=w) hx
 refine BF (args:=[(aG (Cm x))]) (L:=[Ah x.a.p (rowsL Aj ps),Ah x.b.p (rowsL Am ts),Ah x.c.p (rowsL Am ss)]) func48 O O (Ad O) (En hx BQ) (AF.subF (sL [0] O) (q4 (Bk (cs:=Cm x) O λb1=>AJ O (q3 (sL [1,2] O) ?_))))
 refine AH (v:=(pP b1 1)) (AA O underlying30 O sizeOf23 O) O (BN 0 (Value.slice x.b.p ts.length x.b.c) C_ O (AH (v:=(pP b1 0)) (AA O underlying30 O sizeOf28 O) O (BN 0 (Value.slice x.a.p ps.length x.a.c) Di O (AH (v:=(vN ps.length)) (AG O underlying28) O (Ef call90 (λw hw=>PM ps.length ts x.b hl w (RJ (D_ hw 1 O lx))) O ?_)))))
 exact AJ O (AE.nil (AD.subF (sL [2] O) (AD.then_ (AF.ret (AN O (Ac (v:=(Value.bool (Bn ps.length ts))) O) (λw hw=>⟨rfl,hw.out⟩))))))
theorem Nx {ps:List Pt} {ts ss:List (Nat×Nat×Nat)} (x:MX ps ts ss) (t:Nat) (ht:t<ts.length) (hk:J3 ps.length (ts.getD t (0,0,0))=true) (w:World) {S:Nat->Prop} (hx:Ro S w x):Calls prog 23 #[(aG (Cm x)),(vN t)] w (Ak w (Value.tuple #[(aG (Aj (cor ps (ts.getD t (0,0,0)).1))),(aG (Aj (cor ps (ts.getD t (0,0,0)).2.1))),(aG (Aj (cor ps (ts.getD t (0,0,0)).2.2)))])):=by
 obtain ⟨k1,k2,k3⟩:=DG hk
 have lx:=Ep (W:=w) hx
 refine BF (args:=[(aG (Cm x)),(vN t)]) (L:=[Ah x.a.p (rowsL Aj ps),Ah x.b.p (rowsL Am ts),Ah x.c.p (rowsL Am ss)]) func23 O O (Ad O) (En hx BQ) (AF.subF (sL [0,1] O) (q4 (Bk (cs:=Cm x) O λb1=>al HL O λb2=>al HL O λb3=>?_)))
 refine al HL O λb4=>q6 (sL [1,2,4,5,6] O) (q4 (AP O (AH (Af (c:=false) O O (by simp)) O (AP O ?_))))
 refine AE.step (v:=(vN t)) (AB O) (BA O) O (Ad O) (AE.step (v:=(pP b1 1)) (AB O) (AA O underlying30 O sizeOf23 O) O (Ad O) (AE.step (v:=(Value.slice x.b.p ts.length x.b.c)) (AB O) (AM (i:=3) (v:=(Value.slice x.b.p ts.length x.b.c)) O O C_.a O) O (Ad O) (AE.step (v:=(vN ts.length)) (AB O) (AG O underlying23) O (Ad O) (AE.step (v:=(Value.bool false)) (AB O) (EV (c:=false) O O (by simp;omega)) O (Ad O) (AH (v:=(Value.bool false)) (AW O O) O ?_)))))
 refine AE.nil (AD.subF (sL [1,2,4,5,6,17] O) (AD.then_ (AF.cond_false O (AF.skip (q1 ?_)))))
 refine DA [(0,true),(1,true),(2,true),(3,true),(4,true),(5,true),(6,true),(7,true),(8,false),(9,false),(10,true)] sr (Aw (v:=(pP b1 1)) O (AA O underlying30 O sizeOf23 O) (Bi 3 (Value.slice x.b.p ts.length x.b.c) C_ O (Bp O (Aw (v:=(pP (pB x.b.p) (pO x.b.p+t*3))) O (AR (j:=t) O O x.b.ok underlying23 sizeOf79 O Z) (Aw (v:=(aG (Am (ts.getD t ((0,0,0):Nat×Nat×Nat))))) O (AY (vs:=Am (ts.getD t ((0,0,0):Nat×Nat×Nat))) (i:=5) O O (BL.ne x.b.ok Z) Ie (Ar BC _ _ _ Z) (BC _)) ?_)))))
 refine Aw (v:=(pP b1 0)) O (AA O underlying30 O sizeOf28 O) (Bi 3 (Value.slice x.a.p ps.length x.a.c) Di O (Aw (v:=(vN ps.length)) O (AG O underlying28) (AS.imp O (al Lp O λb5=>AS.back (sl sr) ?_))))
 refine AS.imp O (Aq O sizeOf79 O (AS.back (sl sr) (Ez O (AS.nil (AD.subF (sL [1,2,4,5,6,7,8] O) ?_)))))
 refine q1 (q4 (AH (v:=(pP b5 0)) (AC (j:=0) O O underlying79 sizeOf3 O (by decide) O) O (BN 0 (vN ((ts.getD t ((0,0,0):Nat×Nat×Nat)).1)) B7 O (AP O (Ef (args:=[(vN ((ts.getD t ((0,0,0):Nat×Nat×Nat)).1)),(vN ps.length)]) (v:=(Value.bool true)) call63 (λw hw=>(by have h9:=B6 ((ts.getD t ((0,0,0):Nat×Nat×Nat)).1) ps.length w;rw [decide_eq_true Z] at h9;exact h9)) O ?_)))))
 refine AH (BY (c:=false) O O) O (AP O (AE.step (v:=(pP b5 1)) (AB O) (AC (j:=1) O O underlying79 sizeOf3 O (by decide) O) O (Ad O) (AE.step (v:=(vN ((ts.getD t ((0,0,0):Nat×Nat×Nat)).2.1))) (AB O) (AM (i:=0) (v:=(vN ((ts.getD t ((0,0,0):Nat×Nat×Nat)).2.1))) O O B7.a O) O (Ad O) (AE.step (v:=(vN ps.length)) (AB O) (BA O) O (Ad O) (AE.call (v:=(Value.bool true)) (AB O) (Ax (args:=[(vN ((ts.getD t ((0,0,0):Nat×Nat×Nat)).2.1)),(vN ps.length)]) O O call63) (λw hw=>(by have h9:=B6 ((ts.getD t ((0,0,0):Nat×Nat×Nat)).2.1) ps.length w;rw [decide_eq_true Z] at h9;exact h9)) O (Ad O) ?_)))))
 refine AE.step (v:=(Value.bool false)) (AB O) (BY (c:=false) O O) O (Ad O) (AH (v:=(Value.bool false)) (AW O O) O (AP O (AE.step (v:=(pP b5 2)) (AB O) (AC (j:=2) O O underlying79 sizeOf3 O (by decide) O) O (Ad O) (AE.step (v:=(vN ((ts.getD t ((0,0,0):Nat×Nat×Nat)).2.2))) (AB O) (AM (i:=0) (v:=(vN ((ts.getD t ((0,0,0):Nat×Nat×Nat)).2.2))) O O B7.a O) O (Ad O) (AE.step (v:=(vN ps.length)) (AB O) (BA O) O (Ad O) ?_)))))
 refine AE.call (v:=(Value.bool true)) (AB O) (Ax (args:=[(vN ((ts.getD t ((0,0,0):Nat×Nat×Nat)).2.2)),(vN ps.length)]) O O call63) (λw hw=>(by have h9:=B6 ((ts.getD t ((0,0,0):Nat×Nat×Nat)).2.2) ps.length w;rw [decide_eq_true Z] at h9;exact h9)) O (Ad O) (AE.step (v:=(Value.bool false)) (AB O) (BY (c:=false) O O) O (Ad O) (AH (v:=(Value.bool false)) (AW O O) O (AE.nil (AD.subF (sL [1,2,4,5,6,7,47] O) (AD.then_ ?_)))))
 refine AF.cond_false O (AF.skip (q1 (DA [(0,true),(1,true),(2,true),(3,true),(4,true),(5,true),(6,true),(7,true),(8,true),(9,true),(10,true),(11,true),(12,true),(13,true),(14,true),(15,true),(16,true),(17,true),(18,false),(19,false),(20,false)] (sk (sl (sl (sl sr)))) (Aw (v:=(pP b1 0)) O (AA O underlying30 O sizeOf28 O) (Bi 1 (Value.slice x.a.p ps.length x.a.c) Di O ?_)))))
 refine Aw (v:=(pP b5 0)) O (AC (j:=0) O O underlying79 sizeOf3 O (by decide) O) (Bi 0 (vN ((ts.getD t ((0,0,0):Nat×Nat×Nat)).1)) B7 O (Aw (v:=(pP (pB x.a.p) (pO x.a.p+((ts.getD t ((0,0,0):Nat×Nat×Nat)).1)*10))) O (AR (j:=(ts.getD t ((0,0,0):Nat×Nat×Nat)).1) O O x.a.ok underlying28 sizeOf63 O Z) (Aw (v:=(aG (Aj (ps.getD ((ts.getD t ((0,0,0):Nat×Nat×Nat)).1) (⟨0,0⟩:Pt))))) O (AY (vs:=Aj (ps.getD ((ts.getD t ((0,0,0):Nat×Nat×Nat)).1) (⟨0,0⟩:Pt))) (i:=2) O O (BL.ne x.a.ok Z) BR (Ar BJ _ _ _ Z) (BJ _)) (Aw (v:=(pP b1 0)) O (AA O underlying30 O sizeOf28 O) (Bi 1 (Value.slice x.a.p ps.length x.a.c) Di O ?_)))))
 refine Aw (v:=(pP b5 1)) O (AC (j:=1) O O underlying79 sizeOf3 O (by decide) O) (Bi 0 (vN ((ts.getD t ((0,0,0):Nat×Nat×Nat)).2.1)) B7 O (Aw (v:=(pP (pB x.a.p) (pO x.a.p+((ts.getD t ((0,0,0):Nat×Nat×Nat)).2.1)*10))) O (AR (j:=(ts.getD t ((0,0,0):Nat×Nat×Nat)).2.1) O O x.a.ok underlying28 sizeOf63 O Z) (Aw (v:=(aG (Aj (ps.getD ((ts.getD t ((0,0,0):Nat×Nat×Nat)).2.1) (⟨0,0⟩:Pt))))) O (AY (vs:=Aj (ps.getD ((ts.getD t ((0,0,0):Nat×Nat×Nat)).2.1) (⟨0,0⟩:Pt))) (i:=2) O O (BL.ne x.a.ok Z) BR (Ar BJ _ _ _ Z) (BJ _)) (Aw (v:=(pP b1 0)) O (AA O underlying30 O sizeOf28 O) (Bi 1 (Value.slice x.a.p ps.length x.a.c) Di O ?_)))))
 refine Aw (v:=(pP b5 2)) O (AC (j:=2) O O underlying79 sizeOf3 O (by decide) O) (Bi 0 (vN ((ts.getD t ((0,0,0):Nat×Nat×Nat)).2.2)) B7 O (Aw (v:=(pP (pB x.a.p) (pO x.a.p+((ts.getD t ((0,0,0):Nat×Nat×Nat)).2.2)*10))) O (AR (j:=(ts.getD t ((0,0,0):Nat×Nat×Nat)).2.2) O O x.a.ok underlying28 sizeOf63 O Z) (Aw (v:=(aG (Aj (ps.getD ((ts.getD t ((0,0,0):Nat×Nat×Nat)).2.2) (⟨0,0⟩:Pt))))) O (AY (vs:=Aj (ps.getD ((ts.getD t ((0,0,0):Nat×Nat×Nat)).2.2) (⟨0,0⟩:Pt))) (i:=2) O O (BL.ne x.a.ok Z) BR (Ar BJ _ _ _ Z) (BJ _)) (AS.imp O (IJ O sizeOf63 O ?_)))))
 refine AS.back (sk (sl (sl (sl sr)))) (AS.imp O (Sy O sizeOf63 O (AS.back (sk (sl (sl (sl sr)))) (AS.imp O (C9 O sizeOf63 O ?_)))))
 exact AS.back (sk (sl (sl (sl sr)))) (AS.nil (AD.subF (sL [1,2,4,5,6,7] O) (AD.then_ (AF.ret (FK O (A7 (i:=3) (cs:=Aj (ps.getD ((ts.getD t ((0,0,0):Nat×Nat×Nat)).1) (⟨0,0⟩:Pt))) O O isAgg63 sizeOf63 O) (A7 (i:=2) (cs:=Aj (ps.getD ((ts.getD t ((0,0,0):Nat×Nat×Nat)).2.1) (⟨0,0⟩:Pt))) O O isAgg63 sizeOf63 O) (A7 (i:=1) (cs:=Aj (ps.getD ((ts.getD t ((0,0,0):Nat×Nat×Nat)).2.2) (⟨0,0⟩:Pt))) O O isAgg63 sizeOf63 O) (λw hw=>⟨rfl,hw.out⟩))))))
end
section
set_option maxRecDepth 100000
theorem RP (a:Nat) (w:World)  :Calls prog 137 #[(vN a)] w (Ak w (Value.bool false)):=by
 refine Ab (args:=[(vN a)]) func137 O O (Ad O) (AF.subF (sL [0] O) (q4 (AJ O (AE.nil (q2 ?_)))))
 refine AP O (AP O (AH (CP (c:=false) O O (by simp)) O (AJ O (AE.nil (AD.subF (sL [2] O) ?_)))))
 exact AD.then_ (AF.ret (AN O (Ac (v:=(Value.bool false)) O) (λw hw=>⟨rfl,hw.out⟩)))
theorem PO (a b:Nat) (w:World)  :Calls prog 94 #[(vN a),(vN b)] w (Ak w (vI (Dm a b))):=by
 refine Ab (args:=[(vN a),(vN b)]) func94 O O (Ad O) (AF.subF (sL [0,1] O) (q4 (AJ O (AE.nil (q2 ?_)))))
 refine AP O (BS call137 (RP a) O (AJ O (q3 (sL [0,1,4,5] O) (AP O (BS call137 (RP b) O ?_)))))
 refine AJ O (q6 (sL [0,1,4,5,6] O) (q4 (AP O (AE.nil (AD.subF (sL [0,1,4,6,11] O) ?_)))))
 refine AD.then_ (AF.cond_false O (AF.skip (q1 (q4 (AP O ?_)))))
 refine AE.nil (AD.subF (sL [0,1,4,6,13] O) (AD.then_ (AF.cond_false O (AF.skip (q1 ?_)))))
 refine q4 (AP O (AP O (AH (Af (c:=(decide (a<b))) O O (DB (a:=a) (b:=b))) O (AE.nil (AD.subF (sL [0,1,4,6,16] O) ?_)))))
 refine AD.then_ ?_
 refine AF.cond O (λhc3=>?_) (λhc3=>?_)
 ·replace hc3:=of_decide_eq_true hc3
  have hr:=PR hc3
  exact q4 (AJ O (AE.nil (AD.then_ (AF.ret (AD.then_ret (AN O (Ac (v:=(vI (-1:Int))) O) (λw hw=>⟨by rw [hr]<;>rfl,hw.out⟩)))))))
 ·replace hc3:=of_decide_eq_false hc3
  refine AF.skip (q1 (q4 (AP O (AP O (AH (Cx (c:=(decide (b<a))) O O (DB (a:=b) (b:=a))) O ?_)))))
  refine AE.nil (AD.subF (sL [0,1,4,6,19] O) (AD.then_ ?_))
  refine AF.cond O (λhc4=>?_) (λhc4=>?_)
  ·replace hc4:=of_decide_eq_true hc4
   have hr:=O7 hc3 hc4
   exact q4 (AJ O (AE.nil (AD.then_ (AF.ret (AD.then_ret (AN O (Ac (v:=(vI 1)) O) (λw hw=>⟨by rw [hr]<;>rfl,hw.out⟩)))))))
  ·replace hc4:=of_decide_eq_false hc4
   have hr:=PL hc3 hc4
   exact AF.skip (q2 (AJ O (AE.nil (AD.then_ (AF.ret (AN O (Ac (v:=(vI 0)) O) (λw hw=>⟨by rw [hr]<;>rfl,hw.out⟩)))))))
theorem Sd (a b:Int) (g:Nat) (w:World) (hg:w.heap[g]?=some (.cells ([(vI a),(vI b)]).toArray 3 (0,0))):Calls prog 93 #[(Value.slice (some ⟨g,0,none⟩) 2 2)] w (λe w'=>e=.returned (Value.int .i64 (RA a b))/\Ks w w' (some g)/\w'.heap[g]?=some (.cells ([(vI a),(vI b)]).toArray 3 (0,0))):=by
 refine Hu (args:=[(Value.slice (some ⟨g,0,none⟩) 2 2)]) (g:=g) (T:=3) (cs:=[(vI a),(vI b)]) func93 O O (Ad O) hg (AF.subF (sL [0] O) (q4 (AJ O (AE.nil (q2 ?_)))))
 refine AJ O (AE.nil (q1 (q4 (AP O (AH (v:=(vI 2)) (AG O underlying71) O ?_)))))
 refine AP O (AE.nil (AD.subF (sL [2,3,6,7,8] O) (AD.then_ (AF.block (AF.unroll 4 ?_)))))
 refine FL.step (q4 (AH (Af (c:=true) O O (by decide)) O (AE.nil (q1 (AF.cond_true O ?_)))))
 refine AF.skip (q1 (AF.block (q4 (AH (v:=(pP g 0)) (AI (j:=0) O O underlying71 sizeOf3 O Z O) O (BN 0 (vI a) B7 O ?_)))))
 refine AJ O (q3 (sL [2,3,6,7,8,5] O) (AP O (AP O (AH (CP (c:=(decide (a≠(0:Int)))) O O O) O (AE.nil ?_)))))
 refine AD.subF (sL [2,3,6,7,8,5,14] O) (AD.then_ ?_)
 refine AF.cond O (λhc1=>?_) (λhc1=>?_)
 ·replace hc1:=of_decide_eq_true hc1
  have hr:RA a b=a:=if_pos hc1
  refine q4 (AP O (AJ O (AE.nil (AD.subF (sL [2,3,6,7,8,5] O) (AD.then_ ?_)))))
  exact AF.ret (AD.in_ret (AD.then_ret (AD.then_ret (AD.in_ret (AD.then_ret (AN O (Ac (v:=(vI a)) O) (λw hw=>⟨by rw [hr]<;>rfl,hw.1,hw.get (i:=0) O⟩)))))))
 ·replace hc1:=of_decide_eq_false hc1
  have hq:=hc1
  refine AF.skip (AD.in_normal (AD.then_ (AF.region (AH (AX (c:=(1:Int)) O O (by decide)) O (AP O ?_)))))
  refine AE.nil (AD.subF (sL [2,3,6,7,8,5] O) (AD.again (FL.step (q4 (AH (Af (c:=true) O O (by decide)) O ?_)))))
  refine AE.nil (q1 (AF.cond_true O (AF.skip (q1 (AF.block ?_)))))
  refine q4 (AH (v:=(pP g 1)) (AI (j:=1) O O underlying71 sizeOf3 O Z O) O (BN 0 (vI b) B7 O (AJ O (q3 (sL [2,3,6,7,8,5] O) (AP O ?_)))))
  refine AP O (AH (CP (c:=(decide (b≠(0:Int)))) O O O) O (AE.nil (AD.subF (sL [2,3,6,7,8,5,14] O) (AD.then_ ?_))))
  refine AF.cond O (λhc1=>?_) (λhc1=>?_)
  ·replace hc1:=of_decide_eq_true hc1
   have hr:RA a b=b:=by rw [RA,if_neg hq,if_pos hc1]
   refine q4 (AP O (AJ O (AE.nil (AD.subF (sL [2,3,6,7,8,5] O) (AD.then_ ?_)))))
   exact AF.ret (AD.in_ret (AD.then_ret (AD.then_ret (AD.in_ret (AD.then_ret (AN O (Ac (v:=(vI b)) O) (λw hw=>⟨by rw [hr]<;>rfl,hw.1,hw.get (i:=0) O⟩)))))))
  ·replace hc1:=of_decide_eq_false hc1
   have hr:RA a b=0:=by rw [RA,if_neg hq,if_neg hc1]
   refine AF.skip (AD.in_normal (AD.then_ (AF.region (AH (AX (c:=(2:Int)) O O (by decide)) O (AP O ?_)))))
   refine AE.nil (AD.subF (sL [2,3,6,7,8,5] O) (AD.again (FL.step (q4 (AH (Af (c:=false) O O (by decide)) O ?_)))))
   refine AE.nil (q1 (AF.cond_false O (AF.exit (AD.then_exit (AD.then_exit ?_)))))
   refine AD.in_exit (q2 (AP O (AJ O (AE.nil (AD.subF (sL [2,3,6,7,8,5] O) ?_)))))
   exact AD.then_ (AF.ret (AN O (Ac (v:=(vI 0)) O) (λw hw=>⟨by rw [hr]<;>rfl,hw.1,hw.get (i:=0) O⟩)))
end
section
set_option maxRecDepth 100000
theorem Ug (x y:E4) (w:World)  :Calls prog 92 #[(aG (B8 x)),(aG (B8 y))] w (Ak w (vI (Mu x y))):=by
 refine Ab (args:=[(aG (B8 x)),(aG (B8 y))]) func92 O O (Ad O) (AF.subF (sL [0,1] O) (q4 (Bk (cs:=B8 x) O λb1=>Bk (cs:=B8 y) O λb2=>AJ O ?_)))
 refine q6 (sL [2,3,4] O) (DA [(0,true),(1,true),(2,true),(3,true),(5,true),(6,true),(7,true),(8,true),(4,false),(9,false),(10,false),(11,false),(12,true)] sr (Aw (v:=(pP b1 0)) O (AA O underlying65 O sizeOf3 O) (Bi 1 (vN x.a) B7 O (Aw (v:=(pP b2 0)) O (AA O underlying65 O sizeOf3 O) (Bi 0 (vN y.a) B7 O ?_)))))
 refine Aw (v:=(pP b1 1)) O (AA O underlying65 O sizeOf3 O) (Bi 1 (vN x.b) B7 O (Aw (v:=(pP b2 1)) O (AA O underlying65 O sizeOf3 O) (Bi 0 (vN y.b) B7 O (AS.imp O (BS call94 (PO x.a y.a) O ?_)))))
 refine AS.back sr (AS.imp O (BS call94 (PO x.b y.b) O (AS.back sr (AS.imp O (AE.openV (V:=λb3=>(Value.slice (some ⟨b3,0,none⟩) 2 2)) (T:=3) (cs:=[(vI (Dm x.a y.a)),(vI (Dm x.b y.b))]) (AQ O) (BD (cs:=[(vI (Dm x.a y.a)),(vI (Dm x.b y.b))]) (pv:=[(0,(vI (Dm x.a y.a))),(1,(vI (Dm x.b y.b)))]) underlying71 sizeOf3 zeroValue3 (by decide) (by decide) O (by kernel_rfl)) O (Ad O) λb3=>?_)))))
 refine AS.back (sl sr) (AS.imp O (AE.callM (v:=(vI (RA (Dm x.a y.a) (Dm x.b y.b)))) (i:=0) (cs':=[(vI (Dm x.a y.a)),(vI (Dm x.b y.b))]) (L':=[Ae b3 3 ([(vI (Dm x.a y.a)),(vI (Dm x.b y.b))]),Ae b2 65 (B8 y),Ae b1 65 (B8 x)]) (AQ O) (Ax (args:=[(Value.slice (some ⟨b3,0,none⟩) 2 2)]) O O call93) O (λw hw=>Sd (Dm x.a y.a) (Dm x.b y.b) _ w (hw.get (i:=0) O)) (λd hd=>by cases hd<;>exact (Ad O)) O (AS.back (sl sr) (Ez O (AS.nil ?_)))))
 exact AD.subF (sL [4] O) (AD.then_ (AF.ret (AN O (Ac (v:=(vI (RA (Dm x.a y.a) (Dm x.b y.b)))) O) (λw hw=>⟨rfl,hw.out⟩))))
end
end Go.Proofs.YtfbomiejpbchdaaGreatDoor
