import Derived.Test.YtfbomiejpbchdaaGreatDoorPart06
import Derived.Test.YtfbomiejpbchdaaGreatDoorPart22
import Derived.Test.YtfbomiejpbchdaaGreatDoorPart23
import Derived.Test.YtfbomiejpbchdaaGreatDoorPart26
namespace Go.Proofs.YtfbomiejpbchdaaGreatDoor
open Go Go.RowKit Go.Proofs.Tryz
set_option linter.unusedVariables false
set_option linter.unusedSimpArgs false
section
set_option maxRecDepth 100000
theorem By (p n:Nat) (w:World)  :Calls prog 63 #[(vN p),(vN n)] w (Al w (Value.bool (decide (p<n)))):=by
 refine Ac (args:=[(vN p),(vN n)]) func63 O O (Ad O) (AF.subF (sL [0,1] O) (q4 (AK O (AE.nil (q2 ?_)))))
 refine AO O (AH (DW (c:=(decide (0<=p))) O O (SP (a:=0) (b:=p))) O (AO O ?_))
 refine AE.mid (FM:=[(0,(vN p)),(1,(vN n)),(4,(Value.bool false)),(5,(vN p)),(6,(Value.bool (decide (0<=p)))),(7,(Value.bool (decide (0<=p)))),(11,(Value.bool ((decide (0<=p))&&(decide (p<n)))))]) (LM:=[]) 4 ?_ ?_
 ·rcases Bool.eq_false_or_eq_true (decide (0<=p)) with hg1|hg1
  ·skip
   refine AE.retell (k:=7) (u:=Value.bool true) O (by rw [hg1]) ?_
   have hg1':=hg1
   replace hg1':=of_decide_eq_true hg1'
   exact AE.step (v:=(vN p)) (AB O) (BB O) O (Ad O) (AE.step (v:=(vN n)) (AB O) (BB O) O (Ad O) (AE.step (v:=(Value.bool (decide (p<n)))) (AB O) (Af (c:=(decide (p<n))) O O (C1 (a:=p) (b:=n))) O (Ad O) (AH (v:=(Value.bool (decide (p<n)))) (Ai O O) O (AE.nil (AC.mid (sS O (sS O (sS O (sS O (sS O (sS (by first|rfl|(rw [hg1];rfl)|rw [hg1]) (sS (by first|rfl|(rw [hg1];rfl)|rw [hg1]) (sN)))))))) (List.Sublist.refl _))))))
  ·skip
   refine AE.retell (k:=7) (u:=Value.bool false) O (by rw [hg1]) ?_
   have hg1':=hg1
   replace hg1':=of_decide_eq_false hg1'
   exact AE.skip (AQ O) O (Ad O) (AE.skip (AQ O) O (Ad O) (AE.skip (AQ O) O (Ad O) (AH (v:=(Value.bool false)) (AY O O) O (AE.nil (AC.mid (sS O (sS O (sS O (sS O (sS O (sS (by first|rfl|(rw [hg1];rfl)|rw [hg1]) (sS (by first|rfl|(rw [hg1];rfl)|rw [hg1]) (sN)))))))) (List.Sublist.refl _))))))
 exact AK O (AE.nil (AC.subF (sL [4] O) (AC.then_ (AF.ret (AN O (Ab (v:=(Value.bool ((decide (0<=p))&&(decide (p<n))))) O) (λw hw=>⟨by simp,hw.out⟩))))))
theorem QJ (t:Nat×Nat×Nat) (n:Nat) (bo:BX [vN n]) (w:World) {S:Nat->Prop} (hbo:Ro S w bo):Calls prog 135 #[(aG (An t)),(pP bo.b 0)] w (Al w (Value.bool (!K8 n t))):=by
 have lbo:=En (W:=w) hbo
 refine BC (args:=[(aG (An t)),(pP bo.b 0)]) (L:=[Ag (some ⟨bo.b,0,none⟩) ([(vN n)])]) func135 O O (Ad O) (Eo hbo BR) (AF.subF (sL [0,1] O) (q4 (Bi (cs:=An t) O λb1=>AK O (q3 (sL [1,2,3] O) ?_))))
 refine AH (v:=(pP b1 0)) (AD (j:=0) O O underlying79 sizeOf3 O (by decide) O) O (BJ 0 (vN t.1) Bx O (AH (Ax (q:=some ⟨bo.b,0,none⟩) (v:=(vN n)) (off:=0) (i:=1) O O (λe=>by cases e) Bx O) O (BS call63 (By t.1 n) O (AH (BV (c:=(!(decide (t.1<n)))) O O) O (AO O ?_)))))
 refine AE.mid (FM:=[(1,(pP bo.b 0)),(2,(pP b1 0)),(3,(Value.bool false)),(4,(pP b1 0)),(5,(vN t.1)),(6,(vN n)),(7,(Value.bool (decide (t.1<n)))),(8,(Value.bool (!(decide (t.1<n))))),(9,(Value.bool (!(decide (t.1<n))))),(15,(Value.bool ((!(decide (t.1<n)))||(!(decide (t.2.1<n))))))]) (LM:=[Ae b1 79 (An t),Ag (some ⟨bo.b,0,none⟩) ([(vN n)])]) 6 ?_ ?_
 ·rcases Bool.eq_false_or_eq_true (!(decide (t.1<n))) with hg1|hg1
  ·skip
   refine AE.retell (k:=9) (u:=Value.bool true) O (by rw [hg1]) ?_
   have hg1':=hg1
   simp only [Bool.and_eq_true,Bool.or_eq_true,Bool.and_eq_false_iff,Bool.or_eq_false_iff,Bool.not_eq_true',Bool.not_eq_false',decide_eq_true_eq,decide_eq_false_iff_not] at hg1'
   refine AE.skip (AQ O) O (Ad O) (AE.skip (AQ O) O (Ad O) (AE.skip (AQ O) O (Ad O) (AE.skip (AQ O) O (Ad O) (AE.skip (AQ O) O (Ad O) (AH (v:=(Value.bool true)) (Ai O O) O ?_)))))
   exact AE.nil (AC.mid (sS O (sS O (sS O (sS O (sS O (sS O (sS O (sS O (sS (by first|rfl|(rw [hg1];rfl)|rw [hg1]) (sS (by first|rfl|(rw [hg1];rfl)|rw [hg1]) (sN))))))))))) (List.Sublist.refl _))
  ·skip
   refine AE.retell (k:=9) (u:=Value.bool false) O (by rw [hg1]) ?_
   have hg1':=hg1
   simp only [Bool.and_eq_true,Bool.or_eq_true,Bool.and_eq_false_iff,Bool.or_eq_false_iff,Bool.not_eq_true',Bool.not_eq_false',decide_eq_true_eq,decide_eq_false_iff_not] at hg1'
   refine AE.step (v:=(pP b1 1)) (AB O) (AD (j:=1) O O underlying79 sizeOf3 O (by decide) O) O (Ad O) (AE.step (v:=(vN t.2.1)) (AB O) (AM (i:=0) (v:=(vN t.2.1)) O O Bx.a O) O (Ad O) (AE.step (v:=(vN n)) (AB O) (Ax (q:=some ⟨bo.b,0,none⟩) (v:=(vN n)) (off:=0) (i:=1) O O (λe=>by cases e) Bx O) O (Ad O) (AE.call (v:=(Value.bool (decide (t.2.1<n)))) (AB O) (Ao (args:=[(vN t.2.1),(vN n)]) O O call63) (λw hw=>By t.2.1 n w) O (Ad O) (AE.step (v:=(Value.bool (!(decide (t.2.1<n))))) (AB O) (BV (c:=(!(decide (t.2.1<n)))) O O) O (Ad O) (AH (v:=(Value.bool (!(decide (t.2.1<n))))) (AY O O) O ?_)))))
   exact AE.nil (AC.mid (sS O (sS O (sS O (sS O (sS O (sS O (sS O (sS O (sS (by first|rfl|(rw [hg1];rfl)|rw [hg1]) (sS (by first|rfl|(rw [hg1];rfl)|rw [hg1]) (sN))))))))))) (List.Sublist.refl _))
 refine AO O ?_
 refine AE.mid (FM:=[(1,(pP bo.b 0)),(2,(pP b1 0)),(3,(Value.bool false)),(4,(pP b1 0)),(5,(vN t.1)),(6,(vN n)),(7,(Value.bool (decide (t.1<n)))),(8,(Value.bool (!(decide (t.1<n))))),(9,(Value.bool (!(decide (t.1<n))))),(15,(Value.bool ((!(decide (t.1<n)))||(!(decide (t.2.1<n)))))),(16,(Value.bool ((!(decide (t.1<n)))||(!(decide (t.2.1<n)))))),(22,(Value.bool (((!(decide (t.1<n)))||(!(decide (t.2.1<n))))||(!(decide (t.2.2<n))))))]) (LM:=[Ae b1 79 (An t),Ag (some ⟨bo.b,0,none⟩) ([(vN n)])]) 6 ?_ ?_
 ·rcases Bool.eq_false_or_eq_true ((!(decide (t.1<n)))||(!(decide (t.2.1<n)))) with hg2|hg2
  ·skip
   refine AE.retell (k:=16) (u:=Value.bool true) O (by rw [hg2]) ?_
   have hg2':=hg2
   simp only [Bool.and_eq_true,Bool.or_eq_true,Bool.and_eq_false_iff,Bool.or_eq_false_iff,Bool.not_eq_true',Bool.not_eq_false',decide_eq_true_eq,decide_eq_false_iff_not] at hg2'
   refine AE.skip (AQ O) O (Ad O) (AE.skip (AQ O) O (Ad O) (AE.skip (AQ O) O (Ad O) (AE.skip (AQ O) O (Ad O) (AE.skip (AQ O) O (Ad O) (AH (v:=(Value.bool true)) (Ai O O) O ?_)))))
   exact AE.nil (AC.mid (sS O (sS O (sS O (sS O (sS O (sS O (sS O (sS O (sS O (sS O (sS (by first|rfl|(rw [hg2];rfl)|rw [hg2]) (sS (by first|rfl|(rw [hg2];rfl)|rw [hg2]) (sN))))))))))))) (List.Sublist.refl _))
  ·skip
   refine AE.retell (k:=16) (u:=Value.bool false) O (by rw [hg2]) ?_
   have hg2':=hg2
   simp only [Bool.and_eq_true,Bool.or_eq_true,Bool.and_eq_false_iff,Bool.or_eq_false_iff,Bool.not_eq_true',Bool.not_eq_false',decide_eq_true_eq,decide_eq_false_iff_not] at hg2'
   refine AE.step (v:=(pP b1 2)) (AB O) (AD (j:=2) O O underlying79 sizeOf3 O (by decide) O) O (Ad O) (AE.step (v:=(vN t.2.2)) (AB O) (AM (i:=0) (v:=(vN t.2.2)) O O Bx.a O) O (Ad O) (AE.step (v:=(vN n)) (AB O) (Ax (q:=some ⟨bo.b,0,none⟩) (v:=(vN n)) (off:=0) (i:=1) O O (λe=>by cases e) Bx O) O (Ad O) (AE.call (v:=(Value.bool (decide (t.2.2<n)))) (AB O) (Ao (args:=[(vN t.2.2),(vN n)]) O O call63) (λw hw=>By t.2.2 n w) O (Ad O) (AE.step (v:=(Value.bool (!(decide (t.2.2<n))))) (AB O) (BV (c:=(!(decide (t.2.2<n)))) O O) O (Ad O) (AH (v:=(Value.bool (!(decide (t.2.2<n))))) (AY O O) O ?_)))))
   exact AE.nil (AC.mid (sS O (sS O (sS O (sS O (sS O (sS O (sS O (sS O (sS O (sS O (sS (by first|rfl|(rw [hg2];rfl)|rw [hg2]) (sS (by first|rfl|(rw [hg2];rfl)|rw [hg2]) (sN))))))))))))) (List.Sublist.refl _))
 refine AO O ?_
 refine AE.mid (FM:=[(1,(pP bo.b 0)),(2,(pP b1 0)),(3,(Value.bool false)),(4,(pP b1 0)),(5,(vN t.1)),(6,(vN n)),(7,(Value.bool (decide (t.1<n)))),(8,(Value.bool (!(decide (t.1<n))))),(9,(Value.bool (!(decide (t.1<n))))),(15,(Value.bool ((!(decide (t.1<n)))||(!(decide (t.2.1<n)))))),(16,(Value.bool ((!(decide (t.1<n)))||(!(decide (t.2.1<n)))))),(22,(Value.bool (((!(decide (t.1<n)))||(!(decide (t.2.1<n))))||(!(decide (t.2.2<n)))))),(23,(Value.bool (((!(decide (t.1<n)))||(!(decide (t.2.1<n))))||(!(decide (t.2.2<n)))))),(29,(Value.bool ((((!(decide (t.1<n)))||(!(decide (t.2.1<n))))||(!(decide (t.2.2<n))))||(decide (t.1=t.2.1)))))]) (LM:=[Ae b1 79 (An t),Ag (some ⟨bo.b,0,none⟩) ([(vN n)])]) 6 ?_ ?_
 ·rcases Bool.eq_false_or_eq_true (((!(decide (t.1<n)))||(!(decide (t.2.1<n))))||(!(decide (t.2.2<n)))) with hg3|hg3
  ·skip
   refine AE.retell (k:=23) (u:=Value.bool true) O (by rw [hg3]) ?_
   have hg3':=hg3
   simp only [Bool.and_eq_true,Bool.or_eq_true,Bool.and_eq_false_iff,Bool.or_eq_false_iff,Bool.not_eq_true',Bool.not_eq_false',decide_eq_true_eq,decide_eq_false_iff_not] at hg3'
   refine AE.skip (AQ O) O (Ad O) (AE.skip (AQ O) O (Ad O) (AE.skip (AQ O) O (Ad O) (AE.skip (AQ O) O (Ad O) (AE.skip (AQ O) O (Ad O) (AH (v:=(Value.bool true)) (Ai O O) O ?_)))))
   exact AE.nil (AC.mid (sS O (sS O (sS O (sS O (sS O (sS O (sS O (sS O (sS O (sS O (sS O (sS O (sS (by first|rfl|(rw [hg3];rfl)|rw [hg3]) (sS (by first|rfl|(rw [hg3];rfl)|rw [hg3]) (sN))))))))))))))) (List.Sublist.refl _))
  ·skip
   refine AE.retell (k:=23) (u:=Value.bool false) O (by rw [hg3]) ?_
   have hg3':=hg3
   simp only [Bool.and_eq_true,Bool.or_eq_true,Bool.and_eq_false_iff,Bool.or_eq_false_iff,Bool.not_eq_true',Bool.not_eq_false',decide_eq_true_eq,decide_eq_false_iff_not] at hg3'
   refine AE.step (v:=(pP b1 0)) (AB O) (AD (j:=0) O O underlying79 sizeOf3 O (by decide) O) O (Ad O) (AE.step (v:=(vN t.1)) (AB O) (AM (i:=0) (v:=(vN t.1)) O O Bx.a O) O (Ad O) (AE.step (v:=(pP b1 1)) (AB O) (AD (j:=1) O O underlying79 sizeOf3 O (by decide) O) O (Ad O) (AE.step (v:=(vN t.2.1)) (AB O) (AM (i:=0) (v:=(vN t.2.1)) O O Bx.a O) O (Ad O) (AE.step (v:=(Value.bool (decide (t.1=t.2.1)))) (AB O) (BQ (c:=(decide (t.1=t.2.1))) O O (L9 (a:=t.1) (b:=t.2.1))) O (Ad O) (AH (v:=(Value.bool (decide (t.1=t.2.1)))) (AY O O) O ?_)))))
   exact AE.nil (AC.mid (sS O (sS O (sS O (sS O (sS O (sS O (sS O (sS O (sS O (sS O (sS O (sS O (sS (by first|rfl|(rw [hg3];rfl)|rw [hg3]) (sS (by first|rfl|(rw [hg3];rfl)|rw [hg3]) (sN))))))))))))))) (List.Sublist.refl _))
 refine AO O ?_
 refine AE.mid (FM:=[(1,(pP bo.b 0)),(2,(pP b1 0)),(3,(Value.bool false)),(4,(pP b1 0)),(5,(vN t.1)),(6,(vN n)),(7,(Value.bool (decide (t.1<n)))),(8,(Value.bool (!(decide (t.1<n))))),(9,(Value.bool (!(decide (t.1<n))))),(15,(Value.bool ((!(decide (t.1<n)))||(!(decide (t.2.1<n)))))),(16,(Value.bool ((!(decide (t.1<n)))||(!(decide (t.2.1<n)))))),(22,(Value.bool (((!(decide (t.1<n)))||(!(decide (t.2.1<n))))||(!(decide (t.2.2<n)))))),(23,(Value.bool (((!(decide (t.1<n)))||(!(decide (t.2.1<n))))||(!(decide (t.2.2<n)))))),(29,(Value.bool ((((!(decide (t.1<n)))||(!(decide (t.2.1<n))))||(!(decide (t.2.2<n))))||(decide (t.1=t.2.1))))),(30,(Value.bool ((((!(decide (t.1<n)))||(!(decide (t.2.1<n))))||(!(decide (t.2.2<n))))||(decide (t.1=t.2.1))))),(36,(Value.bool (((((!(decide (t.1<n)))||(!(decide (t.2.1<n))))||(!(decide (t.2.2<n))))||(decide (t.1=t.2.1)))||(decide (t.2.1=t.2.2)))))]) (LM:=[Ae b1 79 (An t),Ag (some ⟨bo.b,0,none⟩) ([(vN n)])]) 6 ?_ ?_
 ·rcases Bool.eq_false_or_eq_true ((((!(decide (t.1<n)))||(!(decide (t.2.1<n))))||(!(decide (t.2.2<n))))||(decide (t.1=t.2.1))) with hg4|hg4
  ·skip
   refine AE.retell (k:=30) (u:=Value.bool true) O (by rw [hg4]) ?_
   have hg4':=hg4
   simp only [Bool.and_eq_true,Bool.or_eq_true,Bool.and_eq_false_iff,Bool.or_eq_false_iff,Bool.not_eq_true',Bool.not_eq_false',decide_eq_true_eq,decide_eq_false_iff_not] at hg4'
   refine AE.skip (AQ O) O (Ad O) (AE.skip (AQ O) O (Ad O) (AE.skip (AQ O) O (Ad O) (AE.skip (AQ O) O (Ad O) (AE.skip (AQ O) O (Ad O) (AH (v:=(Value.bool true)) (Ai O O) O ?_)))))
   exact AE.nil (AC.mid (sS O (sS O (sS O (sS O (sS O (sS O (sS O (sS O (sS O (sS O (sS O (sS O (sS O (sS O (sS (by first|rfl|(rw [hg4];rfl)|rw [hg4]) (sS (by first|rfl|(rw [hg4];rfl)|rw [hg4]) (sN))))))))))))))))) (List.Sublist.refl _))
  ·skip
   refine AE.retell (k:=30) (u:=Value.bool false) O (by rw [hg4]) ?_
   have hg4':=hg4
   simp only [Bool.and_eq_true,Bool.or_eq_true,Bool.and_eq_false_iff,Bool.or_eq_false_iff,Bool.not_eq_true',Bool.not_eq_false',decide_eq_true_eq,decide_eq_false_iff_not] at hg4'
   refine AE.step (v:=(pP b1 1)) (AB O) (AD (j:=1) O O underlying79 sizeOf3 O (by decide) O) O (Ad O) (AE.step (v:=(vN t.2.1)) (AB O) (AM (i:=0) (v:=(vN t.2.1)) O O Bx.a O) O (Ad O) (AE.step (v:=(pP b1 2)) (AB O) (AD (j:=2) O O underlying79 sizeOf3 O (by decide) O) O (Ad O) (AE.step (v:=(vN t.2.2)) (AB O) (AM (i:=0) (v:=(vN t.2.2)) O O Bx.a O) O (Ad O) (AE.step (v:=(Value.bool (decide (t.2.1=t.2.2)))) (AB O) (BQ (c:=(decide (t.2.1=t.2.2))) O O (L9 (a:=t.2.1) (b:=t.2.2))) O (Ad O) (AH (v:=(Value.bool (decide (t.2.1=t.2.2)))) (AY O O) O ?_)))))
   exact AE.nil (AC.mid (sS O (sS O (sS O (sS O (sS O (sS O (sS O (sS O (sS O (sS O (sS O (sS O (sS O (sS O (sS (by first|rfl|(rw [hg4];rfl)|rw [hg4]) (sS (by first|rfl|(rw [hg4];rfl)|rw [hg4]) (sN))))))))))))))))) (List.Sublist.refl _))
 refine AO O ?_
 refine AE.mid (FM:=[(1,(pP bo.b 0)),(2,(pP b1 0)),(3,(Value.bool false)),(4,(pP b1 0)),(5,(vN t.1)),(6,(vN n)),(7,(Value.bool (decide (t.1<n)))),(8,(Value.bool (!(decide (t.1<n))))),(9,(Value.bool (!(decide (t.1<n))))),(15,(Value.bool ((!(decide (t.1<n)))||(!(decide (t.2.1<n)))))),(16,(Value.bool ((!(decide (t.1<n)))||(!(decide (t.2.1<n)))))),(22,(Value.bool (((!(decide (t.1<n)))||(!(decide (t.2.1<n))))||(!(decide (t.2.2<n)))))),(23,(Value.bool (((!(decide (t.1<n)))||(!(decide (t.2.1<n))))||(!(decide (t.2.2<n)))))),(29,(Value.bool ((((!(decide (t.1<n)))||(!(decide (t.2.1<n))))||(!(decide (t.2.2<n))))||(decide (t.1=t.2.1))))),(30,(Value.bool ((((!(decide (t.1<n)))||(!(decide (t.2.1<n))))||(!(decide (t.2.2<n))))||(decide (t.1=t.2.1))))),(36,(Value.bool (((((!(decide (t.1<n)))||(!(decide (t.2.1<n))))||(!(decide (t.2.2<n))))||(decide (t.1=t.2.1)))||(decide (t.2.1=t.2.2))))),(37,(Value.bool (((((!(decide (t.1<n)))||(!(decide (t.2.1<n))))||(!(decide (t.2.2<n))))||(decide (t.1=t.2.1)))||(decide (t.2.1=t.2.2))))),(43,(Value.bool ((((((!(decide (t.1<n)))||(!(decide (t.2.1<n))))||(!(decide (t.2.2<n))))||(decide (t.1=t.2.1)))||(decide (t.2.1=t.2.2)))||(decide (t.2.2=t.1)))))]) (LM:=[Ae b1 79 (An t),Ag (some ⟨bo.b,0,none⟩) ([(vN n)])]) 6 ?_ ?_
 ·rcases Bool.eq_false_or_eq_true (((((!(decide (t.1<n)))||(!(decide (t.2.1<n))))||(!(decide (t.2.2<n))))||(decide (t.1=t.2.1)))||(decide (t.2.1=t.2.2))) with hg5|hg5
  ·skip
   refine AE.retell (k:=37) (u:=Value.bool true) O (by rw [hg5]) ?_
   have hg5':=hg5
   simp only [Bool.and_eq_true,Bool.or_eq_true,Bool.and_eq_false_iff,Bool.or_eq_false_iff,Bool.not_eq_true',Bool.not_eq_false',decide_eq_true_eq,decide_eq_false_iff_not] at hg5'
   refine AE.skip (AQ O) O (Ad O) (AE.skip (AQ O) O (Ad O) (AE.skip (AQ O) O (Ad O) (AE.skip (AQ O) O (Ad O) (AE.skip (AQ O) O (Ad O) (AH (v:=(Value.bool true)) (Ai O O) O ?_)))))
   exact AE.nil (AC.mid (sS O (sS O (sS O (sS O (sS O (sS O (sS O (sS O (sS O (sS O (sS O (sS O (sS O (sS O (sS O (sS O (sS (by first|rfl|(rw [hg5];rfl)|rw [hg5]) (sS (by first|rfl|(rw [hg5];rfl)|rw [hg5]) (sN))))))))))))))))))) (List.Sublist.refl _))
  ·skip
   refine AE.retell (k:=37) (u:=Value.bool false) O (by rw [hg5]) ?_
   have hg5':=hg5
   simp only [Bool.and_eq_true,Bool.or_eq_true,Bool.and_eq_false_iff,Bool.or_eq_false_iff,Bool.not_eq_true',Bool.not_eq_false',decide_eq_true_eq,decide_eq_false_iff_not] at hg5'
   refine AE.step (v:=(pP b1 2)) (AB O) (AD (j:=2) O O underlying79 sizeOf3 O (by decide) O) O (Ad O) (AE.step (v:=(vN t.2.2)) (AB O) (AM (i:=0) (v:=(vN t.2.2)) O O Bx.a O) O (Ad O) (AE.step (v:=(pP b1 0)) (AB O) (AD (j:=0) O O underlying79 sizeOf3 O (by decide) O) O (Ad O) (AE.step (v:=(vN t.1)) (AB O) (AM (i:=0) (v:=(vN t.1)) O O Bx.a O) O (Ad O) (AE.step (v:=(Value.bool (decide (t.2.2=t.1)))) (AB O) (BQ (c:=(decide (t.2.2=t.1))) O O (L9 (a:=t.2.2) (b:=t.1))) O (Ad O) (AH (v:=(Value.bool (decide (t.2.2=t.1)))) (AY O O) O ?_)))))
   exact AE.nil (AC.mid (sS O (sS O (sS O (sS O (sS O (sS O (sS O (sS O (sS O (sS O (sS O (sS O (sS O (sS O (sS O (sS O (sS (by first|rfl|(rw [hg5];rfl)|rw [hg5]) (sS (by first|rfl|(rw [hg5];rfl)|rw [hg5]) (sN))))))))))))))))))) (List.Sublist.refl _))
 exact AK O (AE.nil (AC.subF (sL [3] O) (AC.then_ (AF.ret (AN O (Ab (v:=(Value.bool ((((((!(decide (t.1<n)))||(!(decide (t.2.1<n))))||(!(decide (t.2.2<n))))||(decide (t.1=t.2.1)))||(decide (t.2.1=t.2.2)))||(decide (t.2.2=t.1))))) O) (λw hw=>⟨by congr 2;rw [Bool.eq_iff_iff];simp [K8]<;>omega,hw.out⟩))))))
theorem UI (n:Nat) (bo:BX [vN n]) (ts:List (Nat×Nat×Nat)) (x:RX (rowsL An ts) ts.length) (hl:ts.length<4611686018427387904) (w:World) {S:Nat->Prop} (hbo:Ro S w bo) (hx:Ro S w x):Calls prog 173 #[(Value.slice x.p ts.length x.c),(Value.func (.func 135) #[] #[(pP bo.b 0)])] w (Al w (vI (idxB n ts 0))):=by
 have lbo:=En (W:=w) hbo
 have lx:=En (W:=w) hx
 refine BC (args:=[(Value.slice x.p ts.length x.c),(Value.func (.func 135) #[] #[(pP bo.b 0)])]) (L:=[Ag (some ⟨bo.b,0,none⟩) ([(vN n)]),Ag x.p (rowsL An ts)]) func173 O O (Ad O) (Eo hbo (Eo hx BR)) (AF.subF (sL [0,1] O) (q4 (AK O (AE.nil (q1 ?_)))))
 refine q4 (AO O (AH (v:=(vN ts.length)) (AG O underlying23) O (AO O (AE.nil (AC.subF (sL [0,1,4,7,8] O) ?_)))))
 refine AC.then_ (AF.block ?_)
 refine AF.lp1 (tg λ(j:Nat)=>j<=ts.length/\idxB n ts 0=idxB n (ts.drop j) j) (tg λ(j:Nat)=>[(0,(Value.slice x.p ts.length x.c)),(1,(Value.func (.func 135) #[] #[(pP bo.b 0)])),(7,(vN ts.length)),(8,(vN j))]) (tg λ(j:Nat)=>[Ag (some ⟨bo.b,0,none⟩) ([(vN n)]),Ag x.p (rowsL An ts)]) (tg λ(j:Nat)=>ts.length-j) 0 (⟨Nat.zero_le _,rfl⟩) (sF O) sr (λj hJ=>?_)
 obtain ⟨hj,he⟩:=hJ
 refine q4 (AH (Af (c:=(decide (j<ts.length))) O O (C1 (a:=j) (b:=ts.length))) O (AE.nil (q1 ?_)))
 refine AF.cond O (λhc0=>?_) (λhc0=>?_)
 ·replace hc0:=of_decide_eq_true hc0
  refine AF.skip (q1 (AF.block (q4 (AO O (AK O ?_)))))
  refine q3 (sL [0,1,7,8,5] O) (AO O (AO O (AO O (AH (v:=(pP (pB x.p) (pO x.p+j*3))) (AR (j:=j) O O x.ok underlying23 sizeOf79 O Z) O (AH (v:=(aG (An (ts.getD j ((0,0,0):Nat×Nat×Nat))))) (AU (vs:=An (ts.getD j ((0,0,0):Nat×Nat×Nat))) (i:=1) O O (BO.ne x.ok Z) H0 (Ar BI _ _ _ Z) (BI _)) O ?_)))))
  refine AE.call (v:=(Value.bool (!K8 n (ts.getD j ((0,0,0):Nat×Nat×Nat))))) (AP O) (Gb (args:=[(aG (An (ts.getD j ((0,0,0):Nat×Nat×Nat))))]) (caps:=[(pP bo.b 0)]) (all:=[(aG (An (ts.getD j ((0,0,0):Nat×Nat×Nat)))),(pP bo.b 0)]) O O O call135) (λw hw=>QJ (ts.getD j ((0,0,0):Nat×Nat×Nat)) n bo w (Dz hw 0 O lbo)) O (Ad O) (AE.nil (AC.subF (sL [0,1,7,8,5,16] O) (AC.then_ ?_)))
  refine AF.cond O (λhc1=>?_) (λhc1=>?_)
  ·simp only [Bool.and_eq_true,Bool.or_eq_true,Bool.and_eq_false_iff,Bool.or_eq_false_iff,Bool.not_eq_true',Bool.not_eq_false',decide_eq_true_eq,decide_eq_false_iff_not] at hc1
   have hfin:=he.trans (Pe Z (by simpa using hc1))
   refine q4 (AO O (AK O (AE.nil (AC.subF (sL [0,1,7,8,5,4] O) (AC.then_ ?_)))))
   exact AF.ret (AC.in_ret (AC.then_ret (AC.round1_ret (AC.in_ret (AC.then_ret (AN O (Ab (v:=(vN j)) O) (λw hw=>⟨by rw [hfin],hw.out⟩)))))))
  ·simp only [Bool.and_eq_true,Bool.or_eq_true,Bool.and_eq_false_iff,Bool.or_eq_false_iff,Bool.not_eq_true',Bool.not_eq_false',decide_eq_true_eq,decide_eq_false_iff_not] at hc1
   refine AF.skip (AC.in_normal (AC.then_ (AF.region (AH (AW (c:=((j+1:Nat):Int)) O O (AZ (a:=j) (b:=1) Z)) O (AO O ?_)))))
   exact AE.nil (AC.subF (sL [0,1,7,8,5] O) (AC.round1 (j+1) (⟨Z,he.trans (OT Z (by simpa using hc1))⟩) Z (sF O) sr))
 ·replace hc0:=of_decide_eq_false hc0
  have hfin:=he.trans (RA hc0)
  refine AF.exit (AC.then_exit (AC.round1_exit (AC.in_exit (q2 (AK O ?_)))))
  exact AE.nil (AC.then_ (AF.ret (AN O (Ab (v:=(vI (-1:Int))) O) (λw hw=>⟨by rw [hfin],hw.out⟩))))
theorem R6 (n:Nat) (bo:BX [vN n]) (ts:List (Nat×Nat×Nat)) (x:RX (rowsL An ts) ts.length) (hl:ts.length<4611686018427387904) (w:World) {S:Nat->Prop} (hbo:Ro S w bo) (hx:Ro S w x):Calls prog 134 #[(Value.slice x.p ts.length x.c),(Value.func (.func 135) #[] #[(pP bo.b 0)])] w (Al w (Value.bool (!CU n ts))):=by
 have lbo:=En (W:=w) hbo
 have lx:=En (W:=w) hx
 refine BC (args:=[(Value.slice x.p ts.length x.c),(Value.func (.func 135) #[] #[(pP bo.b 0)])]) (L:=[Ag (some ⟨bo.b,0,none⟩) ([(vN n)]),Ag x.p (rowsL An ts)]) func134 O O (Ad O) (Eo hbo (Eo hx BR)) (AF.subF (sL [0,1] O) (q4 (AK O (AE.nil (q2 ?_)))))
 refine AO O (AO O (D1 call173 (λw hw=>UI n bo ts x hl w (Dz hw 0 O lbo) (Dz hw 1 O lx)) O (AH (DW (c:=(!CU n ts)) O O (J8 n ts 0)) O (AK O (AE.nil ?_)))))
 exact AC.subF (sL [4] O) (AC.then_ (AF.ret (AN O (Ab (v:=(Value.bool (!CU n ts))) O) (λw hw=>⟨rfl,hw.out⟩))))
theorem NN (n:Nat) (ts:List (Nat×Nat×Nat)) (x:RX (rowsL An ts) ts.length) (hl:ts.length<4611686018427387904) (w:World) {S:Nat->Prop} (hx:Ro S w x):Calls prog 90 #[(Value.slice x.p ts.length x.c),(vN n)] w (Al w (Value.bool (CU n ts))):=by
 have lx:=En (W:=w) hx
 refine BC (args:=[(Value.slice x.p ts.length x.c),(vN n)]) (L:=[Ag x.p (rowsL An ts)]) func90 O O (Ad O) (Eo hx BR) (AF.subF (sL [0,1] O) (q4 (Bi (cs:=[(vN n)]) O λb1=>AE.frzX 0 O O λhnb1=>AK O ?_)))
 refine q3 (sL [0,3,4] O) (AO O (AH (v:=(Value.func (.func 135) #[] #[(pP b1 0)])) (EY (vs:=[]) (us:=[(pP b1 0)]) O O) O (D1 call134 (λw hw=>R6 n ⟨b1⟩ ts x hl w (Rj (x:=(⟨b1⟩:BX [vN n])) hw 0 O hnb1) (Dz hw 1 O lx)) O (AH (BV (c:=(!(!CU n ts))) O O) O (AK O ?_)))))
 exact AE.nil (AC.subF (sL [4] O) (AC.then_ (AF.ret (AN O (Ab (v:=(Value.bool (!(!CU n ts)))) O) (λw hw=>⟨by simp,hw.out⟩)))))
theorem KT {ps:List Pt} {ts ss:List (Nat×Nat×Nat)} (x:MX ps ts ss) (hl:ts.length<4611686018427387904) (w:World) {S:Nat->Prop} (hx:Ro S w x):Calls prog 48 #[(aG (CM x))] w (Al w (Value.bool (CU ps.length ts))):=by
 have lx:=En (W:=w) hx
 refine BC (args:=[(aG (CM x))]) (L:=[Ag x.a.p (rowsL Ah ps),Ag x.b.p (rowsL An ts),Ag x.c.p (rowsL An ss)]) func48 O O (Ad O) (Eo hx BR) (AF.subF (sL [0] O) (q4 (Bi (cs:=CM x) O λb1=>AK O (q3 (sL [1,2] O) ?_))))
 refine AH (v:=(pP b1 1)) (AA O underlying30 O sizeOf23 O) O (BJ 0 (Value.slice x.b.p ts.length x.b.c) DV O (AH (v:=(pP b1 0)) (AA O underlying30 O sizeOf28 O) O (BJ 0 (Value.slice x.a.p ps.length x.a.c) DE O (AH (v:=(vN ps.length)) (AG O underlying28) O (D1 call90 (λw hw=>NN ps.length ts x.b hl w (Rq (Dz hw 1 O lx))) O ?_)))))
 exact AK O (AE.nil (AC.subF (sL [2] O) (AC.then_ (AF.ret (AN O (Ab (v:=(Value.bool (CU ps.length ts))) O) (λw hw=>⟨rfl,hw.out⟩))))))
theorem GA {ps:List Pt} {ts ss:List (Nat×Nat×Nat)} (x:MX ps ts ss) (t:Nat) (ht:t<ts.length) (hk:K8 ps.length (ts.getD t (0,0,0))=true) (w:World) {S:Nat->Prop} (hx:Ro S w x):Calls prog 23 #[(aG (CM x)),(vN t)] w (Al w (Value.tuple #[(aG (Ah (B9 ps (ts.getD t (0,0,0)).1))),(aG (Ah (B9 ps (ts.getD t (0,0,0)).2.1))),(aG (Ah (B9 ps (ts.getD t (0,0,0)).2.2)))])):=by
 obtain ⟨k1,k2,k3⟩:=C3 hk
 have lx:=En (W:=w) hx
 refine BC (args:=[(aG (CM x)),(vN t)]) (L:=[Ag x.a.p (rowsL Ah ps),Ag x.b.p (rowsL An ts),Ag x.c.p (rowsL An ss)]) func23 O O (Ad O) (Eo hx BR) (AF.subF (sL [0,1] O) (q4 (Bi (cs:=CM x) O λb1=>al E7 O λb2=>al E7 O λb3=>?_)))
 refine al E7 O λb4=>q6 (sL [1,2,4,5,6] O) (q4 (AO O (AH (Af (c:=false) O O (by simp)) O (AO O ?_))))
 refine AE.step (v:=(vN t)) (AB O) (BB O) O (Ad O) (AE.step (v:=(pP b1 1)) (AB O) (AA O underlying30 O sizeOf23 O) O (Ad O) (AE.step (v:=(Value.slice x.b.p ts.length x.b.c)) (AB O) (AM (i:=3) (v:=(Value.slice x.b.p ts.length x.b.c)) O O DV.a O) O (Ad O) (AE.step (v:=(vN ts.length)) (AB O) (AG O underlying23) O (Ad O) (AE.step (v:=(Value.bool false)) (AB O) (DW (c:=false) O O (by simp;omega)) O (Ad O) (AH (v:=(Value.bool false)) (AY O O) O ?_)))))
 refine AE.nil (AC.subF (sL [1,2,4,5,6,17] O) (AC.then_ (AF.cond_false O (AF.skip (q1 ?_)))))
 refine C2 [(0,true),(1,true),(2,true),(3,true),(4,true),(5,true),(6,true),(7,true),(8,false),(9,false),(10,true)] sr (Ay (v:=(pP b1 1)) O (AA O underlying30 O sizeOf23 O) (Bl 3 (Value.slice x.b.p ts.length x.b.c) DV O (Bm O (Ay (v:=(pP (pB x.b.p) (pO x.b.p+t*3))) O (AR (j:=t) O O x.b.ok underlying23 sizeOf79 O Z) (Ay (v:=(aG (An (ts.getD t ((0,0,0):Nat×Nat×Nat))))) O (AU (vs:=An (ts.getD t ((0,0,0):Nat×Nat×Nat))) (i:=5) O O (BO.ne x.b.ok Z) H0 (Ar BI _ _ _ Z) (BI _)) ?_)))))
 refine Ay (v:=(pP b1 0)) O (AA O underlying30 O sizeOf28 O) (Bl 3 (Value.slice x.a.p ps.length x.a.c) DE O (Ay (v:=(vN ps.length)) O (AG O underlying28) (AS.imp O (al KN O λb5=>AS.back (sl sr) ?_))))
 refine AS.imp O (Av O sizeOf79 O (AS.back (sl sr) (EW O (AS.nil (AC.subF (sL [1,2,4,5,6,7,8] O) ?_)))))
 refine q1 (q4 (AH (v:=(pP b5 0)) (AD (j:=0) O O underlying79 sizeOf3 O (by decide) O) O (BJ 0 (vN ((ts.getD t ((0,0,0):Nat×Nat×Nat)).1)) Bx O (AO O (D1 (args:=[(vN ((ts.getD t ((0,0,0):Nat×Nat×Nat)).1)),(vN ps.length)]) (v:=(Value.bool true)) call63 (λw hw=>(by have h9:=By ((ts.getD t ((0,0,0):Nat×Nat×Nat)).1) ps.length w;rw [decide_eq_true Z] at h9;exact h9)) O ?_)))))
 refine AH (BV (c:=false) O O) O (AO O (AE.step (v:=(pP b5 1)) (AB O) (AD (j:=1) O O underlying79 sizeOf3 O (by decide) O) O (Ad O) (AE.step (v:=(vN ((ts.getD t ((0,0,0):Nat×Nat×Nat)).2.1))) (AB O) (AM (i:=0) (v:=(vN ((ts.getD t ((0,0,0):Nat×Nat×Nat)).2.1))) O O Bx.a O) O (Ad O) (AE.step (v:=(vN ps.length)) (AB O) (BB O) O (Ad O) (AE.call (v:=(Value.bool true)) (AB O) (Ao (args:=[(vN ((ts.getD t ((0,0,0):Nat×Nat×Nat)).2.1)),(vN ps.length)]) O O call63) (λw hw=>(by have h9:=By ((ts.getD t ((0,0,0):Nat×Nat×Nat)).2.1) ps.length w;rw [decide_eq_true Z] at h9;exact h9)) O (Ad O) ?_)))))
 refine AE.step (v:=(Value.bool false)) (AB O) (BV (c:=false) O O) O (Ad O) (AH (v:=(Value.bool false)) (AY O O) O (AO O (AE.step (v:=(pP b5 2)) (AB O) (AD (j:=2) O O underlying79 sizeOf3 O (by decide) O) O (Ad O) (AE.step (v:=(vN ((ts.getD t ((0,0,0):Nat×Nat×Nat)).2.2))) (AB O) (AM (i:=0) (v:=(vN ((ts.getD t ((0,0,0):Nat×Nat×Nat)).2.2))) O O Bx.a O) O (Ad O) (AE.step (v:=(vN ps.length)) (AB O) (BB O) O (Ad O) ?_)))))
 refine AE.call (v:=(Value.bool true)) (AB O) (Ao (args:=[(vN ((ts.getD t ((0,0,0):Nat×Nat×Nat)).2.2)),(vN ps.length)]) O O call63) (λw hw=>(by have h9:=By ((ts.getD t ((0,0,0):Nat×Nat×Nat)).2.2) ps.length w;rw [decide_eq_true Z] at h9;exact h9)) O (Ad O) (AE.step (v:=(Value.bool false)) (AB O) (BV (c:=false) O O) O (Ad O) (AH (v:=(Value.bool false)) (AY O O) O (AE.nil (AC.subF (sL [1,2,4,5,6,7,47] O) (AC.then_ ?_)))))
 refine AF.cond_false O (AF.skip (q1 (C2 [(0,true),(1,true),(2,true),(3,true),(4,true),(5,true),(6,true),(7,true),(8,true),(9,true),(10,true),(11,true),(12,true),(13,true),(14,true),(15,true),(16,true),(17,true),(18,false),(19,false),(20,false)] (sk (sl (sl (sl sr)))) (Ay (v:=(pP b1 0)) O (AA O underlying30 O sizeOf28 O) (Bl 1 (Value.slice x.a.p ps.length x.a.c) DE O ?_)))))
 refine Ay (v:=(pP b5 0)) O (AD (j:=0) O O underlying79 sizeOf3 O (by decide) O) (Bl 0 (vN ((ts.getD t ((0,0,0):Nat×Nat×Nat)).1)) Bx O (Ay (v:=(pP (pB x.a.p) (pO x.a.p+((ts.getD t ((0,0,0):Nat×Nat×Nat)).1)*10))) O (AR (j:=(ts.getD t ((0,0,0):Nat×Nat×Nat)).1) O O x.a.ok underlying28 sizeOf63 O Z) (Ay (v:=(aG (Ah (ps.getD ((ts.getD t ((0,0,0):Nat×Nat×Nat)).1) (⟨0,0⟩:Pt))))) O (AU (vs:=Ah (ps.getD ((ts.getD t ((0,0,0):Nat×Nat×Nat)).1) (⟨0,0⟩:Pt))) (i:=2) O O (BO.ne x.a.ok Z) BM (Ar BD _ _ _ Z) (BD _)) (Ay (v:=(pP b1 0)) O (AA O underlying30 O sizeOf28 O) (Bl 1 (Value.slice x.a.p ps.length x.a.c) DE O ?_)))))
 refine Ay (v:=(pP b5 1)) O (AD (j:=1) O O underlying79 sizeOf3 O (by decide) O) (Bl 0 (vN ((ts.getD t ((0,0,0):Nat×Nat×Nat)).2.1)) Bx O (Ay (v:=(pP (pB x.a.p) (pO x.a.p+((ts.getD t ((0,0,0):Nat×Nat×Nat)).2.1)*10))) O (AR (j:=(ts.getD t ((0,0,0):Nat×Nat×Nat)).2.1) O O x.a.ok underlying28 sizeOf63 O Z) (Ay (v:=(aG (Ah (ps.getD ((ts.getD t ((0,0,0):Nat×Nat×Nat)).2.1) (⟨0,0⟩:Pt))))) O (AU (vs:=Ah (ps.getD ((ts.getD t ((0,0,0):Nat×Nat×Nat)).2.1) (⟨0,0⟩:Pt))) (i:=2) O O (BO.ne x.a.ok Z) BM (Ar BD _ _ _ Z) (BD _)) (Ay (v:=(pP b1 0)) O (AA O underlying30 O sizeOf28 O) (Bl 1 (Value.slice x.a.p ps.length x.a.c) DE O ?_)))))
 refine Ay (v:=(pP b5 2)) O (AD (j:=2) O O underlying79 sizeOf3 O (by decide) O) (Bl 0 (vN ((ts.getD t ((0,0,0):Nat×Nat×Nat)).2.2)) Bx O (Ay (v:=(pP (pB x.a.p) (pO x.a.p+((ts.getD t ((0,0,0):Nat×Nat×Nat)).2.2)*10))) O (AR (j:=(ts.getD t ((0,0,0):Nat×Nat×Nat)).2.2) O O x.a.ok underlying28 sizeOf63 O Z) (Ay (v:=(aG (Ah (ps.getD ((ts.getD t ((0,0,0):Nat×Nat×Nat)).2.2) (⟨0,0⟩:Pt))))) O (AU (vs:=Ah (ps.getD ((ts.getD t ((0,0,0):Nat×Nat×Nat)).2.2) (⟨0,0⟩:Pt))) (i:=2) O O (BO.ne x.a.ok Z) BM (Ar BD _ _ _ Z) (BD _)) (AS.imp O (I_ O sizeOf63 O ?_)))))
 refine AS.back (sk (sl (sl (sl sr)))) (AS.imp O (Lt O sizeOf63 O (AS.back (sk (sl (sl (sl sr)))) (AS.imp O (Ci O sizeOf63 O ?_)))))
 exact AS.back (sk (sl (sl (sl sr)))) (AS.nil (AC.subF (sL [1,2,4,5,6,7] O) (AC.then_ (AF.ret (Ev O (A7 (i:=3) (cs:=Ah (ps.getD ((ts.getD t ((0,0,0):Nat×Nat×Nat)).1) (⟨0,0⟩:Pt))) O O isAgg63 sizeOf63 O) (A7 (i:=2) (cs:=Ah (ps.getD ((ts.getD t ((0,0,0):Nat×Nat×Nat)).2.1) (⟨0,0⟩:Pt))) O O isAgg63 sizeOf63 O) (A7 (i:=1) (cs:=Ah (ps.getD ((ts.getD t ((0,0,0):Nat×Nat×Nat)).2.2) (⟨0,0⟩:Pt))) O O isAgg63 sizeOf63 O) (λw hw=>⟨rfl,hw.out⟩))))))
end
section
set_option maxRecDepth 100000
theorem Pq (a:Nat) (w:World)  :Calls prog 137 #[(vN a)] w (Al w (Value.bool false)):=by
 refine Ac (args:=[(vN a)]) func137 O O (Ad O) (AF.subF (sL [0] O) (q4 (AK O (AE.nil (q2 ?_)))))
 refine AO O (AO O (AH (CS (c:=false) O O (by simp)) O (AK O (AE.nil (AC.subF (sL [2] O) ?_)))))
 exact AC.then_ (AF.ret (AN O (Ab (v:=(Value.bool false)) O) (λw hw=>⟨rfl,hw.out⟩)))
theorem Nd (a b:Nat) (w:World)  :Calls prog 94 #[(vN a),(vN b)] w (Al w (vI (Dc a b))):=by
 refine Ac (args:=[(vN a),(vN b)]) func94 O O (Ad O) (AF.subF (sL [0,1] O) (q4 (AK O (AE.nil (q2 ?_)))))
 refine AO O (BS call137 (Pq a) O (AK O (q3 (sL [0,1,4,5] O) (AO O (BS call137 (Pq b) O ?_)))))
 refine AK O (q6 (sL [0,1,4,5,6] O) (q4 (AO O (AE.nil (AC.subF (sL [0,1,4,6,11] O) ?_)))))
 refine AC.then_ (AF.cond_false O (AF.skip (q1 (q4 (AO O ?_)))))
 refine AE.nil (AC.subF (sL [0,1,4,6,13] O) (AC.then_ (AF.cond_false O (AF.skip (q1 ?_)))))
 refine q4 (AO O (AO O (AH (Af (c:=(decide (a<b))) O O (C1 (a:=a) (b:=b))) O (AE.nil (AC.subF (sL [0,1,4,6,16] O) ?_)))))
 refine AC.then_ ?_
 refine AF.cond O (λhc3=>?_) (λhc3=>?_)
 ·replace hc3:=of_decide_eq_true hc3
  have hr:=NY hc3
  exact q4 (AK O (AE.nil (AC.then_ (AF.ret (AC.then_ret (AN O (Ab (v:=(vI (-1:Int))) O) (λw hw=>⟨by rw [hr]<;>rfl,hw.out⟩)))))))
 ·replace hc3:=of_decide_eq_false hc3
  refine AF.skip (q1 (q4 (AO O (AO O (AH (CW (c:=(decide (b<a))) O O (C1 (a:=b) (b:=a))) O ?_)))))
  refine AE.nil (AC.subF (sL [0,1,4,6,19] O) (AC.then_ ?_))
  refine AF.cond O (λhc4=>?_) (λhc4=>?_)
  ·replace hc4:=of_decide_eq_true hc4
   have hr:=Nl hc3 hc4
   exact q4 (AK O (AE.nil (AC.then_ (AF.ret (AC.then_ret (AN O (Ab (v:=(vI 1)) O) (λw hw=>⟨by rw [hr]<;>rfl,hw.out⟩)))))))
  ·replace hc4:=of_decide_eq_false hc4
   have hr:=Nv hc3 hc4
   exact AF.skip (q2 (AK O (AE.nil (AC.then_ (AF.ret (AN O (Ab (v:=(vI 0)) O) (λw hw=>⟨by rw [hr]<;>rfl,hw.out⟩)))))))
theorem Qb (a b:Int) (g:Nat) (w:World) (hg:w.heap[g]?=some (.cells ([(vI a),(vI b)]).toArray 3 (0,0))):Calls prog 93 #[(Value.slice (some ⟨g,0,none⟩) 2 2)] w (λe w'=>e=.returned (Value.int .i64 (P0 a b))/\JH w w' (some g)/\w'.heap[g]?=some (.cells ([(vI a),(vI b)]).toArray 3 (0,0))):=by
 refine Ez (args:=[(Value.slice (some ⟨g,0,none⟩) 2 2)]) (g:=g) (T:=3) (cs:=[(vI a),(vI b)]) func93 O O (Ad O) hg (AF.subF (sL [0] O) (q4 (AK O (AE.nil (q2 ?_)))))
 refine AK O (AE.nil (q1 (q4 (AO O (AH (v:=(vI 2)) (AG O underlying71) O ?_)))))
 refine AO O (AE.nil (AC.subF (sL [2,3,6,7,8] O) (AC.then_ (AF.block (AF.unroll 4 ?_)))))
 refine Eb.step (q4 (AH (Af (c:=true) O O (by decide)) O (AE.nil (q1 (AF.cond_true O ?_)))))
 refine AF.skip (q1 (AF.block (q4 (AH (v:=(pP g 0)) (AI (j:=0) O O underlying71 sizeOf3 O Z O) O (BJ 0 (vI a) Bx O ?_)))))
 refine AK O (q3 (sL [2,3,6,7,8,5] O) (AO O (AO O (AH (CS (c:=(decide (a≠(0:Int)))) O O O) O (AE.nil ?_)))))
 refine AC.subF (sL [2,3,6,7,8,5,14] O) (AC.then_ ?_)
 refine AF.cond O (λhc1=>?_) (λhc1=>?_)
 ·replace hc1:=of_decide_eq_true hc1
  have hr:P0 a b=a:=if_pos hc1
  refine q4 (AO O (AK O (AE.nil (AC.subF (sL [2,3,6,7,8,5] O) (AC.then_ ?_)))))
  exact AF.ret (AC.in_ret (AC.then_ret (AC.then_ret (AC.in_ret (AC.then_ret (AN O (Ab (v:=(vI a)) O) (λw hw=>⟨by rw [hr]<;>rfl,hw.1,hw.get (i:=0) O⟩)))))))
 ·replace hc1:=of_decide_eq_false hc1
  have hq:=hc1
  refine AF.skip (AC.in_normal (AC.then_ (AF.region (AH (AW (c:=(1:Int)) O O (by decide)) O (AO O ?_)))))
  refine AE.nil (AC.subF (sL [2,3,6,7,8,5] O) (AC.again (Eb.step (q4 (AH (Af (c:=true) O O (by decide)) O ?_)))))
  refine AE.nil (q1 (AF.cond_true O (AF.skip (q1 (AF.block ?_)))))
  refine q4 (AH (v:=(pP g 1)) (AI (j:=1) O O underlying71 sizeOf3 O Z O) O (BJ 0 (vI b) Bx O (AK O (q3 (sL [2,3,6,7,8,5] O) (AO O ?_)))))
  refine AO O (AH (CS (c:=(decide (b≠(0:Int)))) O O O) O (AE.nil (AC.subF (sL [2,3,6,7,8,5,14] O) (AC.then_ ?_))))
  refine AF.cond O (λhc1=>?_) (λhc1=>?_)
  ·replace hc1:=of_decide_eq_true hc1
   have hr:P0 a b=b:=by rw [P0,if_neg hq,if_pos hc1]
   refine q4 (AO O (AK O (AE.nil (AC.subF (sL [2,3,6,7,8,5] O) (AC.then_ ?_)))))
   exact AF.ret (AC.in_ret (AC.then_ret (AC.then_ret (AC.in_ret (AC.then_ret (AN O (Ab (v:=(vI b)) O) (λw hw=>⟨by rw [hr]<;>rfl,hw.1,hw.get (i:=0) O⟩)))))))
  ·replace hc1:=of_decide_eq_false hc1
   have hr:P0 a b=0:=by rw [P0,if_neg hq,if_neg hc1]
   refine AF.skip (AC.in_normal (AC.then_ (AF.region (AH (AW (c:=(2:Int)) O O (by decide)) O (AO O ?_)))))
   refine AE.nil (AC.subF (sL [2,3,6,7,8,5] O) (AC.again (Eb.step (q4 (AH (Af (c:=false) O O (by decide)) O ?_)))))
   refine AE.nil (q1 (AF.cond_false O (AF.exit (AC.then_exit (AC.then_exit ?_)))))
   refine AC.in_exit (q2 (AO O (AK O (AE.nil (AC.subF (sL [2,3,6,7,8,5] O) ?_)))))
   exact AC.then_ (AF.ret (AN O (Ab (v:=(vI 0)) O) (λw hw=>⟨by rw [hr]<;>rfl,hw.1,hw.get (i:=0) O⟩)))
end
section
set_option maxRecDepth 100000
theorem So (x y:E4) (w:World)  :Calls prog 92 #[(aG (B8 x)),(aG (B8 y))] w (Al w (vI (Lb x y))):=by
 refine Ac (args:=[(aG (B8 x)),(aG (B8 y))]) func92 O O (Ad O) (AF.subF (sL [0,1] O) (q4 (Bi (cs:=B8 x) O λb1=>Bi (cs:=B8 y) O λb2=>AK O ?_)))
 refine q6 (sL [2,3,4] O) (C2 [(0,true),(1,true),(2,true),(3,true),(5,true),(6,true),(7,true),(8,true),(4,false),(9,false),(10,false),(11,false),(12,true)] sr (Ay (v:=(pP b1 0)) O (AA O underlying65 O sizeOf3 O) (Bl 1 (vN x.a) Bx O (Ay (v:=(pP b2 0)) O (AA O underlying65 O sizeOf3 O) (Bl 0 (vN y.a) Bx O ?_)))))
 refine Ay (v:=(pP b1 1)) O (AA O underlying65 O sizeOf3 O) (Bl 1 (vN x.b) Bx O (Ay (v:=(pP b2 1)) O (AA O underlying65 O sizeOf3 O) (Bl 0 (vN y.b) Bx O (AS.imp O (BS call94 (Nd x.a y.a) O ?_)))))
 refine AS.back sr (AS.imp O (BS call94 (Nd x.b y.b) O (AS.back sr (AS.imp O (AE.openV (V:=λb3=>(Value.slice (some ⟨b3,0,none⟩) 2 2)) (T:=3) (cs:=[(vI (Dc x.a y.a)),(vI (Dc x.b y.b))]) (AP O) (A_ (cs:=[(vI (Dc x.a y.a)),(vI (Dc x.b y.b))]) (pv:=[(0,(vI (Dc x.a y.a))),(1,(vI (Dc x.b y.b)))]) underlying71 sizeOf3 zeroValue3 (by decide) (by decide) O (by kernel_rfl)) O (Ad O) λb3=>?_)))))
 refine AS.back (sl sr) (AS.imp O (AE.callM (v:=(vI (P0 (Dc x.a y.a) (Dc x.b y.b)))) (i:=0) (cs':=[(vI (Dc x.a y.a)),(vI (Dc x.b y.b))]) (L':=[Ae b3 3 ([(vI (Dc x.a y.a)),(vI (Dc x.b y.b))]),Ae b2 65 (B8 y),Ae b1 65 (B8 x)]) (AP O) (Ao (args:=[(Value.slice (some ⟨b3,0,none⟩) 2 2)]) O O call93) O (λw hw=>Qb (Dc x.a y.a) (Dc x.b y.b) _ w (hw.get (i:=0) O)) (λd hd=>by cases hd<;>exact (Ad O)) O (AS.back (sl sr) (EW O (AS.nil ?_)))))
 exact AC.subF (sL [4] O) (AC.then_ (AF.ret (AN O (Ab (v:=(vI (P0 (Dc x.a y.a) (Dc x.b y.b)))) O) (λw hw=>⟨rfl,hw.out⟩))))
end
end Go.Proofs.YtfbomiejpbchdaaGreatDoor
