import Derived.Test.YtfbomiejpbchdaaGreatDoorPart06
import Derived.Test.YtfbomiejpbchdaaGreatDoorPart22
import Derived.Test.YtfbomiejpbchdaaGreatDoorPart23
import Derived.Test.YtfbomiejpbchdaaGreatDoorPart26
namespace Go.Proofs.YtfbomiejpbchdaaGreatDoor
open Go Go.RowKit Go.Proofs.Tryz
set_option linter.unusedVariables false
set_option linter.unusedSimpArgs false
section
set_option maxRecDepth 100000
theorem B5 (p n:Nat) (w:World)  :Calls prog 63 #[(vN p),(vN n)] w (Am w (Value.bool (decide (p<n)))):=by
 refine Ac (args:=[(vN p),(vN n)]) func63 O O (Ab O) (AF.subF (sL [0,1] O) (q4 (AK O (AE.nil (q2 ?_)))))
 refine AO O (AG (CQ (c:=(decide (0<=p))) O O (SP (a:=0) (b:=p))) O (AO O ?_))
 refine AE.mid (FM:=[(0,(vN p)),(1,(vN n)),(4,(Value.bool false)),(5,(vN p)),(6,(Value.bool (decide (0<=p)))),(7,(Value.bool (decide (0<=p)))),(11,(Value.bool ((decide (0<=p))&&(decide (p<n)))))]) (LM:=[]) 4 ?_ ?_
 ·rcases Bool.eq_false_or_eq_true (decide (0<=p)) with hg1|hg1
  ·skip
   refine AE.retell (k:=7) (u:=Value.bool true) O (by rw [hg1]) ?_
   have hg1':=hg1
   replace hg1':=of_decide_eq_true hg1'
   exact AE.step (v:=(vN p)) (AB O) (Az O) O (Ab O) (AE.step (v:=(vN n)) (AB O) (Az O) O (Ab O) (AE.step (v:=(Value.bool (decide (p<n)))) (AB O) (Af (c:=(decide (p<n))) O O (C6 (a:=p) (b:=n))) O (Ab O) (AG (v:=(Value.bool (decide (p<n)))) (Ah O O) O (AE.nil (AD.mid (sS O (sS O (sS O (sS O (sS O (sS (by first|rfl|(rw [hg1];rfl)|rw [hg1]) (sS (by first|rfl|(rw [hg1];rfl)|rw [hg1]) (sN)))))))) (List.Sublist.refl _))))))
  ·skip
   refine AE.retell (k:=7) (u:=Value.bool false) O (by rw [hg1]) ?_
   have hg1':=hg1
   replace hg1':=of_decide_eq_false hg1'
   exact AE.skip (AR O) O (Ab O) (AE.skip (AR O) O (Ab O) (AE.skip (AR O) O (Ab O) (AG (v:=(Value.bool false)) (AU O O) O (AE.nil (AD.mid (sS O (sS O (sS O (sS O (sS O (sS (by first|rfl|(rw [hg1];rfl)|rw [hg1]) (sS (by first|rfl|(rw [hg1];rfl)|rw [hg1]) (sN)))))))) (List.Sublist.refl _))))))
 exact AK O (AE.nil (AD.subF (sL [4] O) (AD.then_ (AF.ret (AP O (Ad (v:=(Value.bool ((decide (0<=p))&&(decide (p<n))))) O) (λw hw=>⟨by simp,hw.out⟩))))))
theorem QR (t:Nat×Nat×Nat) (n:Nat) (bo:BX [vN n]) (w:World) {S:Nat->Prop} (hbo:Ro S w bo):Calls prog 135 #[(aG (Av t)),(pP bo.b 0)] w (Am w (Value.bool (!L9 n t))):=by
 have lbo:=Er (W:=w) hbo
 refine BI (args:=[(aG (Av t)),(pP bo.b 0)]) (L:=[Ai (some ⟨bo.b,0,none⟩) ([(vN n)])]) func135 O O (Ab O) (En hbo BW) (AF.subF (sL [0,1] O) (q4 (Bq (cs:=Av t) O λb1=>AK O (q3 (sL [1,2,3] O) ?_))))
 refine AG (v:=(pP b1 0)) (AC (j:=0) O O underlying79 sizeOf3 O (by decide) O) O (BO 0 (vN t.1) Bs O (AG (Aa (q:=some ⟨bo.b,0,none⟩) (v:=(vN n)) (off:=0) (i:=1) O O (λe=>by cases e) Bs O) O (BV call63 (B5 t.1 n) O (AG (Ba (c:=(!(decide (t.1<n)))) O O) O (AO O ?_)))))
 refine AE.mid (FM:=[(1,(pP bo.b 0)),(2,(pP b1 0)),(3,(Value.bool false)),(4,(pP b1 0)),(5,(vN t.1)),(6,(vN n)),(7,(Value.bool (decide (t.1<n)))),(8,(Value.bool (!(decide (t.1<n))))),(9,(Value.bool (!(decide (t.1<n))))),(15,(Value.bool ((!(decide (t.1<n)))||(!(decide (t.2.1<n))))))]) (LM:=[Ae b1 79 (Av t),Ai (some ⟨bo.b,0,none⟩) ([(vN n)])]) 6 ?_ ?_
 ·rcases Bool.eq_false_or_eq_true (!(decide (t.1<n))) with hg1|hg1
  ·skip
   refine AE.retell (k:=9) (u:=Value.bool true) O (by rw [hg1]) ?_
   have hg1':=hg1
   simp only [Bool.and_eq_true,Bool.or_eq_true,Bool.and_eq_false_iff,Bool.or_eq_false_iff,Bool.not_eq_true',Bool.not_eq_false',decide_eq_true_eq,decide_eq_false_iff_not] at hg1'
   refine AE.skip (AR O) O (Ab O) (AE.skip (AR O) O (Ab O) (AE.skip (AR O) O (Ab O) (AE.skip (AR O) O (Ab O) (AE.skip (AR O) O (Ab O) (AG (v:=(Value.bool true)) (Ah O O) O ?_)))))
   exact AE.nil (AD.mid (sS O (sS O (sS O (sS O (sS O (sS O (sS O (sS O (sS (by first|rfl|(rw [hg1];rfl)|rw [hg1]) (sS (by first|rfl|(rw [hg1];rfl)|rw [hg1]) (sN))))))))))) (List.Sublist.refl _))
  ·skip
   refine AE.retell (k:=9) (u:=Value.bool false) O (by rw [hg1]) ?_
   have hg1':=hg1
   simp only [Bool.and_eq_true,Bool.or_eq_true,Bool.and_eq_false_iff,Bool.or_eq_false_iff,Bool.not_eq_true',Bool.not_eq_false',decide_eq_true_eq,decide_eq_false_iff_not] at hg1'
   refine AE.step (v:=(pP b1 1)) (AB O) (AC (j:=1) O O underlying79 sizeOf3 O (by decide) O) O (Ab O) (AE.step (v:=(vN t.2.1)) (AB O) (AM (i:=0) (v:=(vN t.2.1)) O O Bs.a O) O (Ab O) (AE.step (v:=(vN n)) (AB O) (Aa (q:=some ⟨bo.b,0,none⟩) (v:=(vN n)) (off:=0) (i:=1) O O (λe=>by cases e) Bs O) O (Ab O) (AE.call (v:=(Value.bool (decide (t.2.1<n)))) (AB O) (Aw (args:=[(vN t.2.1),(vN n)]) O O call63) (λw hw=>B5 t.2.1 n w) O (Ab O) (AE.step (v:=(Value.bool (!(decide (t.2.1<n))))) (AB O) (Ba (c:=(!(decide (t.2.1<n)))) O O) O (Ab O) (AG (v:=(Value.bool (!(decide (t.2.1<n))))) (AU O O) O ?_)))))
   exact AE.nil (AD.mid (sS O (sS O (sS O (sS O (sS O (sS O (sS O (sS O (sS (by first|rfl|(rw [hg1];rfl)|rw [hg1]) (sS (by first|rfl|(rw [hg1];rfl)|rw [hg1]) (sN))))))))))) (List.Sublist.refl _))
 refine AO O ?_
 refine AE.mid (FM:=[(1,(pP bo.b 0)),(2,(pP b1 0)),(3,(Value.bool false)),(4,(pP b1 0)),(5,(vN t.1)),(6,(vN n)),(7,(Value.bool (decide (t.1<n)))),(8,(Value.bool (!(decide (t.1<n))))),(9,(Value.bool (!(decide (t.1<n))))),(15,(Value.bool ((!(decide (t.1<n)))||(!(decide (t.2.1<n)))))),(16,(Value.bool ((!(decide (t.1<n)))||(!(decide (t.2.1<n)))))),(22,(Value.bool (((!(decide (t.1<n)))||(!(decide (t.2.1<n))))||(!(decide (t.2.2<n))))))]) (LM:=[Ae b1 79 (Av t),Ai (some ⟨bo.b,0,none⟩) ([(vN n)])]) 6 ?_ ?_
 ·rcases Bool.eq_false_or_eq_true ((!(decide (t.1<n)))||(!(decide (t.2.1<n)))) with hg2|hg2
  ·skip
   refine AE.retell (k:=16) (u:=Value.bool true) O (by rw [hg2]) ?_
   have hg2':=hg2
   simp only [Bool.and_eq_true,Bool.or_eq_true,Bool.and_eq_false_iff,Bool.or_eq_false_iff,Bool.not_eq_true',Bool.not_eq_false',decide_eq_true_eq,decide_eq_false_iff_not] at hg2'
   refine AE.skip (AR O) O (Ab O) (AE.skip (AR O) O (Ab O) (AE.skip (AR O) O (Ab O) (AE.skip (AR O) O (Ab O) (AE.skip (AR O) O (Ab O) (AG (v:=(Value.bool true)) (Ah O O) O ?_)))))
   exact AE.nil (AD.mid (sS O (sS O (sS O (sS O (sS O (sS O (sS O (sS O (sS O (sS O (sS (by first|rfl|(rw [hg2];rfl)|rw [hg2]) (sS (by first|rfl|(rw [hg2];rfl)|rw [hg2]) (sN))))))))))))) (List.Sublist.refl _))
  ·skip
   refine AE.retell (k:=16) (u:=Value.bool false) O (by rw [hg2]) ?_
   have hg2':=hg2
   simp only [Bool.and_eq_true,Bool.or_eq_true,Bool.and_eq_false_iff,Bool.or_eq_false_iff,Bool.not_eq_true',Bool.not_eq_false',decide_eq_true_eq,decide_eq_false_iff_not] at hg2'
   refine AE.step (v:=(pP b1 2)) (AB O) (AC (j:=2) O O underlying79 sizeOf3 O (by decide) O) O (Ab O) (AE.step (v:=(vN t.2.2)) (AB O) (AM (i:=0) (v:=(vN t.2.2)) O O Bs.a O) O (Ab O) (AE.step (v:=(vN n)) (AB O) (Aa (q:=some ⟨bo.b,0,none⟩) (v:=(vN n)) (off:=0) (i:=1) O O (λe=>by cases e) Bs O) O (Ab O) (AE.call (v:=(Value.bool (decide (t.2.2<n)))) (AB O) (Aw (args:=[(vN t.2.2),(vN n)]) O O call63) (λw hw=>B5 t.2.2 n w) O (Ab O) (AE.step (v:=(Value.bool (!(decide (t.2.2<n))))) (AB O) (Ba (c:=(!(decide (t.2.2<n)))) O O) O (Ab O) (AG (v:=(Value.bool (!(decide (t.2.2<n))))) (AU O O) O ?_)))))
   exact AE.nil (AD.mid (sS O (sS O (sS O (sS O (sS O (sS O (sS O (sS O (sS O (sS O (sS (by first|rfl|(rw [hg2];rfl)|rw [hg2]) (sS (by first|rfl|(rw [hg2];rfl)|rw [hg2]) (sN))))))))))))) (List.Sublist.refl _))
 refine AO O ?_
 refine AE.mid (FM:=[(1,(pP bo.b 0)),(2,(pP b1 0)),(3,(Value.bool false)),(4,(pP b1 0)),(5,(vN t.1)),(6,(vN n)),(7,(Value.bool (decide (t.1<n)))),(8,(Value.bool (!(decide (t.1<n))))),(9,(Value.bool (!(decide (t.1<n))))),(15,(Value.bool ((!(decide (t.1<n)))||(!(decide (t.2.1<n)))))),(16,(Value.bool ((!(decide (t.1<n)))||(!(decide (t.2.1<n)))))),(22,(Value.bool (((!(decide (t.1<n)))||(!(decide (t.2.1<n))))||(!(decide (t.2.2<n)))))),(23,(Value.bool (((!(decide (t.1<n)))||(!(decide (t.2.1<n))))||(!(decide (t.2.2<n)))))),(29,(Value.bool ((((!(decide (t.1<n)))||(!(decide (t.2.1<n))))||(!(decide (t.2.2<n))))||(decide (t.1=t.2.1)))))]) (LM:=[Ae b1 79 (Av t),Ai (some ⟨bo.b,0,none⟩) ([(vN n)])]) 6 ?_ ?_
 ·rcases Bool.eq_false_or_eq_true (((!(decide (t.1<n)))||(!(decide (t.2.1<n))))||(!(decide (t.2.2<n)))) with hg3|hg3
  ·skip
   refine AE.retell (k:=23) (u:=Value.bool true) O (by rw [hg3]) ?_
   have hg3':=hg3
   simp only [Bool.and_eq_true,Bool.or_eq_true,Bool.and_eq_false_iff,Bool.or_eq_false_iff,Bool.not_eq_true',Bool.not_eq_false',decide_eq_true_eq,decide_eq_false_iff_not] at hg3'
   refine AE.skip (AR O) O (Ab O) (AE.skip (AR O) O (Ab O) (AE.skip (AR O) O (Ab O) (AE.skip (AR O) O (Ab O) (AE.skip (AR O) O (Ab O) (AG (v:=(Value.bool true)) (Ah O O) O ?_)))))
   exact AE.nil (AD.mid (sS O (sS O (sS O (sS O (sS O (sS O (sS O (sS O (sS O (sS O (sS O (sS O (sS (by first|rfl|(rw [hg3];rfl)|rw [hg3]) (sS (by first|rfl|(rw [hg3];rfl)|rw [hg3]) (sN))))))))))))))) (List.Sublist.refl _))
  ·skip
   refine AE.retell (k:=23) (u:=Value.bool false) O (by rw [hg3]) ?_
   have hg3':=hg3
   simp only [Bool.and_eq_true,Bool.or_eq_true,Bool.and_eq_false_iff,Bool.or_eq_false_iff,Bool.not_eq_true',Bool.not_eq_false',decide_eq_true_eq,decide_eq_false_iff_not] at hg3'
   refine AE.step (v:=(pP b1 0)) (AB O) (AC (j:=0) O O underlying79 sizeOf3 O (by decide) O) O (Ab O) (AE.step (v:=(vN t.1)) (AB O) (AM (i:=0) (v:=(vN t.1)) O O Bs.a O) O (Ab O) (AE.step (v:=(pP b1 1)) (AB O) (AC (j:=1) O O underlying79 sizeOf3 O (by decide) O) O (Ab O) (AE.step (v:=(vN t.2.1)) (AB O) (AM (i:=0) (v:=(vN t.2.1)) O O Bs.a O) O (Ab O) (AE.step (v:=(Value.bool (decide (t.1=t.2.1)))) (AB O) (BU (c:=(decide (t.1=t.2.1))) O O (MY (a:=t.1) (b:=t.2.1))) O (Ab O) (AG (v:=(Value.bool (decide (t.1=t.2.1)))) (AU O O) O ?_)))))
   exact AE.nil (AD.mid (sS O (sS O (sS O (sS O (sS O (sS O (sS O (sS O (sS O (sS O (sS O (sS O (sS (by first|rfl|(rw [hg3];rfl)|rw [hg3]) (sS (by first|rfl|(rw [hg3];rfl)|rw [hg3]) (sN))))))))))))))) (List.Sublist.refl _))
 refine AO O ?_
 refine AE.mid (FM:=[(1,(pP bo.b 0)),(2,(pP b1 0)),(3,(Value.bool false)),(4,(pP b1 0)),(5,(vN t.1)),(6,(vN n)),(7,(Value.bool (decide (t.1<n)))),(8,(Value.bool (!(decide (t.1<n))))),(9,(Value.bool (!(decide (t.1<n))))),(15,(Value.bool ((!(decide (t.1<n)))||(!(decide (t.2.1<n)))))),(16,(Value.bool ((!(decide (t.1<n)))||(!(decide (t.2.1<n)))))),(22,(Value.bool (((!(decide (t.1<n)))||(!(decide (t.2.1<n))))||(!(decide (t.2.2<n)))))),(23,(Value.bool (((!(decide (t.1<n)))||(!(decide (t.2.1<n))))||(!(decide (t.2.2<n)))))),(29,(Value.bool ((((!(decide (t.1<n)))||(!(decide (t.2.1<n))))||(!(decide (t.2.2<n))))||(decide (t.1=t.2.1))))),(30,(Value.bool ((((!(decide (t.1<n)))||(!(decide (t.2.1<n))))||(!(decide (t.2.2<n))))||(decide (t.1=t.2.1))))),(36,(Value.bool (((((!(decide (t.1<n)))||(!(decide (t.2.1<n))))||(!(decide (t.2.2<n))))||(decide (t.1=t.2.1)))||(decide (t.2.1=t.2.2)))))]) (LM:=[Ae b1 79 (Av t),Ai (some ⟨bo.b,0,none⟩) ([(vN n)])]) 6 ?_ ?_
 ·rcases Bool.eq_false_or_eq_true ((((!(decide (t.1<n)))||(!(decide (t.2.1<n))))||(!(decide (t.2.2<n))))||(decide (t.1=t.2.1))) with hg4|hg4
  ·skip
   refine AE.retell (k:=30) (u:=Value.bool true) O (by rw [hg4]) ?_
   have hg4':=hg4
   simp only [Bool.and_eq_true,Bool.or_eq_true,Bool.and_eq_false_iff,Bool.or_eq_false_iff,Bool.not_eq_true',Bool.not_eq_false',decide_eq_true_eq,decide_eq_false_iff_not] at hg4'
   refine AE.skip (AR O) O (Ab O) (AE.skip (AR O) O (Ab O) (AE.skip (AR O) O (Ab O) (AE.skip (AR O) O (Ab O) (AE.skip (AR O) O (Ab O) (AG (v:=(Value.bool true)) (Ah O O) O ?_)))))
   exact AE.nil (AD.mid (sS O (sS O (sS O (sS O (sS O (sS O (sS O (sS O (sS O (sS O (sS O (sS O (sS O (sS O (sS (by first|rfl|(rw [hg4];rfl)|rw [hg4]) (sS (by first|rfl|(rw [hg4];rfl)|rw [hg4]) (sN))))))))))))))))) (List.Sublist.refl _))
  ·skip
   refine AE.retell (k:=30) (u:=Value.bool false) O (by rw [hg4]) ?_
   have hg4':=hg4
   simp only [Bool.and_eq_true,Bool.or_eq_true,Bool.and_eq_false_iff,Bool.or_eq_false_iff,Bool.not_eq_true',Bool.not_eq_false',decide_eq_true_eq,decide_eq_false_iff_not] at hg4'
   refine AE.step (v:=(pP b1 1)) (AB O) (AC (j:=1) O O underlying79 sizeOf3 O (by decide) O) O (Ab O) (AE.step (v:=(vN t.2.1)) (AB O) (AM (i:=0) (v:=(vN t.2.1)) O O Bs.a O) O (Ab O) (AE.step (v:=(pP b1 2)) (AB O) (AC (j:=2) O O underlying79 sizeOf3 O (by decide) O) O (Ab O) (AE.step (v:=(vN t.2.2)) (AB O) (AM (i:=0) (v:=(vN t.2.2)) O O Bs.a O) O (Ab O) (AE.step (v:=(Value.bool (decide (t.2.1=t.2.2)))) (AB O) (BU (c:=(decide (t.2.1=t.2.2))) O O (MY (a:=t.2.1) (b:=t.2.2))) O (Ab O) (AG (v:=(Value.bool (decide (t.2.1=t.2.2)))) (AU O O) O ?_)))))
   exact AE.nil (AD.mid (sS O (sS O (sS O (sS O (sS O (sS O (sS O (sS O (sS O (sS O (sS O (sS O (sS O (sS O (sS (by first|rfl|(rw [hg4];rfl)|rw [hg4]) (sS (by first|rfl|(rw [hg4];rfl)|rw [hg4]) (sN))))))))))))))))) (List.Sublist.refl _))
 refine AO O ?_
 refine AE.mid (FM:=[(1,(pP bo.b 0)),(2,(pP b1 0)),(3,(Value.bool false)),(4,(pP b1 0)),(5,(vN t.1)),(6,(vN n)),(7,(Value.bool (decide (t.1<n)))),(8,(Value.bool (!(decide (t.1<n))))),(9,(Value.bool (!(decide (t.1<n))))),(15,(Value.bool ((!(decide (t.1<n)))||(!(decide (t.2.1<n)))))),(16,(Value.bool ((!(decide (t.1<n)))||(!(decide (t.2.1<n)))))),(22,(Value.bool (((!(decide (t.1<n)))||(!(decide (t.2.1<n))))||(!(decide (t.2.2<n)))))),(23,(Value.bool (((!(decide (t.1<n)))||(!(decide (t.2.1<n))))||(!(decide (t.2.2<n)))))),(29,(Value.bool ((((!(decide (t.1<n)))||(!(decide (t.2.1<n))))||(!(decide (t.2.2<n))))||(decide (t.1=t.2.1))))),(30,(Value.bool ((((!(decide (t.1<n)))||(!(decide (t.2.1<n))))||(!(decide (t.2.2<n))))||(decide (t.1=t.2.1))))),(36,(Value.bool (((((!(decide (t.1<n)))||(!(decide (t.2.1<n))))||(!(decide (t.2.2<n))))||(decide (t.1=t.2.1)))||(decide (t.2.1=t.2.2))))),(37,(Value.bool (((((!(decide (t.1<n)))||(!(decide (t.2.1<n))))||(!(decide (t.2.2<n))))||(decide (t.1=t.2.1)))||(decide (t.2.1=t.2.2))))),(43,(Value.bool ((((((!(decide (t.1<n)))||(!(decide (t.2.1<n))))||(!(decide (t.2.2<n))))||(decide (t.1=t.2.1)))||(decide (t.2.1=t.2.2)))||(decide (t.2.2=t.1)))))]) (LM:=[Ae b1 79 (Av t),Ai (some ⟨bo.b,0,none⟩) ([(vN n)])]) 6 ?_ ?_
 ·rcases Bool.eq_false_or_eq_true (((((!(decide (t.1<n)))||(!(decide (t.2.1<n))))||(!(decide (t.2.2<n))))||(decide (t.1=t.2.1)))||(decide (t.2.1=t.2.2))) with hg5|hg5
  ·skip
   refine AE.retell (k:=37) (u:=Value.bool true) O (by rw [hg5]) ?_
   have hg5':=hg5
   simp only [Bool.and_eq_true,Bool.or_eq_true,Bool.and_eq_false_iff,Bool.or_eq_false_iff,Bool.not_eq_true',Bool.not_eq_false',decide_eq_true_eq,decide_eq_false_iff_not] at hg5'
   refine AE.skip (AR O) O (Ab O) (AE.skip (AR O) O (Ab O) (AE.skip (AR O) O (Ab O) (AE.skip (AR O) O (Ab O) (AE.skip (AR O) O (Ab O) (AG (v:=(Value.bool true)) (Ah O O) O ?_)))))
   exact AE.nil (AD.mid (sS O (sS O (sS O (sS O (sS O (sS O (sS O (sS O (sS O (sS O (sS O (sS O (sS O (sS O (sS O (sS O (sS (by first|rfl|(rw [hg5];rfl)|rw [hg5]) (sS (by first|rfl|(rw [hg5];rfl)|rw [hg5]) (sN))))))))))))))))))) (List.Sublist.refl _))
  ·skip
   refine AE.retell (k:=37) (u:=Value.bool false) O (by rw [hg5]) ?_
   have hg5':=hg5
   simp only [Bool.and_eq_true,Bool.or_eq_true,Bool.and_eq_false_iff,Bool.or_eq_false_iff,Bool.not_eq_true',Bool.not_eq_false',decide_eq_true_eq,decide_eq_false_iff_not] at hg5'
   refine AE.step (v:=(pP b1 2)) (AB O) (AC (j:=2) O O underlying79 sizeOf3 O (by decide) O) O (Ab O) (AE.step (v:=(vN t.2.2)) (AB O) (AM (i:=0) (v:=(vN t.2.2)) O O Bs.a O) O (Ab O) (AE.step (v:=(pP b1 0)) (AB O) (AC (j:=0) O O underlying79 sizeOf3 O (by decide) O) O (Ab O) (AE.step (v:=(vN t.1)) (AB O) (AM (i:=0) (v:=(vN t.1)) O O Bs.a O) O (Ab O) (AE.step (v:=(Value.bool (decide (t.2.2=t.1)))) (AB O) (BU (c:=(decide (t.2.2=t.1))) O O (MY (a:=t.2.2) (b:=t.1))) O (Ab O) (AG (v:=(Value.bool (decide (t.2.2=t.1)))) (AU O O) O ?_)))))
   exact AE.nil (AD.mid (sS O (sS O (sS O (sS O (sS O (sS O (sS O (sS O (sS O (sS O (sS O (sS O (sS O (sS O (sS O (sS O (sS (by first|rfl|(rw [hg5];rfl)|rw [hg5]) (sS (by first|rfl|(rw [hg5];rfl)|rw [hg5]) (sN))))))))))))))))))) (List.Sublist.refl _))
 exact AK O (AE.nil (AD.subF (sL [3] O) (AD.then_ (AF.ret (AP O (Ad (v:=(Value.bool ((((((!(decide (t.1<n)))||(!(decide (t.2.1<n))))||(!(decide (t.2.2<n))))||(decide (t.1=t.2.1)))||(decide (t.2.1=t.2.2)))||(decide (t.2.2=t.1))))) O) (λw hw=>⟨by congr 2;rw [Bool.eq_iff_iff];simp [L9]<;>omega,hw.out⟩))))))
theorem T0 (n:Nat) (bo:BX [vN n]) (ts:List (Nat×Nat×Nat)) (x:RX (rowsL Av ts) ts.length) (hl:ts.length<4611686018427387904) (w:World) {S:Nat->Prop} (hbo:Ro S w bo) (hx:Ro S w x):Calls prog 173 #[(Value.slice x.p ts.length x.c),(Value.func (.func 135) #[] #[(pP bo.b 0)])] w (Am w (vI (idxB n ts 0))):=by
 have lbo:=Er (W:=w) hbo
 have lx:=Er (W:=w) hx
 refine BI (args:=[(Value.slice x.p ts.length x.c),(Value.func (.func 135) #[] #[(pP bo.b 0)])]) (L:=[Ai (some ⟨bo.b,0,none⟩) ([(vN n)]),Ai x.p (rowsL Av ts)]) func173 O O (Ab O) (En hbo (En hx BW)) (AF.subF (sL [0,1] O) (q4 (AK O (AE.nil (q1 ?_)))))
 refine q4 (AO O (AG (v:=(vN ts.length)) (AH O underlying23) O (AO O (AE.nil (AD.subF (sL [0,1,4,7,8] O) ?_)))))
 refine AD.then_ (AF.block ?_)
 refine AF.lp1 (tg λ(j:Nat)=>j<=ts.length/\idxB n ts 0=idxB n (ts.drop j) j) (tg λ(j:Nat)=>[(0,(Value.slice x.p ts.length x.c)),(1,(Value.func (.func 135) #[] #[(pP bo.b 0)])),(7,(vN ts.length)),(8,(vN j))]) (tg λ(j:Nat)=>[Ai (some ⟨bo.b,0,none⟩) ([(vN n)]),Ai x.p (rowsL Av ts)]) (tg λ(j:Nat)=>ts.length-j) 0 (⟨Nat.zero_le _,rfl⟩) (sF O) sr (λj hJ=>?_)
 obtain ⟨hj,he⟩:=hJ
 refine q4 (AG (Af (c:=(decide (j<ts.length))) O O (C6 (a:=j) (b:=ts.length))) O (AE.nil (q1 ?_)))
 refine AF.cond O (λhc0=>?_) (λhc0=>?_)
 ·replace hc0:=of_decide_eq_true hc0
  refine AF.skip (q1 (AF.block (q4 (AO O (AK O ?_)))))
  refine q3 (sL [0,1,7,8,5] O) (AO O (AO O (AO O (AG (v:=(pP (pB x.p) (pO x.p+j*3))) (AN (j:=j) O O x.ok underlying23 sizeOf79 O Z) O (AG (v:=(aG (Av (ts.getD j ((0,0,0):Nat×Nat×Nat))))) (AW (vs:=Av (ts.getD j ((0,0,0):Nat×Nat×Nat))) (i:=1) O O (BB.ne x.ok Z) JB (Ar BK _ _ _ Z) (BK _)) O ?_)))))
  refine AE.call (v:=(Value.bool (!L9 n (ts.getD j ((0,0,0):Nat×Nat×Nat))))) (AQ O) (Gt (args:=[(aG (Av (ts.getD j ((0,0,0):Nat×Nat×Nat))))]) (caps:=[(pP bo.b 0)]) (all:=[(aG (Av (ts.getD j ((0,0,0):Nat×Nat×Nat)))),(pP bo.b 0)]) O O O call135) (λw hw=>QR (ts.getD j ((0,0,0):Nat×Nat×Nat)) n bo w (ER hw 0 O lbo)) O (Ab O) (AE.nil (AD.subF (sL [0,1,7,8,5,16] O) (AD.then_ ?_)))
  refine AF.cond O (λhc1=>?_) (λhc1=>?_)
  ·simp only [Bool.and_eq_true,Bool.or_eq_true,Bool.and_eq_false_iff,Bool.or_eq_false_iff,Bool.not_eq_true',Bool.not_eq_false',decide_eq_true_eq,decide_eq_false_iff_not] at hc1
   have hfin:=he.trans (RJ Z (by simpa using hc1))
   refine q4 (AO O (AK O (AE.nil (AD.subF (sL [0,1,7,8,5,4] O) (AD.then_ ?_)))))
   exact AF.ret (AD.in_ret (AD.then_ret (AD.round1_ret (AD.in_ret (AD.then_ret (AP O (Ad (v:=(vN j)) O) (λw hw=>⟨by rw [hfin],hw.out⟩)))))))
  ·simp only [Bool.and_eq_true,Bool.or_eq_true,Bool.and_eq_false_iff,Bool.or_eq_false_iff,Bool.not_eq_true',Bool.not_eq_false',decide_eq_true_eq,decide_eq_false_iff_not] at hc1
   refine AF.skip (AD.in_normal (AD.then_ (AF.region (AG (AX (c:=((j+1:Nat):Int)) O O (AY (a:=j) (b:=1) Z)) O (AO O ?_)))))
   exact AE.nil (AD.subF (sL [0,1,7,8,5] O) (AD.round1 (j+1) (⟨Z,he.trans (PK Z (by simpa using hc1))⟩) Z (sF O) sr))
 ·replace hc0:=of_decide_eq_false hc0
  have hfin:=he.trans (QU hc0)
  refine AF.exit (AD.then_exit (AD.round1_exit (AD.in_exit (q2 (AK O ?_)))))
  exact AE.nil (AD.then_ (AF.ret (AP O (Ad (v:=(vI (-1:Int))) O) (λw hw=>⟨by rw [hfin],hw.out⟩))))
theorem R_ (n:Nat) (bo:BX [vN n]) (ts:List (Nat×Nat×Nat)) (x:RX (rowsL Av ts) ts.length) (hl:ts.length<4611686018427387904) (w:World) {S:Nat->Prop} (hbo:Ro S w bo) (hx:Ro S w x):Calls prog 134 #[(Value.slice x.p ts.length x.c),(Value.func (.func 135) #[] #[(pP bo.b 0)])] w (Am w (Value.bool (!By n ts))):=by
 have lbo:=Er (W:=w) hbo
 have lx:=Er (W:=w) hx
 refine BI (args:=[(Value.slice x.p ts.length x.c),(Value.func (.func 135) #[] #[(pP bo.b 0)])]) (L:=[Ai (some ⟨bo.b,0,none⟩) ([(vN n)]),Ai x.p (rowsL Av ts)]) func134 O O (Ab O) (En hbo (En hx BW)) (AF.subF (sL [0,1] O) (q4 (AK O (AE.nil (q2 ?_)))))
 refine AO O (AO O (ET call173 (λw hw=>T0 n bo ts x hl w (ER hw 0 O lbo) (ER hw 1 O lx)) O (AG (CQ (c:=(!By n ts)) O O (KE n ts 0)) O (AK O (AE.nil ?_)))))
 exact AD.subF (sL [4] O) (AD.then_ (AF.ret (AP O (Ad (v:=(Value.bool (!By n ts))) O) (λw hw=>⟨rfl,hw.out⟩))))
theorem N6 (n:Nat) (ts:List (Nat×Nat×Nat)) (x:RX (rowsL Av ts) ts.length) (hl:ts.length<4611686018427387904) (w:World) {S:Nat->Prop} (hx:Ro S w x):Calls prog 90 #[(Value.slice x.p ts.length x.c),(vN n)] w (Am w (Value.bool (By n ts))):=by
 have lx:=Er (W:=w) hx
 refine BI (args:=[(Value.slice x.p ts.length x.c),(vN n)]) (L:=[Ai x.p (rowsL Av ts)]) func90 O O (Ab O) (En hx BW) (AF.subF (sL [0,1] O) (q4 (Bq (cs:=[(vN n)]) O λb1=>AE.frzX 0 O O λhnb1=>AK O ?_)))
 refine q3 (sL [0,3,4] O) (AO O (AG (v:=(Value.func (.func 135) #[] #[(pP b1 0)])) (Ea (vs:=[]) (us:=[(pP b1 0)]) O O) O (ET call134 (λw hw=>R_ n ⟨b1⟩ ts x hl w (R1 (x:=(⟨b1⟩:BX [vN n])) hw 0 O hnb1) (ER hw 1 O lx)) O (AG (Ba (c:=(!(!By n ts))) O O) O (AK O ?_)))))
 exact AE.nil (AD.subF (sL [4] O) (AD.then_ (AF.ret (AP O (Ad (v:=(Value.bool (!(!By n ts)))) O) (λw hw=>⟨by simp,hw.out⟩)))))
theorem N5 {ps:List Pt} {ts ss:List (Nat×Nat×Nat)} (x:MX ps ts ss) (hl:ts.length<4611686018427387904) (w:World) {S:Nat->Prop} (hx:Ro S w x):Calls prog 48 #[(aG (C5 x))] w (Am w (Value.bool (By ps.length ts))):=by
 have lx:=Er (W:=w) hx
 refine BI (args:=[(aG (C5 x))]) (L:=[Ai x.a.p (rowsL Aj ps),Ai x.b.p (rowsL Av ts),Ai x.c.p (rowsL Av ss)]) func48 O O (Ab O) (En hx BW) (AF.subF (sL [0] O) (q4 (Bq (cs:=C5 x) O λb1=>AK O (q3 (sL [1,2] O) ?_))))
 refine AG (v:=(pP b1 1)) (AA O underlying30 O sizeOf23 O) O (BO 0 (Value.slice x.b.p ts.length x.b.c) Dn O (AG (v:=(pP b1 0)) (AA O underlying30 O sizeOf28 O) O (BO 0 (Value.slice x.a.p ps.length x.a.c) DV O (AG (v:=(vN ps.length)) (AH O underlying28) O (ET call90 (λw hw=>N6 ps.length ts x.b hl w (SM (ER hw 1 O lx))) O ?_)))))
 exact AK O (AE.nil (AD.subF (sL [2] O) (AD.then_ (AF.ret (AP O (Ad (v:=(Value.bool (By ps.length ts))) O) (λw hw=>⟨rfl,hw.out⟩))))))
theorem NT {ps:List Pt} {ts ss:List (Nat×Nat×Nat)} (x:MX ps ts ss) (t:Nat) (ht:t<ts.length) (hk:L9 ps.length (ts.getD t (0,0,0))=true) (w:World) {S:Nat->Prop} (hx:Ro S w x):Calls prog 23 #[(aG (C5 x)),(vN t)] w (Am w (Value.tuple #[(aG (Aj (CG ps (ts.getD t (0,0,0)).1))),(aG (Aj (CG ps (ts.getD t (0,0,0)).2.1))),(aG (Aj (CG ps (ts.getD t (0,0,0)).2.2)))])):=by
 obtain ⟨k1,k2,k3⟩:=DW hk
 have lx:=Er (W:=w) hx
 refine BI (args:=[(aG (C5 x)),(vN t)]) (L:=[Ai x.a.p (rowsL Aj ps),Ai x.b.p (rowsL Av ts),Ai x.c.p (rowsL Av ss)]) func23 O O (Ab O) (En hx BW) (AF.subF (sL [0,1] O) (q4 (Bq (cs:=C5 x) O λb1=>al F6 O λb2=>al F6 O λb3=>?_)))
 refine al F6 O λb4=>q6 (sL [1,2,4,5,6] O) (q4 (AO O (AG (Af (c:=false) O O (by simp)) O (AO O ?_))))
 refine AE.step (v:=(vN t)) (AB O) (Az O) O (Ab O) (AE.step (v:=(pP b1 1)) (AB O) (AA O underlying30 O sizeOf23 O) O (Ab O) (AE.step (v:=(Value.slice x.b.p ts.length x.b.c)) (AB O) (AM (i:=3) (v:=(Value.slice x.b.p ts.length x.b.c)) O O Dn.a O) O (Ab O) (AE.step (v:=(vN ts.length)) (AB O) (AH O underlying23) O (Ab O) (AE.step (v:=(Value.bool false)) (AB O) (CQ (c:=false) O O (by simp;omega)) O (Ab O) (AG (v:=(Value.bool false)) (AU O O) O ?_)))))
 refine AE.nil (AD.subF (sL [1,2,4,5,6,17] O) (AD.then_ (AF.cond_false O (AF.skip (q1 ?_)))))
 refine C4 [(0,true),(1,true),(2,true),(3,true),(4,true),(5,true),(6,true),(7,true),(8,false),(9,false),(10,true)] sr (Ay (v:=(pP b1 1)) O (AA O underlying30 O sizeOf23 O) (Bn 3 (Value.slice x.b.p ts.length x.b.c) Dn O (Bo O (Ay (v:=(pP (pB x.b.p) (pO x.b.p+t*3))) O (AN (j:=t) O O x.b.ok underlying23 sizeOf79 O Z) (Ay (v:=(aG (Av (ts.getD t ((0,0,0):Nat×Nat×Nat))))) O (AW (vs:=Av (ts.getD t ((0,0,0):Nat×Nat×Nat))) (i:=5) O O (BB.ne x.b.ok Z) JB (Ar BK _ _ _ Z) (BK _)) ?_)))))
 refine Ay (v:=(pP b1 0)) O (AA O underlying30 O sizeOf28 O) (Bn 3 (Value.slice x.a.p ps.length x.a.c) DV O (Ay (v:=(vN ps.length)) O (AH O underlying28) (AS.imp O (al Lu O λb5=>AS.back (sl sr) ?_))))
 refine AS.imp O (Au O sizeOf79 O (AS.back (sl sr) (EZ O (AS.nil (AD.subF (sL [1,2,4,5,6,7,8] O) ?_)))))
 refine q1 (q4 (AG (v:=(pP b5 0)) (AC (j:=0) O O underlying79 sizeOf3 O (by decide) O) O (BO 0 (vN ((ts.getD t ((0,0,0):Nat×Nat×Nat)).1)) Bs O (AO O (ET (args:=[(vN ((ts.getD t ((0,0,0):Nat×Nat×Nat)).1)),(vN ps.length)]) (v:=(Value.bool true)) call63 (λw hw=>(by have h9:=B5 ((ts.getD t ((0,0,0):Nat×Nat×Nat)).1) ps.length w;rw [decide_eq_true Z] at h9;exact h9)) O ?_)))))
 refine AG (Ba (c:=false) O O) O (AO O (AE.step (v:=(pP b5 1)) (AB O) (AC (j:=1) O O underlying79 sizeOf3 O (by decide) O) O (Ab O) (AE.step (v:=(vN ((ts.getD t ((0,0,0):Nat×Nat×Nat)).2.1))) (AB O) (AM (i:=0) (v:=(vN ((ts.getD t ((0,0,0):Nat×Nat×Nat)).2.1))) O O Bs.a O) O (Ab O) (AE.step (v:=(vN ps.length)) (AB O) (Az O) O (Ab O) (AE.call (v:=(Value.bool true)) (AB O) (Aw (args:=[(vN ((ts.getD t ((0,0,0):Nat×Nat×Nat)).2.1)),(vN ps.length)]) O O call63) (λw hw=>(by have h9:=B5 ((ts.getD t ((0,0,0):Nat×Nat×Nat)).2.1) ps.length w;rw [decide_eq_true Z] at h9;exact h9)) O (Ab O) ?_)))))
 refine AE.step (v:=(Value.bool false)) (AB O) (Ba (c:=false) O O) O (Ab O) (AG (v:=(Value.bool false)) (AU O O) O (AO O (AE.step (v:=(pP b5 2)) (AB O) (AC (j:=2) O O underlying79 sizeOf3 O (by decide) O) O (Ab O) (AE.step (v:=(vN ((ts.getD t ((0,0,0):Nat×Nat×Nat)).2.2))) (AB O) (AM (i:=0) (v:=(vN ((ts.getD t ((0,0,0):Nat×Nat×Nat)).2.2))) O O Bs.a O) O (Ab O) (AE.step (v:=(vN ps.length)) (AB O) (Az O) O (Ab O) ?_)))))
 refine AE.call (v:=(Value.bool true)) (AB O) (Aw (args:=[(vN ((ts.getD t ((0,0,0):Nat×Nat×Nat)).2.2)),(vN ps.length)]) O O call63) (λw hw=>(by have h9:=B5 ((ts.getD t ((0,0,0):Nat×Nat×Nat)).2.2) ps.length w;rw [decide_eq_true Z] at h9;exact h9)) O (Ab O) (AE.step (v:=(Value.bool false)) (AB O) (Ba (c:=false) O O) O (Ab O) (AG (v:=(Value.bool false)) (AU O O) O (AE.nil (AD.subF (sL [1,2,4,5,6,7,47] O) (AD.then_ ?_)))))
 refine AF.cond_false O (AF.skip (q1 (C4 [(0,true),(1,true),(2,true),(3,true),(4,true),(5,true),(6,true),(7,true),(8,true),(9,true),(10,true),(11,true),(12,true),(13,true),(14,true),(15,true),(16,true),(17,true),(18,false),(19,false),(20,false)] (sk (sl (sl (sl sr)))) (Ay (v:=(pP b1 0)) O (AA O underlying30 O sizeOf28 O) (Bn 1 (Value.slice x.a.p ps.length x.a.c) DV O ?_)))))
 refine Ay (v:=(pP b5 0)) O (AC (j:=0) O O underlying79 sizeOf3 O (by decide) O) (Bn 0 (vN ((ts.getD t ((0,0,0):Nat×Nat×Nat)).1)) Bs O (Ay (v:=(pP (pB x.a.p) (pO x.a.p+((ts.getD t ((0,0,0):Nat×Nat×Nat)).1)*10))) O (AN (j:=(ts.getD t ((0,0,0):Nat×Nat×Nat)).1) O O x.a.ok underlying28 sizeOf63 O Z) (Ay (v:=(aG (Aj (ps.getD ((ts.getD t ((0,0,0):Nat×Nat×Nat)).1) (⟨0,0⟩:Pt))))) O (AW (vs:=Aj (ps.getD ((ts.getD t ((0,0,0):Nat×Nat×Nat)).1) (⟨0,0⟩:Pt))) (i:=2) O O (BB.ne x.a.ok Z) BQ (Ar BE _ _ _ Z) (BE _)) (Ay (v:=(pP b1 0)) O (AA O underlying30 O sizeOf28 O) (Bn 1 (Value.slice x.a.p ps.length x.a.c) DV O ?_)))))
 refine Ay (v:=(pP b5 1)) O (AC (j:=1) O O underlying79 sizeOf3 O (by decide) O) (Bn 0 (vN ((ts.getD t ((0,0,0):Nat×Nat×Nat)).2.1)) Bs O (Ay (v:=(pP (pB x.a.p) (pO x.a.p+((ts.getD t ((0,0,0):Nat×Nat×Nat)).2.1)*10))) O (AN (j:=(ts.getD t ((0,0,0):Nat×Nat×Nat)).2.1) O O x.a.ok underlying28 sizeOf63 O Z) (Ay (v:=(aG (Aj (ps.getD ((ts.getD t ((0,0,0):Nat×Nat×Nat)).2.1) (⟨0,0⟩:Pt))))) O (AW (vs:=Aj (ps.getD ((ts.getD t ((0,0,0):Nat×Nat×Nat)).2.1) (⟨0,0⟩:Pt))) (i:=2) O O (BB.ne x.a.ok Z) BQ (Ar BE _ _ _ Z) (BE _)) (Ay (v:=(pP b1 0)) O (AA O underlying30 O sizeOf28 O) (Bn 1 (Value.slice x.a.p ps.length x.a.c) DV O ?_)))))
 refine Ay (v:=(pP b5 2)) O (AC (j:=2) O O underlying79 sizeOf3 O (by decide) O) (Bn 0 (vN ((ts.getD t ((0,0,0):Nat×Nat×Nat)).2.2)) Bs O (Ay (v:=(pP (pB x.a.p) (pO x.a.p+((ts.getD t ((0,0,0):Nat×Nat×Nat)).2.2)*10))) O (AN (j:=(ts.getD t ((0,0,0):Nat×Nat×Nat)).2.2) O O x.a.ok underlying28 sizeOf63 O Z) (Ay (v:=(aG (Aj (ps.getD ((ts.getD t ((0,0,0):Nat×Nat×Nat)).2.2) (⟨0,0⟩:Pt))))) O (AW (vs:=Aj (ps.getD ((ts.getD t ((0,0,0):Nat×Nat×Nat)).2.2) (⟨0,0⟩:Pt))) (i:=2) O O (BB.ne x.a.ok Z) BQ (Ar BE _ _ _ Z) (BE _)) (AS.imp O (Is O sizeOf63 O ?_)))))
 refine AS.back (sk (sl (sl (sl sr)))) (AS.imp O (Le O sizeOf63 O (AS.back (sk (sl (sl (sl sr)))) (AS.imp O (C3 O sizeOf63 O ?_)))))
 exact AS.back (sk (sl (sl (sl sr)))) (AS.nil (AD.subF (sL [1,2,4,5,6,7] O) (AD.then_ (AF.ret (Ez O (A8 (i:=3) (cs:=Aj (ps.getD ((ts.getD t ((0,0,0):Nat×Nat×Nat)).1) (⟨0,0⟩:Pt))) O O isAgg63 sizeOf63 O) (A8 (i:=2) (cs:=Aj (ps.getD ((ts.getD t ((0,0,0):Nat×Nat×Nat)).2.1) (⟨0,0⟩:Pt))) O O isAgg63 sizeOf63 O) (A8 (i:=1) (cs:=Aj (ps.getD ((ts.getD t ((0,0,0):Nat×Nat×Nat)).2.2) (⟨0,0⟩:Pt))) O O isAgg63 sizeOf63 O) (λw hw=>⟨rfl,hw.out⟩))))))
end
section
set_option maxRecDepth 100000
theorem QF (a:Nat) (w:World)  :Calls prog 137 #[(vN a)] w (Am w (Value.bool false)):=by
 refine Ac (args:=[(vN a)]) func137 O O (Ab O) (AF.subF (sL [0] O) (q4 (AK O (AE.nil (q2 ?_)))))
 refine AO O (AO O (AG (CL (c:=false) O O (by simp)) O (AK O (AE.nil (AD.subF (sL [2] O) ?_)))))
 exact AD.then_ (AF.ret (AP O (Ad (v:=(Value.bool false)) O) (λw hw=>⟨rfl,hw.out⟩)))
theorem Ng (a b:Nat) (w:World)  :Calls prog 94 #[(vN a),(vN b)] w (Am w (vI (Df a b))):=by
 refine Ac (args:=[(vN a),(vN b)]) func94 O O (Ab O) (AF.subF (sL [0,1] O) (q4 (AK O (AE.nil (q2 ?_)))))
 refine AO O (BV call137 (QF a) O (AK O (q3 (sL [0,1,4,5] O) (AO O (BV call137 (QF b) O ?_)))))
 refine AK O (q6 (sL [0,1,4,5,6] O) (q4 (AO O (AE.nil (AD.subF (sL [0,1,4,6,11] O) ?_)))))
 refine AD.then_ (AF.cond_false O (AF.skip (q1 (q4 (AO O ?_)))))
 refine AE.nil (AD.subF (sL [0,1,4,6,13] O) (AD.then_ (AF.cond_false O (AF.skip (q1 ?_)))))
 refine q4 (AO O (AO O (AG (Af (c:=(decide (a<b))) O O (C6 (a:=a) (b:=b))) O (AE.nil (AD.subF (sL [0,1,4,6,16] O) ?_)))))
 refine AD.then_ ?_
 refine AF.cond O (λhc3=>?_) (λhc3=>?_)
 ·replace hc3:=of_decide_eq_true hc3
  have hr:=Nm hc3
  exact q4 (AK O (AE.nil (AD.then_ (AF.ret (AD.then_ret (AP O (Ad (v:=(vI (-1:Int))) O) (λw hw=>⟨by rw [hr]<;>rfl,hw.out⟩)))))))
 ·replace hc3:=of_decide_eq_false hc3
  refine AF.skip (q1 (q4 (AO O (AO O (AG (Cx (c:=(decide (b<a))) O O (C6 (a:=b) (b:=a))) O ?_)))))
  refine AE.nil (AD.subF (sL [0,1,4,6,19] O) (AD.then_ ?_))
  refine AF.cond O (λhc4=>?_) (λhc4=>?_)
  ·replace hc4:=of_decide_eq_true hc4
   have hr:=OE hc3 hc4
   exact q4 (AK O (AE.nil (AD.then_ (AF.ret (AD.then_ret (AP O (Ad (v:=(vI 1)) O) (λw hw=>⟨by rw [hr]<;>rfl,hw.out⟩)))))))
  ·replace hc4:=of_decide_eq_false hc4
   have hr:=OA hc3 hc4
   exact AF.skip (q2 (AK O (AE.nil (AD.then_ (AF.ret (AP O (Ad (v:=(vI 0)) O) (λw hw=>⟨by rw [hr]<;>rfl,hw.out⟩)))))))
theorem QX (a b:Int) (g:Nat) (w:World) (hg:w.heap[g]?=some (.cells ([(vI a),(vI b)]).toArray 3 (0,0))):Calls prog 93 #[(Value.slice (some ⟨g,0,none⟩) 2 2)] w (λe w'=>e=.returned (Value.int .i64 (Qb a b))/\J2 w w' (some g)/\w'.heap[g]?=some (.cells ([(vI a),(vI b)]).toArray 3 (0,0))):=by
 refine Ha (args:=[(Value.slice (some ⟨g,0,none⟩) 2 2)]) (g:=g) (T:=3) (cs:=[(vI a),(vI b)]) func93 O O (Ab O) hg (AF.subF (sL [0] O) (q4 (AK O (AE.nil (q2 ?_)))))
 refine AK O (AE.nil (q1 (q4 (AO O (AG (v:=(vI 2)) (AH O underlying71) O ?_)))))
 refine AO O (AE.nil (AD.subF (sL [2,3,6,7,8] O) (AD.then_ (AF.block (AF.unroll 4 ?_)))))
 refine E3.step (q4 (AG (Af (c:=true) O O (by decide)) O (AE.nil (q1 (AF.cond_true O ?_)))))
 refine AF.skip (q1 (AF.block (q4 (AG (v:=(pP g 0)) (AJ (j:=0) O O underlying71 sizeOf3 O Z O) O (BO 0 (vI a) Bs O ?_)))))
 refine AK O (q3 (sL [2,3,6,7,8,5] O) (AO O (AO O (AG (CL (c:=(decide (a≠(0:Int)))) O O O) O (AE.nil ?_)))))
 refine AD.subF (sL [2,3,6,7,8,5,14] O) (AD.then_ ?_)
 refine AF.cond O (λhc1=>?_) (λhc1=>?_)
 ·replace hc1:=of_decide_eq_true hc1
  have hr:Qb a b=a:=if_pos hc1
  refine q4 (AO O (AK O (AE.nil (AD.subF (sL [2,3,6,7,8,5] O) (AD.then_ ?_)))))
  exact AF.ret (AD.in_ret (AD.then_ret (AD.then_ret (AD.in_ret (AD.then_ret (AP O (Ad (v:=(vI a)) O) (λw hw=>⟨by rw [hr]<;>rfl,hw.1,hw.get (i:=0) O⟩)))))))
 ·replace hc1:=of_decide_eq_false hc1
  have hq:=hc1
  refine AF.skip (AD.in_normal (AD.then_ (AF.region (AG (AX (c:=(1:Int)) O O (by decide)) O (AO O ?_)))))
  refine AE.nil (AD.subF (sL [2,3,6,7,8,5] O) (AD.again (E3.step (q4 (AG (Af (c:=true) O O (by decide)) O ?_)))))
  refine AE.nil (q1 (AF.cond_true O (AF.skip (q1 (AF.block ?_)))))
  refine q4 (AG (v:=(pP g 1)) (AJ (j:=1) O O underlying71 sizeOf3 O Z O) O (BO 0 (vI b) Bs O (AK O (q3 (sL [2,3,6,7,8,5] O) (AO O ?_)))))
  refine AO O (AG (CL (c:=(decide (b≠(0:Int)))) O O O) O (AE.nil (AD.subF (sL [2,3,6,7,8,5,14] O) (AD.then_ ?_))))
  refine AF.cond O (λhc1=>?_) (λhc1=>?_)
  ·replace hc1:=of_decide_eq_true hc1
   have hr:Qb a b=b:=by rw [Qb,if_neg hq,if_pos hc1]
   refine q4 (AO O (AK O (AE.nil (AD.subF (sL [2,3,6,7,8,5] O) (AD.then_ ?_)))))
   exact AF.ret (AD.in_ret (AD.then_ret (AD.then_ret (AD.in_ret (AD.then_ret (AP O (Ad (v:=(vI b)) O) (λw hw=>⟨by rw [hr]<;>rfl,hw.1,hw.get (i:=0) O⟩)))))))
  ·replace hc1:=of_decide_eq_false hc1
   have hr:Qb a b=0:=by rw [Qb,if_neg hq,if_neg hc1]
   refine AF.skip (AD.in_normal (AD.then_ (AF.region (AG (AX (c:=(2:Int)) O O (by decide)) O (AO O ?_)))))
   refine AE.nil (AD.subF (sL [2,3,6,7,8,5] O) (AD.again (E3.step (q4 (AG (Af (c:=false) O O (by decide)) O ?_)))))
   refine AE.nil (q1 (AF.cond_false O (AF.exit (AD.then_exit (AD.then_exit ?_)))))
   refine AD.in_exit (q2 (AO O (AK O (AE.nil (AD.subF (sL [2,3,6,7,8,5] O) ?_)))))
   exact AD.then_ (AF.ret (AP O (Ad (v:=(vI 0)) O) (λw hw=>⟨by rw [hr]<;>rfl,hw.1,hw.get (i:=0) O⟩)))
end
section
set_option maxRecDepth 100000
theorem TD (x y:E4) (w:World)  :Calls prog 92 #[(aG (B9 x)),(aG (B9 y))] w (Am w (vI (MV x y))):=by
 refine Ac (args:=[(aG (B9 x)),(aG (B9 y))]) func92 O O (Ab O) (AF.subF (sL [0,1] O) (q4 (Bq (cs:=B9 x) O λb1=>Bq (cs:=B9 y) O λb2=>AK O ?_)))
 refine q6 (sL [2,3,4] O) (C4 [(0,true),(1,true),(2,true),(3,true),(5,true),(6,true),(7,true),(8,true),(4,false),(9,false),(10,false),(11,false),(12,true)] sr (Ay (v:=(pP b1 0)) O (AA O underlying65 O sizeOf3 O) (Bn 1 (vN x.a) Bs O (Ay (v:=(pP b2 0)) O (AA O underlying65 O sizeOf3 O) (Bn 0 (vN y.a) Bs O ?_)))))
 refine Ay (v:=(pP b1 1)) O (AA O underlying65 O sizeOf3 O) (Bn 1 (vN x.b) Bs O (Ay (v:=(pP b2 1)) O (AA O underlying65 O sizeOf3 O) (Bn 0 (vN y.b) Bs O (AS.imp O (BV call94 (Ng x.a y.a) O ?_)))))
 refine AS.back sr (AS.imp O (BV call94 (Ng x.b y.b) O (AS.back sr (AS.imp O (AE.openV (V:=λb3=>(Value.slice (some ⟨b3,0,none⟩) 2 2)) (T:=3) (cs:=[(vI (Df x.a y.a)),(vI (Df x.b y.b))]) (AQ O) (BA (cs:=[(vI (Df x.a y.a)),(vI (Df x.b y.b))]) (pv:=[(0,(vI (Df x.a y.a))),(1,(vI (Df x.b y.b)))]) underlying71 sizeOf3 zeroValue3 (by decide) (by decide) O (by kernel_rfl)) O (Ab O) λb3=>?_)))))
 refine AS.back (sl sr) (AS.imp O (AE.callM (v:=(vI (Qb (Df x.a y.a) (Df x.b y.b)))) (i:=0) (cs':=[(vI (Df x.a y.a)),(vI (Df x.b y.b))]) (L':=[Ae b3 3 ([(vI (Df x.a y.a)),(vI (Df x.b y.b))]),Ae b2 65 (B9 y),Ae b1 65 (B9 x)]) (AQ O) (Aw (args:=[(Value.slice (some ⟨b3,0,none⟩) 2 2)]) O O call93) O (λw hw=>QX (Df x.a y.a) (Df x.b y.b) _ w (hw.get (i:=0) O)) (λd hd=>by cases hd<;>exact (Ab O)) O (AS.back (sl sr) (EZ O (AS.nil ?_)))))
 exact AD.subF (sL [4] O) (AD.then_ (AF.ret (AP O (Ad (v:=(vI (Qb (Df x.a y.a) (Df x.b y.b)))) O) (λw hw=>⟨rfl,hw.out⟩))))
end
end Go.Proofs.YtfbomiejpbchdaaGreatDoor
