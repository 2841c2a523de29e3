import Derived.Test.YtfbomiejpbchdaaGreatPart06
import Derived.Test.YtfbomiejpbchdaaGreatPart08
import Derived.Test.YtfbomiejpbchdaaGreatPart27
namespace Go.Proofs.YtfbomiejpbchdaaGreat
open Go Go.RowKit
set_option linter.unusedVariables false
set_option linter.unusedSimpArgs false
section
set_option maxRecDepth 100000
theorem DG (p n:Nat) (w:World)  :Calls Tryz.prog 61 #[(vN p),(vN n)] w (Am w (Value.bool (decide (p<n)))):=by
 refine Ac (args:=[(vN p),(vN n)]) Tryz.func61 rfl rfl (Ad rfl) (AG.subF (sL [0,1] rfl) (q4 (AK rfl (AF.nil (q2 ?_)))))
 refine AO rfl (AJ (DT (c:=(decide (0<=p))) rfl rfl (Vy (a:=0) (b:=p))) rfl (AO rfl ?_))
 refine AF.mid (FM:=[(0,(vN p)),(1,(vN n)),(4,(Value.bool false)),(5,(vN p)),(6,(Value.bool (decide (0<=p)))),(7,(Value.bool (decide (0<=p)))),(11,(Value.bool ((decide (0<=p))&&(decide (p<n)))))]) (LM:=[]) 4 ?_ ?_
 ·rcases Bool.eq_false_or_eq_true (decide (0<=p)) with hg1|hg1
  ·skip
   refine AF.retell (k:=7) (u:=Value.bool true) rfl (by rw [hg1]) ?_
   have hg1':=hg1
   replace hg1':=of_decide_eq_true hg1'
   exact AF.step (v:=(vN p)) (AB rfl) (A9 rfl) rfl (Ad rfl) (AF.step (v:=(vN n)) (AB rfl) (A9 rfl) rfl (Ad rfl) (AF.step (v:=(Value.bool (decide (p<n)))) (AB rfl) (Af (c:=(decide (p<n))) rfl rfl (DL (a:=p) (b:=n))) rfl (Ad rfl) (AJ (v:=(Value.bool (decide (p<n)))) (Aj rfl rfl) rfl (AF.nil (AC.mid (sS rfl (sS rfl (sS rfl (sS rfl (sS rfl (sS (by first|rfl|(rw [hg1];rfl)|rw [hg1]) (sS (by first|rfl|(rw [hg1];rfl)|rw [hg1]) (sN)))))))) (List.Sublist.refl _))))))
  ·skip
   refine AF.retell (k:=7) (u:=Value.bool false) rfl (by rw [hg1]) ?_
   have hg1':=hg1
   replace hg1':=of_decide_eq_false hg1'
   exact AF.skip (AP rfl) rfl (Ad rfl) (AF.skip (AP rfl) rfl (Ad rfl) (AF.skip (AP rfl) rfl (Ad rfl) (AJ (v:=(Value.bool false)) (AV rfl rfl) rfl (AF.nil (AC.mid (sS rfl (sS rfl (sS rfl (sS rfl (sS rfl (sS (by first|rfl|(rw [hg1];rfl)|rw [hg1]) (sS (by first|rfl|(rw [hg1];rfl)|rw [hg1]) (sN)))))))) (List.Sublist.refl _))))))
 exact AK rfl (AF.nil (AC.subF (sL [4] rfl) (AC.then_ (AG.ret (AR rfl (Ai (v:=(Value.bool ((decide (0<=p))&&(decide (p<n))))) rfl) (λw hw=>⟨by simp,hw.out⟩))))))
theorem S7 (t:Nat×Nat×Nat) (n:Nat) (bo:BX [vN n]) (w:World) {S:Nat->Prop} (hbo:Ro S w bo):Calls Tryz.prog 171 #[(aG (Al t)),(pP bo.b 0)] w (Am w (Value.bool (!Lk n t))):=by
 have lbo:=FS (W:=w) hbo
 refine BH (args:=[(aG (Al t)),(pP bo.b 0)]) (L:=[Ag (some ⟨bo.b,0,none⟩) ([(vN n)])]) Tryz.func171 rfl rfl (Ad rfl) (FP hbo BY) (AG.subF (sL [0,1] rfl) (q4 (Bl (cs:=Al t) rfl λb1=>AK rfl (q3 (sL [1,2,3] rfl) ?_))))
 refine AJ (v:=(pP b1 0)) (AE (j:=0) rfl rfl Tryz.underlying76 Tryz.sizeOf3 rfl (by decide) rfl) rfl (BL 0 (vN t.1) B4 rfl (AJ (BK (q:=some ⟨bo.b,0,none⟩) (v:=(vN n)) (off:=0) (i:=1) rfl rfl (λe=>by cases e) B4 rfl) rfl (BU Tryz.call61 (DG t.1 n) rfl (AJ (Bi (c:=(!(decide (t.1<n)))) rfl rfl) rfl (AO rfl ?_)))))
 refine AF.mid (FM:=[(1,(pP bo.b 0)),(2,(pP b1 0)),(3,(Value.bool false)),(4,(pP b1 0)),(5,(vN t.1)),(6,(vN n)),(7,(Value.bool (decide (t.1<n)))),(8,(Value.bool (!(decide (t.1<n))))),(9,(Value.bool (!(decide (t.1<n))))),(15,(Value.bool ((!(decide (t.1<n)))||(!(decide (t.2.1<n))))))]) (LM:=[Ah b1 76 (Al t),Ag (some ⟨bo.b,0,none⟩) ([(vN n)])]) 6 ?_ ?_
 ·rcases Bool.eq_false_or_eq_true (!(decide (t.1<n))) with hg1|hg1
  ·skip
   refine AF.retell (k:=9) (u:=Value.bool true) rfl (by rw [hg1]) ?_
   have hg1':=hg1
   simp only [Bool.and_eq_true,Bool.or_eq_true,Bool.and_eq_false_iff,Bool.or_eq_false_iff,Bool.not_eq_true',Bool.not_eq_false',decide_eq_true_eq,decide_eq_false_iff_not] at hg1'
   refine AF.skip (AP rfl) rfl (Ad rfl) (AF.skip (AP rfl) rfl (Ad rfl) (AF.skip (AP rfl) rfl (Ad rfl) (AF.skip (AP rfl) rfl (Ad rfl) (AF.skip (AP rfl) rfl (Ad rfl) (AJ (v:=(Value.bool true)) (Aj rfl rfl) rfl ?_)))))
   exact AF.nil (AC.mid (sS rfl (sS rfl (sS rfl (sS rfl (sS rfl (sS rfl (sS rfl (sS rfl (sS (by first|rfl|(rw [hg1];rfl)|rw [hg1]) (sS (by first|rfl|(rw [hg1];rfl)|rw [hg1]) (sN))))))))))) (List.Sublist.refl _))
  ·skip
   refine AF.retell (k:=9) (u:=Value.bool false) rfl (by rw [hg1]) ?_
   have hg1':=hg1
   simp only [Bool.and_eq_true,Bool.or_eq_true,Bool.and_eq_false_iff,Bool.or_eq_false_iff,Bool.not_eq_true',Bool.not_eq_false',decide_eq_true_eq,decide_eq_false_iff_not] at hg1'
   refine AF.step (v:=(pP b1 1)) (AB rfl) (AE (j:=1) rfl rfl Tryz.underlying76 Tryz.sizeOf3 rfl (by decide) rfl) rfl (Ad rfl) (AF.step (v:=(vN t.2.1)) (AB rfl) (AM (i:=0) (v:=(vN t.2.1)) rfl rfl B4.a rfl) rfl (Ad rfl) (AF.step (v:=(vN n)) (AB rfl) (BK (q:=some ⟨bo.b,0,none⟩) (v:=(vN n)) (off:=0) (i:=1) rfl rfl (λe=>by cases e) B4 rfl) rfl (Ad rfl) (AF.call (v:=(Value.bool (decide (t.2.1<n)))) (AB rfl) (Aq (args:=[(vN t.2.1),(vN n)]) rfl rfl Tryz.call61) (λw hw=>DG t.2.1 n w) rfl (Ad rfl) (AF.step (v:=(Value.bool (!(decide (t.2.1<n))))) (AB rfl) (Bi (c:=(!(decide (t.2.1<n)))) rfl rfl) rfl (Ad rfl) (AJ (v:=(Value.bool (!(decide (t.2.1<n))))) (AV rfl rfl) rfl ?_)))))
   exact AF.nil (AC.mid (sS rfl (sS rfl (sS rfl (sS rfl (sS rfl (sS rfl (sS rfl (sS rfl (sS (by first|rfl|(rw [hg1];rfl)|rw [hg1]) (sS (by first|rfl|(rw [hg1];rfl)|rw [hg1]) (sN))))))))))) (List.Sublist.refl _))
 refine AO rfl ?_
 refine AF.mid (FM:=[(1,(pP bo.b 0)),(2,(pP b1 0)),(3,(Value.bool false)),(4,(pP b1 0)),(5,(vN t.1)),(6,(vN n)),(7,(Value.bool (decide (t.1<n)))),(8,(Value.bool (!(decide (t.1<n))))),(9,(Value.bool (!(decide (t.1<n))))),(15,(Value.bool ((!(decide (t.1<n)))||(!(decide (t.2.1<n)))))),(16,(Value.bool ((!(decide (t.1<n)))||(!(decide (t.2.1<n)))))),(22,(Value.bool (((!(decide (t.1<n)))||(!(decide (t.2.1<n))))||(!(decide (t.2.2<n))))))]) (LM:=[Ah b1 76 (Al t),Ag (some ⟨bo.b,0,none⟩) ([(vN n)])]) 6 ?_ ?_
 ·rcases Bool.eq_false_or_eq_true ((!(decide (t.1<n)))||(!(decide (t.2.1<n)))) with hg2|hg2
  ·skip
   refine AF.retell (k:=16) (u:=Value.bool true) rfl (by rw [hg2]) ?_
   have hg2':=hg2
   simp only [Bool.and_eq_true,Bool.or_eq_true,Bool.and_eq_false_iff,Bool.or_eq_false_iff,Bool.not_eq_true',Bool.not_eq_false',decide_eq_true_eq,decide_eq_false_iff_not] at hg2'
   refine AF.skip (AP rfl) rfl (Ad rfl) (AF.skip (AP rfl) rfl (Ad rfl) (AF.skip (AP rfl) rfl (Ad rfl) (AF.skip (AP rfl) rfl (Ad rfl) (AF.skip (AP rfl) rfl (Ad rfl) (AJ (v:=(Value.bool true)) (Aj rfl rfl) rfl ?_)))))
   exact AF.nil (AC.mid (sS rfl (sS rfl (sS rfl (sS rfl (sS rfl (sS rfl (sS rfl (sS rfl (sS rfl (sS rfl (sS (by first|rfl|(rw [hg2];rfl)|rw [hg2]) (sS (by first|rfl|(rw [hg2];rfl)|rw [hg2]) (sN))))))))))))) (List.Sublist.refl _))
  ·skip
   refine AF.retell (k:=16) (u:=Value.bool false) rfl (by rw [hg2]) ?_
   have hg2':=hg2
   simp only [Bool.and_eq_true,Bool.or_eq_true,Bool.and_eq_false_iff,Bool.or_eq_false_iff,Bool.not_eq_true',Bool.not_eq_false',decide_eq_true_eq,decide_eq_false_iff_not] at hg2'
   refine AF.step (v:=(pP b1 2)) (AB rfl) (AE (j:=2) rfl rfl Tryz.underlying76 Tryz.sizeOf3 rfl (by decide) rfl) rfl (Ad rfl) (AF.step (v:=(vN t.2.2)) (AB rfl) (AM (i:=0) (v:=(vN t.2.2)) rfl rfl B4.a rfl) rfl (Ad rfl) (AF.step (v:=(vN n)) (AB rfl) (BK (q:=some ⟨bo.b,0,none⟩) (v:=(vN n)) (off:=0) (i:=1) rfl rfl (λe=>by cases e) B4 rfl) rfl (Ad rfl) (AF.call (v:=(Value.bool (decide (t.2.2<n)))) (AB rfl) (Aq (args:=[(vN t.2.2),(vN n)]) rfl rfl Tryz.call61) (λw hw=>DG t.2.2 n w) rfl (Ad rfl) (AF.step (v:=(Value.bool (!(decide (t.2.2<n))))) (AB rfl) (Bi (c:=(!(decide (t.2.2<n)))) rfl rfl) rfl (Ad rfl) (AJ (v:=(Value.bool (!(decide (t.2.2<n))))) (AV rfl rfl) rfl ?_)))))
   exact AF.nil (AC.mid (sS rfl (sS rfl (sS rfl (sS rfl (sS rfl (sS rfl (sS rfl (sS rfl (sS rfl (sS rfl (sS (by first|rfl|(rw [hg2];rfl)|rw [hg2]) (sS (by first|rfl|(rw [hg2];rfl)|rw [hg2]) (sN))))))))))))) (List.Sublist.refl _))
 refine AO rfl ?_
 refine AF.mid (FM:=[(1,(pP bo.b 0)),(2,(pP b1 0)),(3,(Value.bool false)),(4,(pP b1 0)),(5,(vN t.1)),(6,(vN n)),(7,(Value.bool (decide (t.1<n)))),(8,(Value.bool (!(decide (t.1<n))))),(9,(Value.bool (!(decide (t.1<n))))),(15,(Value.bool ((!(decide (t.1<n)))||(!(decide (t.2.1<n)))))),(16,(Value.bool ((!(decide (t.1<n)))||(!(decide (t.2.1<n)))))),(22,(Value.bool (((!(decide (t.1<n)))||(!(decide (t.2.1<n))))||(!(decide (t.2.2<n)))))),(23,(Value.bool (((!(decide (t.1<n)))||(!(decide (t.2.1<n))))||(!(decide (t.2.2<n)))))),(29,(Value.bool ((((!(decide (t.1<n)))||(!(decide (t.2.1<n))))||(!(decide (t.2.2<n))))||(decide (t.1=t.2.1)))))]) (LM:=[Ah b1 76 (Al t),Ag (some ⟨bo.b,0,none⟩) ([(vN n)])]) 6 ?_ ?_
 ·rcases Bool.eq_false_or_eq_true (((!(decide (t.1<n)))||(!(decide (t.2.1<n))))||(!(decide (t.2.2<n)))) with hg3|hg3
  ·skip
   refine AF.retell (k:=23) (u:=Value.bool true) rfl (by rw [hg3]) ?_
   have hg3':=hg3
   simp only [Bool.and_eq_true,Bool.or_eq_true,Bool.and_eq_false_iff,Bool.or_eq_false_iff,Bool.not_eq_true',Bool.not_eq_false',decide_eq_true_eq,decide_eq_false_iff_not] at hg3'
   refine AF.skip (AP rfl) rfl (Ad rfl) (AF.skip (AP rfl) rfl (Ad rfl) (AF.skip (AP rfl) rfl (Ad rfl) (AF.skip (AP rfl) rfl (Ad rfl) (AF.skip (AP rfl) rfl (Ad rfl) (AJ (v:=(Value.bool true)) (Aj rfl rfl) rfl ?_)))))
   exact AF.nil (AC.mid (sS rfl (sS rfl (sS rfl (sS rfl (sS rfl (sS rfl (sS rfl (sS rfl (sS rfl (sS rfl (sS rfl (sS rfl (sS (by first|rfl|(rw [hg3];rfl)|rw [hg3]) (sS (by first|rfl|(rw [hg3];rfl)|rw [hg3]) (sN))))))))))))))) (List.Sublist.refl _))
  ·skip
   refine AF.retell (k:=23) (u:=Value.bool false) rfl (by rw [hg3]) ?_
   have hg3':=hg3
   simp only [Bool.and_eq_true,Bool.or_eq_true,Bool.and_eq_false_iff,Bool.or_eq_false_iff,Bool.not_eq_true',Bool.not_eq_false',decide_eq_true_eq,decide_eq_false_iff_not] at hg3'
   refine AF.step (v:=(pP b1 0)) (AB rfl) (AE (j:=0) rfl rfl Tryz.underlying76 Tryz.sizeOf3 rfl (by decide) rfl) rfl (Ad rfl) (AF.step (v:=(vN t.1)) (AB rfl) (AM (i:=0) (v:=(vN t.1)) rfl rfl B4.a rfl) rfl (Ad rfl) (AF.step (v:=(pP b1 1)) (AB rfl) (AE (j:=1) rfl rfl Tryz.underlying76 Tryz.sizeOf3 rfl (by decide) rfl) rfl (Ad rfl) (AF.step (v:=(vN t.2.1)) (AB rfl) (AM (i:=0) (v:=(vN t.2.1)) rfl rfl B4.a rfl) rfl (Ad rfl) (AF.step (v:=(Value.bool (decide (t.1=t.2.1)))) (AB rfl) (Be (c:=(decide (t.1=t.2.1))) rfl rfl (Og (a:=t.1) (b:=t.2.1))) rfl (Ad rfl) (AJ (v:=(Value.bool (decide (t.1=t.2.1)))) (AV rfl rfl) rfl ?_)))))
   exact AF.nil (AC.mid (sS rfl (sS rfl (sS rfl (sS rfl (sS rfl (sS rfl (sS rfl (sS rfl (sS rfl (sS rfl (sS rfl (sS rfl (sS (by first|rfl|(rw [hg3];rfl)|rw [hg3]) (sS (by first|rfl|(rw [hg3];rfl)|rw [hg3]) (sN))))))))))))))) (List.Sublist.refl _))
 refine AO rfl ?_
 refine AF.mid (FM:=[(1,(pP bo.b 0)),(2,(pP b1 0)),(3,(Value.bool false)),(4,(pP b1 0)),(5,(vN t.1)),(6,(vN n)),(7,(Value.bool (decide (t.1<n)))),(8,(Value.bool (!(decide (t.1<n))))),(9,(Value.bool (!(decide (t.1<n))))),(15,(Value.bool ((!(decide (t.1<n)))||(!(decide (t.2.1<n)))))),(16,(Value.bool ((!(decide (t.1<n)))||(!(decide (t.2.1<n)))))),(22,(Value.bool (((!(decide (t.1<n)))||(!(decide (t.2.1<n))))||(!(decide (t.2.2<n)))))),(23,(Value.bool (((!(decide (t.1<n)))||(!(decide (t.2.1<n))))||(!(decide (t.2.2<n)))))),(29,(Value.bool ((((!(decide (t.1<n)))||(!(decide (t.2.1<n))))||(!(decide (t.2.2<n))))||(decide (t.1=t.2.1))))),(30,(Value.bool ((((!(decide (t.1<n)))||(!(decide (t.2.1<n))))||(!(decide (t.2.2<n))))||(decide (t.1=t.2.1))))),(36,(Value.bool (((((!(decide (t.1<n)))||(!(decide (t.2.1<n))))||(!(decide (t.2.2<n))))||(decide (t.1=t.2.1)))||(decide (t.2.1=t.2.2)))))]) (LM:=[Ah b1 76 (Al t),Ag (some ⟨bo.b,0,none⟩) ([(vN n)])]) 6 ?_ ?_
 ·rcases Bool.eq_false_or_eq_true ((((!(decide (t.1<n)))||(!(decide (t.2.1<n))))||(!(decide (t.2.2<n))))||(decide (t.1=t.2.1))) with hg4|hg4
  ·skip
   refine AF.retell (k:=30) (u:=Value.bool true) rfl (by rw [hg4]) ?_
   have hg4':=hg4
   simp only [Bool.and_eq_true,Bool.or_eq_true,Bool.and_eq_false_iff,Bool.or_eq_false_iff,Bool.not_eq_true',Bool.not_eq_false',decide_eq_true_eq,decide_eq_false_iff_not] at hg4'
   refine AF.skip (AP rfl) rfl (Ad rfl) (AF.skip (AP rfl) rfl (Ad rfl) (AF.skip (AP rfl) rfl (Ad rfl) (AF.skip (AP rfl) rfl (Ad rfl) (AF.skip (AP rfl) rfl (Ad rfl) (AJ (v:=(Value.bool true)) (Aj rfl rfl) rfl ?_)))))
   exact AF.nil (AC.mid (sS rfl (sS rfl (sS rfl (sS rfl (sS rfl (sS rfl (sS rfl (sS rfl (sS rfl (sS rfl (sS rfl (sS rfl (sS rfl (sS rfl (sS (by first|rfl|(rw [hg4];rfl)|rw [hg4]) (sS (by first|rfl|(rw [hg4];rfl)|rw [hg4]) (sN))))))))))))))))) (List.Sublist.refl _))
  ·skip
   refine AF.retell (k:=30) (u:=Value.bool false) rfl (by rw [hg4]) ?_
   have hg4':=hg4
   simp only [Bool.and_eq_true,Bool.or_eq_true,Bool.and_eq_false_iff,Bool.or_eq_false_iff,Bool.not_eq_true',Bool.not_eq_false',decide_eq_true_eq,decide_eq_false_iff_not] at hg4'
   refine AF.step (v:=(pP b1 1)) (AB rfl) (AE (j:=1) rfl rfl Tryz.underlying76 Tryz.sizeOf3 rfl (by decide) rfl) rfl (Ad rfl) (AF.step (v:=(vN t.2.1)) (AB rfl) (AM (i:=0) (v:=(vN t.2.1)) rfl rfl B4.a rfl) rfl (Ad rfl) (AF.step (v:=(pP b1 2)) (AB rfl) (AE (j:=2) rfl rfl Tryz.underlying76 Tryz.sizeOf3 rfl (by decide) rfl) rfl (Ad rfl) (AF.step (v:=(vN t.2.2)) (AB rfl) (AM (i:=0) (v:=(vN t.2.2)) rfl rfl B4.a rfl) rfl (Ad rfl) (AF.step (v:=(Value.bool (decide (t.2.1=t.2.2)))) (AB rfl) (Be (c:=(decide (t.2.1=t.2.2))) rfl rfl (Og (a:=t.2.1) (b:=t.2.2))) rfl (Ad rfl) (AJ (v:=(Value.bool (decide (t.2.1=t.2.2)))) (AV rfl rfl) rfl ?_)))))
   exact AF.nil (AC.mid (sS rfl (sS rfl (sS rfl (sS rfl (sS rfl (sS rfl (sS rfl (sS rfl (sS rfl (sS rfl (sS rfl (sS rfl (sS rfl (sS rfl (sS (by first|rfl|(rw [hg4];rfl)|rw [hg4]) (sS (by first|rfl|(rw [hg4];rfl)|rw [hg4]) (sN))))))))))))))))) (List.Sublist.refl _))
 refine AO rfl ?_
 refine AF.mid (FM:=[(1,(pP bo.b 0)),(2,(pP b1 0)),(3,(Value.bool false)),(4,(pP b1 0)),(5,(vN t.1)),(6,(vN n)),(7,(Value.bool (decide (t.1<n)))),(8,(Value.bool (!(decide (t.1<n))))),(9,(Value.bool (!(decide (t.1<n))))),(15,(Value.bool ((!(decide (t.1<n)))||(!(decide (t.2.1<n)))))),(16,(Value.bool ((!(decide (t.1<n)))||(!(decide (t.2.1<n)))))),(22,(Value.bool (((!(decide (t.1<n)))||(!(decide (t.2.1<n))))||(!(decide (t.2.2<n)))))),(23,(Value.bool (((!(decide (t.1<n)))||(!(decide (t.2.1<n))))||(!(decide (t.2.2<n)))))),(29,(Value.bool ((((!(decide (t.1<n)))||(!(decide (t.2.1<n))))||(!(decide (t.2.2<n))))||(decide (t.1=t.2.1))))),(30,(Value.bool ((((!(decide (t.1<n)))||(!(decide (t.2.1<n))))||(!(decide (t.2.2<n))))||(decide (t.1=t.2.1))))),(36,(Value.bool (((((!(decide (t.1<n)))||(!(decide (t.2.1<n))))||(!(decide (t.2.2<n))))||(decide (t.1=t.2.1)))||(decide (t.2.1=t.2.2))))),(37,(Value.bool (((((!(decide (t.1<n)))||(!(decide (t.2.1<n))))||(!(decide (t.2.2<n))))||(decide (t.1=t.2.1)))||(decide (t.2.1=t.2.2))))),(43,(Value.bool ((((((!(decide (t.1<n)))||(!(decide (t.2.1<n))))||(!(decide (t.2.2<n))))||(decide (t.1=t.2.1)))||(decide (t.2.1=t.2.2)))||(decide (t.2.2=t.1)))))]) (LM:=[Ah b1 76 (Al t),Ag (some ⟨bo.b,0,none⟩) ([(vN n)])]) 6 ?_ ?_
 ·rcases Bool.eq_false_or_eq_true (((((!(decide (t.1<n)))||(!(decide (t.2.1<n))))||(!(decide (t.2.2<n))))||(decide (t.1=t.2.1)))||(decide (t.2.1=t.2.2))) with hg5|hg5
  ·skip
   refine AF.retell (k:=37) (u:=Value.bool true) rfl (by rw [hg5]) ?_
   have hg5':=hg5
   simp only [Bool.and_eq_true,Bool.or_eq_true,Bool.and_eq_false_iff,Bool.or_eq_false_iff,Bool.not_eq_true',Bool.not_eq_false',decide_eq_true_eq,decide_eq_false_iff_not] at hg5'
   refine AF.skip (AP rfl) rfl (Ad rfl) (AF.skip (AP rfl) rfl (Ad rfl) (AF.skip (AP rfl) rfl (Ad rfl) (AF.skip (AP rfl) rfl (Ad rfl) (AF.skip (AP rfl) rfl (Ad rfl) (AJ (v:=(Value.bool true)) (Aj rfl rfl) rfl ?_)))))
   exact AF.nil (AC.mid (sS rfl (sS rfl (sS rfl (sS rfl (sS rfl (sS rfl (sS rfl (sS rfl (sS rfl (sS rfl (sS rfl (sS rfl (sS rfl (sS rfl (sS rfl (sS rfl (sS (by first|rfl|(rw [hg5];rfl)|rw [hg5]) (sS (by first|rfl|(rw [hg5];rfl)|rw [hg5]) (sN))))))))))))))))))) (List.Sublist.refl _))
  ·skip
   refine AF.retell (k:=37) (u:=Value.bool false) rfl (by rw [hg5]) ?_
   have hg5':=hg5
   simp only [Bool.and_eq_true,Bool.or_eq_true,Bool.and_eq_false_iff,Bool.or_eq_false_iff,Bool.not_eq_true',Bool.not_eq_false',decide_eq_true_eq,decide_eq_false_iff_not] at hg5'
   refine AF.step (v:=(pP b1 2)) (AB rfl) (AE (j:=2) rfl rfl Tryz.underlying76 Tryz.sizeOf3 rfl (by decide) rfl) rfl (Ad rfl) (AF.step (v:=(vN t.2.2)) (AB rfl) (AM (i:=0) (v:=(vN t.2.2)) rfl rfl B4.a rfl) rfl (Ad rfl) (AF.step (v:=(pP b1 0)) (AB rfl) (AE (j:=0) rfl rfl Tryz.underlying76 Tryz.sizeOf3 rfl (by decide) rfl) rfl (Ad rfl) (AF.step (v:=(vN t.1)) (AB rfl) (AM (i:=0) (v:=(vN t.1)) rfl rfl B4.a rfl) rfl (Ad rfl) (AF.step (v:=(Value.bool (decide (t.2.2=t.1)))) (AB rfl) (Be (c:=(decide (t.2.2=t.1))) rfl rfl (Og (a:=t.2.2) (b:=t.1))) rfl (Ad rfl) (AJ (v:=(Value.bool (decide (t.2.2=t.1)))) (AV rfl rfl) rfl ?_)))))
   exact AF.nil (AC.mid (sS rfl (sS rfl (sS rfl (sS rfl (sS rfl (sS rfl (sS rfl (sS rfl (sS rfl (sS rfl (sS rfl (sS rfl (sS rfl (sS rfl (sS rfl (sS rfl (sS (by first|rfl|(rw [hg5];rfl)|rw [hg5]) (sS (by first|rfl|(rw [hg5];rfl)|rw [hg5]) (sN))))))))))))))))))) (List.Sublist.refl _))
 exact AK rfl (AF.nil (AC.subF (sL [3] rfl) (AC.then_ (AG.ret (AR rfl (Ai (v:=(Value.bool ((((((!(decide (t.1<n)))||(!(decide (t.2.1<n))))||(!(decide (t.2.2<n))))||(decide (t.1=t.2.1)))||(decide (t.2.1=t.2.2)))||(decide (t.2.2=t.1))))) rfl) (λw hw=>⟨by congr 2;rw [Bool.eq_iff_iff];simp [Lk]<;>omega,hw.out⟩))))))
theorem Xc (n:Nat) (bo:BX [vN n]) (ts:List (Nat×Nat×Nat)) (x:RX (rowsL Al ts) ts.length) (hl:ts.length<4611686018427387904) (w:World) {S:Nat->Prop} (hbo:Ro S w bo) (hx:Ro S w x):Calls Tryz.prog 213 #[(Value.slice x.p ts.length x.c),(Value.func (.func 171) #[] #[(pP bo.b 0)])] w (Am w (vI (idxB n ts 0))):=by
 have lbo:=FS (W:=w) hbo
 have lx:=FS (W:=w) hx
 refine BH (args:=[(Value.slice x.p ts.length x.c),(Value.func (.func 171) #[] #[(pP bo.b 0)])]) (L:=[Ag (some ⟨bo.b,0,none⟩) ([(vN n)]),Ag x.p (rowsL Al ts)]) Tryz.func213 rfl rfl (Ad rfl) (FP hbo (FP hx BY)) (AG.subF (sL [0,1] rfl) (q4 (AK rfl (AF.nil (q1 ?_)))))
 refine q4 (AO rfl (AJ (v:=(vN ts.length)) (AI rfl Tryz.underlying28) rfl (AO rfl (AF.nil (AC.subF (sL [0,1,4,7,8] rfl) ?_)))))
 refine AC.then_ (AG.block ?_)
 refine AG.lp1 (tg λ(j:Nat)=>j<=ts.length/\idxB n ts 0=idxB n (ts.drop j) j) (tg λ(j:Nat)=>[(0,(Value.slice x.p ts.length x.c)),(1,(Value.func (.func 171) #[] #[(pP bo.b 0)])),(7,(vN ts.length)),(8,(vN j))]) (tg λ(j:Nat)=>[Ag (some ⟨bo.b,0,none⟩) ([(vN n)]),Ag x.p (rowsL Al ts)]) (tg λ(j:Nat)=>ts.length-j) 0 (⟨Nat.zero_le _,rfl⟩) (sF rfl) sr (λj hJ=>?_)
 obtain ⟨hj,he⟩:=hJ
 refine q4 (AJ (Af (c:=(decide (j<ts.length))) rfl rfl (DL (a:=j) (b:=ts.length))) rfl (AF.nil (q1 ?_)))
 refine AG.cond rfl (λhc0=>?_) (λhc0=>?_)
 ·replace hc0:=of_decide_eq_true hc0
  refine AG.skip (q1 (AG.block (q4 (AO rfl (AK rfl ?_)))))
  refine q3 (sL [0,1,7,8,5] rfl) (AO rfl (AO rfl (AO rfl (AJ (v:=(pP (pB x.p) (pO x.p+j*3))) (AW (j:=j) rfl rfl x.ok Tryz.underlying28 Tryz.sizeOf76 rfl (by omega)) rfl (AJ (v:=(aG (Al (ts.getD j ((0,0,0):Nat×Nat×Nat))))) (AU (vs:=Al (ts.getD j ((0,0,0):Nat×Nat×Nat))) (i:=1) rfl rfl (BQ.ne x.ok (by omega)) Ip (Au A6 _ _ _ (by omega)) (A6 _)) rfl ?_)))))
  refine AF.call (v:=(Value.bool (!Lk n (ts.getD j ((0,0,0):Nat×Nat×Nat))))) (AN rfl) (F9 (args:=[(aG (Al (ts.getD j ((0,0,0):Nat×Nat×Nat))))]) (caps:=[(pP bo.b 0)]) (all:=[(aG (Al (ts.getD j ((0,0,0):Nat×Nat×Nat)))),(pP bo.b 0)]) rfl rfl rfl Tryz.call171) (λw hw=>S7 (ts.getD j ((0,0,0):Nat×Nat×Nat)) n bo w (Dn hw 0 rfl lbo)) rfl (Ad rfl) (AF.nil (AC.subF (sL [0,1,7,8,5,16] rfl) (AC.then_ ?_)))
  refine AG.cond rfl (λhc1=>?_) (λhc1=>?_)
  ·simp only [Bool.and_eq_true,Bool.or_eq_true,Bool.and_eq_false_iff,Bool.or_eq_false_iff,Bool.not_eq_true',Bool.not_eq_false',decide_eq_true_eq,decide_eq_false_iff_not] at hc1
   have hfin:=he.trans (SI (by omega) (by simpa using hc1))
   refine q4 (AO rfl (AK rfl (AF.nil (AC.subF (sL [0,1,7,8,5,4] rfl) (AC.then_ ?_)))))
   exact AG.ret (AC.in_ret (AC.then_ret (AC.round1_ret (AC.in_ret (AC.then_ret (AR rfl (Ai (v:=(vN j)) rfl) (λw hw=>⟨by rw [hfin],hw.out⟩)))))))
  ·simp only [Bool.and_eq_true,Bool.or_eq_true,Bool.and_eq_false_iff,Bool.or_eq_false_iff,Bool.not_eq_true',Bool.not_eq_false',decide_eq_true_eq,decide_eq_false_iff_not] at hc1
   refine AG.skip (AC.in_normal (AC.then_ (AG.region (AJ (AX (c:=((j+1:Nat):Int)) rfl rfl (Ab (a:=j) (b:=1) (by omega))) rfl (AO rfl ?_)))))
   exact AF.nil (AC.subF (sL [0,1,7,8,5] rfl) (AC.round1 (j+1) (⟨by omega,he.trans (Rn (by omega) (by simpa using hc1))⟩) (by omega) (sF rfl) sr))
 ·replace hc0:=of_decide_eq_false hc0
  have hfin:=he.trans (US hc0)
  refine AG.exit (AC.then_exit (AC.round1_exit (AC.in_exit (q2 (AK rfl ?_)))))
  exact AF.nil (AC.then_ (AG.ret (AR rfl (Ai (v:=(vI (-1:Int))) rfl) (λw hw=>⟨by rw [hfin],hw.out⟩))))
theorem We (n:Nat) (bo:BX [vN n]) (ts:List (Nat×Nat×Nat)) (x:RX (rowsL Al ts) ts.length) (hl:ts.length<4611686018427387904) (w:World) {S:Nat->Prop} (hbo:Ro S w bo) (hx:Ro S w x):Calls Tryz.prog 170 #[(Value.slice x.p ts.length x.c),(Value.func (.func 171) #[] #[(pP bo.b 0)])] w (Am w (Value.bool (!B5 n ts))):=by
 have lbo:=FS (W:=w) hbo
 have lx:=FS (W:=w) hx
 refine BH (args:=[(Value.slice x.p ts.length x.c),(Value.func (.func 171) #[] #[(pP bo.b 0)])]) (L:=[Ag (some ⟨bo.b,0,none⟩) ([(vN n)]),Ag x.p (rowsL Al ts)]) Tryz.func170 rfl rfl (Ad rfl) (FP hbo (FP hx BY)) (AG.subF (sL [0,1] rfl) (q4 (AK rfl (AF.nil (q2 ?_)))))
 refine AO rfl (AO rfl (Ey Tryz.call213 (λw hw=>Xc n bo ts x hl w (Dn hw 0 rfl lbo) (Dn hw 1 rfl lx)) rfl (AJ (DT (c:=(!B5 n ts)) rfl rfl (Lu n ts 0)) rfl (AK rfl (AF.nil ?_)))))
 exact AC.subF (sL [4] rfl) (AC.then_ (AG.ret (AR rfl (Ai (v:=(Value.bool (!B5 n ts))) rfl) (λw hw=>⟨rfl,hw.out⟩))))
theorem P9 (n:Nat) (ts:List (Nat×Nat×Nat)) (x:RX (rowsL Al ts) ts.length) (hl:ts.length<4611686018427387904) (w:World) {S:Nat->Prop} (hx:Ro S w x):Calls Tryz.prog 116 #[(Value.slice x.p ts.length x.c),(vN n)] w (Am w (Value.bool (B5 n ts))):=by
 have lx:=FS (W:=w) hx
 refine BH (args:=[(Value.slice x.p ts.length x.c),(vN n)]) (L:=[Ag x.p (rowsL Al ts)]) Tryz.func116 rfl rfl (Ad rfl) (FP hx BY) (AG.subF (sL [0,1] rfl) (q4 (Bl (cs:=[(vN n)]) rfl λb1=>AF.frzX 0 rfl rfl λhnb1=>AK rfl ?_)))
 refine q3 (sL [0,3,4] rfl) (AO rfl (AJ (v:=(Value.func (.func 171) #[] #[(pP b1 0)])) (EO (vs:=[]) (us:=[(pP b1 0)]) rfl rfl) rfl (Ey Tryz.call170 (λw hw=>We n ⟨b1⟩ ts x hl w (VE (x:=(⟨b1⟩:BX [vN n])) hw 0 rfl hnb1) (Dn hw 1 rfl lx)) rfl (AJ (Bi (c:=(!(!B5 n ts))) rfl rfl) rfl (AK rfl ?_)))))
 exact AF.nil (AC.subF (sL [4] rfl) (AC.then_ (AG.ret (AR rfl (Ai (v:=(Value.bool (!(!B5 n ts)))) rfl) (λw hw=>⟨by simp,hw.out⟩)))))
theorem M8 {ps:List Pt} {ts ss:List (Nat×Nat×Nat)} (x:MX ps ts ss) (hl:ts.length<4611686018427387904) (w:World) {S:Nat->Prop} (hx:Ro S w x):Calls Tryz.prog 46 #[(aG (CG x))] w (Am w (Value.bool (B5 ps.length ts))):=by
 have lx:=FS (W:=w) hx
 refine BH (args:=[(aG (CG x))]) (L:=[Ag x.a.p (rowsL Ae ps),Ag x.b.p (rowsL Al ts),Ag x.c.p (rowsL Al ss)]) Tryz.func46 rfl rfl (Ad rfl) (FP hx BY) (AG.subF (sL [0] rfl) (q4 (Bl (cs:=CG x) rfl λb1=>AK rfl (q3 (sL [1,2] rfl) ?_))))
 refine AJ (v:=(pP b1 1)) (AA rfl Tryz.underlying31 rfl Tryz.sizeOf28 rfl) rfl (BL 0 (Value.slice x.b.p ts.length x.b.c) Dc rfl (AJ (v:=(pP b1 0)) (AA rfl Tryz.underlying31 rfl Tryz.sizeOf27 rfl) rfl (BL 0 (Value.slice x.a.p ps.length x.a.c) C2 rfl (AJ (v:=(vN ps.length)) (AI rfl Tryz.underlying27) rfl (Ey Tryz.call116 (λw hw=>P9 ps.length ts x.b hl w (VV (Dn hw 1 rfl lx))) rfl ?_)))))
 exact AK rfl (AF.nil (AC.subF (sL [2] rfl) (AC.then_ (AG.ret (AR rfl (Ai (v:=(Value.bool (B5 ps.length ts))) rfl) (λw hw=>⟨rfl,hw.out⟩))))))
theorem HS {ps:List Pt} {ts ss:List (Nat×Nat×Nat)} (x:MX ps ts ss) (t:Nat) (ht:t<ts.length) (hk:Lk ps.length (ts.getD t (0,0,0))=true) (w:World) {S:Nat->Prop} (hx:Ro S w x):Calls Tryz.prog 21 #[(aG (CG x)),(vN t)] w (Am w (Value.tuple #[(aG (Ae (cor ps (ts.getD t (0,0,0)).1))),(aG (Ae (cor ps (ts.getD t (0,0,0)).2.1))),(aG (Ae (cor ps (ts.getD t (0,0,0)).2.2)))])):=by
 obtain ⟨k1,k2,k3⟩:=DH hk
 have lx:=FS (W:=w) hx
 refine BH (args:=[(aG (CG x)),(vN t)]) (L:=[Ag x.a.p (rowsL Ae ps),Ag x.b.p (rowsL Al ts),Ag x.c.p (rowsL Al ss)]) Tryz.func21 rfl rfl (Ad rfl) (FP hx BY) (AG.subF (sL [0,1] rfl) (q4 (Bl (cs:=CG x) rfl λb1=>al EM rfl λb2=>al EM rfl λb3=>?_)))
 refine al EM rfl λb4=>q6 (sL [1,2,4,5,6] rfl) (q4 (AO rfl (AJ (Af (c:=false) rfl rfl (by simp)) rfl (AO rfl ?_))))
 refine AF.step (v:=(vN t)) (AB rfl) (A9 rfl) rfl (Ad rfl) (AF.step (v:=(pP b1 1)) (AB rfl) (AA rfl Tryz.underlying31 rfl Tryz.sizeOf28 rfl) rfl (Ad rfl) (AF.step (v:=(Value.slice x.b.p ts.length x.b.c)) (AB rfl) (AM (i:=3) (v:=(Value.slice x.b.p ts.length x.b.c)) rfl rfl Dc.a rfl) rfl (Ad rfl) (AF.step (v:=(vN ts.length)) (AB rfl) (AI rfl Tryz.underlying28) rfl (Ad rfl) (AF.step (v:=(Value.bool false)) (AB rfl) (DT (c:=false) rfl rfl (by simp;omega)) rfl (Ad rfl) (AJ (v:=(Value.bool false)) (AV rfl rfl) rfl ?_)))))
 refine AF.nil (AC.subF (sL [1,2,4,5,6,17] rfl) (AC.then_ (AG.cond_false rfl (AG.skip (q1 ?_)))))
 refine Cq [(0,true),(1,true),(2,true),(3,true),(4,true),(5,true),(6,true),(7,true),(8,false),(9,false),(10,true)] sr (Av (v:=(pP b1 1)) rfl (AA rfl Tryz.underlying31 rfl Tryz.sizeOf28 rfl) (Bg 3 (Value.slice x.b.p ts.length x.b.c) Dc rfl (Bc rfl (Av (v:=(pP (pB x.b.p) (pO x.b.p+t*3))) rfl (AW (j:=t) rfl rfl x.b.ok Tryz.underlying28 Tryz.sizeOf76 rfl (by omega)) (Av (v:=(aG (Al (ts.getD t ((0,0,0):Nat×Nat×Nat))))) rfl (AU (vs:=Al (ts.getD t ((0,0,0):Nat×Nat×Nat))) (i:=5) rfl rfl (BQ.ne x.b.ok (by omega)) Ip (Au A6 _ _ _ (by omega)) (A6 _)) ?_)))))
 refine Av (v:=(pP b1 0)) rfl (AA rfl Tryz.underlying31 rfl Tryz.sizeOf27 rfl) (Bg 3 (Value.slice x.a.p ps.length x.a.c) C2 rfl (Av (v:=(vN ps.length)) rfl (AI rfl Tryz.underlying27) (AS.imp rfl (al ON rfl λb5=>AS.back (sl sr) ?_))))
 refine AS.imp rfl (Ap rfl Tryz.sizeOf76 rfl (AS.back (sl sr) (FO rfl (AS.nil (AC.subF (sL [1,2,4,5,6,7,8] rfl) ?_)))))
 refine q1 (q4 (AJ (v:=(pP b5 0)) (AE (j:=0) rfl rfl Tryz.underlying76 Tryz.sizeOf3 rfl (by decide) rfl) rfl (BL 0 (vN ((ts.getD t ((0,0,0):Nat×Nat×Nat)).1)) B4 rfl (AO rfl (Ey (args:=[(vN ((ts.getD t ((0,0,0):Nat×Nat×Nat)).1)),(vN ps.length)]) (v:=(Value.bool true)) Tryz.call61 (λw hw=>(by have h9:=DG ((ts.getD t ((0,0,0):Nat×Nat×Nat)).1) ps.length w;rw [decide_eq_true (by omega)] at h9;exact h9)) rfl ?_)))))
 refine AJ (Bi (c:=false) rfl rfl) rfl (AO rfl (AF.step (v:=(pP b5 1)) (AB rfl) (AE (j:=1) rfl rfl Tryz.underlying76 Tryz.sizeOf3 rfl (by decide) rfl) rfl (Ad rfl) (AF.step (v:=(vN ((ts.getD t ((0,0,0):Nat×Nat×Nat)).2.1))) (AB rfl) (AM (i:=0) (v:=(vN ((ts.getD t ((0,0,0):Nat×Nat×Nat)).2.1))) rfl rfl B4.a rfl) rfl (Ad rfl) (AF.step (v:=(vN ps.length)) (AB rfl) (A9 rfl) rfl (Ad rfl) (AF.call (v:=(Value.bool true)) (AB rfl) (Aq (args:=[(vN ((ts.getD t ((0,0,0):Nat×Nat×Nat)).2.1)),(vN ps.length)]) rfl rfl Tryz.call61) (λw hw=>(by have h9:=DG ((ts.getD t ((0,0,0):Nat×Nat×Nat)).2.1) ps.length w;rw [decide_eq_true (by omega)] at h9;exact h9)) rfl (Ad rfl) ?_)))))
 refine AF.step (v:=(Value.bool false)) (AB rfl) (Bi (c:=false) rfl rfl) rfl (Ad rfl) (AJ (v:=(Value.bool false)) (AV rfl rfl) rfl (AO rfl (AF.step (v:=(pP b5 2)) (AB rfl) (AE (j:=2) rfl rfl Tryz.underlying76 Tryz.sizeOf3 rfl (by decide) rfl) rfl (Ad rfl) (AF.step (v:=(vN ((ts.getD t ((0,0,0):Nat×Nat×Nat)).2.2))) (AB rfl) (AM (i:=0) (v:=(vN ((ts.getD t ((0,0,0):Nat×Nat×Nat)).2.2))) rfl rfl B4.a rfl) rfl (Ad rfl) (AF.step (v:=(vN ps.length)) (AB rfl) (A9 rfl) rfl (Ad rfl) ?_)))))
 refine AF.call (v:=(Value.bool true)) (AB rfl) (Aq (args:=[(vN ((ts.getD t ((0,0,0):Nat×Nat×Nat)).2.2)),(vN ps.length)]) rfl rfl Tryz.call61) (λw hw=>(by have h9:=DG ((ts.getD t ((0,0,0):Nat×Nat×Nat)).2.2) ps.length w;rw [decide_eq_true (by omega)] at h9;exact h9)) rfl (Ad rfl) (AF.step (v:=(Value.bool false)) (AB rfl) (Bi (c:=false) rfl rfl) rfl (Ad rfl) (AJ (v:=(Value.bool false)) (AV rfl rfl) rfl (AF.nil (AC.subF (sL [1,2,4,5,6,7,47] rfl) (AC.then_ ?_)))))
 refine AG.cond_false rfl (AG.skip (q1 (Cq [(0,true),(1,true),(2,true),(3,true),(4,true),(5,true),(6,true),(7,true),(8,true),(9,true),(10,true),(11,true),(12,true),(13,true),(14,true),(15,true),(16,true),(17,true),(18,false),(19,false),(20,false)] (sk (sl (sl (sl sr)))) (Av (v:=(pP b1 0)) rfl (AA rfl Tryz.underlying31 rfl Tryz.sizeOf27 rfl) (Bg 1 (Value.slice x.a.p ps.length x.a.c) C2 rfl ?_)))))
 refine Av (v:=(pP b5 0)) rfl (AE (j:=0) rfl rfl Tryz.underlying76 Tryz.sizeOf3 rfl (by decide) rfl) (Bg 0 (vN ((ts.getD t ((0,0,0):Nat×Nat×Nat)).1)) B4 rfl (Av (v:=(pP (pB x.a.p) (pO x.a.p+((ts.getD t ((0,0,0):Nat×Nat×Nat)).1)*10))) rfl (AW (j:=(ts.getD t ((0,0,0):Nat×Nat×Nat)).1) rfl rfl x.a.ok Tryz.underlying27 Tryz.sizeOf55 rfl (by omega)) (Av (v:=(aG (Ae (ps.getD ((ts.getD t ((0,0,0):Nat×Nat×Nat)).1) (⟨0,0⟩:Pt))))) rfl (AU (vs:=Ae (ps.getD ((ts.getD t ((0,0,0):Nat×Nat×Nat)).1) (⟨0,0⟩:Pt))) (i:=2) rfl rfl (BQ.ne x.a.ok (by omega)) BC (Au BI _ _ _ (by omega)) (BI _)) (Av (v:=(pP b1 0)) rfl (AA rfl Tryz.underlying31 rfl Tryz.sizeOf27 rfl) (Bg 1 (Value.slice x.a.p ps.length x.a.c) C2 rfl ?_)))))
 refine Av (v:=(pP b5 1)) rfl (AE (j:=1) rfl rfl Tryz.underlying76 Tryz.sizeOf3 rfl (by decide) rfl) (Bg 0 (vN ((ts.getD t ((0,0,0):Nat×Nat×Nat)).2.1)) B4 rfl (Av (v:=(pP (pB x.a.p) (pO x.a.p+((ts.getD t ((0,0,0):Nat×Nat×Nat)).2.1)*10))) rfl (AW (j:=(ts.getD t ((0,0,0):Nat×Nat×Nat)).2.1) rfl rfl x.a.ok Tryz.underlying27 Tryz.sizeOf55 rfl (by omega)) (Av (v:=(aG (Ae (ps.getD ((ts.getD t ((0,0,0):Nat×Nat×Nat)).2.1) (⟨0,0⟩:Pt))))) rfl (AU (vs:=Ae (ps.getD ((ts.getD t ((0,0,0):Nat×Nat×Nat)).2.1) (⟨0,0⟩:Pt))) (i:=2) rfl rfl (BQ.ne x.a.ok (by omega)) BC (Au BI _ _ _ (by omega)) (BI _)) (Av (v:=(pP b1 0)) rfl (AA rfl Tryz.underlying31 rfl Tryz.sizeOf27 rfl) (Bg 1 (Value.slice x.a.p ps.length x.a.c) C2 rfl ?_)))))
 refine Av (v:=(pP b5 2)) rfl (AE (j:=2) rfl rfl Tryz.underlying76 Tryz.sizeOf3 rfl (by decide) rfl) (Bg 0 (vN ((ts.getD t ((0,0,0):Nat×Nat×Nat)).2.2)) B4 rfl (Av (v:=(pP (pB x.a.p) (pO x.a.p+((ts.getD t ((0,0,0):Nat×Nat×Nat)).2.2)*10))) rfl (AW (j:=(ts.getD t ((0,0,0):Nat×Nat×Nat)).2.2) rfl rfl x.a.ok Tryz.underlying27 Tryz.sizeOf55 rfl (by omega)) (Av (v:=(aG (Ae (ps.getD ((ts.getD t ((0,0,0):Nat×Nat×Nat)).2.2) (⟨0,0⟩:Pt))))) rfl (AU (vs:=Ae (ps.getD ((ts.getD t ((0,0,0):Nat×Nat×Nat)).2.2) (⟨0,0⟩:Pt))) (i:=2) rfl rfl (BQ.ne x.a.ok (by omega)) BC (Au BI _ _ _ (by omega)) (BI _)) (AS.imp rfl (KM rfl Tryz.sizeOf55 rfl ?_)))))
 refine AS.back (sk (sl (sl (sl sr)))) (AS.imp rfl (L4 rfl Tryz.sizeOf55 rfl (AS.back (sk (sl (sl (sl sr)))) (AS.imp rfl (Cr rfl Tryz.sizeOf55 rfl ?_)))))
 exact AS.back (sk (sl (sl (sl sr)))) (AS.nil (AC.subF (sL [1,2,4,5,6,7] rfl) (AC.then_ (AG.ret (E8 rfl (Ay (i:=3) (cs:=Ae (ps.getD ((ts.getD t ((0,0,0):Nat×Nat×Nat)).1) (⟨0,0⟩:Pt))) rfl rfl Tryz.isAgg55 Tryz.sizeOf55 rfl) (Ay (i:=2) (cs:=Ae (ps.getD ((ts.getD t ((0,0,0):Nat×Nat×Nat)).2.1) (⟨0,0⟩:Pt))) rfl rfl Tryz.isAgg55 Tryz.sizeOf55 rfl) (Ay (i:=1) (cs:=Ae (ps.getD ((ts.getD t ((0,0,0):Nat×Nat×Nat)).2.2) (⟨0,0⟩:Pt))) rfl rfl Tryz.isAgg55 Tryz.sizeOf55 rfl) (λw hw=>⟨rfl,hw.out⟩))))))
end
section
set_option maxRecDepth 100000
theorem UB (a:Nat) (w:World)  :Calls Tryz.prog 176 #[(vN a)] w (Am w (Value.bool false)):=by
 refine Ac (args:=[(vN a)]) Tryz.func176 rfl rfl (Ad rfl) (AG.subF (sL [0] rfl) (q4 (AK rfl (AF.nil (q2 ?_)))))
 refine AO rfl (AO rfl (AJ (B8 (c:=false) rfl rfl (by simp)) rfl (AK rfl (AF.nil (AC.subF (sL [2] rfl) ?_)))))
 exact AC.then_ (AG.ret (AR rfl (Ai (v:=(Value.bool false)) rfl) (λw hw=>⟨rfl,hw.out⟩)))
theorem P6 (a b:Nat) (w:World)  :Calls Tryz.prog 127 #[(vN a),(vN b)] w (Am w (vI (EG a b))):=by
 refine Ac (args:=[(vN a),(vN b)]) Tryz.func127 rfl rfl (Ad rfl) (AG.subF (sL [0,1] rfl) (q4 (AK rfl (AF.nil (q2 ?_)))))
 refine AO rfl (BU Tryz.call176 (UB a) rfl (AK rfl (q3 (sL [0,1,4,5] rfl) (AO rfl (BU Tryz.call176 (UB b) rfl ?_)))))
 refine AK rfl (q6 (sL [0,1,4,5,6] rfl) (q4 (AO rfl (AF.nil (AC.subF (sL [0,1,4,6,11] rfl) ?_)))))
 refine AC.then_ (AG.cond_false rfl (AG.skip (q1 (q4 (AO rfl ?_)))))
 refine AF.nil (AC.subF (sL [0,1,4,6,13] rfl) (AC.then_ (AG.cond_false rfl (AG.skip (q1 ?_)))))
 refine q4 (AO rfl (AO rfl (AJ (Af (c:=(decide (a<b))) rfl rfl (DL (a:=a) (b:=b))) rfl (AF.nil (AC.subF (sL [0,1,4,6,16] rfl) ?_)))))
 refine AC.then_ ?_
 refine AG.cond rfl (λhc3=>?_) (λhc3=>?_)
 ·replace hc3:=of_decide_eq_true hc3
  have hr:=Qe hc3
  exact q4 (AK rfl (AF.nil (AC.then_ (AG.ret (AC.then_ret (AR rfl (Ai (v:=(vI (-1:Int))) rfl) (λw hw=>⟨by rw [hr]<;>rfl,hw.out⟩)))))))
 ·replace hc3:=of_decide_eq_false hc3
  refine AG.skip (q1 (q4 (AO rfl (AO rfl (AJ (CK (c:=(decide (b<a))) rfl rfl (DL (a:=b) (b:=a))) rfl ?_)))))
  refine AF.nil (AC.subF (sL [0,1,4,6,19] rfl) (AC.then_ ?_))
  refine AG.cond rfl (λhc4=>?_) (λhc4=>?_)
  ·replace hc4:=of_decide_eq_true hc4
   have hr:=P1 hc3 hc4
   exact q4 (AK rfl (AF.nil (AC.then_ (AG.ret (AC.then_ret (AR rfl (Ai (v:=(vI 1)) rfl) (λw hw=>⟨by rw [hr]<;>rfl,hw.out⟩)))))))
  ·replace hc4:=of_decide_eq_false hc4
   have hr:=Pz hc3 hc4
   exact AG.skip (q2 (AK rfl (AF.nil (AC.then_ (AG.ret (AR rfl (Ai (v:=(vI 0)) rfl) (λw hw=>⟨by rw [hr]<;>rfl,hw.out⟩)))))))
theorem Uv (a b:Int) (g:Nat) (w:World) (hg:w.heap[g]?=some (.cells ([(vI a),(vI b)]).toArray 3 (0,0))):Calls Tryz.prog 126 #[(Value.slice (some ⟨g,0,none⟩) 2 2)] w (λe w'=>e=.returned (Value.int .i64 (TI a b))/\KZ w w' (some g)/\w'.heap[g]?=some (.cells ([(vI a),(vI b)]).toArray 3 (0,0))):=by
 refine E3 (args:=[(Value.slice (some ⟨g,0,none⟩) 2 2)]) (g:=g) (T:=3) (cs:=[(vI a),(vI b)]) Tryz.func126 rfl rfl (Ad rfl) hg (AG.subF (sL [0] rfl) (q4 (AK rfl (AF.nil (q2 ?_)))))
 refine AK rfl (AF.nil (q1 (q4 (AO rfl (AJ (v:=(vI 2)) (AI rfl Tryz.underlying33) rfl ?_)))))
 refine AO rfl (AF.nil (AC.subF (sL [2,3,6,7,8] rfl) (AC.then_ (AG.block (AG.unroll 4 ?_)))))
 refine Dr.step (q4 (AJ (Af (c:=true) rfl rfl (by decide)) rfl (AF.nil (q1 (AG.cond_true rfl ?_)))))
 refine AG.skip (q1 (AG.block (q4 (AJ (v:=(pP g 0)) (AH (j:=0) rfl rfl Tryz.underlying33 Tryz.sizeOf3 rfl (by omega) rfl) rfl (BL 0 (vI a) B4 rfl ?_)))))
 refine AK rfl (q3 (sL [2,3,6,7,8,5] rfl) (AO rfl (AO rfl (AJ (B8 (c:=(decide (a≠(0:Int)))) rfl rfl rfl) rfl (AF.nil ?_)))))
 refine AC.subF (sL [2,3,6,7,8,5,14] rfl) (AC.then_ ?_)
 refine AG.cond rfl (λhc1=>?_) (λhc1=>?_)
 ·replace hc1:=of_decide_eq_true hc1
  have hr:TI a b=a:=if_pos hc1
  refine q4 (AO rfl (AK rfl (AF.nil (AC.subF (sL [2,3,6,7,8,5] rfl) (AC.then_ ?_)))))
  exact AG.ret (AC.in_ret (AC.then_ret (AC.then_ret (AC.in_ret (AC.then_ret (AR rfl (Ai (v:=(vI a)) rfl) (λw hw=>⟨by rw [hr]<;>rfl,hw.1,hw.get (i:=0) rfl⟩)))))))
 ·replace hc1:=of_decide_eq_false hc1
  have hq:=hc1
  refine AG.skip (AC.in_normal (AC.then_ (AG.region (AJ (AX (c:=(1:Int)) rfl rfl (by decide)) rfl (AO rfl ?_)))))
  refine AF.nil (AC.subF (sL [2,3,6,7,8,5] rfl) (AC.again (Dr.step (q4 (AJ (Af (c:=true) rfl rfl (by decide)) rfl ?_)))))
  refine AF.nil (q1 (AG.cond_true rfl (AG.skip (q1 (AG.block ?_)))))
  refine q4 (AJ (v:=(pP g 1)) (AH (j:=1) rfl rfl Tryz.underlying33 Tryz.sizeOf3 rfl (by omega) rfl) rfl (BL 0 (vI b) B4 rfl (AK rfl (q3 (sL [2,3,6,7,8,5] rfl) (AO rfl ?_)))))
  refine AO rfl (AJ (B8 (c:=(decide (b≠(0:Int)))) rfl rfl rfl) rfl (AF.nil (AC.subF (sL [2,3,6,7,8,5,14] rfl) (AC.then_ ?_))))
  refine AG.cond rfl (λhc1=>?_) (λhc1=>?_)
  ·replace hc1:=of_decide_eq_true hc1
   have hr:TI a b=b:=by rw [TI,if_neg hq,if_pos hc1]
   refine q4 (AO rfl (AK rfl (AF.nil (AC.subF (sL [2,3,6,7,8,5] rfl) (AC.then_ ?_)))))
   exact AG.ret (AC.in_ret (AC.then_ret (AC.then_ret (AC.in_ret (AC.then_ret (AR rfl (Ai (v:=(vI b)) rfl) (λw hw=>⟨by rw [hr]<;>rfl,hw.1,hw.get (i:=0) rfl⟩)))))))
  ·replace hc1:=of_decide_eq_false hc1
   have hr:TI a b=0:=by rw [TI,if_neg hq,if_neg hc1]
   refine AG.skip (AC.in_normal (AC.then_ (AG.region (AJ (AX (c:=(2:Int)) rfl rfl (by decide)) rfl (AO rfl ?_)))))
   refine AF.nil (AC.subF (sL [2,3,6,7,8,5] rfl) (AC.again (Dr.step (q4 (AJ (Af (c:=false) rfl rfl (by decide)) rfl ?_)))))
   refine AF.nil (q1 (AG.cond_false rfl (AG.exit (AC.then_exit (AC.then_exit ?_)))))
   refine AC.in_exit (q2 (AO rfl (AK rfl (AF.nil (AC.subF (sL [2,3,6,7,8,5] rfl) ?_)))))
   exact AC.then_ (AG.ret (AR rfl (Ai (v:=(vI 0)) rfl) (λw hw=>⟨by rw [hr]<;>rfl,hw.1,hw.get (i:=0) rfl⟩)))
end
end Go.Proofs.YtfbomiejpbchdaaGreat
