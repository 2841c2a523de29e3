import Derived.Test.YtpolhpjiahbidaaGreatDoorPart18
import Derived.Test.YtpolhpjiahbidaaGreatDoorPart25
import Derived.Test.YtpolhpjiahbidaaGreatDoorPart31
import Derived.Test.YtpolhpjiahbidaaGreatDoorPart32
namespace Go.Proofs.YtpolhpjiahbidaaGreatDoor
open Go Go.RowKit Go.Proofs.Tryz
set_option linter.unusedVariables false
set_option linter.unusedSimpArgs false
section
set_option maxRecDepth 100000
theorem Pf {N:Nat} {ts ss:List T3} (x:RM N ts ss) (p:Nat) (w:World) {S:Nat->Prop} (hx:Ro S w x):Calls prog 57 #[(aG (FE x)),(vN p)] w (Ah w (Value.bool (decide (p<N)))):=by
 have lx:=CI (W:=w) hx
 refine AY (args:=[(aG (FE x)),(vN p)]) (L:=[AE x.a.p (x.cs),AE x.b.p (rowsL Ad ts),AE x.c.p (x.ds)]) func57 O O (AI O) (D9 hx Aj) (OkC.subF (sL [0,1] O) (q4 (Be (cs:=FE x) O λb1=>asg' O (q3 (sL [1,2,4] O) (AM O (AH (Bx (c:=(decide (0<=p))) O O (SC (a:=0) (b:=p))) O (AM O ?_)))))))
 refine OkL.mid (FM:=[(1,(vN p)),(2,(pP b1 0)),(4,(Value.bool false)),(5,(vN p)),(6,(Value.bool (decide (0<=p)))),(7,(Value.bool (decide (0<=p)))),(13,(Value.bool ((decide (0<=p))&&(decide (p<N)))))]) (LM:=[AU b1 39 (FE x),AE x.a.p (x.cs),AE x.b.p (rowsL Ad ts),AE x.c.p (x.ds)]) 6 ?_ ?_
 ·rcases Bool.eq_false_or_eq_true (decide (0<=p)) with hg1|hg1
  ·skip
   refine OkL.retell (k:=7) (u:=Value.bool true) O (by rw [hg1]) ?_
   have hg1':=hg1
   replace hg1':=of_decide_eq_true hg1'
   exact OkL.step (v:=(vN p)) (AB O) (Ai O) O (AI O) (OkL.step (v:=(pP b1 0)) (AB O) (AA O underlying39 O sizeOf36 O) O (AI O) (OkL.step (v:=(Value.slice x.a.p N x.a.c)) (AB O) (AF (i:=0) (v:=(Value.slice x.a.p N x.a.c)) O O Fj.a O) O (AI O) (OkL.step (v:=(vN N)) (AB O) (AD O underlying36) O (AI O) (OkL.step (v:=(Value.bool (decide (p<N)))) (AB O) (Ae (c:=(decide (p<N))) O O (CB (a:=p) (b:=N))) O (AI O) (AH (v:=(Value.bool (decide (p<N)))) (AO O O) O (OkL.nil (OkQ.mid (sS O (sS O (sS O (sS O (sS O (sS (by first|rfl|(rw [hg1];rfl)|rw [hg1]) (sS (by first|rfl|(rw [hg1];rfl)|rw [hg1]) (sN)))))))) (List.Sublist.refl _))))))))
  ·skip
   refine OkL.retell (k:=7) (u:=Value.bool false) O (by rw [hg1]) ?_
   have hg1':=hg1
   replace hg1':=of_decide_eq_false hg1'
   exact OkL.skip (AC O) O (AI O) (OkL.skip (AC O) O (AI O) (OkL.skip (AC O) O (AI O) (OkL.skip (AC O) O (AI O) (OkL.skip (AC O) O (AI O) (AH (v:=(Value.bool false)) (AJ O O) O (OkL.nil (OkQ.mid (sS O (sS O (sS O (sS O (sS O (sS (by first|rfl|(rw [hg1];rfl)|rw [hg1]) (sS (by first|rfl|(rw [hg1];rfl)|rw [hg1]) (sN)))))))) (List.Sublist.refl _))))))))
 exact asg' O (OkL.nil (OkQ.subF (sL [4] O) (OkQ.then_ (OkC.ret (ret_one O (rd_tmp (v:=(Value.bool ((decide (0<=p))&&(decide (p<N))))) O) (λw hw=>⟨by simp,hw.out⟩))))))
theorem I_ (t:T3) (a b:Nat) (w:World)  :Calls prog 111 #[(aG (Ad t)),(vN a),(vN b)] w (Ah w (Value.bool (Da t a b))):=by
 refine Ab (args:=[(aG (Ad t)),(vN a),(vN b)]) func111 O O (AI O) (OkC.subF (sL [0,1,2] O) (q4 (Be (cs:=Ad t) O λb1=>asg' O (q3 (sL [1,2,3,6] O) (AH (v:=(pP b1 0)) (AG (j:=0) O O underlying105 sizeOf3 O (by decide) O) O (Au 0 (vN t.1) BL O (AM O (AH (BG (c:=(decide (t.1=a))) O O (K7 (a:=t.1) (b:=a))) O (AM O ?_)))))))))
 refine OkL.mid (FM:=[(1,(vN a)),(2,(vN b)),(3,(pP b1 0)),(6,(Value.bool false)),(7,(pP b1 0)),(8,(vN t.1)),(9,(vN a)),(10,(Value.bool (decide (t.1=a)))),(11,(Value.bool (decide (t.1=a)))),(16,(Value.bool ((decide (t.1=a))&&(decide (t.2.1=b)))))]) (LM:=[AU b1 105 (Ad t)]) 5 ?_ ?_
 ·rcases Bool.eq_false_or_eq_true (decide (t.1=a)) with hg1|hg1
  ·skip
   refine OkL.retell (k:=11) (u:=Value.bool true) O (by rw [hg1]) ?_
   have hg1':=hg1
   replace hg1':=of_decide_eq_true hg1'
   exact OkL.step (v:=(pP b1 1)) (AB O) (AG (j:=1) O O underlying105 sizeOf3 O (by decide) O) O (AI O) (OkL.step (v:=(vN t.2.1)) (AB O) (AF (i:=0) (v:=(vN t.2.1)) O O BL.a O) O (AI O) (OkL.step (v:=(vN b)) (AB O) (Ai O) O (AI O) (OkL.step (v:=(Value.bool (decide (t.2.1=b)))) (AB O) (BG (c:=(decide (t.2.1=b))) O O (K7 (a:=t.2.1) (b:=b))) O (AI O) (AH (v:=(Value.bool (decide (t.2.1=b)))) (AO O O) O (OkL.nil (OkQ.mid (sS O (sS O (sS O (sS O (sS O (sS O (sS O (sS O (sS (by first|rfl|(rw [hg1];rfl)|rw [hg1]) (sS (by first|rfl|(rw [hg1];rfl)|rw [hg1]) (sN))))))))))) (List.Sublist.refl _)))))))
  ·skip
   refine OkL.retell (k:=11) (u:=Value.bool false) O (by rw [hg1]) ?_
   have hg1':=hg1
   replace hg1':=of_decide_eq_false hg1'
   exact OkL.skip (AC O) O (AI O) (OkL.skip (AC O) O (AI O) (OkL.skip (AC O) O (AI O) (OkL.skip (AC O) O (AI O) (AH (v:=(Value.bool false)) (AJ O O) O (OkL.nil (OkQ.mid (sS O (sS O (sS O (sS O (sS O (sS O (sS O (sS O (sS (by first|rfl|(rw [hg1];rfl)|rw [hg1]) (sS (by first|rfl|(rw [hg1];rfl)|rw [hg1]) (sN))))))))))) (List.Sublist.refl _)))))))
 refine AM O ?_
 refine OkL.mid (FM:=[(1,(vN a)),(2,(vN b)),(3,(pP b1 0)),(6,(Value.bool false)),(7,(pP b1 0)),(8,(vN t.1)),(9,(vN a)),(10,(Value.bool (decide (t.1=a)))),(11,(Value.bool (decide (t.1=a)))),(16,(Value.bool ((decide (t.1=a))&&(decide (t.2.1=b))))),(17,(Value.bool ((decide (t.1=a))&&(decide (t.2.1=b))))),(28,(Value.bool (((decide (t.1=a))&&(decide (t.2.1=b)))||((decide (t.2.1=a))&&(decide (t.2.2=b))))))]) (LM:=[AU b1 105 (Ad t)]) 11 ?_ ?_
 ·rcases Bool.eq_false_or_eq_true ((decide (t.1=a))&&(decide (t.2.1=b))) with hg2|hg2
  ·skip
   refine OkL.retell (k:=17) (u:=Value.bool true) O (by rw [hg2]) ?_
   have hg2':=hg2
   simp only [Bool.and_eq_true,Bool.or_eq_true,Bool.and_eq_false_iff,Bool.or_eq_false_iff,Bool.not_eq_true',Bool.not_eq_false',decide_eq_true_eq,decide_eq_false_iff_not] at hg2'
   exact OkL.skip (AC O) O (AI O) (OkL.skip (AC O) O (AI O) (OkL.skip (AC O) O (AI O) (OkL.skip (AC O) O (AI O) (OkL.skip (AC O) O (AI O) (OkL.skip (BP O O O) O (AI O) (OkL.skip (BP O O O) O (AI O) (OkL.skip (BP O O O) O (AI O) (OkL.skip (BP O O O) O (AI O) (OkL.skip (AC O) O (AI O) (AH (v:=(Value.bool true)) (AO O O) O (OkL.nil (OkQ.mid (sS O (sS O (sS O (sS O (sS O (sS O (sS O (sS O (sS O (sS O (sS (by first|rfl|(rw [hg2];rfl)|rw [hg2]) (sS (by first|rfl|(rw [hg2];rfl)|rw [hg2]) (sN))))))))))))) (List.Sublist.refl _)))))))))))))
  ·skip
   refine OkL.retell (k:=17) (u:=Value.bool false) O (by rw [hg2]) ?_
   have hg2':=hg2
   simp only [Bool.and_eq_true,Bool.or_eq_true,Bool.and_eq_false_iff,Bool.or_eq_false_iff,Bool.not_eq_true',Bool.not_eq_false',decide_eq_true_eq,decide_eq_false_iff_not] at hg2'
   refine OkL.step (v:=(pP b1 1)) (AB O) (AG (j:=1) O O underlying105 sizeOf3 O (by decide) O) O (AI O) (OkL.step (v:=(vN t.2.1)) (AB O) (AF (i:=0) (v:=(vN t.2.1)) O O BL.a O) O (AI O) (OkL.step (v:=(vN a)) (AB O) (Ai O) O (AI O) (OkL.step (v:=(Value.bool (decide (t.2.1=a)))) (AB O) (BG (c:=(decide (t.2.1=a))) O O (K7 (a:=t.2.1) (b:=a))) O (AI O) (OkL.step (v:=(Value.bool (decide (t.2.1=a)))) (AB O) (Ai O) O (AI O) ?_))))
   refine OkL.mid (FM:=[(1,(vN a)),(2,(vN b)),(3,(pP b1 0)),(6,(Value.bool false)),(7,(pP b1 0)),(8,(vN t.1)),(9,(vN a)),(10,(Value.bool (decide (t.1=a)))),(11,(Value.bool (decide (t.1=a)))),(16,(Value.bool ((decide (t.1=a))&&(decide (t.2.1=b))))),(17,(Value.bool false)),(18,(pP b1 1)),(19,(vN t.2.1)),(20,(vN a)),(21,(Value.bool (decide (t.2.1=a)))),(22,(Value.bool (decide (t.2.1=a)))),(27,(Value.bool ((decide (t.2.1=a))&&(decide (t.2.2=b)))))]) (LM:=[AU b1 105 (Ad t)]) 5 ?_ ?_
   ·rcases Bool.eq_false_or_eq_true (decide (t.2.1=a)) with hg3|hg3
    ·skip
     refine OkL.retell (k:=22) (u:=Value.bool true) O (by rw [hg3]) ?_
     have hg3':=hg3
     replace hg3':=of_decide_eq_true hg3'
     exact OkL.step (v:=(pP b1 2)) (AB O) (AG (j:=2) O O underlying105 sizeOf3 O (by decide) O) O (AI O) (OkL.step (v:=(vN t.2.2)) (AB O) (AF (i:=0) (v:=(vN t.2.2)) O O BL.a O) O (AI O) (OkL.step (v:=(vN b)) (AB O) (Ai O) O (AI O) (OkL.step (v:=(Value.bool (decide (t.2.2=b)))) (AB O) (BG (c:=(decide (t.2.2=b))) O O (K7 (a:=t.2.2) (b:=b))) O (AI O) (OkL.step (v:=(Value.bool (decide (t.2.2=b)))) (AB O) (AO O O) O (AI O) (OkL.nil (OkQ.mid (sS O (sS O (sS O (sS O (sS O (sS O (sS O (sS O (sS O (sS O (sS O (sS O (sS O (sS O (sS O (sS (by first|rfl|(rw [hg3];rfl)|rw [hg3]) (sS (by first|rfl|(rw [hg3];rfl)|rw [hg3]) (sN)))))))))))))))))) (List.Sublist.refl _)))))))
    ·skip
     refine OkL.retell (k:=22) (u:=Value.bool false) O (by rw [hg3]) ?_
     have hg3':=hg3
     replace hg3':=of_decide_eq_false hg3'
     exact OkL.skip (AC O) O (AI O) (OkL.skip (AC O) O (AI O) (OkL.skip (AC O) O (AI O) (OkL.skip (AC O) O (AI O) (OkL.step (v:=(Value.bool false)) (AB O) (AJ O O) O (AI O) (OkL.nil (OkQ.mid (sS O (sS O (sS O (sS O (sS O (sS O (sS O (sS O (sS O (sS O (sS O (sS O (sS O (sS O (sS O (sS (by first|rfl|(rw [hg3];rfl)|rw [hg3]) (sS (by first|rfl|(rw [hg3];rfl)|rw [hg3]) (sN)))))))))))))))))) (List.Sublist.refl _)))))))
   exact AH (v:=(Value.bool ((decide (t.2.1=a))&&(decide (t.2.2=b))))) (AJ O O) O (OkL.nil (OkQ.mid (sS O (sS O (sS O (sS O (sS O (sS O (sS O (sS O (sS O (sS O (sS (by first|rfl|(rw [hg2];rfl)|rw [hg2]) (sS (by first|rfl|(rw [hg2];rfl)|rw [hg2]) (sN))))))))))))) (List.Sublist.refl _)))
 refine AM O ?_
 refine OkL.mid (FM:=[(1,(vN a)),(2,(vN b)),(3,(pP b1 0)),(6,(Value.bool false)),(7,(pP b1 0)),(8,(vN t.1)),(9,(vN a)),(10,(Value.bool (decide (t.1=a)))),(11,(Value.bool (decide (t.1=a)))),(16,(Value.bool ((decide (t.1=a))&&(decide (t.2.1=b))))),(17,(Value.bool ((decide (t.1=a))&&(decide (t.2.1=b))))),(28,(Value.bool (((decide (t.1=a))&&(decide (t.2.1=b)))||((decide (t.2.1=a))&&(decide (t.2.2=b)))))),(29,(Value.bool (((decide (t.1=a))&&(decide (t.2.1=b)))||((decide (t.2.1=a))&&(decide (t.2.2=b)))))),(40,(Value.bool ((((decide (t.1=a))&&(decide (t.2.1=b)))||((decide (t.2.1=a))&&(decide (t.2.2=b))))||((decide (t.2.2=a))&&(decide (t.1=b))))))]) (LM:=[AU b1 105 (Ad t)]) 11 ?_ ?_
 ·rcases Bool.eq_false_or_eq_true (((decide (t.1=a))&&(decide (t.2.1=b)))||((decide (t.2.1=a))&&(decide (t.2.2=b)))) with hg4|hg4
  ·skip
   refine OkL.retell (k:=29) (u:=Value.bool true) O (by rw [hg4]) ?_
   have hg4':=hg4
   simp only [Bool.and_eq_true,Bool.or_eq_true,Bool.and_eq_false_iff,Bool.or_eq_false_iff,Bool.not_eq_true',Bool.not_eq_false',decide_eq_true_eq,decide_eq_false_iff_not] at hg4'
   exact OkL.skip (AC O) O (AI O) (OkL.skip (AC O) O (AI O) (OkL.skip (AC O) O (AI O) (OkL.skip (AC O) O (AI O) (OkL.skip (AC O) O (AI O) (OkL.skip (BP O O O) O (AI O) (OkL.skip (BP O O O) O (AI O) (OkL.skip (BP O O O) O (AI O) (OkL.skip (BP O O O) O (AI O) (OkL.skip (AC O) O (AI O) (AH (v:=(Value.bool true)) (AO O O) O (OkL.nil (OkQ.mid (sS O (sS O (sS O (sS O (sS O (sS O (sS O (sS O (sS O (sS O (sS O (sS O (sS (by first|rfl|(rw [hg4];rfl)|rw [hg4]) (sS (by first|rfl|(rw [hg4];rfl)|rw [hg4]) (sN))))))))))))))) (List.Sublist.refl _)))))))))))))
  ·skip
   refine OkL.retell (k:=29) (u:=Value.bool false) O (by rw [hg4]) ?_
   have hg4':=hg4
   simp only [Bool.and_eq_true,Bool.or_eq_true,Bool.and_eq_false_iff,Bool.or_eq_false_iff,Bool.not_eq_true',Bool.not_eq_false',decide_eq_true_eq,decide_eq_false_iff_not] at hg4'
   refine OkL.step (v:=(pP b1 2)) (AB O) (AG (j:=2) O O underlying105 sizeOf3 O (by decide) O) O (AI O) (OkL.step (v:=(vN t.2.2)) (AB O) (AF (i:=0) (v:=(vN t.2.2)) O O BL.a O) O (AI O) (OkL.step (v:=(vN a)) (AB O) (Ai O) O (AI O) (OkL.step (v:=(Value.bool (decide (t.2.2=a)))) (AB O) (BG (c:=(decide (t.2.2=a))) O O (K7 (a:=t.2.2) (b:=a))) O (AI O) (OkL.step (v:=(Value.bool (decide (t.2.2=a)))) (AB O) (Ai O) O (AI O) ?_))))
   refine OkL.mid (FM:=[(1,(vN a)),(2,(vN b)),(3,(pP b1 0)),(6,(Value.bool false)),(7,(pP b1 0)),(8,(vN t.1)),(9,(vN a)),(10,(Value.bool (decide (t.1=a)))),(11,(Value.bool (decide (t.1=a)))),(16,(Value.bool ((decide (t.1=a))&&(decide (t.2.1=b))))),(17,(Value.bool ((decide (t.1=a))&&(decide (t.2.1=b))))),(28,(Value.bool (((decide (t.1=a))&&(decide (t.2.1=b)))||((decide (t.2.1=a))&&(decide (t.2.2=b)))))),(29,(Value.bool false)),(30,(pP b1 2)),(31,(vN t.2.2)),(32,(vN a)),(33,(Value.bool (decide (t.2.2=a)))),(34,(Value.bool (decide (t.2.2=a)))),(39,(Value.bool ((decide (t.2.2=a))&&(decide (t.1=b)))))]) (LM:=[AU b1 105 (Ad t)]) 5 ?_ ?_
   ·rcases Bool.eq_false_or_eq_true (decide (t.2.2=a)) with hg5|hg5
    ·skip
     refine OkL.retell (k:=34) (u:=Value.bool true) O (by rw [hg5]) ?_
     have hg5':=hg5
     replace hg5':=of_decide_eq_true hg5'
     exact OkL.step (v:=(pP b1 0)) (AB O) (AG (j:=0) O O underlying105 sizeOf3 O (by decide) O) O (AI O) (OkL.step (v:=(vN t.1)) (AB O) (AF (i:=0) (v:=(vN t.1)) O O BL.a O) O (AI O) (OkL.step (v:=(vN b)) (AB O) (Ai O) O (AI O) (OkL.step (v:=(Value.bool (decide (t.1=b)))) (AB O) (BG (c:=(decide (t.1=b))) O O (K7 (a:=t.1) (b:=b))) O (AI O) (OkL.step (v:=(Value.bool (decide (t.1=b)))) (AB O) (AO O O) O (AI O) (OkL.nil (OkQ.mid (sS O (sS O (sS O (sS O (sS O (sS O (sS O (sS O (sS O (sS O (sS O (sS O (sS O (sS O (sS O (sS O (sS O (sS (by first|rfl|(rw [hg5];rfl)|rw [hg5]) (sS (by first|rfl|(rw [hg5];rfl)|rw [hg5]) (sN)))))))))))))))))))) (List.Sublist.refl _)))))))
    ·skip
     refine OkL.retell (k:=34) (u:=Value.bool false) O (by rw [hg5]) ?_
     have hg5':=hg5
     replace hg5':=of_decide_eq_false hg5'
     exact OkL.skip (AC O) O (AI O) (OkL.skip (AC O) O (AI O) (OkL.skip (AC O) O (AI O) (OkL.skip (AC O) O (AI O) (OkL.step (v:=(Value.bool false)) (AB O) (AJ O O) O (AI O) (OkL.nil (OkQ.mid (sS O (sS O (sS O (sS O (sS O (sS O (sS O (sS O (sS O (sS O (sS O (sS O (sS O (sS O (sS O (sS O (sS O (sS (by first|rfl|(rw [hg5];rfl)|rw [hg5]) (sS (by first|rfl|(rw [hg5];rfl)|rw [hg5]) (sN)))))))))))))))))))) (List.Sublist.refl _)))))))
   exact AH (v:=(Value.bool ((decide (t.2.2=a))&&(decide (t.1=b))))) (AJ O O) O (OkL.nil (OkQ.mid (sS O (sS O (sS O (sS O (sS O (sS O (sS O (sS O (sS O (sS O (sS O (sS O (sS (by first|rfl|(rw [hg4];rfl)|rw [hg4]) (sS (by first|rfl|(rw [hg4];rfl)|rw [hg4]) (sN))))))))))))))) (List.Sublist.refl _)))
 exact asg' O (OkL.nil (OkQ.subF (sL [6] O) (OkQ.then_ (OkC.ret (ret_one O (rd_tmp (v:=(Value.bool ((((decide (t.1=a))&&(decide (t.2.1=b)))||((decide (t.2.1=a))&&(decide (t.2.2=b))))||((decide (t.2.2=a))&&(decide (t.1=b)))))) O) (λw hw=>⟨by first|rfl|simp [Da,Bool.or_assoc],hw.out⟩))))))
theorem QE {N:Nat} {ts ss:List T3} (x:RM N ts ss) (hnb:Bn N ts=true) (hl:ts.length<=1000000) (hN:N<=1000000) (w:World) {S:Nat->Prop} (hx:Ro S w x):Calls prog 45 #[(aG (FE x))] w (Ah w (Value.bool true)):=by
 have lx:=CI (W:=w) hx
 refine AY (args:=[(aG (FE x))]) (L:=[AE x.a.p (x.cs),AE x.b.p (rowsL Ad ts),AE x.c.p (x.ds)]) func45 O O (AI O) (D9 hx Aj) (OkC.subF (sL [0] O) (q4 (Be (cs:=FE x) O λb1=>asg' O (q6 (sL [1,2] O) (q4 (asg' O (OkL.nil (OkQ.then_ (OkC.block ?_)))))))))
 refine OkC.lp1 (tg λ(i:Nat)=>i<=ts.length) (tg λ(i:Nat)=>[(1,(pP b1 0)),(3,(vN i))]) (tg λ(i:Nat)=>[AU b1 39 (FE x),AE x.a.p (x.cs),AE x.b.p (rowsL Ad ts),AE x.c.p (x.ds)]) (tg λ(i:Nat)=>ts.length-i) 0 (Nat.zero_le _) (sF O) sr (λi hJ=>?_)
 have hi:=hJ
 refine OkC.seq (q4 (AM O (AH (v:=(pP b1 1)) (AA O underlying39 O sizeOf23 O) O (Au 0 (Value.slice x.b.p ts.length x.b.c) CU O (AH (v:=(vN ts.length)) (AD O underlying23) O (AH (Ae (c:=(decide (i<ts.length))) O O (CB (a:=i) (b:=ts.length))) O (OkL.nil (OkQ.subF (sL [1,3,9] O) (OkQ.then_ ?_)))))))))
 refine OkC.cond O (λhc0=>?_) (λhc0=>?_)
 ·replace hc0:=of_decide_eq_true hc0
  obtain ⟨T,hT⟩:∃q,q=ts.getD i (0,0,0):=⟨_,rfl⟩
  obtain ⟨g1,g2,g3⟩:=EH (Dh hnb hc0)
  obtain ⟨n1,n2,n3⟩:=L6 (Dh hnb hc0)
  rw [<-hT] at g1 g2 g3 n1 n2 n3
  refine OkC.skip (q1 (OkC.block (q4 (AH (v:=(pP b1 1)) (AA O underlying39 O sizeOf23 O) O (Au 0 (Value.slice x.b.p ts.length x.b.c) CU O (AM O (AH (v:=(pP (pB x.b.p) (pO x.b.p+i*3))) (AL (j:=i) O O x.b.ok underlying23 sizeOf105 O Z) O (AH (v:=(aG (Ad (ts.getD i ((0,0,0):Tq3))))) (AT (vs:=Ad (ts.getD i ((0,0,0):Tq3))) (i:=2) O O (Av.ne x.b.ok Z) ET (Am Az _ _ _ Z) (Az _)) O (OkL.retell (k:=16) (u:=(aG (Ad T))) O (by rw [hT]) (al LC O λb2=>Ax O sizeOf105 O ?_))))))))))
  refine q3 (sL [1,3,4] O) (BH 1 DA O (AH (v:=(pP b2 0)) (AG (j:=0) O O underlying105 sizeOf3 O (by decide) O) O (Au 0 (vN T.1) BL O (Ce (args:=[(aG (FE x)),(vN T.1)]) (v:=(Value.bool true)) call57 (λw hw=>(by have h9:=Pf x T.1 w (inS hw 2 O lx);rw [decide_eq_true Z] at h9;exact h9)) O (AH (BU (c:=false) O O) O (AM O (OkL.step (v:=(aG (FE x))) (AB O) (A6 (i:=1) (vs:=FE x) O O DA.a DA.s O O) O (AI O) (OkL.step (v:=(pP b2 1)) (AB O) (AG (j:=1) O O underlying105 sizeOf3 O (by decide) O) O (AI O) (OkL.step (v:=(vN T.2.1)) (AB O) (AF (i:=0) (v:=(vN T.2.1)) O O BL.a O) O (AI O) (OkL.call (v:=(Value.bool true)) (AB O) (Ap (args:=[(aG (FE x)),(vN T.2.1)]) O O call57) (λw hw=>(by have h9:=Pf x T.2.1 w (inS hw 2 O lx);rw [decide_eq_true Z] at h9;exact h9)) O (AI O) (OkL.step (v:=(Value.bool false)) (AB O) (BU (c:=false) O O) O (AI O) ?_)))))))))))
  refine AH (v:=(Value.bool false)) (AJ O O) O (AM O (OkL.step (v:=(aG (FE x))) (AB O) (A6 (i:=1) (vs:=FE x) O O DA.a DA.s O O) O (AI O) (OkL.step (v:=(pP b2 2)) (AB O) (AG (j:=2) O O underlying105 sizeOf3 O (by decide) O) O (AI O) (OkL.step (v:=(vN T.2.2)) (AB O) (AF (i:=0) (v:=(vN T.2.2)) O O BL.a O) O (AI O) (OkL.call (v:=(Value.bool true)) (AB O) (Ap (args:=[(aG (FE x)),(vN T.2.2)]) O O call57) (λw hw=>(by have h9:=Pf x T.2.2 w (inS hw 2 O lx);rw [decide_eq_true Z] at h9;exact h9)) O (AI O) (OkL.step (v:=(Value.bool false)) (AB O) (BU (c:=false) O O) O (AI O) (AH (v:=(Value.bool false)) (AJ O O) O (AM O (OkL.step (v:=(pP b2 0)) (AB O) (AG (j:=0) O O underlying105 sizeOf3 O (by decide) O) O (AI O) (OkL.step (v:=(vN T.1)) (AB O) (AF (i:=0) (v:=(vN T.1)) O O BL.a O) O (AI O) (OkL.step (v:=(pP b2 1)) (AB O) (AG (j:=1) O O underlying105 sizeOf3 O (by decide) O) O (AI O) ?_)))))))))))
  refine OkL.step (v:=(vN T.2.1)) (AB O) (AF (i:=0) (v:=(vN T.2.1)) O O BL.a O) O (AI O) (OkL.step (v:=(Value.bool false)) (AB O) (BG (c:=false) O O (decide_eq_false Z)) O (AI O) (AH (v:=(Value.bool false)) (AJ O O) O (AM O (OkL.step (v:=(pP b2 0)) (AB O) (AG (j:=0) O O underlying105 sizeOf3 O (by decide) O) O (AI O) (OkL.step (v:=(vN T.1)) (AB O) (AF (i:=0) (v:=(vN T.1)) O O BL.a O) O (AI O) (OkL.step (v:=(pP b2 2)) (AB O) (AG (j:=2) O O underlying105 sizeOf3 O (by decide) O) O (AI O) (OkL.step (v:=(vN T.2.2)) (AB O) (AF (i:=0) (v:=(vN T.2.2)) O O BL.a O) O (AI O) (OkL.step (v:=(Value.bool false)) (AB O) (BG (c:=false) O O (decide_eq_false Z)) O (AI O) (AH (v:=(Value.bool false)) (AJ O O) O (AM O (OkL.step (v:=(pP b2 1)) (AB O) (AG (j:=1) O O underlying105 sizeOf3 O (by decide) O) O (AI O) ?_)))))))))))
  refine OkL.step (v:=(vN T.2.1)) (AB O) (AF (i:=0) (v:=(vN T.2.1)) O O BL.a O) O (AI O) (OkL.step (v:=(pP b2 2)) (AB O) (AG (j:=2) O O underlying105 sizeOf3 O (by decide) O) O (AI O) (OkL.step (v:=(vN T.2.2)) (AB O) (AF (i:=0) (v:=(vN T.2.2)) O O BL.a O) O (AI O) (OkL.step (v:=(Value.bool false)) (AB O) (BG (c:=false) O O (decide_eq_false Z)) O (AI O) (AH (v:=(Value.bool false)) (AJ O O) O (OkL.nil (OkQ.subF (sL [1,3,4,56] O) (OkQ.then_ (OkC.cond_false O (OkC.skip (OkQ.in_normal (OkQ.then_ ?_)))))))))))
  exact OkC.region (AM O (AH (AX (c:=((i+1:Nat):Int)) O O (AR (a:=i) (b:=1) Z)) O (asg' O (OkL.nil (OkQ.subF (sL [1,3,4] O) (OkQ.round1 (i+1) Z Z (sF O) (sl sr)))))))
 ·replace hc0:=of_decide_eq_false hc0
  exact OkC.exit (OkQ.then_exit (OkQ.round1_exit (OkQ.in_exit (q2 (asg' O (OkL.nil (OkQ.then_ (OkC.ret (ret_one O (rd_tmp (v:=(Value.bool true)) O) (λw hw=>⟨rfl,hw.out⟩))))))))))
end
section
def Ar (n:Nat) (p:Int):Bool:=decide (0<=p)&&decide (p<(n:Int))
def Lo (n:Nat) (t:Z3):Bool:=Ar n t.1&&Ar n t.2.1&&Ar n t.2.2&&!decide (t.1=t.2.1)&&!decide (t.2.1=t.2.2)&&!decide (t.2.2=t.1)
def DL (n:Nat) (ts:List Z3):Bool:=ts.all (Lo n)
def idxZ (n:Nat):List Z3->Nat->Int
  | [],_ => -1
  | t::r,i=>if Lo n t=true then idxZ n r (i+1) else (i:Int)
theorem RH {n:Nat} {ts:List Z3} {j:Nat} (hj:j<ts.length) (h:Lo n (ts.getD j (0,0,0))=true):idxZ n (ts.drop j) j=idxZ n (ts.drop (j+1)) (j+1):=by
  rw [D8 (d:=(0,0,0)) hj];exact if_pos h
theorem S3 {n:Nat} {ts:List Z3} {j:Nat} (hj:j<ts.length) (h:Lo n (ts.getD j (0,0,0))=false):idxZ n (ts.drop j) j=(j:Int):=by
  rw [D8 (d:=(0,0,0)) hj];exact if_neg (by rw [h];exact Bool.false_ne_true)
theorem Si {n:Nat} {ts:List Z3} {j:Nat} (hj:¬j<ts.length):idxZ n (ts.drop j) j = -1:=by
  rw [List.drop_of_length_le Z];rfl
theorem LS (n:Nat):∀(ts:List Z3) (i:Nat),decide (0<=idxZ n ts i)=!DL n ts
  | [],i=>rfl
  | t::r,i=>by
    unfold idxZ DL
    rw [List.all_cons]
    cases h:Lo n t with
    | true=>rw [if_pos rfl,Bool.true_and];exact LS n r (i+1)
    | false=>rw [if_neg Bool.false_ne_true,Bool.false_and];simp
theorem T0 {n:Nat} {ts:List Z3} (h:∀j,j<ts.length->Lo n (ts.getD j (0,0,0))=true):DL n ts=true:=List.all_eq_true.2 λt ht=>by
  obtain ⟨j,hj,rfl⟩:=List.getElem_of_mem ht
  have:=h j hj
  rwa [List.getD,List.getElem?_eq_getElem hj] at this
theorem Wy {n:Nat} {ts:List Z3} {j:Nat} (hj:j<ts.length) (h:Lo n (ts.getD j (0,0,0))=false):DL n ts=false:=by
  cases e:DL n ts with
  | false=>rfl
  | true =>
    have h1:=List.all_eq_true.1 e _ (List.getElem_mem hj)
    rw [List.getD,List.getElem?_eq_getElem hj] at h
    have h:Lo n ts[j]=false:=h
    rw [h] at h1;cases h1
def Db (t:Z3):Tq3:=(t.1.toNat,t.2.1.toNat,t.2.2.toNat)
theorem Pk {n:Nat} {t:Z3} (h:Lo n t=true):La n (Db t)=true/\Ac t=Ad (Db t):=by
  obtain ⟨a,b,c⟩:=t
  unfold Lo Ar at h
  simp only [Bool.and_eq_true,Bool.not_eq_true',decide_eq_true_eq,decide_eq_false_iff_not] at h
  obtain ⟨⟨⟨⟨⟨⟨h1,h2⟩,h3,h4⟩,h5,h6⟩,h7⟩,h8⟩,h9⟩:=h
  refine ⟨?_,?_⟩
  · unfold La Db
    simp only [Bool.and_eq_true,Bool.not_eq_true',decide_eq_true_eq,decide_eq_false_iff_not]
    refine ⟨⟨⟨⟨⟨?_,?_⟩,?_⟩,?_⟩,?_⟩,?_⟩<;>omega
  · show [vI a,vI b,vI c]=[vN a.toNat,vN b.toNat,vN c.toNat]
    rw [show vN a.toNat=vI a from congrArg vI (Int.toNat_of_nonneg h1),show vN b.toNat=vI b from congrArg vI (Int.toNat_of_nonneg h3),show vN c.toNat=vI c from congrArg vI (Int.toNat_of_nonneg h5)]
theorem F8 {n:Nat} {zs:List Z3} (h:DL n zs=true):Bn n (zs.map Db)=true/\rowsL Ac zs=rowsL Ad (zs.map Db):=by
  unfold DL Bn rowsL at *
  rw [List.all_eq_true] at h
  refine ⟨List.all_eq_true.2 λt ht=>?_,?_⟩
  · obtain ⟨z,hz,rfl⟩:=List.mem_map.1 ht
    exact (Pk (h z hz)).1
  · rw [List.flatMap_map]
    induction zs with
    | nil=>rfl
    | cons z r ih=>rw [List.flatMap_cons,List.flatMap_cons,(Pk (h z List.mem_cons_self)).2,ih λx hx=>h x (List.mem_cons_of_mem _ hx)]
structure RQ (N K:Nat) (zs:List Z3) where
  cs:List Value
  ds:List Value
  a:RX cs N
  b:RX (rowsL Ac zs) zs.length
  c:RX ds K
def G6 {N K:Nat} {zs:List Z3} (x:RQ N K zs):List Value:=[x.a.val,x.b.val,x.c.val]
theorem Yb {N K:Nat} {zs:List Z3} {x:RQ N K zs} {y:As} (hy:y∈[x.a.row,x.b.row,x.c.row]):y.ro=true:=by
  simp only [List.mem_cons,List.not_mem_nil,or_false] at hy
  rcases hy with rfl|rfl|rfl<;>rfl
instance {N K:Nat} {zs:List Z3}:Cc (RQ N K zs):=⟨λx=>aG (G6 x),λx=>[x.a.row,x.b.row,x.c.row],λx y hy=>Yb hy⟩
section
variable {S:Nat->Prop} {w:World} {N K:Nat} {zs ss:List Z3} {ps:List Pt}
theorem aM {x:RQ N K zs} (h:Ro S w x):Ro S w x.b:=λy hy=>by rcases List.mem_singleton.1 hy with rfl;exact h _ (List.mem_cons_of_mem _ List.mem_cons_self)
def RQ.ru (x:RQ N K zs):RU N zs.length K:=⟨x.cs,rowsL Ac zs,x.ds,x.a,x.b,x.c⟩
theorem Sj {x:RQ N K zs} (h:Ro S w x):Ro S w x.ru:=λy hy=>h y hy
def MZ.rq (x:MZ ps zs ss):RQ ps.length ss.length zs:=⟨rowsL BC ps,rowsL Ac ss,x.a,x.b,x.c⟩
theorem Y1 {x:MZ ps zs ss} (h:Ro S w x):Ro S w x.rq:=λy hy=>h y hy
def HO.rq (x:HO ps zs ss):RQ x.rs.length ss.length zs:=⟨rowsL B0 x.rs,rowsL Ac ss,x.a,x.b,x.c⟩
theorem V_ {x:HO ps zs ss} (h:Ro S w x):Ro S w x.rq:=λy hy=>h y (List.mem_append_left _ hy)
theorem Xk (x:RQ N K zs) (h:DL N zs=true):∃y:RM N (zs.map Db) (List.replicate K (0,0,0)),Bn N (zs.map Db)=true/\FE y=G6 x/\∀{S:Nat->Prop} {w:World},Ro S w x->Ro S w y:=by
  obtain ⟨cs,ds,a,b,c⟩:=x
  obtain ⟨h1,h2⟩:=F8 h
  have hl:zs.length=(zs.map Db).length:=(List.length_map _).symm
  have hk:K=(List.replicate K ((0,0,0):Tq3)).length:=(List.length_replicate).symm
  obtain ⟨bp,bc,bok⟩:=b
  obtain ⟨cp,cc,cok⟩:=c
  refine ⟨⟨cs,ds,a,⟨bp,bc,hl▸bok⟩,⟨cp,cc,hk▸cok⟩⟩,h1,?_,λ{S w} hx y hy=>?_⟩
  · show [a.val,.slice bp (zs.map Db).length bc,.slice cp (List.replicate K ((0,0,0):Tq3)).length cc]=[a.val,.slice bp zs.length bc,.slice cp K cc]
    rw [<-hl,<-hk]
  · have hy:y∈[a.row,AE bp (rowsL Ad (zs.map Db)),AE cp ds]:=hy
    rw [<-h2] at hy
    exact hx y hy
end
end
end Go.Proofs.YtpolhpjiahbidaaGreatDoor
