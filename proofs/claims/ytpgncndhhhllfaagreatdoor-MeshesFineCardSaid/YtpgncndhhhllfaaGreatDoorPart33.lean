import Derived.Test.YtpgncndhhhllfaaGreatDoorPart21
import Derived.Test.YtpgncndhhhllfaaGreatDoorPart30
import Derived.Test.YtpgncndhhhllfaaGreatDoorPart32
namespace Go.Proofs.YtpgncndhhhllfaaGreatDoor
open Go Go.RowKit Go.Proofs.Tryz
set_option linter.unusedVariables false
set_option linter.unusedSimpArgs false
section
set_option maxRecDepth 100000
theorem QO {N:Nat} {ts ss:List T3} (x:RM N ts ss) (p:Nat) (w:World) {S:Nat->Prop} (hx:Ro S w x):Calls prog 90 #[(aG (F1 x)),(vN p)] w (An w (Value.bool (decide (p<N)))):=by
 have lx:=Cl (W:=w) hx
 refine Ah (args:=[(aG (F1 x)),(vN p)]) (L:=[AQ x.a.p (x.cs),AQ x.b.p (rowsL Ai ts),AQ x.c.p (rowsL Ai ss)]) func90 O O (AT O) (Ed hx Ax) (AF.subF (sL [0,1] O) (q4 (BU (cs:=F1 x) O λb1=>asg' O (q3 (sL [1,2,4] O) ?_))))
 refine AM O (AH (CU (c:=(decide (0<=p))) O O (WG (a:=0) (b:=p))) O (AM O ?_))
 refine AE.mid (FM:=[(1,(vN p)),(2,(pP b1 0)),(4,(Value.bool false)),(5,(vN p)),(6,(Value.bool (decide (0<=p)))),(7,(Value.bool (decide (0<=p)))),(13,(Value.bool ((decide (0<=p))&&(decide (p<N)))))]) (LM:=[Ag b1 38 (F1 x),AQ x.a.p (x.cs),AQ x.b.p (rowsL Ai ts),AQ x.c.p (rowsL Ai ss)]) 6 ?_ ?_
 ·rcases Bool.eq_false_or_eq_true (decide (0<=p)) with hg1|hg1
  ·skip
   refine AE.retell (k:=7) (u:=Value.bool true) O (by rw [hg1]) ?_
   have hg1':=hg1
   replace hg1':=of_decide_eq_true hg1'
   refine AE.step (v:=(vN p)) (AB O) (Al O) O (AT O) (AE.step (v:=(pP b1 0)) (AB O) (AA O underlying38 O sizeOf35 O) O (AT O) (AE.step (v:=(Value.slice x.a.p N x.a.c)) (AB O) (AK (i:=0) (v:=(Value.slice x.a.p N x.a.c)) O O OP.a O) O (AT O) (AE.step (v:=(vN N)) (AB O) (AG O underlying35) O (AT O) (AE.step (v:=(Value.bool (decide (p<N)))) (AB O) (Ae (c:=(decide (p<N))) O O (CL (a:=p) (b:=N))) O (AT O) (AH (v:=(Value.bool (decide (p<N)))) (Ac O O) O ?_)))))
   exact AE.nil (AC.mid (sS O (sS O (sS O (sS O (sS O (sS (by first|rfl|(rw [hg1];rfl)|rw [hg1]) (sS (by first|rfl|(rw [hg1];rfl)|rw [hg1]) (sN)))))))) (List.Sublist.refl _))
  ·skip
   refine AE.retell (k:=7) (u:=Value.bool false) O (by rw [hg1]) ?_
   have hg1':=hg1
   replace hg1':=of_decide_eq_false hg1'
   refine AE.skip (AJ O) O (AT O) (AE.skip (AJ O) O (AT O) (AE.skip (AJ O) O (AT O) (AE.skip (AJ O) O (AT O) (AE.skip (AJ O) O (AT O) (AH (v:=(Value.bool false)) (AP O O) O ?_)))))
   exact AE.nil (AC.mid (sS O (sS O (sS O (sS O (sS O (sS (by first|rfl|(rw [hg1];rfl)|rw [hg1]) (sS (by first|rfl|(rw [hg1];rfl)|rw [hg1]) (sN)))))))) (List.Sublist.refl _))
 exact asg' O (AE.nil (AC.subF (sL [4] O) (AC.then_ (AF.ret (AI O (AY (v:=(Value.bool ((decide (0<=p))&&(decide (p<N))))) O) (λw hw=>⟨by simp,hw.out⟩))))))
theorem Jm (t:T3) (a b:Nat) (w:World)  :Calls prog 131 #[(aG (Ai t)),(vN a),(vN b)] w (An w (Value.bool (Dt t a b))):=by
 refine Af (args:=[(aG (Ai t)),(vN a),(vN b)]) func131 O O (AT O) (AF.subF (sL [0,1,2] O) (q4 (BU (cs:=Ai t) O λb1=>asg' O (q3 (sL [1,2,3,6] O) ?_))))
 refine AH (v:=(pP b1 0)) (AD (j:=0) O O underlying53 sizeOf3 O (by decide) O) O (BA 0 (vN t.1) Bj O (AM O (AH (BL (c:=(decide (t.1=a))) O O (Iv (a:=t.1) (b:=a))) O (AM O ?_))))
 refine AE.mid (FM:=[(1,(vN a)),(2,(vN b)),(3,(pP b1 0)),(6,(Value.bool false)),(7,(pP b1 0)),(8,(vN t.1)),(9,(vN a)),(10,(Value.bool (decide (t.1=a)))),(11,(Value.bool (decide (t.1=a)))),(16,(Value.bool ((decide (t.1=a))&&(decide (t.2.1=b)))))]) (LM:=[Ag b1 53 (Ai t)]) 5 ?_ ?_
 ·rcases Bool.eq_false_or_eq_true (decide (t.1=a)) with hg1|hg1
  ·skip
   refine AE.retell (k:=11) (u:=Value.bool true) O (by rw [hg1]) ?_
   have hg1':=hg1
   replace hg1':=of_decide_eq_true hg1'
   exact AE.step (v:=(pP b1 1)) (AB O) (AD (j:=1) O O underlying53 sizeOf3 O (by decide) O) O (AT O) (AE.step (v:=(vN t.2.1)) (AB O) (AK (i:=0) (v:=(vN t.2.1)) O O Bj.a O) O (AT O) (AE.step (v:=(vN b)) (AB O) (Al O) O (AT O) (AE.step (v:=(Value.bool (decide (t.2.1=b)))) (AB O) (BL (c:=(decide (t.2.1=b))) O O (Iv (a:=t.2.1) (b:=b))) O (AT O) (AH (v:=(Value.bool (decide (t.2.1=b)))) (Ac O O) O (AE.nil (AC.mid (sS O (sS O (sS O (sS O (sS O (sS O (sS O (sS O (sS (by first|rfl|(rw [hg1];rfl)|rw [hg1]) (sS (by first|rfl|(rw [hg1];rfl)|rw [hg1]) (sN))))))))))) (List.Sublist.refl _)))))))
  ·skip
   refine AE.retell (k:=11) (u:=Value.bool false) O (by rw [hg1]) ?_
   have hg1':=hg1
   replace hg1':=of_decide_eq_false hg1'
   exact AE.skip (AJ O) O (AT O) (AE.skip (AJ O) O (AT O) (AE.skip (AJ O) O (AT O) (AE.skip (AJ O) O (AT O) (AH (v:=(Value.bool false)) (AP O O) O (AE.nil (AC.mid (sS O (sS O (sS O (sS O (sS O (sS O (sS O (sS O (sS (by first|rfl|(rw [hg1];rfl)|rw [hg1]) (sS (by first|rfl|(rw [hg1];rfl)|rw [hg1]) (sN))))))))))) (List.Sublist.refl _)))))))
 refine AM O ?_
 refine AE.mid (FM:=[(1,(vN a)),(2,(vN b)),(3,(pP b1 0)),(6,(Value.bool false)),(7,(pP b1 0)),(8,(vN t.1)),(9,(vN a)),(10,(Value.bool (decide (t.1=a)))),(11,(Value.bool (decide (t.1=a)))),(16,(Value.bool ((decide (t.1=a))&&(decide (t.2.1=b))))),(17,(Value.bool ((decide (t.1=a))&&(decide (t.2.1=b))))),(28,(Value.bool (((decide (t.1=a))&&(decide (t.2.1=b)))||((decide (t.2.1=a))&&(decide (t.2.2=b))))))]) (LM:=[Ag b1 53 (Ai t)]) 11 ?_ ?_
 ·rcases Bool.eq_false_or_eq_true ((decide (t.1=a))&&(decide (t.2.1=b))) with hg2|hg2
  ·skip
   refine AE.retell (k:=17) (u:=Value.bool true) O (by rw [hg2]) ?_
   have hg2':=hg2
   simp only [Bool.and_eq_true,Bool.or_eq_true,Bool.and_eq_false_iff,Bool.or_eq_false_iff,Bool.not_eq_true',Bool.not_eq_false',decide_eq_true_eq,decide_eq_false_iff_not] at hg2'
   refine AE.skip (AJ O) O (AT O) (AE.skip (AJ O) O (AT O) (AE.skip (AJ O) O (AT O) (AE.skip (AJ O) O (AT O) (AE.skip (AJ O) O (AT O) (AE.skip (C8 O O O) O (AT O) ?_)))))
   exact AE.skip (C8 O O O) O (AT O) (AE.skip (C8 O O O) O (AT O) (AE.skip (C8 O O O) O (AT O) (AE.skip (AJ O) O (AT O) (AH (v:=(Value.bool true)) (Ac O O) O (AE.nil (AC.mid (sS O (sS O (sS O (sS O (sS O (sS O (sS O (sS O (sS O (sS O (sS (by first|rfl|(rw [hg2];rfl)|rw [hg2]) (sS (by first|rfl|(rw [hg2];rfl)|rw [hg2]) (sN))))))))))))) (List.Sublist.refl _)))))))
  ·skip
   refine AE.retell (k:=17) (u:=Value.bool false) O (by rw [hg2]) ?_
   have hg2':=hg2
   simp only [Bool.and_eq_true,Bool.or_eq_true,Bool.and_eq_false_iff,Bool.or_eq_false_iff,Bool.not_eq_true',Bool.not_eq_false',decide_eq_true_eq,decide_eq_false_iff_not] at hg2'
   refine AE.step (v:=(pP b1 1)) (AB O) (AD (j:=1) O O underlying53 sizeOf3 O (by decide) O) O (AT O) (AE.step (v:=(vN t.2.1)) (AB O) (AK (i:=0) (v:=(vN t.2.1)) O O Bj.a O) O (AT O) (AE.step (v:=(vN a)) (AB O) (Al O) O (AT O) (AE.step (v:=(Value.bool (decide (t.2.1=a)))) (AB O) (BL (c:=(decide (t.2.1=a))) O O (Iv (a:=t.2.1) (b:=a))) O (AT O) (AE.step (v:=(Value.bool (decide (t.2.1=a)))) (AB O) (Al O) O (AT O) ?_))))
   refine AE.mid (FM:=[(1,(vN a)),(2,(vN b)),(3,(pP b1 0)),(6,(Value.bool false)),(7,(pP b1 0)),(8,(vN t.1)),(9,(vN a)),(10,(Value.bool (decide (t.1=a)))),(11,(Value.bool (decide (t.1=a)))),(16,(Value.bool ((decide (t.1=a))&&(decide (t.2.1=b))))),(17,(Value.bool false)),(18,(pP b1 1)),(19,(vN t.2.1)),(20,(vN a)),(21,(Value.bool (decide (t.2.1=a)))),(22,(Value.bool (decide (t.2.1=a)))),(27,(Value.bool ((decide (t.2.1=a))&&(decide (t.2.2=b)))))]) (LM:=[Ag b1 53 (Ai t)]) 5 ?_ ?_
   ·rcases Bool.eq_false_or_eq_true (decide (t.2.1=a)) with hg3|hg3
    ·skip
     refine AE.retell (k:=22) (u:=Value.bool true) O (by rw [hg3]) ?_
     have hg3':=hg3
     replace hg3':=of_decide_eq_true hg3'
     exact AE.step (v:=(pP b1 2)) (AB O) (AD (j:=2) O O underlying53 sizeOf3 O (by decide) O) O (AT O) (AE.step (v:=(vN t.2.2)) (AB O) (AK (i:=0) (v:=(vN t.2.2)) O O Bj.a O) O (AT O) (AE.step (v:=(vN b)) (AB O) (Al O) O (AT O) (AE.step (v:=(Value.bool (decide (t.2.2=b)))) (AB O) (BL (c:=(decide (t.2.2=b))) O O (Iv (a:=t.2.2) (b:=b))) O (AT O) (AE.step (v:=(Value.bool (decide (t.2.2=b)))) (AB O) (Ac O O) O (AT O) (AE.nil (AC.mid (sS O (sS O (sS O (sS O (sS O (sS O (sS O (sS O (sS O (sS O (sS O (sS O (sS O (sS O (sS O (sS (by first|rfl|(rw [hg3];rfl)|rw [hg3]) (sS (by first|rfl|(rw [hg3];rfl)|rw [hg3]) (sN)))))))))))))))))) (List.Sublist.refl _)))))))
    ·skip
     refine AE.retell (k:=22) (u:=Value.bool false) O (by rw [hg3]) ?_
     have hg3':=hg3
     replace hg3':=of_decide_eq_false hg3'
     exact AE.skip (AJ O) O (AT O) (AE.skip (AJ O) O (AT O) (AE.skip (AJ O) O (AT O) (AE.skip (AJ O) O (AT O) (AE.step (v:=(Value.bool false)) (AB O) (AP O O) O (AT O) (AE.nil (AC.mid (sS O (sS O (sS O (sS O (sS O (sS O (sS O (sS O (sS O (sS O (sS O (sS O (sS O (sS O (sS O (sS (by first|rfl|(rw [hg3];rfl)|rw [hg3]) (sS (by first|rfl|(rw [hg3];rfl)|rw [hg3]) (sN)))))))))))))))))) (List.Sublist.refl _)))))))
   exact AH (v:=(Value.bool ((decide (t.2.1=a))&&(decide (t.2.2=b))))) (AP O O) O (AE.nil (AC.mid (sS O (sS O (sS O (sS O (sS O (sS O (sS O (sS O (sS O (sS O (sS (by first|rfl|(rw [hg2];rfl)|rw [hg2]) (sS (by first|rfl|(rw [hg2];rfl)|rw [hg2]) (sN))))))))))))) (List.Sublist.refl _)))
 refine AM O ?_
 refine AE.mid (FM:=[(1,(vN a)),(2,(vN b)),(3,(pP b1 0)),(6,(Value.bool false)),(7,(pP b1 0)),(8,(vN t.1)),(9,(vN a)),(10,(Value.bool (decide (t.1=a)))),(11,(Value.bool (decide (t.1=a)))),(16,(Value.bool ((decide (t.1=a))&&(decide (t.2.1=b))))),(17,(Value.bool ((decide (t.1=a))&&(decide (t.2.1=b))))),(28,(Value.bool (((decide (t.1=a))&&(decide (t.2.1=b)))||((decide (t.2.1=a))&&(decide (t.2.2=b)))))),(29,(Value.bool (((decide (t.1=a))&&(decide (t.2.1=b)))||((decide (t.2.1=a))&&(decide (t.2.2=b)))))),(40,(Value.bool ((((decide (t.1=a))&&(decide (t.2.1=b)))||((decide (t.2.1=a))&&(decide (t.2.2=b))))||((decide (t.2.2=a))&&(decide (t.1=b))))))]) (LM:=[Ag b1 53 (Ai t)]) 11 ?_ ?_
 ·rcases Bool.eq_false_or_eq_true (((decide (t.1=a))&&(decide (t.2.1=b)))||((decide (t.2.1=a))&&(decide (t.2.2=b)))) with hg4|hg4
  ·skip
   refine AE.retell (k:=29) (u:=Value.bool true) O (by rw [hg4]) ?_
   have hg4':=hg4
   simp only [Bool.and_eq_true,Bool.or_eq_true,Bool.and_eq_false_iff,Bool.or_eq_false_iff,Bool.not_eq_true',Bool.not_eq_false',decide_eq_true_eq,decide_eq_false_iff_not] at hg4'
   refine AE.skip (AJ O) O (AT O) (AE.skip (AJ O) O (AT O) (AE.skip (AJ O) O (AT O) (AE.skip (AJ O) O (AT O) (AE.skip (AJ O) O (AT O) (AE.skip (C8 O O O) O (AT O) ?_)))))
   exact AE.skip (C8 O O O) O (AT O) (AE.skip (C8 O O O) O (AT O) (AE.skip (C8 O O O) O (AT O) (AE.skip (AJ O) O (AT O) (AH (v:=(Value.bool true)) (Ac O O) O (AE.nil (AC.mid (sS O (sS O (sS O (sS O (sS O (sS O (sS O (sS O (sS O (sS O (sS O (sS O (sS (by first|rfl|(rw [hg4];rfl)|rw [hg4]) (sS (by first|rfl|(rw [hg4];rfl)|rw [hg4]) (sN))))))))))))))) (List.Sublist.refl _)))))))
  ·skip
   refine AE.retell (k:=29) (u:=Value.bool false) O (by rw [hg4]) ?_
   have hg4':=hg4
   simp only [Bool.and_eq_true,Bool.or_eq_true,Bool.and_eq_false_iff,Bool.or_eq_false_iff,Bool.not_eq_true',Bool.not_eq_false',decide_eq_true_eq,decide_eq_false_iff_not] at hg4'
   refine AE.step (v:=(pP b1 2)) (AB O) (AD (j:=2) O O underlying53 sizeOf3 O (by decide) O) O (AT O) (AE.step (v:=(vN t.2.2)) (AB O) (AK (i:=0) (v:=(vN t.2.2)) O O Bj.a O) O (AT O) (AE.step (v:=(vN a)) (AB O) (Al O) O (AT O) (AE.step (v:=(Value.bool (decide (t.2.2=a)))) (AB O) (BL (c:=(decide (t.2.2=a))) O O (Iv (a:=t.2.2) (b:=a))) O (AT O) (AE.step (v:=(Value.bool (decide (t.2.2=a)))) (AB O) (Al O) O (AT O) ?_))))
   refine AE.mid (FM:=[(1,(vN a)),(2,(vN b)),(3,(pP b1 0)),(6,(Value.bool false)),(7,(pP b1 0)),(8,(vN t.1)),(9,(vN a)),(10,(Value.bool (decide (t.1=a)))),(11,(Value.bool (decide (t.1=a)))),(16,(Value.bool ((decide (t.1=a))&&(decide (t.2.1=b))))),(17,(Value.bool ((decide (t.1=a))&&(decide (t.2.1=b))))),(28,(Value.bool (((decide (t.1=a))&&(decide (t.2.1=b)))||((decide (t.2.1=a))&&(decide (t.2.2=b)))))),(29,(Value.bool false)),(30,(pP b1 2)),(31,(vN t.2.2)),(32,(vN a)),(33,(Value.bool (decide (t.2.2=a)))),(34,(Value.bool (decide (t.2.2=a)))),(39,(Value.bool ((decide (t.2.2=a))&&(decide (t.1=b)))))]) (LM:=[Ag b1 53 (Ai t)]) 5 ?_ ?_
   ·rcases Bool.eq_false_or_eq_true (decide (t.2.2=a)) with hg5|hg5
    ·skip
     refine AE.retell (k:=34) (u:=Value.bool true) O (by rw [hg5]) ?_
     have hg5':=hg5
     replace hg5':=of_decide_eq_true hg5'
     exact AE.step (v:=(pP b1 0)) (AB O) (AD (j:=0) O O underlying53 sizeOf3 O (by decide) O) O (AT O) (AE.step (v:=(vN t.1)) (AB O) (AK (i:=0) (v:=(vN t.1)) O O Bj.a O) O (AT O) (AE.step (v:=(vN b)) (AB O) (Al O) O (AT O) (AE.step (v:=(Value.bool (decide (t.1=b)))) (AB O) (BL (c:=(decide (t.1=b))) O O (Iv (a:=t.1) (b:=b))) O (AT O) (AE.step (v:=(Value.bool (decide (t.1=b)))) (AB O) (Ac O O) O (AT O) (AE.nil (AC.mid (sS O (sS O (sS O (sS O (sS O (sS O (sS O (sS O (sS O (sS O (sS O (sS O (sS O (sS O (sS O (sS O (sS O (sS (by first|rfl|(rw [hg5];rfl)|rw [hg5]) (sS (by first|rfl|(rw [hg5];rfl)|rw [hg5]) (sN)))))))))))))))))))) (List.Sublist.refl _)))))))
    ·skip
     refine AE.retell (k:=34) (u:=Value.bool false) O (by rw [hg5]) ?_
     have hg5':=hg5
     replace hg5':=of_decide_eq_false hg5'
     exact AE.skip (AJ O) O (AT O) (AE.skip (AJ O) O (AT O) (AE.skip (AJ O) O (AT O) (AE.skip (AJ O) O (AT O) (AE.step (v:=(Value.bool false)) (AB O) (AP O O) O (AT O) (AE.nil (AC.mid (sS O (sS O (sS O (sS O (sS O (sS O (sS O (sS O (sS O (sS O (sS O (sS O (sS O (sS O (sS O (sS O (sS O (sS (by first|rfl|(rw [hg5];rfl)|rw [hg5]) (sS (by first|rfl|(rw [hg5];rfl)|rw [hg5]) (sN)))))))))))))))))))) (List.Sublist.refl _)))))))
   exact AH (v:=(Value.bool ((decide (t.2.2=a))&&(decide (t.1=b))))) (AP O O) O (AE.nil (AC.mid (sS O (sS O (sS O (sS O (sS O (sS O (sS O (sS O (sS O (sS O (sS O (sS O (sS (by first|rfl|(rw [hg4];rfl)|rw [hg4]) (sS (by first|rfl|(rw [hg4];rfl)|rw [hg4]) (sN))))))))))))))) (List.Sublist.refl _)))
 exact asg' O (AE.nil (AC.subF (sL [6] O) (AC.then_ (AF.ret (AI O (AY (v:=(Value.bool ((((decide (t.1=a))&&(decide (t.2.1=b)))||((decide (t.2.1=a))&&(decide (t.2.2=b))))||((decide (t.2.2=a))&&(decide (t.1=b)))))) O) (λw hw=>⟨by first|rfl|simp [Dt,Bool.or_assoc],hw.out⟩))))))
theorem J2 {N:Nat} {ts ss:List T3} (x:RM N ts ss) (hnb:By N ts=true) (hl:ts.length<=1000000) (hN:N<=1000000) (w:World) {S:Nat->Prop} (hx:Ro S w x):Calls prog 79 #[(aG (F1 x))] w (An w (Value.bool true)):=by
 have lx:=Cl (W:=w) hx
 refine Ah (args:=[(aG (F1 x))]) (L:=[AQ x.a.p (x.cs),AQ x.b.p (rowsL Ai ts),AQ x.c.p (rowsL Ai ss)]) func79 O O (AT O) (Ed hx Ax) (AF.subF (sL [0] O) (q4 (BU (cs:=F1 x) O λb1=>asg' O (q6 (sL [1,2] O) ?_))))
 refine q4 (asg' O (AE.nil (AC.then_ (AF.block ?_))))
 refine AF.lp1 (tg λ(i:Nat)=>i<=ts.length) (tg λ(i:Nat)=>[(1,(pP b1 0)),(3,(vN i))]) (tg λ(i:Nat)=>[Ag b1 38 (F1 x),AQ x.a.p (x.cs),AQ x.b.p (rowsL Ai ts),AQ x.c.p (rowsL Ai ss)]) (tg λ(i:Nat)=>ts.length-i) 0 (Nat.zero_le _) (sF O) sr (λi hJ=>?_)
 have hi:=hJ
 refine AF.seq (q4 (AM O (AH (v:=(pP b1 1)) (AA O underlying38 O sizeOf23 O) O (BA 0 (Value.slice x.b.p ts.length x.b.c) CP O (AH (v:=(vN ts.length)) (AG O underlying23) O ?_)))))
 refine AH (Ae (c:=(decide (i<ts.length))) O O (CL (a:=i) (b:=ts.length))) O (AE.nil (AC.subF (sL [1,3,9] O) (AC.then_ ?_)))
 refine AF.cond O (λhc0=>?_) (λhc0=>?_)
 ·replace hc0:=of_decide_eq_true hc0
  obtain ⟨T,hT⟩:∃q,q=ts.getD i (0,0,0):=⟨_,rfl⟩
  obtain ⟨g1,g2,g3⟩:=De (Cc hnb hc0)
  obtain ⟨n1,n2,n3⟩:=Mw (Cc hnb hc0)
  rw [<-hT] at g1 g2 g3 n1 n2 n3
  refine AF.skip (q1 (AF.block (q4 (AH (v:=(pP b1 1)) (AA O underlying38 O sizeOf23 O) O (BA 0 (Value.slice x.b.p ts.length x.b.c) CP O ?_)))))
  refine AM O (AH (v:=(pP (pB x.b.p) (pO x.b.p+i*3))) (AN (j:=i) O O x.b.ok underlying23 sizeOf53 O Z) O (AH (v:=(aG (Ai (ts.getD i ((0,0,0):Nat×Nat×Nat))))) (AZ (vs:=Ai (ts.getD i ((0,0,0):Nat×Nat×Nat))) (i:=2) O O (BF.ne x.b.ok Z) Gf (A7 Az _ _ _ Z) (Az _)) O (AE.retell (k:=16) (u:=(aG (Ai T))) O (by rw [hT]) (al L1 O λb2=>A8 O sizeOf53 O ?_))))
  refine q3 (sL [1,3,4] O) (BD 1 EA O (AH (v:=(pP b2 0)) (AD (j:=0) O O underlying53 sizeOf3 O (by decide) O) O (BA 0 (vN T.1) Bj O (Cj (args:=[(aG (F1 x)),(vN T.1)]) (v:=(Value.bool true)) call90 (λw hw=>(by have h9:=QO x T.1 w (inS hw 2 O lx);rw [decide_eq_true Z] at h9;exact h9)) O (AH (BQ (c:=false) O O) O ?_)))))
  refine AM O (AE.step (v:=(aG (F1 x))) (AB O) (Aj (i:=1) (vs:=F1 x) O O EA.a EA.s O O) O (AT O) (AE.step (v:=(pP b2 1)) (AB O) (AD (j:=1) O O underlying53 sizeOf3 O (by decide) O) O (AT O) (AE.step (v:=(vN T.2.1)) (AB O) (AK (i:=0) (v:=(vN T.2.1)) O O Bj.a O) O (AT O) (AE.call (v:=(Value.bool true)) (AB O) (Ao (args:=[(aG (F1 x)),(vN T.2.1)]) O O call90) (λw hw=>(by have h9:=QO x T.2.1 w (inS hw 2 O lx);rw [decide_eq_true Z] at h9;exact h9)) O (AT O) (AE.step (v:=(Value.bool false)) (AB O) (BQ (c:=false) O O) O (AT O) ?_)))))
  refine AH (v:=(Value.bool false)) (AP O O) O (AM O (AE.step (v:=(aG (F1 x))) (AB O) (Aj (i:=1) (vs:=F1 x) O O EA.a EA.s O O) O (AT O) (AE.step (v:=(pP b2 2)) (AB O) (AD (j:=2) O O underlying53 sizeOf3 O (by decide) O) O (AT O) (AE.step (v:=(vN T.2.2)) (AB O) (AK (i:=0) (v:=(vN T.2.2)) O O Bj.a O) O (AT O) (AE.call (v:=(Value.bool true)) (AB O) (Ao (args:=[(aG (F1 x)),(vN T.2.2)]) O O call90) (λw hw=>(by have h9:=QO x T.2.2 w (inS hw 2 O lx);rw [decide_eq_true Z] at h9;exact h9)) O (AT O) ?_)))))
  refine AE.step (v:=(Value.bool false)) (AB O) (BQ (c:=false) O O) O (AT O) (AH (v:=(Value.bool false)) (AP O O) O (AM O (AE.step (v:=(pP b2 0)) (AB O) (AD (j:=0) O O underlying53 sizeOf3 O (by decide) O) O (AT O) (AE.step (v:=(vN T.1)) (AB O) (AK (i:=0) (v:=(vN T.1)) O O Bj.a O) O (AT O) (AE.step (v:=(pP b2 1)) (AB O) (AD (j:=1) O O underlying53 sizeOf3 O (by decide) O) O (AT O) ?_)))))
  refine AE.step (v:=(vN T.2.1)) (AB O) (AK (i:=0) (v:=(vN T.2.1)) O O Bj.a O) O (AT O) (AE.step (v:=(Value.bool false)) (AB O) (BL (c:=false) O O (decide_eq_false Z)) O (AT O) (AH (v:=(Value.bool false)) (AP O O) O (AM O (AE.step (v:=(pP b2 0)) (AB O) (AD (j:=0) O O underlying53 sizeOf3 O (by decide) O) O (AT O) (AE.step (v:=(vN T.1)) (AB O) (AK (i:=0) (v:=(vN T.1)) O O Bj.a O) O (AT O) ?_)))))
  refine AE.step (v:=(pP b2 2)) (AB O) (AD (j:=2) O O underlying53 sizeOf3 O (by decide) O) O (AT O) (AE.step (v:=(vN T.2.2)) (AB O) (AK (i:=0) (v:=(vN T.2.2)) O O Bj.a O) O (AT O) (AE.step (v:=(Value.bool false)) (AB O) (BL (c:=false) O O (decide_eq_false Z)) O (AT O) (AH (v:=(Value.bool false)) (AP O O) O (AM O (AE.step (v:=(pP b2 1)) (AB O) (AD (j:=1) O O underlying53 sizeOf3 O (by decide) O) O (AT O) ?_)))))
  refine AE.step (v:=(vN T.2.1)) (AB O) (AK (i:=0) (v:=(vN T.2.1)) O O Bj.a O) O (AT O) (AE.step (v:=(pP b2 2)) (AB O) (AD (j:=2) O O underlying53 sizeOf3 O (by decide) O) O (AT O) (AE.step (v:=(vN T.2.2)) (AB O) (AK (i:=0) (v:=(vN T.2.2)) O O Bj.a O) O (AT O) (AE.step (v:=(Value.bool false)) (AB O) (BL (c:=false) O O (decide_eq_false Z)) O (AT O) (AH (v:=(Value.bool false)) (AP O O) O (AE.nil ?_)))))
  refine AC.subF (sL [1,3,4,56] O) (AC.then_ (AF.cond_false O (AF.skip (AC.in_normal (AC.then_ ?_)))))
  exact AF.region (AM O (AH (AW (c:=((i+1:Nat):Int)) O O (AU (a:=i) (b:=1) Z)) O (asg' O (AE.nil (AC.subF (sL [1,3,4] O) (AC.round1 (i+1) Z Z (sF O) (sl sr)))))))
 ·replace hc0:=of_decide_eq_false hc0
  refine AF.exit (AC.then_exit (AC.round1_exit (AC.in_exit (q2 (asg' O ?_)))))
  exact AE.nil (AC.then_ (AF.ret (AI O (AY (v:=(Value.bool true)) O) (λw hw=>⟨rfl,hw.out⟩))))
end
section
set_option maxRecDepth 100000
theorem bJ:ElemT prog 36 115 3 24:=⟨underlying36,DA (by kernel_rfl)⟩
theorem JY (x0:Nat×Nat×Nat):Instr.fill (λi=>some (i*3,3)) ((Array.range (1*3)).map ((Value.agg (Ai ((0,0,0):Nat×Nat×Nat)).toArray).cells[·%(Value.agg (Ai ((0,0,0):Nat×Nat×Nat)).toArray).cells.size]!)) [(0,.agg (Ai x0).toArray)]=some (Ai x0).toArray:=by kernel_rfl
set_option maxHeartbeats 2000000 in
theorem Yg {N:Nat} {ts ss:List T3} (x:RM N ts ss) (hnb:By N ts=true) (hl:ts.length<=1000000) (hN:N<=4096) (w:World) {S:Nat->Prop} (hx:Ro S w x):Calls prog 74 #[(aG (F1 x))] w (Aw (RX (rowsL Ai (Bi ts)) (Bi ts).length) S w):=by
 have lx:=Cl (W:=w) hx
 refine Ah (args:=[(aG (F1 x))]) (L:=[AQ x.a.p (x.cs),AQ x.b.p (rowsL Ai ts),AQ x.c.p (rowsL Ai ss)]) func74 O O (AT O) (Ed hx Ax) (AF.subF (sL [0] O) (q4 (BU (cs:=F1 x) O λb1=>asg' O (q3 (sL [1,2] O) ?_))))
 refine asg' O (AE.nilRow 115 3 (AE.nil (q1 (q4 (BD 1 EA O ?_)))))
 refine Cj call79 (λw hw=>J2 x hnb hl Z w (inS hw 2 O lx)) O (AH (BQ (c:=false) O O) O (AE.nil (AC.subF (sL [1,2,3,10] O) (AC.then_ (AF.cond_false O ?_)))))
 refine AF.skip (q1 (q4 (asg' O (AE.nil (AC.subF (sL [1,2,3,4] O) ?_)))))
 refine AC.then_ (AF.block ?_)
 refine AF.lp4 (tg λ(ai:Nat) (p1:Option Addr) (c1:Nat) (ou:List T3)=>ai<=N/\OwnOk p1 ou.length c1/\ou.length<=ai*4096/\ou=Qk ts N ai) (tg λ(ai:Nat) (p1:Option Addr) (c1:Nat) (ou:List T3)=>[(1,(pP b1 0)),(2,(Value.slice none 0 0)),(4,(vN ai)),(3,(Value.slice p1 ou.length c1))]) (tg λ(ai:Nat) (p1:Option Addr) (c1:Nat) (ou:List T3)=>[rowW p1 115 3 ou.length c1 (rowsL Ai ou),Ag b1 38 (F1 x),AQ x.a.p (x.cs),AQ x.b.p (rowsL Ai ts),AQ x.c.p (rowsL Ai ss)]) (tg λ(ai:Nat) (p1:Option Addr) (c1:Nat) (ou:List T3)=>N-ai) 0 none 0 ([]:List T3) (⟨Nat.zero_le _,OwnOk.none,by simp,rfl⟩) (sF O) sr (λai p1 c1 ou hJ=>?_)
 obtain ⟨hai,h1,hln,hou⟩:=hJ
 refine AF.seq (q4 (AM O (AH (v:=(pP b1 0)) (AA O underlying38 O sizeOf35 O) O (BA 1 (Value.slice x.a.p N x.a.c) OP O (AH (v:=(vN N)) (AG O underlying35) O ?_)))))
 refine AH (Ae (c:=(decide (ai<N))) O O (CL (a:=ai) (b:=N))) O (AE.nil (AC.subF (sL [1,2,4,3,16] O) (AC.then_ ?_)))
 refine AF.cond O (λhc1=>?_) (λhc1=>?_)
 ·replace hc1:=of_decide_eq_true hc1
  refine AF.skip (q1 (AF.block (q4 (AM O (AH (AW (c:=((ai+1:Nat):Int)) O O (AU (a:=ai) (b:=1) Z)) O ?_)))))
  refine asg' O (AE.nil (AC.subF (sL [1,2,4,3,5] O) (AC.then_ (AF.block ?_))))
  refine AF.lp4 (tg λ(bi:Nat) (p2:Option Addr) (c2:Nat) (oq:List T3)=>bi<=N/\ai+1<=bi/\OwnOk p2 oq.length c2/\oq.length<=ai*4096+(bi-(ai+1))/\oq=Qk ts N ai++ID ts ai (bi-(ai+1))) (tg λ(bi:Nat) (p2:Option Addr) (c2:Nat) (oq:List T3)=>[(1,(pP b1 0)),(2,(Value.slice none 0 0)),(4,(vN ai)),(5,(vN bi)),(3,(Value.slice p2 oq.length c2))]) (tg λ(bi:Nat) (p2:Option Addr) (c2:Nat) (oq:List T3)=>[rowW p2 115 3 oq.length c2 (rowsL Ai oq),Ag b1 38 (F1 x),AQ x.a.p (x.cs),AQ x.b.p (rowsL Ai ts),AQ x.c.p (rowsL Ai ss)]) (tg λ(bi:Nat) (p2:Option Addr) (c2:Nat) (oq:List T3)=>N-bi) (ai+1) p1 c1 ou (⟨Z,Nat.le_refl _,h1,Z,by rw [hou,Nat.sub_self];exact (List.append_nil _).symm⟩) (sF O) sr (λbi p2 c2 oq hJ=>?_)
  obtain ⟨hbi,hba,h2,hlq,hsq⟩:=hJ
  refine AF.seq (q4 (AM O (AH (v:=(pP b1 0)) (AA O underlying38 O sizeOf35 O) O (BA 1 (Value.slice x.a.p N x.a.c) OP O (AH (v:=(vN N)) (AG O underlying35) O ?_)))))
  refine AH (Ae (c:=(decide (bi<N))) O O (CL (a:=bi) (b:=N))) O (AE.nil (AC.subF (sL [1,2,4,5,3,25] O) (AC.then_ ?_)))
  refine AF.cond O (λhc2=>?_) (λhc2=>?_)
  ·replace hc2:=of_decide_eq_true hc2
   refine AF.skip (q1 (AF.block (q4 (asg' O (AE.nil ?_)))))
   refine q1 (q4 (asg' O (AE.nil (AC.then_ (AF.block ?_)))))
   refine AF.lp2 (tg λ(ti:Nat) (cn:Nat)=>ti<=ts.length/\cn<=ti/\cn=H_ ts ai bi ti) (tg λ(ti:Nat) (cn:Nat)=>[(1,(pP b1 0)),(2,(Value.slice none 0 0)),(4,(vN ai)),(5,(vN bi)),(3,(Value.slice p2 oq.length c2)),(7,(vN ti)),(6,(vN cn))]) (tg λ(ti:Nat) (cn:Nat)=>[rowW p2 115 3 oq.length c2 (rowsL Ai oq),Ag b1 38 (F1 x),AQ x.a.p (x.cs),AQ x.b.p (rowsL Ai ts),AQ x.c.p (rowsL Ai ss)]) (tg λ(ti:Nat) (cn:Nat)=>ts.length-ti) 0 0 (⟨Nat.zero_le _,Nat.le_refl _,rfl⟩) (sF O) sr (λti cn hJ=>?_)
   obtain ⟨hti,hcn,hcw⟩:=hJ
   refine AF.seq (q4 (AM O (AH (v:=(pP b1 1)) (AA O underlying38 O sizeOf23 O) O (BA 1 (Value.slice x.b.p ts.length x.b.c) CP O (AH (v:=(vN ts.length)) (AG O underlying23) O ?_)))))
   refine AH (Ae (c:=(decide (ti<ts.length))) O O (CL (a:=ti) (b:=ts.length))) O (AE.nil (AC.subF (sL [1,2,4,5,3,7,6,32] O) (AC.then_ ?_)))
   refine AF.cond O (λhc3=>?_) (λhc3=>?_)
   ·replace hc3:=of_decide_eq_true hc3
    refine AF.skip (q1 (AF.block (q4 (AH (v:=(pP b1 1)) (AA O underlying38 O sizeOf23 O) O (BA 1 (Value.slice x.b.p ts.length x.b.c) CP O ?_)))))
    refine AM O (AH (v:=(pP (pB x.b.p) (pO x.b.p+ti*3))) (AN (j:=ti) O O x.b.ok underlying23 sizeOf53 O Z) O (AH (v:=(aG (Ai (ts.getD ti ((0,0,0):Nat×Nat×Nat))))) (AZ (vs:=Ai (ts.getD ti ((0,0,0):Nat×Nat×Nat))) (i:=3) O O (BF.ne x.b.ok Z) Gf (A7 Az _ _ _ Z) (Az _)) O (AM O (AM O (ck' call131 (Jm (ts.getD ti ((0,0,0):Nat×Nat×Nat)) ai bi) O ?_)))))
    refine AM O ?_
    refine AE.mid (FM:=[(1,(pP b1 0)),(2,(Value.slice none 0 0)),(4,(vN ai)),(5,(vN bi)),(3,(Value.slice p2 oq.length c2)),(7,(vN ti)),(6,(vN cn)),(35,(pP b1 1)),(36,(Value.slice x.b.p ts.length x.b.c)),(37,(vN ti)),(38,(pP (pB x.b.p) (pO x.b.p+ti*3))),(39,(aG (Ai (ts.getD ti ((0,0,0):Nat×Nat×Nat))))),(40,(vN ai)),(41,(vN bi)),(42,(Value.bool (Dt (ts.getD ti ((0,0,0):Nat×Nat×Nat)) ai bi))),(43,(Value.bool (Dt (ts.getD ti ((0,0,0):Nat×Nat×Nat)) ai bi))),(52,(Value.bool ((Dt (ts.getD ti ((0,0,0):Nat×Nat×Nat)) ai bi)||(Dt (ts.getD ti ((0,0,0):Nat×Nat×Nat)) bi ai))))]) (LM:=[rowW p2 115 3 oq.length c2 (rowsL Ai oq),Ag b1 38 (F1 x),AQ x.a.p (x.cs),AQ x.b.p (rowsL Ai ts),AQ x.c.p (rowsL Ai ss)]) 9 ?_ ?_
    ·rcases Bool.eq_false_or_eq_true (Dt (ts.getD ti ((0,0,0):Nat×Nat×Nat)) ai bi) with hg1|hg1
     ·skip
      refine AE.retell (k:=43) (u:=Value.bool true) O (by rw [hg1]) ?_
      have hg1':=hg1
      skip
      refine AE.skip (AJ O) O (AT O) (AE.skip (AJ O) O (AT O) (AE.skip (AJ O) O (AT O) (AE.skip (AJ O) O (AT O) (AE.skip (AJ O) O (AT O) (AE.skip (AJ O) O (AT O) ?_)))))
      exact AE.skip (AJ O) O (AT O) (AE.skip (AJ O) O (AT O) (AH (v:=(Value.bool true)) (Ac O O) O (AE.nil (AC.mid (sS O (sS O (sS O (sS O (sS O (sS O (sS O (sS O (sS O (sS O (sS O (sS O (sS O (sS O (sS O (sS (by first|rfl|(rw [hg1];rfl)|rw [hg1]) (sS (by first|rfl|(rw [hg1];rfl)|rw [hg1]) (sN)))))))))))))))))) (List.Sublist.refl _)))))
     ·skip
      refine AE.retell (k:=43) (u:=Value.bool false) O (by rw [hg1]) ?_
      have hg1':=hg1
      skip
      refine AE.step (v:=(pP b1 1)) (AB O) (AA O underlying38 O sizeOf23 O) O (AT O) (AE.step (v:=(Value.slice x.b.p ts.length x.b.c)) (AB O) (AK (i:=1) (v:=(Value.slice x.b.p ts.length x.b.c)) O O CP.a O) O (AT O) (AE.step (v:=(vN ti)) (AB O) (Al O) O (AT O) (AE.step (v:=(pP (pB x.b.p) (pO x.b.p+ti*3))) (AB O) (AN (j:=ti) O O x.b.ok underlying23 sizeOf53 O Z) O (AT O) (AE.step (v:=(aG (Ai (ts.getD ti ((0,0,0):Nat×Nat×Nat))))) (AB O) (AZ (vs:=Ai (ts.getD ti ((0,0,0):Nat×Nat×Nat))) (i:=3) O O (BF.ne x.b.ok Z) Gf (A7 Az _ _ _ Z) (Az _)) O (AT O) (AE.step (v:=(vN bi)) (AB O) (Al O) O (AT O) ?_)))))
      exact AE.step (v:=(vN ai)) (AB O) (Al O) O (AT O) (AE.call (v:=(Value.bool (Dt (ts.getD ti ((0,0,0):Nat×Nat×Nat)) bi ai))) (AB O) (Ao (args:=[(aG (Ai (ts.getD ti ((0,0,0):Nat×Nat×Nat)))),(vN bi),(vN ai)]) O O call131) (λw hw=>Jm (ts.getD ti ((0,0,0):Nat×Nat×Nat)) bi ai w) O (AT O) (AH (v:=(Value.bool (Dt (ts.getD ti ((0,0,0):Nat×Nat×Nat)) bi ai))) (AP O O) O (AE.nil (AC.mid (sS O (sS O (sS O (sS O (sS O (sS O (sS O (sS O (sS O (sS O (sS O (sS O (sS O (sS O (sS O (sS (by first|rfl|(rw [hg1];rfl)|rw [hg1]) (sS (by first|rfl|(rw [hg1];rfl)|rw [hg1]) (sN)))))))))))))))))) (List.Sublist.refl _)))))
    refine AE.nil (AC.subF (sL [1,2,4,5,3,7,6,52] O) (AC.then_ ?_))
    refine AF.cond O (λhc4=>?_) (λhc4=>?_)
    ·simp only [Bool.and_eq_true,Bool.or_eq_true,Bool.and_eq_false_iff,Bool.or_eq_false_iff,Bool.not_eq_true',Bool.not_eq_false',decide_eq_true_eq,decide_eq_false_iff_not] at hc4
     refine AF.region (AM O (AH (AW (c:=((cn+1:Nat):Int)) O O (AU (a:=cn) (b:=1) Z)) O (asg' O (AE.nil (AC.subF (sL [1,2,4,5,3,7,6] O) ?_)))))
     refine AC.in_normal (AC.then_ (AF.region (AM O (AH (AW (c:=((ti+1:Nat):Int)) O O (AU (a:=ti) (b:=1) Z)) O (asg' O ?_)))))
     exact AE.nil (AC.subF (sL [1,2,4,5,3,7,6] O) (AC.round2 (ti+1) (cn+1) (⟨Z,Z,by rw [hcw];exact (WH (by first|exact hc4|simpa [Y_] using hc4)).symm⟩) Z (sF O) sr))
    ·simp only [Bool.and_eq_true,Bool.or_eq_true,Bool.and_eq_false_iff,Bool.or_eq_false_iff,Bool.not_eq_true',Bool.not_eq_false',decide_eq_true_eq,decide_eq_false_iff_not] at hc4
     refine AF.skip (AC.in_normal (AC.then_ (AF.region (AM O (AH (AW (c:=((ti+1:Nat):Int)) O O (AU (a:=ti) (b:=1) Z)) O ?_)))))
     exact asg' O (AE.nil (AC.subF (sL [1,2,4,5,3,7,6] O) (AC.round2 (ti+1) cn (⟨Z,Z,by rw [hcw];exact (Xc (by first|exact hc4|simpa [Y_] using hc4)).symm⟩) Z (sF O) sr)))
   ·replace hc3:=of_decide_eq_false hc3
    have htn:ti=ts.length:=by omega
    subst htn
    refine AF.exit (AC.then_exit (AC.round2_exit (AC.in_exit (q2 (AM O ?_)))))
    refine AH (BL (c:=(decide (cn=1))) O O (Iv (a:=cn) (b:=1))) O (AE.nil (AC.subF (sL [1,2,4,5,3,7,6,56] O) (AC.then_ ?_)))
    refine AF.cond O (λhc5=>?_) (λhc5=>?_)
    ·replace hc5:=of_decide_eq_true hc5
     refine AF.region (AM O (AM O (AM O (AH (v:=(aG ([(vN ai),(vN bi),(vI 0)]))) (AV (zs:=Ai ((0,0,0):Nat×Nat×Nat)) (vs:=[(vN ai),(vN bi),(vI 0)]) (pv:=[(0,(vN ai)),(1,(vN bi))]) (places:=[(0,1),(1,1),(2,1)]) zeroValue115 underlying115 (λw=>by simp [sizeOf3]) O O) O (AE.openV (V:=λb2=>(Value.slice (some ⟨b2,0,none⟩) 1 1)) (T:=115) (cs:=Ai ((ai,bi,0):T3)) (AS O) (Av (z:=.agg (Ai ((0,0,0):Nat×Nat×Nat)).toArray) (cs:=Ai ((ai,bi,0):T3)) (pv:=[(0,(aG ([(vN ai),(vN bi),(vI 0)])))]) underlying36 sizeOf115 zeroValue115 (by decide) (by decide) O (JY ((ai,bi,0):T3))) O (AT O) λb2=>?_)))))
     refine AE.append1 (j:=0) (cs2:=rowsL Ai (oq++[((ai,bi,0):T3)])) bJ O h2 (Ak Az _) O O O O (by decide) (Hx Z) Z (by rw [BP];rfl) O λp_1 c_1 ho_1 hne_1=>asg' O (AE.nil (AC.subF (sL [1,2,4,5,3,7,6] O) (AC.in_normal (AC.then_ ?_))))
     refine AF.region (AM O (AH (AW (c:=((bi+1:Nat):Int)) O O (AU (a:=bi) (b:=1) Z)) O (asg' O (AE.nil (AC.subF (sL [1,2,4,5,3,7,6] O) ?_)))))
     rw [show oq.length+1=(oq++[((ai,bi,0):T3)]).length by simp]
     exact AC.round4 (bi+1) p_1 c_1 (oq++[((ai,bi,0):T3)]) (⟨Z,Z,(by simpa using ho_1),by rw [List.length_append];simp only [List.length_singleton];omega,(by rw [hsq,List.append_assoc];congr 1;exact (VF Z (by rw [<-hcw];exact hc5)).symm)⟩) Z (sF O) (sl sr)
    ·replace hc5:=of_decide_eq_false hc5
     refine AF.skip (AC.in_normal (AC.then_ (AF.region (AM O (AH (AW (c:=((bi+1:Nat):Int)) O O (AU (a:=bi) (b:=1) Z)) O ?_)))))
     exact asg' O (AE.nil (AC.subF (sL [1,2,4,5,3,7,6] O) (AC.round4 (bi+1) p2 c2 oq (⟨Z,Z,h2,Z,(by rw [hsq];congr 1;exact (XI Z (by rw [<-hcw];exact hc5)).symm)⟩) Z (sF O) sr)))
  ·replace hc2:=of_decide_eq_false hc2
   have hbn:bi=N:=by omega
   refine AF.exit (AC.then_exit (AC.round4_exit (AC.in_exit (AC.in_normal (AC.then_ ?_)))))
   exact AF.region (AM O (AH (AW (c:=((ai+1:Nat):Int)) O O (AU (a:=ai) (b:=1) Z)) O (asg' O (AE.nil (AC.subF (sL [1,2,4,5,3] O) (AC.round4 (ai+1) p2 c2 oq (⟨Z,h2,Z,by rw [hsq,show bi=N by omega];rfl⟩) Z (sF O) sr))))))
 ·replace hc1:=of_decide_eq_false hc1
  refine AF.exit (AC.then_exit (AC.round4_exit (AC.in_exit (q2 (AM O ?_)))))
  exact asg' O (AE.nil (AC.subF (sL [1,2,4,3] O) (AC.then_ (AF.ret (AI O (AY (v:=(Value.slice p1 ou.length c1)) O) (λw hw=>(by rw [show Bi ts=ou by rw [hou,show ai=N by omega];exact (XT hnb Z).symm];exact YS hw 0 O h1 (Ak Az _) O)))))))
end
section
def DI (ts:List T3) (a b:Nat):Nat->Int
  | 0 => -1
  | k+1=>if Dt (ts.getD (ts.length-1-k) (0,0,0)) a b=true then ((ts.length-1-k:Nat):Int) else DI ts a b k
def Td (ts:List T3) (a b:Nat):E4:=⟨a,b,IF ts a b ts.length,IF ts b a ts.length⟩
def IM (ts:List T3) (a:Nat):Nat->List E4
  | 0=>[]
  | j+1=>if 0<=(Td ts a (a+1+j)).l\/0<=(Td ts a (a+1+j)).r then IM ts a j++[Td ts a (a+1+j)] else IM ts a j
def ZR (ts:List T3) (N:Nat):Nat->List E4
  | 0=>[]
  | a+1=>ZR ts N a++IM ts a (N-(a+1))
section
variable {ts:List T3} {a b N:Nat}
theorem KU:∀k,k<=ts.length->(DI ts a b k = -1/\∀j,ts.length-k<=j->j<ts.length->Dt (ts.getD j (0,0,0)) a b=false)\/∃j,ts.length-k<=j/\j<ts.length/\Dt (ts.getD j (0,0,0)) a b=true/\DI ts a b k=(j:Int)/\∀i,ts.length-k<=i->i<j->Dt (ts.getD i (0,0,0)) a b=false
  | 0,_=>.inl ⟨rfl,λj h1 h2=>by omega⟩
  | k+1,hk=>by
    rw [DI]
    by_cases e:Dt (ts.getD (ts.length-1-k) (0,0,0)) a b=true
    · rw [if_pos e]
      exact .inr ⟨ts.length-1-k,Z,Z,e,rfl,λi h1 h2=>by omega⟩
    · rw [if_neg e]
      have e2:Dt (ts.getD (ts.length-1-k) (0,0,0)) a b=false:=by simpa using e
      rcases KU k Z with ⟨h1,h2⟩|⟨j,h1,h2,h3,h4,h5⟩
      · refine .inl ⟨h1,λj q1 q2=>?_⟩
        rcases Nat.lt_or_ge j (ts.length-k) with h|h
        · rw [show j=ts.length-1-k by omega];exact e2
        · exact h2 j h q2
      · refine .inr ⟨j,Z,h2,h3,h4,λi q1 q2=>?_⟩
        rcases Nat.lt_or_ge i (ts.length-k) with h|h
        · rw [show i=ts.length-1-k by omega];exact e2
        · exact h5 i h q2
theorem Nv:DI ts a b ts.length=IF ts a b ts.length:=by
  rcases KU (ts:=ts) (a:=a) (b:=b) ts.length (Nat.le_refl _) with ⟨h1,h2⟩|⟨j,h1,h2,h3,h4,h5⟩
  · rw [h1,Jq _ λj hj=>h2 j Z hj]
  · rw [h4,O1 _ h2 h3 λi hi=>h5 i Z hi]
theorem KS {j:Nat}:Dt (ts.getD j (0,0,0)) a b=true↔Vj ts j a b:=by
  unfold Vj
  constructor
  · intro h
    unfold Dt at h
    simp only [Bool.or_eq_true,Bool.and_eq_true,decide_eq_true_eq] at h
    rcases h with ⟨h1,h2⟩|⟨h1,h2⟩|⟨h1,h2⟩
    · exact ⟨0,by decide,by rw [FE (by decide)];exact Prod.ext h1 h2⟩
    · exact ⟨1,by decide,by rw [FE (by decide)];exact Prod.ext h1 h2⟩
    · exact ⟨2,by decide,by rw [FE (by decide)];exact Prod.ext h1 h2⟩
  · rintro ⟨r,hr,h⟩
    rw [FE hr] at h
    have h1:=congrArg Prod.fst h
    have h2:=congrArg Prod.snd h
    simp only at h1 h2
    have e:r=0\/r=1\/r=2:=by omega
    unfold Dt
    rcases e with rfl|rfl|rfl<;>simp [EE] at h1 h2<;>simp [h1,h2]
theorem HR:Hw ts (3*ts.length) a b (IF ts a b ts.length):=by
  refine Uy ?_
  by_cases h:∃j,j<ts.length/\Dt (ts.getD j (0,0,0)) a b=true
  · rcases KU (ts:=ts) (a:=a) (b:=b) ts.length (Nat.le_refl _) with ⟨h1,h2⟩|⟨j,h1,h2,h3,h4,h5⟩
    · obtain ⟨j,k1,k2⟩:=h
      rw [h2 j Z k1] at k2
      cases k2
    · refine .inr ⟨j,h2,by rw [<-Nv];exact h4,KS.1 h3,λi hi k=>?_⟩
      have:=h5 i Z hi
      rw [KS.2 k] at this
      cases this
  · have hn:∀j,j<ts.length->Dt (ts.getD j (0,0,0)) a b=false:=λj hj=>by
      cases e:Dt (ts.getD j (0,0,0)) a b with
      | false=>rfl
      | true=>exact absurd ⟨j,hj,e⟩ h
    exact .inl ⟨Jq _ hn,λj hj k=>by have:=hn j hj;rw [KS.2 k] at this;cases this⟩
theorem Gy {e:E4}:∀j,e∈IM ts a j↔e.a=a/\a<e.b/\e.b<a+1+j/\e=Td ts e.a e.b/\(0<=e.l\/0<=e.r)
  | 0=>⟨λh=>(by cases h),λh=>Z⟩
  | j+1=>by
    rw [IM]
    split
    · rename_i hc
      rw [List.mem_append,Gy j,List.mem_singleton]
      constructor
      · rintro (h|rfl)
        · exact ⟨h.1,h.2.1,Z,h.2.2.2⟩
        · exact ⟨rfl,(by show a<a+1+j;omega),(by show a+1+j<a+1+(j+1);omega),rfl,hc⟩
      · rintro ⟨h1,h2,h3,h4,h5⟩
        rcases Nat.lt_or_ge e.b (a+1+j) with h6|h6
        · exact .inl ⟨h1,h2,h6,h4,h5⟩
        · refine .inr ?_
          rw [h4,h1,show e.b=a+1+j by omega]
    · rename_i hc
      rw [Gy j]
      constructor
      · exact λh=>⟨h.1,h.2.1,Z,h.2.2.2⟩
      · rintro ⟨h1,h2,h3,h4,h5⟩
        rcases Nat.lt_or_ge e.b (a+1+j) with h6|h6
        · exact ⟨h1,h2,h6,h4,h5⟩
        · rw [h1,show e.b=a+1+j by omega] at h4
          rw [h4] at h5
          exact absurd h5 hc
theorem Ns {e:E4}:∀A,e∈ZR ts N A↔e.a<A/\e.a<e.b/\e.b<N/\e=Td ts e.a e.b/\(0<=e.l\/0<=e.r)
  | 0=>⟨λh=>(by cases h),λh=>Z⟩
  | A+1=>by
    rw [ZR,List.mem_append,Ns A,Gy]
    constructor
    · rintro (h|h)
      · exact ⟨Z,h.2⟩
      · exact ⟨Z,Z,Z,h.2.2.2⟩
    · rintro ⟨h1,h2,h3,h4⟩
      rcases Nat.lt_or_ge e.a A with h5|h5
      · exact .inl ⟨h5,h2,h3,h4⟩
      · exact .inr ⟨Z,Z,Z,h4⟩
theorem Gp:∀j,(IM ts a j).Pairwise X5
  | 0=>List.Pairwise.nil
  | j+1=>by
    rw [IM]
    split
    · refine List.pairwise_append.2 ⟨Gp j,List.pairwise_singleton _ _,λx hx y hy=>?_⟩
      rw [List.mem_singleton] at hy
      subst hy
      have h:=(Gy j).1 hx
      exact .inr ⟨h.1,(by show x.b<a+1+j;exact h.2.2.1)⟩
    · exact Gp j
theorem LK:∀A,(ZR ts N A).Pairwise X5
  | 0=>List.Pairwise.nil
  | A+1=>List.pairwise_append.2 ⟨LK A,Gp _,λx hx y hy=>.inl (by
      have h1:=(Ns A).1 hx
      have h2:=(Gy _).1 hy
      omega)⟩
theorem Zx (hn:By N ts=true) (hN:N<=4611686018427387904):ZR ts N N=BV ts:=by
  refine F6 X5.asymm (LK N) (LU hn hN) λe=>?_
  rw [Ns,Ju hn hN]
  constructor
  · rintro ⟨_,h2,_,h4,h5⟩
    have el:e.l=IF ts e.a e.b ts.length:=congrArg E4.l h4
    have er:e.r=IF ts e.b e.a ts.length:=congrArg E4.r h4
    refine ⟨rfl,rfl,h2,by rw [el];exact HR,by rw [er];exact HR,?_⟩
    rcases h5 with h5|h5
    · rw [el] at h5
      obtain ⟨u,hu,h⟩:=(Hw.neg2 HR).1 h5
      exact ⟨u,hu,.inl h⟩
    · rw [er] at h5
      obtain ⟨u,hu,h⟩:=(Hw.neg2 HR).1 h5
      exact ⟨u,hu,.inr h⟩
  · intro k
    have kl:Hw ts (3*ts.length) e.a e.b e.l:=k.l
    have kr:Hw ts (3*ts.length) e.b e.a e.r:=k.r
    have el:e.l=IF ts e.a e.b ts.length:=kl.uniq HR
    have er:e.r=IF ts e.b e.a ts.length:=kr.uniq HR
    have hk:(e.a,e.b)∈GF ts:=(LN hn hN).2 ⟨e,(Ju hn hN).2 k,rfl,rfl⟩
    obtain ⟨k1,k2⟩:=Ki hn hN hk
    refine ⟨Z,k1,k2,?_,?_⟩
    · obtain ⟨x,y,l,r⟩:=e
      simp only at el er
      rw [el,er]
      rfl
    · obtain ⟨u,hu,h⟩:=k.some
      rcases h with h|h
      · exact .inl ((Hw.neg2 kl).2 ⟨u,hu,h⟩)
      · exact .inr ((Hw.neg2 kr).2 ⟨u,hu,h⟩)
where
  Hw.neg2 {s x y:Nat} {z:Int} (h:Hw ts s x y z):0<=z↔∃u,u<s/\Ct ts u=(x,y):=by
    rcases h with ⟨h1,h2⟩|⟨u,h1,h2,h3,_⟩
    · exact ⟨λ_=>by omega,λ⟨u,hu,e⟩=>absurd e (h2 u hu)⟩
    · exact ⟨λ_=>⟨u,h1,h3⟩,λ_=>by omega⟩
theorem Rl {k:Nat} (h:Dt (ts.getD (ts.length-1-k) (0,0,0)) a b=true):DI ts a b (k+1)=((ts.length-1-k:Nat):Int):=if_pos h
theorem VL {k:Nat} (h:¬Dt (ts.getD (ts.length-1-k) (0,0,0)) a b=true):DI ts a b (k+1)=DI ts a b k:=if_neg h
theorem Tp {j:Nat} (hj:a+1<=j) (h:0<=(Td ts a j).l\/0<=(Td ts a j).r):IM ts a (j+1-(a+1))=IM ts a (j-(a+1))++[Td ts a j]:=by
  rw [show j+1-(a+1)=(j-(a+1))+1 by omega,IM,if_pos (by rw [show a+1+(j-(a+1))=j by omega];exact h),show a+1+(j-(a+1))=j by omega]
theorem XC {j:Nat} (hj:a+1<=j) (h:¬(0<=(Td ts a j).l\/0<=(Td ts a j).r)):IM ts a (j+1-(a+1))=IM ts a (j-(a+1)):=by
  rw [show j+1-(a+1)=(j-(a+1))+1 by omega,IM,if_neg (by rw [show a+1+(j-(a+1))=j by omega];exact h)]
theorem Zb {k:Nat} (h:k=ts.length):(⟨a,b,DI ts a b k,DI ts b a k⟩:E4)=Td ts a b:=by
  subst h
  rw [Nv,Nv];rfl
end
end
end Go.Proofs.YtpgncndhhhllfaaGreatDoor
