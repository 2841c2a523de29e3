import Derived.Test.YtpgncndhhhllfaaGreatPart03
import Derived.Test.YtpgncndhhhllfaaGreatPart19
import Derived.Test.YtpgncndhhhllfaaGreatPart27
import Derived.Test.YtpgncndhhhllfaaGreatPart29
namespace Go.Proofs.YtpgncndhhhllfaaGreat
open Go Go.RowKit Go.Proofs.Tryz
set_option linter.unusedVariables false
set_option linter.unusedSimpArgs false
section
set_option maxRecDepth 100000
theorem PZ {N:Nat} {ts ss:List T3} (x:RM N ts ss) (p:Nat) (w:World) {S:Nat->Prop} (hx:Ro S w x):Calls prog 56 #[(aG (Bt x)),(vN p)] w (A9 w (Value.bool (decide (p<N)))):=by
 have lx:=Dk (W:=w) hx
 refine An (args:=[(aG (Bt x)),(vN p)]) (L:=[AK x.a.p (x.cs),AK x.b.p (rowsL AZ ts),AK x.c.p (rowsL AZ ss)]) func56 O O (Ad O) (E3 hx BA) (AE.subF (sL [0,1] O) (q4 (Ca (cs:=Bt x) O λb1=>AI O (q3 (sL [1,2,4] O) (AM O (AJ (DR (c:=(decide (0<=p))) O O (Wh (a:=0) (b:=p))) O (AM O ?_)))))))
 refine AC.mid (FM:=[(1,(vN p)),(2,(pP b1 0)),(4,(Value.bool false)),(5,(vN p)),(6,(Value.bool (decide (0<=p)))),(7,(Value.bool (decide (0<=p)))),(13,(Value.bool ((decide (0<=p))&&(decide (p<N)))))]) (LM:=[Af b1 38 (Bt x),AK x.a.p (x.cs),AK x.b.p (rowsL AZ ts),AK x.c.p (rowsL AZ ss)]) 6 ?_ ?_
 ·rcases Bool.eq_false_or_eq_true (decide (0<=p)) with hg1|hg1
  ·skip
   refine AC.retell (k:=7) (u:=Value.bool true) O (by rw [hg1]) ?_
   have hg1':=hg1
   replace hg1':=of_decide_eq_true hg1'
   exact AC.step (v:=(vN p)) (AA O) (AU O) O (Ad O) (AC.step (v:=(pP b1 0)) (AA O) (AB O underlying38 O sizeOf35 O) O (Ad O) (AC.step (v:=(Value.slice x.a.p N x.a.c)) (AA O) (AS (i:=0) (v:=(Value.slice x.a.p N x.a.c)) O O QA.a O) O (Ad O) (AC.step (v:=(vN N)) (AA O) (AF O underlying35) O (Ad O) (AC.step (v:=(Value.bool (decide (p<N)))) (AA O) (Ac (c:=(decide (p<N))) O O (CD (a:=p) (b:=N))) O (Ad O) (AJ (v:=(Value.bool (decide (p<N)))) (AW O O) O (AC.nil (OkQ.mid (sS O (sS O (sS O (sS O (sS O (sS (by first|rfl|(rw [hg1];rfl)|rw [hg1]) (sS (by first|rfl|(rw [hg1];rfl)|rw [hg1]) (sN)))))))) (List.Sublist.refl _))))))))
  ·skip
   refine AC.retell (k:=7) (u:=Value.bool false) O (by rw [hg1]) ?_
   have hg1':=hg1
   replace hg1':=of_decide_eq_false hg1'
   exact AC.skip (AH O) O (Ad O) (AC.skip (AH O) O (Ad O) (AC.skip (AH O) O (Ad O) (AC.skip (AH O) O (Ad O) (AC.skip (AH O) O (Ad O) (AJ (v:=(Value.bool false)) (AT O O) O (AC.nil (OkQ.mid (sS O (sS O (sS O (sS O (sS O (sS (by first|rfl|(rw [hg1];rfl)|rw [hg1]) (sS (by first|rfl|(rw [hg1];rfl)|rw [hg1]) (sN)))))))) (List.Sublist.refl _))))))))
 exact AI O (AC.nil (OkQ.subF (sL [4] O) (OkQ.then_ (AE.ret (AV O (Ah (v:=(Value.bool ((decide (0<=p))&&(decide (p<N))))) O) (λw hw=>⟨by simp,hw.out⟩))))))
theorem Ht (t:T3) (a b:Nat) (w:World)  :Calls prog 55 #[(aG (AZ t)),(vN a),(vN b)] w (A9 w (Value.bool (C9 t a b))):=by
 refine Aq (args:=[(aG (AZ t)),(vN a),(vN b)]) func55 O O (Ad O) (AE.subF (sL [0,1,2] O) (q4 (Ca (cs:=AZ t) O λb1=>AI O (q3 (sL [1,2,3,6] O) (AJ (v:=(pP b1 0)) (AD (j:=0) O O underlying68 sizeOf3 O (by decide) O) O (BE 0 (vN t.1) BY O (AM O (AJ (BQ (c:=(decide (t.1=a))) O O (JC (a:=t.1) (b:=a))) O (AM O ?_)))))))))
 refine AC.mid (FM:=[(1,(vN a)),(2,(vN b)),(3,(pP b1 0)),(6,(Value.bool false)),(7,(pP b1 0)),(8,(vN t.1)),(9,(vN a)),(10,(Value.bool (decide (t.1=a)))),(11,(Value.bool (decide (t.1=a)))),(16,(Value.bool ((decide (t.1=a))&&(decide (t.2.1=b)))))]) (LM:=[Af b1 68 (AZ t)]) 5 ?_ ?_
 ·rcases Bool.eq_false_or_eq_true (decide (t.1=a)) with hg1|hg1
  ·skip
   refine AC.retell (k:=11) (u:=Value.bool true) O (by rw [hg1]) ?_
   have hg1':=hg1
   replace hg1':=of_decide_eq_true hg1'
   exact AC.step (v:=(pP b1 1)) (AA O) (AD (j:=1) O O underlying68 sizeOf3 O (by decide) O) O (Ad O) (AC.step (v:=(vN t.2.1)) (AA O) (AS (i:=0) (v:=(vN t.2.1)) O O BY.a O) O (Ad O) (AC.step (v:=(vN b)) (AA O) (AU O) O (Ad O) (AC.step (v:=(Value.bool (decide (t.2.1=b)))) (AA O) (BQ (c:=(decide (t.2.1=b))) O O (JC (a:=t.2.1) (b:=b))) O (Ad O) (AJ (v:=(Value.bool (decide (t.2.1=b)))) (AW O O) O (AC.nil (OkQ.mid (sS O (sS O (sS O (sS O (sS O (sS O (sS O (sS O (sS (by first|rfl|(rw [hg1];rfl)|rw [hg1]) (sS (by first|rfl|(rw [hg1];rfl)|rw [hg1]) (sN))))))))))) (List.Sublist.refl _)))))))
  ·skip
   refine AC.retell (k:=11) (u:=Value.bool false) O (by rw [hg1]) ?_
   have hg1':=hg1
   replace hg1':=of_decide_eq_false hg1'
   exact AC.skip (AH O) O (Ad O) (AC.skip (AH O) O (Ad O) (AC.skip (AH O) O (Ad O) (AC.skip (AH O) O (Ad O) (AJ (v:=(Value.bool false)) (AT O O) O (AC.nil (OkQ.mid (sS O (sS O (sS O (sS O (sS O (sS O (sS O (sS O (sS (by first|rfl|(rw [hg1];rfl)|rw [hg1]) (sS (by first|rfl|(rw [hg1];rfl)|rw [hg1]) (sN))))))))))) (List.Sublist.refl _)))))))
 refine AM O ?_
 refine AC.mid (FM:=[(1,(vN a)),(2,(vN b)),(3,(pP b1 0)),(6,(Value.bool false)),(7,(pP b1 0)),(8,(vN t.1)),(9,(vN a)),(10,(Value.bool (decide (t.1=a)))),(11,(Value.bool (decide (t.1=a)))),(16,(Value.bool ((decide (t.1=a))&&(decide (t.2.1=b))))),(17,(Value.bool ((decide (t.1=a))&&(decide (t.2.1=b))))),(28,(Value.bool (((decide (t.1=a))&&(decide (t.2.1=b)))||((decide (t.2.1=a))&&(decide (t.2.2=b))))))]) (LM:=[Af b1 68 (AZ t)]) 11 ?_ ?_
 ·rcases Bool.eq_false_or_eq_true ((decide (t.1=a))&&(decide (t.2.1=b))) with hg2|hg2
  ·skip
   refine AC.retell (k:=17) (u:=Value.bool true) O (by rw [hg2]) ?_
   have hg2':=hg2
   simp only [Bool.and_eq_true,Bool.or_eq_true,Bool.and_eq_false_iff,Bool.or_eq_false_iff,Bool.not_eq_true',Bool.not_eq_false',decide_eq_true_eq,decide_eq_false_iff_not] at hg2'
   exact AC.skip (AH O) O (Ad O) (AC.skip (AH O) O (Ad O) (AC.skip (AH O) O (Ad O) (AC.skip (AH O) O (Ad O) (AC.skip (AH O) O (Ad O) (AC.skip (Aj O O O) O (Ad O) (AC.skip (Aj O O O) O (Ad O) (AC.skip (Aj O O O) O (Ad O) (AC.skip (Aj O O O) O (Ad O) (AC.skip (AH O) O (Ad O) (AJ (v:=(Value.bool true)) (AW O O) O (AC.nil (OkQ.mid (sS O (sS O (sS O (sS O (sS O (sS O (sS O (sS O (sS O (sS O (sS (by first|rfl|(rw [hg2];rfl)|rw [hg2]) (sS (by first|rfl|(rw [hg2];rfl)|rw [hg2]) (sN))))))))))))) (List.Sublist.refl _)))))))))))))
  ·skip
   refine AC.retell (k:=17) (u:=Value.bool false) O (by rw [hg2]) ?_
   have hg2':=hg2
   simp only [Bool.and_eq_true,Bool.or_eq_true,Bool.and_eq_false_iff,Bool.or_eq_false_iff,Bool.not_eq_true',Bool.not_eq_false',decide_eq_true_eq,decide_eq_false_iff_not] at hg2'
   refine AC.step (v:=(pP b1 1)) (AA O) (AD (j:=1) O O underlying68 sizeOf3 O (by decide) O) O (Ad O) (AC.step (v:=(vN t.2.1)) (AA O) (AS (i:=0) (v:=(vN t.2.1)) O O BY.a O) O (Ad O) (AC.step (v:=(vN a)) (AA O) (AU O) O (Ad O) (AC.step (v:=(Value.bool (decide (t.2.1=a)))) (AA O) (BQ (c:=(decide (t.2.1=a))) O O (JC (a:=t.2.1) (b:=a))) O (Ad O) (AC.step (v:=(Value.bool (decide (t.2.1=a)))) (AA O) (AU O) O (Ad O) ?_))))
   refine AC.mid (FM:=[(1,(vN a)),(2,(vN b)),(3,(pP b1 0)),(6,(Value.bool false)),(7,(pP b1 0)),(8,(vN t.1)),(9,(vN a)),(10,(Value.bool (decide (t.1=a)))),(11,(Value.bool (decide (t.1=a)))),(16,(Value.bool ((decide (t.1=a))&&(decide (t.2.1=b))))),(17,(Value.bool false)),(18,(pP b1 1)),(19,(vN t.2.1)),(20,(vN a)),(21,(Value.bool (decide (t.2.1=a)))),(22,(Value.bool (decide (t.2.1=a)))),(27,(Value.bool ((decide (t.2.1=a))&&(decide (t.2.2=b)))))]) (LM:=[Af b1 68 (AZ t)]) 5 ?_ ?_
   ·rcases Bool.eq_false_or_eq_true (decide (t.2.1=a)) with hg3|hg3
    ·skip
     refine AC.retell (k:=22) (u:=Value.bool true) O (by rw [hg3]) ?_
     have hg3':=hg3
     replace hg3':=of_decide_eq_true hg3'
     exact AC.step (v:=(pP b1 2)) (AA O) (AD (j:=2) O O underlying68 sizeOf3 O (by decide) O) O (Ad O) (AC.step (v:=(vN t.2.2)) (AA O) (AS (i:=0) (v:=(vN t.2.2)) O O BY.a O) O (Ad O) (AC.step (v:=(vN b)) (AA O) (AU O) O (Ad O) (AC.step (v:=(Value.bool (decide (t.2.2=b)))) (AA O) (BQ (c:=(decide (t.2.2=b))) O O (JC (a:=t.2.2) (b:=b))) O (Ad O) (AC.step (v:=(Value.bool (decide (t.2.2=b)))) (AA O) (AW O O) O (Ad O) (AC.nil (OkQ.mid (sS O (sS O (sS O (sS O (sS O (sS O (sS O (sS O (sS O (sS O (sS O (sS O (sS O (sS O (sS O (sS (by first|rfl|(rw [hg3];rfl)|rw [hg3]) (sS (by first|rfl|(rw [hg3];rfl)|rw [hg3]) (sN)))))))))))))))))) (List.Sublist.refl _)))))))
    ·skip
     refine AC.retell (k:=22) (u:=Value.bool false) O (by rw [hg3]) ?_
     have hg3':=hg3
     replace hg3':=of_decide_eq_false hg3'
     exact AC.skip (AH O) O (Ad O) (AC.skip (AH O) O (Ad O) (AC.skip (AH O) O (Ad O) (AC.skip (AH O) O (Ad O) (AC.step (v:=(Value.bool false)) (AA O) (AT O O) O (Ad O) (AC.nil (OkQ.mid (sS O (sS O (sS O (sS O (sS O (sS O (sS O (sS O (sS O (sS O (sS O (sS O (sS O (sS O (sS O (sS (by first|rfl|(rw [hg3];rfl)|rw [hg3]) (sS (by first|rfl|(rw [hg3];rfl)|rw [hg3]) (sN)))))))))))))))))) (List.Sublist.refl _)))))))
   exact AJ (v:=(Value.bool ((decide (t.2.1=a))&&(decide (t.2.2=b))))) (AT O O) O (AC.nil (OkQ.mid (sS O (sS O (sS O (sS O (sS O (sS O (sS O (sS O (sS O (sS O (sS (by first|rfl|(rw [hg2];rfl)|rw [hg2]) (sS (by first|rfl|(rw [hg2];rfl)|rw [hg2]) (sN))))))))))))) (List.Sublist.refl _)))
 refine AM O ?_
 refine AC.mid (FM:=[(1,(vN a)),(2,(vN b)),(3,(pP b1 0)),(6,(Value.bool false)),(7,(pP b1 0)),(8,(vN t.1)),(9,(vN a)),(10,(Value.bool (decide (t.1=a)))),(11,(Value.bool (decide (t.1=a)))),(16,(Value.bool ((decide (t.1=a))&&(decide (t.2.1=b))))),(17,(Value.bool ((decide (t.1=a))&&(decide (t.2.1=b))))),(28,(Value.bool (((decide (t.1=a))&&(decide (t.2.1=b)))||((decide (t.2.1=a))&&(decide (t.2.2=b)))))),(29,(Value.bool (((decide (t.1=a))&&(decide (t.2.1=b)))||((decide (t.2.1=a))&&(decide (t.2.2=b)))))),(40,(Value.bool ((((decide (t.1=a))&&(decide (t.2.1=b)))||((decide (t.2.1=a))&&(decide (t.2.2=b))))||((decide (t.2.2=a))&&(decide (t.1=b))))))]) (LM:=[Af b1 68 (AZ t)]) 11 ?_ ?_
 ·rcases Bool.eq_false_or_eq_true (((decide (t.1=a))&&(decide (t.2.1=b)))||((decide (t.2.1=a))&&(decide (t.2.2=b)))) with hg4|hg4
  ·skip
   refine AC.retell (k:=29) (u:=Value.bool true) O (by rw [hg4]) ?_
   have hg4':=hg4
   simp only [Bool.and_eq_true,Bool.or_eq_true,Bool.and_eq_false_iff,Bool.or_eq_false_iff,Bool.not_eq_true',Bool.not_eq_false',decide_eq_true_eq,decide_eq_false_iff_not] at hg4'
   exact AC.skip (AH O) O (Ad O) (AC.skip (AH O) O (Ad O) (AC.skip (AH O) O (Ad O) (AC.skip (AH O) O (Ad O) (AC.skip (AH O) O (Ad O) (AC.skip (Aj O O O) O (Ad O) (AC.skip (Aj O O O) O (Ad O) (AC.skip (Aj O O O) O (Ad O) (AC.skip (Aj O O O) O (Ad O) (AC.skip (AH O) O (Ad O) (AJ (v:=(Value.bool true)) (AW O O) O (AC.nil (OkQ.mid (sS O (sS O (sS O (sS O (sS O (sS O (sS O (sS O (sS O (sS O (sS O (sS O (sS (by first|rfl|(rw [hg4];rfl)|rw [hg4]) (sS (by first|rfl|(rw [hg4];rfl)|rw [hg4]) (sN))))))))))))))) (List.Sublist.refl _)))))))))))))
  ·skip
   refine AC.retell (k:=29) (u:=Value.bool false) O (by rw [hg4]) ?_
   have hg4':=hg4
   simp only [Bool.and_eq_true,Bool.or_eq_true,Bool.and_eq_false_iff,Bool.or_eq_false_iff,Bool.not_eq_true',Bool.not_eq_false',decide_eq_true_eq,decide_eq_false_iff_not] at hg4'
   refine AC.step (v:=(pP b1 2)) (AA O) (AD (j:=2) O O underlying68 sizeOf3 O (by decide) O) O (Ad O) (AC.step (v:=(vN t.2.2)) (AA O) (AS (i:=0) (v:=(vN t.2.2)) O O BY.a O) O (Ad O) (AC.step (v:=(vN a)) (AA O) (AU O) O (Ad O) (AC.step (v:=(Value.bool (decide (t.2.2=a)))) (AA O) (BQ (c:=(decide (t.2.2=a))) O O (JC (a:=t.2.2) (b:=a))) O (Ad O) (AC.step (v:=(Value.bool (decide (t.2.2=a)))) (AA O) (AU O) O (Ad O) ?_))))
   refine AC.mid (FM:=[(1,(vN a)),(2,(vN b)),(3,(pP b1 0)),(6,(Value.bool false)),(7,(pP b1 0)),(8,(vN t.1)),(9,(vN a)),(10,(Value.bool (decide (t.1=a)))),(11,(Value.bool (decide (t.1=a)))),(16,(Value.bool ((decide (t.1=a))&&(decide (t.2.1=b))))),(17,(Value.bool ((decide (t.1=a))&&(decide (t.2.1=b))))),(28,(Value.bool (((decide (t.1=a))&&(decide (t.2.1=b)))||((decide (t.2.1=a))&&(decide (t.2.2=b)))))),(29,(Value.bool false)),(30,(pP b1 2)),(31,(vN t.2.2)),(32,(vN a)),(33,(Value.bool (decide (t.2.2=a)))),(34,(Value.bool (decide (t.2.2=a)))),(39,(Value.bool ((decide (t.2.2=a))&&(decide (t.1=b)))))]) (LM:=[Af b1 68 (AZ t)]) 5 ?_ ?_
   ·rcases Bool.eq_false_or_eq_true (decide (t.2.2=a)) with hg5|hg5
    ·skip
     refine AC.retell (k:=34) (u:=Value.bool true) O (by rw [hg5]) ?_
     have hg5':=hg5
     replace hg5':=of_decide_eq_true hg5'
     exact AC.step (v:=(pP b1 0)) (AA O) (AD (j:=0) O O underlying68 sizeOf3 O (by decide) O) O (Ad O) (AC.step (v:=(vN t.1)) (AA O) (AS (i:=0) (v:=(vN t.1)) O O BY.a O) O (Ad O) (AC.step (v:=(vN b)) (AA O) (AU O) O (Ad O) (AC.step (v:=(Value.bool (decide (t.1=b)))) (AA O) (BQ (c:=(decide (t.1=b))) O O (JC (a:=t.1) (b:=b))) O (Ad O) (AC.step (v:=(Value.bool (decide (t.1=b)))) (AA O) (AW O O) O (Ad O) (AC.nil (OkQ.mid (sS O (sS O (sS O (sS O (sS O (sS O (sS O (sS O (sS O (sS O (sS O (sS O (sS O (sS O (sS O (sS O (sS O (sS (by first|rfl|(rw [hg5];rfl)|rw [hg5]) (sS (by first|rfl|(rw [hg5];rfl)|rw [hg5]) (sN)))))))))))))))))))) (List.Sublist.refl _)))))))
    ·skip
     refine AC.retell (k:=34) (u:=Value.bool false) O (by rw [hg5]) ?_
     have hg5':=hg5
     replace hg5':=of_decide_eq_false hg5'
     exact AC.skip (AH O) O (Ad O) (AC.skip (AH O) O (Ad O) (AC.skip (AH O) O (Ad O) (AC.skip (AH O) O (Ad O) (AC.step (v:=(Value.bool false)) (AA O) (AT O O) O (Ad O) (AC.nil (OkQ.mid (sS O (sS O (sS O (sS O (sS O (sS O (sS O (sS O (sS O (sS O (sS O (sS O (sS O (sS O (sS O (sS O (sS O (sS (by first|rfl|(rw [hg5];rfl)|rw [hg5]) (sS (by first|rfl|(rw [hg5];rfl)|rw [hg5]) (sN)))))))))))))))))))) (List.Sublist.refl _)))))))
   exact AJ (v:=(Value.bool ((decide (t.2.2=a))&&(decide (t.1=b))))) (AT O O) O (AC.nil (OkQ.mid (sS O (sS O (sS O (sS O (sS O (sS O (sS O (sS O (sS O (sS O (sS O (sS O (sS (by first|rfl|(rw [hg4];rfl)|rw [hg4]) (sS (by first|rfl|(rw [hg4];rfl)|rw [hg4]) (sN))))))))))))))) (List.Sublist.refl _)))
 exact AI O (AC.nil (OkQ.subF (sL [6] O) (OkQ.then_ (AE.ret (AV O (Ah (v:=(Value.bool ((((decide (t.1=a))&&(decide (t.2.1=b)))||((decide (t.2.1=a))&&(decide (t.2.2=b))))||((decide (t.2.2=a))&&(decide (t.1=b)))))) O) (λw hw=>⟨by first|rfl|simp [C9,Bool.or_assoc],hw.out⟩))))))
theorem G0 {N:Nat} {ts ss:List T3} (x:RM N ts ss) (hnb:BI N ts=true) (hl:ts.length<=1000000) (hN:N<=1000000) (w:World) {S:Nat->Prop} (hx:Ro S w x):Calls prog 39 #[(aG (Bt x))] w (A9 w (Value.bool true)):=by
 have lx:=Dk (W:=w) hx
 refine An (args:=[(aG (Bt x))]) (L:=[AK x.a.p (x.cs),AK x.b.p (rowsL AZ ts),AK x.c.p (rowsL AZ ss)]) func39 O O (Ad O) (E3 hx BA) (AE.subF (sL [0] O) (q4 (Ca (cs:=Bt x) O λb1=>AI O (q6 (sL [1,2] O) (q4 (AI O (AC.nil (OkQ.then_ (AE.block ?_)))))))))
 refine AE.lp1 (tg λ(i:Nat)=>i<=ts.length) (tg λ(i:Nat)=>[(1,(pP b1 0)),(3,(vN i))]) (tg λ(i:Nat)=>[Af b1 38 (Bt x),AK x.a.p (x.cs),AK x.b.p (rowsL AZ ts),AK x.c.p (rowsL AZ ss)]) (tg λ(i:Nat)=>ts.length-i) 0 (Nat.zero_le _) (sF O) sr (λi hJ=>?_)
 have hi:=hJ
 refine AE.seq (q4 (AM O (AJ (v:=(pP b1 1)) (AB O underlying38 O sizeOf28 O) O (BE 0 (Value.slice x.b.p ts.length x.b.c) Bl O (AJ (v:=(vN ts.length)) (AF O underlying28) O (AJ (Ac (c:=(decide (i<ts.length))) O O (CD (a:=i) (b:=ts.length))) O (AC.nil (OkQ.subF (sL [1,3,9] O) (OkQ.then_ ?_)))))))))
 refine AE.cond O (λhc0=>?_) (λhc0=>?_)
 ·replace hc0:=of_decide_eq_true hc0
  obtain ⟨T,hT⟩:∃q,q=ts.getD i (0,0,0):=⟨_,rfl⟩
  obtain ⟨g1,g2,g3⟩:=Cy (CW hnb hc0)
  obtain ⟨n1,n2,n3⟩:=KS (CW hnb hc0)
  rw [<-hT] at g1 g2 g3 n1 n2 n3
  refine AE.skip (q1 (AE.block (q4 (AJ (v:=(pP b1 1)) (AB O underlying38 O sizeOf28 O) O (BE 0 (Value.slice x.b.p ts.length x.b.c) Bl O (AM O (AJ (v:=(pP (pB x.b.p) (pO x.b.p+i*3))) (AG (j:=i) O O x.b.ok underlying28 sizeOf68 O Z) O (AJ (v:=(aG (AZ (ts.getD i ((0,0,0):Tq3))))) (Ak (vs:=AZ (ts.getD i ((0,0,0):Tq3))) (i:=2) O O (Aw.ne x.b.ok Z) Dj (BD Aa _ _ _ Z) (Aa _)) O (AC.retell (k:=16) (u:=(aG (AZ T))) O (by rw [hT]) (al O7 O λb2=>BN O sizeOf68 O ?_))))))))))
  refine q3 (sL [1,3,4] O) (BF 1 C7 O (AJ (v:=(pP b2 0)) (AD (j:=0) O O underlying68 sizeOf3 O (by decide) O) O (BE 0 (vN T.1) BY O (DS (args:=[(aG (Bt x)),(vN T.1)]) (v:=(Value.bool true)) call56 (λw hw=>(by have h9:=PZ x T.1 w (Br hw 2 O lx);rw [decide_eq_true Z] at h9;exact h9)) O (AJ (Bj (c:=false) O O) O (AM O (AC.step (v:=(aG (Bt x))) (AA O) (BB (i:=1) (vs:=Bt x) O O C7.a C7.s O O) O (Ad O) (AC.step (v:=(pP b2 1)) (AA O) (AD (j:=1) O O underlying68 sizeOf3 O (by decide) O) O (Ad O) (AC.step (v:=(vN T.2.1)) (AA O) (AS (i:=0) (v:=(vN T.2.1)) O O BY.a O) O (Ad O) (AC.call (v:=(Value.bool true)) (AA O) (A_ (args:=[(aG (Bt x)),(vN T.2.1)]) O O call56) (λw hw=>(by have h9:=PZ x T.2.1 w (Br hw 2 O lx);rw [decide_eq_true Z] at h9;exact h9)) O (Ad O) (AC.step (v:=(Value.bool false)) (AA O) (Bj (c:=false) O O) O (Ad O) ?_)))))))))))
  refine AJ (v:=(Value.bool false)) (AT O O) O (AM O (AC.step (v:=(aG (Bt x))) (AA O) (BB (i:=1) (vs:=Bt x) O O C7.a C7.s O O) O (Ad O) (AC.step (v:=(pP b2 2)) (AA O) (AD (j:=2) O O underlying68 sizeOf3 O (by decide) O) O (Ad O) (AC.step (v:=(vN T.2.2)) (AA O) (AS (i:=0) (v:=(vN T.2.2)) O O BY.a O) O (Ad O) (AC.call (v:=(Value.bool true)) (AA O) (A_ (args:=[(aG (Bt x)),(vN T.2.2)]) O O call56) (λw hw=>(by have h9:=PZ x T.2.2 w (Br hw 2 O lx);rw [decide_eq_true Z] at h9;exact h9)) O (Ad O) (AC.step (v:=(Value.bool false)) (AA O) (Bj (c:=false) O O) O (Ad O) (AJ (v:=(Value.bool false)) (AT O O) O (AM O (AC.step (v:=(pP b2 0)) (AA O) (AD (j:=0) O O underlying68 sizeOf3 O (by decide) O) O (Ad O) (AC.step (v:=(vN T.1)) (AA O) (AS (i:=0) (v:=(vN T.1)) O O BY.a O) O (Ad O) (AC.step (v:=(pP b2 1)) (AA O) (AD (j:=1) O O underlying68 sizeOf3 O (by decide) O) O (Ad O) ?_)))))))))))
  refine AC.step (v:=(vN T.2.1)) (AA O) (AS (i:=0) (v:=(vN T.2.1)) O O BY.a O) O (Ad O) (AC.step (v:=(Value.bool false)) (AA O) (BQ (c:=false) O O (decide_eq_false Z)) O (Ad O) (AJ (v:=(Value.bool false)) (AT O O) O (AM O (AC.step (v:=(pP b2 0)) (AA O) (AD (j:=0) O O underlying68 sizeOf3 O (by decide) O) O (Ad O) (AC.step (v:=(vN T.1)) (AA O) (AS (i:=0) (v:=(vN T.1)) O O BY.a O) O (Ad O) (AC.step (v:=(pP b2 2)) (AA O) (AD (j:=2) O O underlying68 sizeOf3 O (by decide) O) O (Ad O) (AC.step (v:=(vN T.2.2)) (AA O) (AS (i:=0) (v:=(vN T.2.2)) O O BY.a O) O (Ad O) (AC.step (v:=(Value.bool false)) (AA O) (BQ (c:=false) O O (decide_eq_false Z)) O (Ad O) (AJ (v:=(Value.bool false)) (AT O O) O (AM O (AC.step (v:=(pP b2 1)) (AA O) (AD (j:=1) O O underlying68 sizeOf3 O (by decide) O) O (Ad O) ?_)))))))))))
  refine AC.step (v:=(vN T.2.1)) (AA O) (AS (i:=0) (v:=(vN T.2.1)) O O BY.a O) O (Ad O) (AC.step (v:=(pP b2 2)) (AA O) (AD (j:=2) O O underlying68 sizeOf3 O (by decide) O) O (Ad O) (AC.step (v:=(vN T.2.2)) (AA O) (AS (i:=0) (v:=(vN T.2.2)) O O BY.a O) O (Ad O) (AC.step (v:=(Value.bool false)) (AA O) (BQ (c:=false) O O (decide_eq_false Z)) O (Ad O) (AJ (v:=(Value.bool false)) (AT O O) O (AC.nil (OkQ.subF (sL [1,3,4,56] O) (OkQ.then_ (AE.cond_false O (AE.skip (OkQ.in_normal (OkQ.then_ ?_)))))))))))
  exact AE.region (AM O (AJ (AQ (c:=((i+1:Nat):Int)) O O (AN (a:=i) (b:=1) Z)) O (AI O (AC.nil (OkQ.subF (sL [1,3,4] O) (OkQ.round1 (i+1) Z Z (sF O) (sl sr)))))))
 ·replace hc0:=of_decide_eq_false hc0
  exact AE.exit (OkQ.then_exit (OkQ.round1_exit (OkQ.in_exit (q2 (AI O (AC.nil (OkQ.then_ (AE.ret (AV O (Ah (v:=(Value.bool true)) O) (λw hw=>⟨rfl,hw.out⟩))))))))))
theorem EJ {N:Nat} {ts ss:List T3} (x:RM N ts ss) (a b:Nat) (hl:ts.length<=1000000) (w:World) {S:Nat->Prop} (hx:Ro S w x):Calls prog 38 #[(aG (Bt x)),(vN a),(vN b)] w (A9 w (vI (Be ts a b ts.length))):=by
 have lx:=Dk (W:=w) hx
 refine An (args:=[(aG (Bt x)),(vN a),(vN b)]) (L:=[AK x.a.p (x.cs),AK x.b.p (rowsL AZ ts),AK x.c.p (rowsL AZ ss)]) func38 O O (Ad O) (E3 hx BA) (AE.subF (sL [0,1,2] O) (q4 (Ca (cs:=Bt x) O λb1=>AI O (q6 (sL [1,2,3,6] O) (q4 (AI O (AC.nil (OkQ.then_ (AE.block ?_)))))))))
 refine AE.lp1 (tg λ(t:Nat)=>t<=ts.length/\∀j,j<t->C9 (ts.getD j (0,0,0)) a b=false) (tg λ(t:Nat)=>[(1,(vN a)),(2,(vN b)),(3,(pP b1 0)),(7,(vN t))]) (tg λ(t:Nat)=>[Af b1 38 (Bt x),AK x.a.p (x.cs),AK x.b.p (rowsL AZ ts),AK x.c.p (rowsL AZ ss)]) (tg λ(t:Nat)=>ts.length-t) 0 (⟨Nat.zero_le _,λj hj=>absurd hj (Nat.not_lt_zero _)⟩) (sF O) sr (λt hJ=>?_)
 obtain ⟨ht,hn⟩:=hJ
 refine AE.seq (q4 (AM O (AJ (v:=(pP b1 1)) (AB O underlying38 O sizeOf28 O) O (BE 0 (Value.slice x.b.p ts.length x.b.c) Bl O (AJ (v:=(vN ts.length)) (AF O underlying28) O (AJ (Ac (c:=(decide (t<ts.length))) O O (CD (a:=t) (b:=ts.length))) O (AC.nil (OkQ.subF (sL [1,2,3,7,12] O) (OkQ.then_ ?_)))))))))
 refine AE.cond O (λhc0=>?_) (λhc0=>?_)
 ·replace hc0:=of_decide_eq_true hc0
  refine AE.skip (q1 (AE.block (q4 (AJ (v:=(pP b1 1)) (AB O underlying38 O sizeOf28 O) O (BE 0 (Value.slice x.b.p ts.length x.b.c) Bl O (AM O (AJ (v:=(pP (pB x.b.p) (pO x.b.p+t*3))) (AG (j:=t) O O x.b.ok underlying28 sizeOf68 O Z) O (AJ (v:=(aG (AZ (ts.getD t ((0,0,0):Tq3))))) (Ak (vs:=AZ (ts.getD t ((0,0,0):Tq3))) (i:=2) O O (Aw.ne x.b.ok Z) Dj (BD Aa _ _ _ Z) (Aa _)) O (AM O (AM O (ck' call55 (Ht (ts.getD t ((0,0,0):Tq3)) a b) O ?_)))))))))))
  refine AC.nil (OkQ.subF (sL [1,2,3,7,22] O) (OkQ.then_ ?_))
  refine AE.cond O (λhc1=>?_) (λhc1=>?_)
  ·skip
   exact q4 (AM O (AI O (AC.nil (OkQ.subF (sL [1,2,3,7,6] O) (OkQ.then_ (AE.ret (OkQ.in_ret (OkQ.then_ret (OkQ.round1_ret (OkQ.in_ret (OkQ.then_ret (AV O (Ah (v:=(vN t)) O) (λw hw=>⟨by rw [Hx _ hc0 (by first|exact hc1|simpa using hc1) hn],hw.out⟩)))))))))))))
  ·skip
   exact AE.skip (OkQ.in_normal (OkQ.then_ (AE.region (AM O (AJ (AQ (c:=((t+1:Nat):Int)) O O (AN (a:=t) (b:=1) Z)) O (AI O (AC.nil (OkQ.subF (sL [1,2,3,7] O) (OkQ.round1 (t+1) (⟨Z,λj hj=>by rcases Nat.lt_or_ge j t with h9|h9;exact hn j h9;rw [show j=t by omega];exact (by first|exact hc1|simpa using hc1)⟩) Z (sF O) sr)))))))))
 ·replace hc0:=of_decide_eq_false hc0
  exact AE.exit (OkQ.then_exit (OkQ.round1_exit (OkQ.in_exit (q2 (AI O (AC.nil (OkQ.then_ (AE.ret (AV O (Ah (v:=(vI (-1:Int))) O) (λw hw=>⟨by rw [Gy _ λj hj=>hn j Z],hw.out⟩))))))))))
set_option maxHeartbeats 1000000 in
theorem MM {N:Nat} {ts ss:List T3} (x:RM N ts ss) (hnb:BI N ts=true) (hl:ts.length<=1000000) (hN:N<=1000000) (w:World) {S:Nat->Prop} (hx:Ro S w x):Calls prog 18 #[(aG (Bt x))] w (A9 w (Value.bool (He ts ts.length))):=by
 have lx:=Dk (W:=w) hx
 refine An (args:=[(aG (Bt x))]) (L:=[AK x.a.p (x.cs),AK x.b.p (rowsL AZ ts),AK x.c.p (rowsL AZ ss)]) func18 O O (Ad O) (E3 hx BA) (AE.subF (sL [0] O) (q4 (Ca (cs:=Bt x) O λb1=>AI O (q6 (sL [1,2] O) (q4 (BF 0 C7 O (DS call39 (λw hw=>G0 x hnb hl hN w (Br hw 1 O lx)) O (AJ (Bj (c:=false) O O) O (AC.nil (OkQ.subF (sL [1,2,7] O) ?_))))))))))
 refine OkQ.then_ (AE.cond_false O (AE.skip (q1 (q4 (AI O (AC.nil (OkQ.subF (sL [1,2,3] O) (OkQ.then_ (AE.block ?_)))))))))
 refine AE.lp1 (tg λ(t:Nat)=>t<=ts.length/\He ts t=true) (tg λ(t:Nat)=>[(1,(pP b1 0)),(3,(vN t))]) (tg λ(t:Nat)=>[Af b1 38 (Bt x),AK x.a.p (x.cs),AK x.b.p (rowsL AZ ts),AK x.c.p (rowsL AZ ss)]) (tg λ(t:Nat)=>ts.length-t) 0 (⟨Nat.zero_le _,rfl⟩) (sF O) sr (λt hJ=>?_)
 obtain ⟨ht,hpl⟩:=hJ
 refine AE.seq (q4 (AM O (AJ (v:=(pP b1 1)) (AB O underlying38 O sizeOf28 O) O (BE 0 (Value.slice x.b.p ts.length x.b.c) Bl O (AJ (v:=(vN ts.length)) (AF O underlying28) O (AJ (Ac (c:=(decide (t<ts.length))) O O (CD (a:=t) (b:=ts.length))) O (AC.nil (OkQ.subF (sL [1,3,12] O) (OkQ.then_ ?_)))))))))
 refine AE.cond O (λhc1=>?_) (λhc1=>?_)
 ·replace hc1:=of_decide_eq_true hc1
  refine AE.skip (q1 (AE.block (q4 (AI O (AC.nil (OkQ.then_ (AE.block (AE.unroll 4 (Fr.step (AE.seq (q4 ?_)))))))))))
  refine AM O (AJ (Ac (c:=true) O O (by decide)) O (AC.nil (OkQ.subF (sL [1,3,4,16] O) (OkQ.then_ (AE.cond_true O (AE.skip (q1 (AE.block (AE.seq (Ck [(0,true),(1,true),(2,true),(3,true),(4,true),(5,true),(6,true),(7,true),(8,true),(9,true),(10,true),(11,true),(12,true),(13,true),(14,true),(15,true),(16,true),(18,true),(17,false),(19,true)] sr (G6 0 C7 O ?_)))))))))))
  refine Ao (v:=(pP b1 1)) O (AB O underlying38 O sizeOf28 O) (Bk 0 (Value.slice x.b.p ts.length x.b.c) Bl O (BT O (BT O (Ao (v:=(pP (pB x.b.p) (pO x.b.p+t*3))) O (AG (j:=t) O O x.b.ok underlying28 sizeOf68 O Z) (Ao (v:=(pP (pB x.b.p) (pO x.b.p+(t*3+0)))) O (AD (j:=0) O O underlying68 sizeOf3 O (by decide) (Nat.add_assoc _ _ _)) (Ao O (AL (v:=(vN ((ts.getD t ((0,0,0):Tq3)).1))) (i:=2) O O (Aw.ne x.b.ok Z) BY (Az Aa ((0,0,0):Tq3) _ _ 0 Z (by decide) O)) (Ao (v:=(pP b1 1)) O (AB O underlying38 O sizeOf28 O) (Bk 0 (Value.slice x.b.p ts.length x.b.c) Bl O (BT O (BT O (Ao O (AQ (c:=(1:Int)) O O (by decide)) ?_)))))))))))
  refine Ao O (Bg (c:=(1:Int)) O O (by decide) (by decide)) (Ao (v:=(pP (pB x.b.p) (pO x.b.p+t*3))) O (AG (j:=t) O O x.b.ok underlying28 sizeOf68 O Z) (Ao (v:=(pP (pB x.b.p) (pO x.b.p+(t*3+1)))) O (AD (j:=1) O O underlying68 sizeOf3 O (by decide) (Nat.add_assoc _ _ _)) (Ao O (AL (v:=(vN ((ts.getD t ((0,0,0):Tq3)).2.1))) (i:=2) O O (Aw.ne x.b.ok Z) BY (Az Aa ((0,0,0):Tq3) _ _ 1 Z (by decide) O)) (BT O (OkE.imp O (DS call38 (λw hw=>EJ x ((ts.getD t ((0,0,0):Tq3)).1) ((ts.getD t ((0,0,0):Tq3)).2.1) hl w (Br hw 1 O lx)) O (OkE.back sr (Ao O (Cv (c:=(decide ((Be ts ((ts.getD t ((0,0,0):Tq3)).1) ((ts.getD t ((0,0,0):Tq3)).2.1) ts.length)≠((t:Nat):Int)))) O O O) (OkE.nil (OkQ.subF (sL [1,3,4,38] O) (OkQ.then_ ?_)))))))))))
  refine AE.cond O (λhc3=>?_) (λhc3=>?_)
  ·replace hc3:=of_decide_eq_true hc3
   refine q4 (AI O (AC.nil (OkQ.then_ (AE.ret (OkQ.in_ret (OkQ.then_ret (OkQ.then_ret (OkQ.in_ret (OkQ.in_ret (OkQ.then_ret (OkQ.round1_ret ?_)))))))))))
   exact OkQ.in_ret (OkQ.then_ret (AV O (Ah (v:=(Value.bool false)) O) (λw hw=>⟨by rw [NB hc1 (λh9=>by first|exact hc3 h9.1|exact hc3 h9.2.1|exact hc3 h9.2.2)],hw.out⟩)))
  ·replace hc3:=of_decide_eq_false hc3
   have f0:=hc3
   refine AE.skip (OkQ.in_normal (OkQ.then_ (AE.region (AM O (AJ (AQ (c:=(1:Int)) O O (by decide)) O (AI O (AC.nil (OkQ.subF (sL [1,3,4] O) (OkQ.again (Fr.step (AE.seq ?_)))))))))))
   refine q4 (AM O (AJ (Ac (c:=true) O O (by decide)) O (AC.nil (OkQ.subF (sL [1,3,4,16] O) (OkQ.then_ (AE.cond_true O (AE.skip (q1 (AE.block (AE.seq (Ck [(0,true),(1,true),(2,true),(3,true),(4,true),(5,true),(6,true),(7,true),(8,true),(9,true),(10,true),(11,true),(12,true),(13,true),(14,true),(15,true),(16,true),(18,true),(17,false),(19,true)] sr ?_)))))))))))
   refine G6 0 C7 O (Ao (v:=(pP b1 1)) O (AB O underlying38 O sizeOf28 O) (Bk 0 (Value.slice x.b.p ts.length x.b.c) Bl O (BT O (BT O (Ao (v:=(pP (pB x.b.p) (pO x.b.p+t*3))) O (AG (j:=t) O O x.b.ok underlying28 sizeOf68 O Z) (Ao (v:=(pP (pB x.b.p) (pO x.b.p+(t*3+1)))) O (AD (j:=1) O O underlying68 sizeOf3 O (by decide) (Nat.add_assoc _ _ _)) (Ao O (AL (v:=(vN ((ts.getD t ((0,0,0):Tq3)).2.1))) (i:=2) O O (Aw.ne x.b.ok Z) BY (Az Aa ((0,0,0):Tq3) _ _ 1 Z (by decide) O)) (Ao (v:=(pP b1 1)) O (AB O underlying38 O sizeOf28 O) (Bk 0 (Value.slice x.b.p ts.length x.b.c) Bl O (BT O (BT O ?_)))))))))))
   refine Ao O (AQ (c:=(2:Int)) O O (by decide)) (Ao O (Bg (c:=(2:Int)) O O (by decide) (by decide)) (Ao (v:=(pP (pB x.b.p) (pO x.b.p+t*3))) O (AG (j:=t) O O x.b.ok underlying28 sizeOf68 O Z) (Ao (v:=(pP (pB x.b.p) (pO x.b.p+(t*3+2)))) O (AD (j:=2) O O underlying68 sizeOf3 O (by decide) (Nat.add_assoc _ _ _)) (Ao O (AL (v:=(vN ((ts.getD t ((0,0,0):Tq3)).2.2))) (i:=2) O O (Aw.ne x.b.ok Z) BY (Az Aa ((0,0,0):Tq3) _ _ 2 Z (by decide) O)) (BT O (OkE.imp O (DS call38 (λw hw=>EJ x ((ts.getD t ((0,0,0):Tq3)).2.1) ((ts.getD t ((0,0,0):Tq3)).2.2) hl w (Br hw 1 O lx)) O (OkE.back sr (Ao O (Cv (c:=(decide ((Be ts ((ts.getD t ((0,0,0):Tq3)).2.1) ((ts.getD t ((0,0,0):Tq3)).2.2) ts.length)≠((t:Nat):Int)))) O O O) (OkE.nil (OkQ.subF (sL [1,3,4,38] O) ?_)))))))))))
   refine OkQ.then_ ?_
   refine AE.cond O (λhc3=>?_) (λhc3=>?_)
   ·replace hc3:=of_decide_eq_true hc3
    refine q4 (AI O (AC.nil (OkQ.then_ (AE.ret (OkQ.in_ret (OkQ.then_ret (OkQ.then_ret (OkQ.in_ret (OkQ.in_ret (OkQ.then_ret (OkQ.round1_ret ?_)))))))))))
    exact OkQ.in_ret (OkQ.then_ret (AV O (Ah (v:=(Value.bool false)) O) (λw hw=>⟨by rw [NB hc1 (λh9=>by first|exact hc3 h9.1|exact hc3 h9.2.1|exact hc3 h9.2.2)],hw.out⟩)))
   ·replace hc3:=of_decide_eq_false hc3
    have f1:=hc3
    refine AE.skip (OkQ.in_normal (OkQ.then_ (AE.region (AM O (AJ (AQ (c:=(2:Int)) O O (by decide)) O (AI O (AC.nil (OkQ.subF (sL [1,3,4] O) (OkQ.again (Fr.step (AE.seq ?_)))))))))))
    refine q4 (AM O (AJ (Ac (c:=true) O O (by decide)) O (AC.nil (OkQ.subF (sL [1,3,4,16] O) (OkQ.then_ (AE.cond_true O (AE.skip (q1 (AE.block (AE.seq (Ck [(0,true),(1,true),(2,true),(3,true),(4,true),(5,true),(6,true),(7,true),(8,true),(9,true),(10,true),(11,true),(12,true),(13,true),(14,true),(15,true),(16,true),(18,true),(17,false),(19,true)] sr ?_)))))))))))
    refine G6 0 C7 O (Ao (v:=(pP b1 1)) O (AB O underlying38 O sizeOf28 O) (Bk 0 (Value.slice x.b.p ts.length x.b.c) Bl O (BT O (BT O (Ao (v:=(pP (pB x.b.p) (pO x.b.p+t*3))) O (AG (j:=t) O O x.b.ok underlying28 sizeOf68 O Z) (Ao (v:=(pP (pB x.b.p) (pO x.b.p+(t*3+2)))) O (AD (j:=2) O O underlying68 sizeOf3 O (by decide) (Nat.add_assoc _ _ _)) (Ao O (AL (v:=(vN ((ts.getD t ((0,0,0):Tq3)).2.2))) (i:=2) O O (Aw.ne x.b.ok Z) BY (Az Aa ((0,0,0):Tq3) _ _ 2 Z (by decide) O)) (Ao (v:=(pP b1 1)) O (AB O underlying38 O sizeOf28 O) (Bk 0 (Value.slice x.b.p ts.length x.b.c) Bl O (BT O (BT O ?_)))))))))))
    refine Ao O (AQ (c:=(3:Int)) O O (by decide)) (Ao O (Bg (c:=(0:Int)) O O (by decide) (by decide)) (Ao (v:=(pP (pB x.b.p) (pO x.b.p+t*3))) O (AG (j:=t) O O x.b.ok underlying28 sizeOf68 O Z) (Ao (v:=(pP (pB x.b.p) (pO x.b.p+(t*3+0)))) O (AD (j:=0) O O underlying68 sizeOf3 O (by decide) (Nat.add_assoc _ _ _)) (Ao O (AL (v:=(vN ((ts.getD t ((0,0,0):Tq3)).1))) (i:=2) O O (Aw.ne x.b.ok Z) BY (Az Aa ((0,0,0):Tq3) _ _ 0 Z (by decide) O)) (BT O (OkE.imp O (DS call38 (λw hw=>EJ x ((ts.getD t ((0,0,0):Tq3)).2.2) ((ts.getD t ((0,0,0):Tq3)).1) hl w (Br hw 1 O lx)) O (OkE.back sr (Ao O (Cv (c:=(decide ((Be ts ((ts.getD t ((0,0,0):Tq3)).2.2) ((ts.getD t ((0,0,0):Tq3)).1) ts.length)≠((t:Nat):Int)))) O O O) (OkE.nil (OkQ.subF (sL [1,3,4,38] O) ?_)))))))))))
    refine OkQ.then_ ?_
    refine AE.cond O (λhc3=>?_) (λhc3=>?_)
    ·replace hc3:=of_decide_eq_true hc3
     refine q4 (AI O (AC.nil (OkQ.then_ (AE.ret (OkQ.in_ret (OkQ.then_ret (OkQ.then_ret (OkQ.in_ret (OkQ.in_ret (OkQ.then_ret (OkQ.round1_ret ?_)))))))))))
     exact OkQ.in_ret (OkQ.then_ret (AV O (Ah (v:=(Value.bool false)) O) (λw hw=>⟨by rw [NB hc1 (λh9=>by first|exact hc3 h9.1|exact hc3 h9.2.1|exact hc3 h9.2.2)],hw.out⟩)))
    ·replace hc3:=of_decide_eq_false hc3
     have f2:=hc3
     refine AE.skip (OkQ.in_normal (OkQ.then_ (AE.region (AM O (AJ (AQ (c:=(3:Int)) O O (by decide)) O (AI O (AC.nil (OkQ.subF (sL [1,3,4] O) (OkQ.again (Fr.step (AE.seq ?_)))))))))))
     refine q4 (AM O (AJ (Ac (c:=false) O O (by decide)) O (AC.nil (OkQ.subF (sL [1,3,4,16] O) (OkQ.then_ (AE.cond_false O (AE.exit (OkQ.then_exit (OkQ.then_exit (OkQ.in_exit (OkQ.in_normal ?_)))))))))))
     exact OkQ.then_ (AE.region (AM O (AJ (AQ (c:=((t+1:Nat):Int)) O O (AN (a:=t) (b:=1) Z)) O (AI O (AC.nil (OkQ.subF (sL [1,3,4] O) (OkQ.round1 (t+1) (⟨Z,OU hpl (by first|exact f0|simpa using f0) (by first|exact f1|simpa using f1) (by first|exact f2|simpa using f2)⟩) Z (sF O) sr)))))))
 ·replace hc1:=of_decide_eq_false hc1
  exact AE.exit (OkQ.then_exit (OkQ.round1_exit (OkQ.in_exit (q2 (AI O (AC.nil (OkQ.then_ (AE.ret (AV O (Ah (v:=(Value.bool true)) O) (λw hw=>⟨by rw [show t=ts.length by omega] at hpl;rw [hpl],hw.out⟩))))))))))
end
end Go.Proofs.YtpgncndhhhllfaaGreat
