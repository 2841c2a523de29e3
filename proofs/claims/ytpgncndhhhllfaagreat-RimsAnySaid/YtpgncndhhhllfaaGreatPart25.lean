import Derived.Test.YtpgncndhhhllfaaGreatPart03
import Derived.Test.YtpgncndhhhllfaaGreatPart16
import Derived.Test.YtpgncndhhhllfaaGreatPart23
import Derived.Test.YtpgncndhhhllfaaGreatPart24
namespace Go.Proofs.YtpgncndhhhllfaaGreat
open Go Go.RowKit Go.Proofs.Tryz
set_option linter.unusedVariables false
set_option linter.unusedSimpArgs false
section
set_option maxRecDepth 100000
theorem PZ {N:Nat} {ts ss:List T3} (x:RM N ts ss) (p:Nat) (w:World) {S:Nat->Prop} (hx:Ro S w x):Calls prog 56 #[(aG (BN x)),(vN p)] w (Ak w (Value.bool (decide (p<N)))):=by
 have lx:=CV (W:=w) hx
 refine Ag (args:=[(aG (BN x)),(vN p)]) (L:=[AJ x.a.p (x.cs),AJ x.b.p (rowsL Am ts),AJ x.c.p (x.ds)]) func56 O O (AV O) (C4 hx Ao) (AE.subF (sL [0,1] O) (q4 (B0 (cs:=BN x) O λb1=>AI O (q3 (sL [1,2,4] O) (AM O (AK (CI (c:=(decide (0<=p))) O O (SW (a:=0) (b:=p))) O (AM O ?_)))))))
 refine AC.mid (FM:=[(1,(vN p)),(2,(pP b1 0)),(4,(Value.bool false)),(5,(vN p)),(6,(Value.bool (decide (0<=p)))),(7,(Value.bool (decide (0<=p)))),(13,(Value.bool ((decide (0<=p))&&(decide (p<N)))))]) (LM:=[Ah b1 38 (BN x),AJ x.a.p (x.cs),AJ x.b.p (rowsL Am ts),AJ x.c.p (x.ds)]) 6 ?_ ?_
 ·rcases Bool.eq_false_or_eq_true (decide (0<=p)) with hg1|hg1
  ·skip
   refine AC.retell (k:=7) (u:=Value.bool true) O (by rw [hg1]) ?_
   have hg1':=hg1
   replace hg1':=of_decide_eq_true hg1'
   exact AC.step (v:=(vN p)) (AA O) (AW O) O (AV O) (AC.step (v:=(pP b1 0)) (AA O) (AB O underlying38 O sizeOf35 O) O (AV O) (AC.step (v:=(Value.slice x.a.p N x.a.c)) (AA O) (AN (i:=0) (v:=(Value.slice x.a.p N x.a.c)) O O N5.a O) O (AV O) (AC.step (v:=(vN N)) (AA O) (AF O underlying35) O (AV O) (AC.step (v:=(Value.bool (decide (p<N)))) (AA O) (Ad (c:=(decide (p<N))) O O (B7 (a:=p) (b:=N))) O (AV O) (AK (v:=(Value.bool (decide (p<N)))) (AR O O) O (AC.nil (OkQ.mid (sS O (sS O (sS O (sS O (sS O (sS (by first|rfl|(rw [hg1];rfl)|rw [hg1]) (sS (by first|rfl|(rw [hg1];rfl)|rw [hg1]) (sN)))))))) (List.Sublist.refl _))))))))
  ·skip
   refine AC.retell (k:=7) (u:=Value.bool false) O (by rw [hg1]) ?_
   have hg1':=hg1
   replace hg1':=of_decide_eq_false hg1'
   exact AC.skip (AD O) O (AV O) (AC.skip (AD O) O (AV O) (AC.skip (AD O) O (AV O) (AC.skip (AD O) O (AV O) (AC.skip (AD O) O (AV O) (AK (v:=(Value.bool false)) (AO O O) O (AC.nil (OkQ.mid (sS O (sS O (sS O (sS O (sS O (sS (by first|rfl|(rw [hg1];rfl)|rw [hg1]) (sS (by first|rfl|(rw [hg1];rfl)|rw [hg1]) (sN)))))))) (List.Sublist.refl _))))))))
 exact AI O (AC.nil (OkQ.subF (sL [4] O) (OkQ.then_ (AE.ret (AS O (AZ (v:=(Value.bool ((decide (0<=p))&&(decide (p<N))))) O) (λw hw=>⟨by simp,hw.out⟩))))))
theorem Hu (t:T3) (a b:Nat) (w:World)  :Calls prog 55 #[(aG (Am t)),(vN a),(vN b)] w (Ak w (Value.bool (Cv t a b))):=by
 refine An (args:=[(aG (Am t)),(vN a),(vN b)]) func55 O O (AV O) (AE.subF (sL [0,1,2] O) (q4 (B0 (cs:=Am t) O λb1=>AI O (q3 (sL [1,2,3,6] O) (AK (v:=(pP b1 0)) (AG (j:=0) O O underlying68 sizeOf3 O (by decide) O) O (BL 0 (vN t.1) BR O (AM O (AK (BA (c:=(decide (t.1=a))) O O (KW (a:=t.1) (b:=a))) O (AM O ?_)))))))))
 refine AC.mid (FM:=[(1,(vN a)),(2,(vN b)),(3,(pP b1 0)),(6,(Value.bool false)),(7,(pP b1 0)),(8,(vN t.1)),(9,(vN a)),(10,(Value.bool (decide (t.1=a)))),(11,(Value.bool (decide (t.1=a)))),(16,(Value.bool ((decide (t.1=a))&&(decide (t.2.1=b)))))]) (LM:=[Ah b1 68 (Am t)]) 5 ?_ ?_
 ·rcases Bool.eq_false_or_eq_true (decide (t.1=a)) with hg1|hg1
  ·skip
   refine AC.retell (k:=11) (u:=Value.bool true) O (by rw [hg1]) ?_
   have hg1':=hg1
   replace hg1':=of_decide_eq_true hg1'
   exact AC.step (v:=(pP b1 1)) (AA O) (AG (j:=1) O O underlying68 sizeOf3 O (by decide) O) O (AV O) (AC.step (v:=(vN t.2.1)) (AA O) (AN (i:=0) (v:=(vN t.2.1)) O O BR.a O) O (AV O) (AC.step (v:=(vN b)) (AA O) (AW O) O (AV O) (AC.step (v:=(Value.bool (decide (t.2.1=b)))) (AA O) (BA (c:=(decide (t.2.1=b))) O O (KW (a:=t.2.1) (b:=b))) O (AV O) (AK (v:=(Value.bool (decide (t.2.1=b)))) (AR O O) O (AC.nil (OkQ.mid (sS O (sS O (sS O (sS O (sS O (sS O (sS O (sS O (sS (by first|rfl|(rw [hg1];rfl)|rw [hg1]) (sS (by first|rfl|(rw [hg1];rfl)|rw [hg1]) (sN))))))))))) (List.Sublist.refl _)))))))
  ·skip
   refine AC.retell (k:=11) (u:=Value.bool false) O (by rw [hg1]) ?_
   have hg1':=hg1
   replace hg1':=of_decide_eq_false hg1'
   exact AC.skip (AD O) O (AV O) (AC.skip (AD O) O (AV O) (AC.skip (AD O) O (AV O) (AC.skip (AD O) O (AV O) (AK (v:=(Value.bool false)) (AO O O) O (AC.nil (OkQ.mid (sS O (sS O (sS O (sS O (sS O (sS O (sS O (sS O (sS (by first|rfl|(rw [hg1];rfl)|rw [hg1]) (sS (by first|rfl|(rw [hg1];rfl)|rw [hg1]) (sN))))))))))) (List.Sublist.refl _)))))))
 refine AM O ?_
 refine AC.mid (FM:=[(1,(vN a)),(2,(vN b)),(3,(pP b1 0)),(6,(Value.bool false)),(7,(pP b1 0)),(8,(vN t.1)),(9,(vN a)),(10,(Value.bool (decide (t.1=a)))),(11,(Value.bool (decide (t.1=a)))),(16,(Value.bool ((decide (t.1=a))&&(decide (t.2.1=b))))),(17,(Value.bool ((decide (t.1=a))&&(decide (t.2.1=b))))),(28,(Value.bool (((decide (t.1=a))&&(decide (t.2.1=b)))||((decide (t.2.1=a))&&(decide (t.2.2=b))))))]) (LM:=[Ah b1 68 (Am t)]) 11 ?_ ?_
 ·rcases Bool.eq_false_or_eq_true ((decide (t.1=a))&&(decide (t.2.1=b))) with hg2|hg2
  ·skip
   refine AC.retell (k:=17) (u:=Value.bool true) O (by rw [hg2]) ?_
   have hg2':=hg2
   simp only [Bool.and_eq_true,Bool.or_eq_true,Bool.and_eq_false_iff,Bool.or_eq_false_iff,Bool.not_eq_true',Bool.not_eq_false',decide_eq_true_eq,decide_eq_false_iff_not] at hg2'
   exact AC.skip (AD O) O (AV O) (AC.skip (AD O) O (AV O) (AC.skip (AD O) O (AV O) (AC.skip (AD O) O (AV O) (AC.skip (AD O) O (AV O) (AC.skip (Aj O O O) O (AV O) (AC.skip (Aj O O O) O (AV O) (AC.skip (Aj O O O) O (AV O) (AC.skip (Aj O O O) O (AV O) (AC.skip (AD O) O (AV O) (AK (v:=(Value.bool true)) (AR O O) O (AC.nil (OkQ.mid (sS O (sS O (sS O (sS O (sS O (sS O (sS O (sS O (sS O (sS O (sS (by first|rfl|(rw [hg2];rfl)|rw [hg2]) (sS (by first|rfl|(rw [hg2];rfl)|rw [hg2]) (sN))))))))))))) (List.Sublist.refl _)))))))))))))
  ·skip
   refine AC.retell (k:=17) (u:=Value.bool false) O (by rw [hg2]) ?_
   have hg2':=hg2
   simp only [Bool.and_eq_true,Bool.or_eq_true,Bool.and_eq_false_iff,Bool.or_eq_false_iff,Bool.not_eq_true',Bool.not_eq_false',decide_eq_true_eq,decide_eq_false_iff_not] at hg2'
   refine AC.step (v:=(pP b1 1)) (AA O) (AG (j:=1) O O underlying68 sizeOf3 O (by decide) O) O (AV O) (AC.step (v:=(vN t.2.1)) (AA O) (AN (i:=0) (v:=(vN t.2.1)) O O BR.a O) O (AV O) (AC.step (v:=(vN a)) (AA O) (AW O) O (AV O) (AC.step (v:=(Value.bool (decide (t.2.1=a)))) (AA O) (BA (c:=(decide (t.2.1=a))) O O (KW (a:=t.2.1) (b:=a))) O (AV O) (AC.step (v:=(Value.bool (decide (t.2.1=a)))) (AA O) (AW O) O (AV O) ?_))))
   refine AC.mid (FM:=[(1,(vN a)),(2,(vN b)),(3,(pP b1 0)),(6,(Value.bool false)),(7,(pP b1 0)),(8,(vN t.1)),(9,(vN a)),(10,(Value.bool (decide (t.1=a)))),(11,(Value.bool (decide (t.1=a)))),(16,(Value.bool ((decide (t.1=a))&&(decide (t.2.1=b))))),(17,(Value.bool false)),(18,(pP b1 1)),(19,(vN t.2.1)),(20,(vN a)),(21,(Value.bool (decide (t.2.1=a)))),(22,(Value.bool (decide (t.2.1=a)))),(27,(Value.bool ((decide (t.2.1=a))&&(decide (t.2.2=b)))))]) (LM:=[Ah b1 68 (Am t)]) 5 ?_ ?_
   ·rcases Bool.eq_false_or_eq_true (decide (t.2.1=a)) with hg3|hg3
    ·skip
     refine AC.retell (k:=22) (u:=Value.bool true) O (by rw [hg3]) ?_
     have hg3':=hg3
     replace hg3':=of_decide_eq_true hg3'
     exact AC.step (v:=(pP b1 2)) (AA O) (AG (j:=2) O O underlying68 sizeOf3 O (by decide) O) O (AV O) (AC.step (v:=(vN t.2.2)) (AA O) (AN (i:=0) (v:=(vN t.2.2)) O O BR.a O) O (AV O) (AC.step (v:=(vN b)) (AA O) (AW O) O (AV O) (AC.step (v:=(Value.bool (decide (t.2.2=b)))) (AA O) (BA (c:=(decide (t.2.2=b))) O O (KW (a:=t.2.2) (b:=b))) O (AV O) (AC.step (v:=(Value.bool (decide (t.2.2=b)))) (AA O) (AR O O) O (AV O) (AC.nil (OkQ.mid (sS O (sS O (sS O (sS O (sS O (sS O (sS O (sS O (sS O (sS O (sS O (sS O (sS O (sS O (sS O (sS (by first|rfl|(rw [hg3];rfl)|rw [hg3]) (sS (by first|rfl|(rw [hg3];rfl)|rw [hg3]) (sN)))))))))))))))))) (List.Sublist.refl _)))))))
    ·skip
     refine AC.retell (k:=22) (u:=Value.bool false) O (by rw [hg3]) ?_
     have hg3':=hg3
     replace hg3':=of_decide_eq_false hg3'
     exact AC.skip (AD O) O (AV O) (AC.skip (AD O) O (AV O) (AC.skip (AD O) O (AV O) (AC.skip (AD O) O (AV O) (AC.step (v:=(Value.bool false)) (AA O) (AO O O) O (AV O) (AC.nil (OkQ.mid (sS O (sS O (sS O (sS O (sS O (sS O (sS O (sS O (sS O (sS O (sS O (sS O (sS O (sS O (sS O (sS (by first|rfl|(rw [hg3];rfl)|rw [hg3]) (sS (by first|rfl|(rw [hg3];rfl)|rw [hg3]) (sN)))))))))))))))))) (List.Sublist.refl _)))))))
   exact AK (v:=(Value.bool ((decide (t.2.1=a))&&(decide (t.2.2=b))))) (AO O O) O (AC.nil (OkQ.mid (sS O (sS O (sS O (sS O (sS O (sS O (sS O (sS O (sS O (sS O (sS (by first|rfl|(rw [hg2];rfl)|rw [hg2]) (sS (by first|rfl|(rw [hg2];rfl)|rw [hg2]) (sN))))))))))))) (List.Sublist.refl _)))
 refine AM O ?_
 refine AC.mid (FM:=[(1,(vN a)),(2,(vN b)),(3,(pP b1 0)),(6,(Value.bool false)),(7,(pP b1 0)),(8,(vN t.1)),(9,(vN a)),(10,(Value.bool (decide (t.1=a)))),(11,(Value.bool (decide (t.1=a)))),(16,(Value.bool ((decide (t.1=a))&&(decide (t.2.1=b))))),(17,(Value.bool ((decide (t.1=a))&&(decide (t.2.1=b))))),(28,(Value.bool (((decide (t.1=a))&&(decide (t.2.1=b)))||((decide (t.2.1=a))&&(decide (t.2.2=b)))))),(29,(Value.bool (((decide (t.1=a))&&(decide (t.2.1=b)))||((decide (t.2.1=a))&&(decide (t.2.2=b)))))),(40,(Value.bool ((((decide (t.1=a))&&(decide (t.2.1=b)))||((decide (t.2.1=a))&&(decide (t.2.2=b))))||((decide (t.2.2=a))&&(decide (t.1=b))))))]) (LM:=[Ah b1 68 (Am t)]) 11 ?_ ?_
 ·rcases Bool.eq_false_or_eq_true (((decide (t.1=a))&&(decide (t.2.1=b)))||((decide (t.2.1=a))&&(decide (t.2.2=b)))) with hg4|hg4
  ·skip
   refine AC.retell (k:=29) (u:=Value.bool true) O (by rw [hg4]) ?_
   have hg4':=hg4
   simp only [Bool.and_eq_true,Bool.or_eq_true,Bool.and_eq_false_iff,Bool.or_eq_false_iff,Bool.not_eq_true',Bool.not_eq_false',decide_eq_true_eq,decide_eq_false_iff_not] at hg4'
   exact AC.skip (AD O) O (AV O) (AC.skip (AD O) O (AV O) (AC.skip (AD O) O (AV O) (AC.skip (AD O) O (AV O) (AC.skip (AD O) O (AV O) (AC.skip (Aj O O O) O (AV O) (AC.skip (Aj O O O) O (AV O) (AC.skip (Aj O O O) O (AV O) (AC.skip (Aj O O O) O (AV O) (AC.skip (AD O) O (AV O) (AK (v:=(Value.bool true)) (AR O O) O (AC.nil (OkQ.mid (sS O (sS O (sS O (sS O (sS O (sS O (sS O (sS O (sS O (sS O (sS O (sS O (sS (by first|rfl|(rw [hg4];rfl)|rw [hg4]) (sS (by first|rfl|(rw [hg4];rfl)|rw [hg4]) (sN))))))))))))))) (List.Sublist.refl _)))))))))))))
  ·skip
   refine AC.retell (k:=29) (u:=Value.bool false) O (by rw [hg4]) ?_
   have hg4':=hg4
   simp only [Bool.and_eq_true,Bool.or_eq_true,Bool.and_eq_false_iff,Bool.or_eq_false_iff,Bool.not_eq_true',Bool.not_eq_false',decide_eq_true_eq,decide_eq_false_iff_not] at hg4'
   refine AC.step (v:=(pP b1 2)) (AA O) (AG (j:=2) O O underlying68 sizeOf3 O (by decide) O) O (AV O) (AC.step (v:=(vN t.2.2)) (AA O) (AN (i:=0) (v:=(vN t.2.2)) O O BR.a O) O (AV O) (AC.step (v:=(vN a)) (AA O) (AW O) O (AV O) (AC.step (v:=(Value.bool (decide (t.2.2=a)))) (AA O) (BA (c:=(decide (t.2.2=a))) O O (KW (a:=t.2.2) (b:=a))) O (AV O) (AC.step (v:=(Value.bool (decide (t.2.2=a)))) (AA O) (AW O) O (AV O) ?_))))
   refine AC.mid (FM:=[(1,(vN a)),(2,(vN b)),(3,(pP b1 0)),(6,(Value.bool false)),(7,(pP b1 0)),(8,(vN t.1)),(9,(vN a)),(10,(Value.bool (decide (t.1=a)))),(11,(Value.bool (decide (t.1=a)))),(16,(Value.bool ((decide (t.1=a))&&(decide (t.2.1=b))))),(17,(Value.bool ((decide (t.1=a))&&(decide (t.2.1=b))))),(28,(Value.bool (((decide (t.1=a))&&(decide (t.2.1=b)))||((decide (t.2.1=a))&&(decide (t.2.2=b)))))),(29,(Value.bool false)),(30,(pP b1 2)),(31,(vN t.2.2)),(32,(vN a)),(33,(Value.bool (decide (t.2.2=a)))),(34,(Value.bool (decide (t.2.2=a)))),(39,(Value.bool ((decide (t.2.2=a))&&(decide (t.1=b)))))]) (LM:=[Ah b1 68 (Am t)]) 5 ?_ ?_
   ·rcases Bool.eq_false_or_eq_true (decide (t.2.2=a)) with hg5|hg5
    ·skip
     refine AC.retell (k:=34) (u:=Value.bool true) O (by rw [hg5]) ?_
     have hg5':=hg5
     replace hg5':=of_decide_eq_true hg5'
     exact AC.step (v:=(pP b1 0)) (AA O) (AG (j:=0) O O underlying68 sizeOf3 O (by decide) O) O (AV O) (AC.step (v:=(vN t.1)) (AA O) (AN (i:=0) (v:=(vN t.1)) O O BR.a O) O (AV O) (AC.step (v:=(vN b)) (AA O) (AW O) O (AV O) (AC.step (v:=(Value.bool (decide (t.1=b)))) (AA O) (BA (c:=(decide (t.1=b))) O O (KW (a:=t.1) (b:=b))) O (AV O) (AC.step (v:=(Value.bool (decide (t.1=b)))) (AA O) (AR O O) O (AV O) (AC.nil (OkQ.mid (sS O (sS O (sS O (sS O (sS O (sS O (sS O (sS O (sS O (sS O (sS O (sS O (sS O (sS O (sS O (sS O (sS O (sS (by first|rfl|(rw [hg5];rfl)|rw [hg5]) (sS (by first|rfl|(rw [hg5];rfl)|rw [hg5]) (sN)))))))))))))))))))) (List.Sublist.refl _)))))))
    ·skip
     refine AC.retell (k:=34) (u:=Value.bool false) O (by rw [hg5]) ?_
     have hg5':=hg5
     replace hg5':=of_decide_eq_false hg5'
     exact AC.skip (AD O) O (AV O) (AC.skip (AD O) O (AV O) (AC.skip (AD O) O (AV O) (AC.skip (AD O) O (AV O) (AC.step (v:=(Value.bool false)) (AA O) (AO O O) O (AV O) (AC.nil (OkQ.mid (sS O (sS O (sS O (sS O (sS O (sS O (sS O (sS O (sS O (sS O (sS O (sS O (sS O (sS O (sS O (sS O (sS O (sS (by first|rfl|(rw [hg5];rfl)|rw [hg5]) (sS (by first|rfl|(rw [hg5];rfl)|rw [hg5]) (sN)))))))))))))))))))) (List.Sublist.refl _)))))))
   exact AK (v:=(Value.bool ((decide (t.2.2=a))&&(decide (t.1=b))))) (AO O O) O (AC.nil (OkQ.mid (sS O (sS O (sS O (sS O (sS O (sS O (sS O (sS O (sS O (sS O (sS O (sS O (sS (by first|rfl|(rw [hg4];rfl)|rw [hg4]) (sS (by first|rfl|(rw [hg4];rfl)|rw [hg4]) (sN))))))))))))))) (List.Sublist.refl _)))
 exact AI O (AC.nil (OkQ.subF (sL [6] O) (OkQ.then_ (AE.ret (AS O (AZ (v:=(Value.bool ((((decide (t.1=a))&&(decide (t.2.1=b)))||((decide (t.2.1=a))&&(decide (t.2.2=b))))||((decide (t.2.2=a))&&(decide (t.1=b)))))) O) (λw hw=>⟨by first|rfl|simp [Cv,Bool.or_assoc],hw.out⟩))))))
theorem Gc {N:Nat} {ts ss:List T3} (x:RM N ts ss) (hnb:A_ N ts=true) (hl:ts.length<=1000000) (hN:N<=1000000) (w:World) {S:Nat->Prop} (hx:Ro S w x):Calls prog 39 #[(aG (BN x))] w (Ak w (Value.bool true)):=by
 have lx:=CV (W:=w) hx
 refine Ag (args:=[(aG (BN x))]) (L:=[AJ x.a.p (x.cs),AJ x.b.p (rowsL Am ts),AJ x.c.p (x.ds)]) func39 O O (AV O) (C4 hx Ao) (AE.subF (sL [0] O) (q4 (B0 (cs:=BN x) O λb1=>AI O (q6 (sL [1,2] O) (q4 (AI O (AC.nil (OkQ.then_ (AE.block ?_)))))))))
 refine AE.lp1 (tg λ(i:Nat)=>i<=ts.length) (tg λ(i:Nat)=>[(1,(pP b1 0)),(3,(vN i))]) (tg λ(i:Nat)=>[Ah b1 38 (BN x),AJ x.a.p (x.cs),AJ x.b.p (rowsL Am ts),AJ x.c.p (x.ds)]) (tg λ(i:Nat)=>ts.length-i) 0 (Nat.zero_le _) (sF O) sr (λi hJ=>?_)
 have hi:=hJ
 refine AE.seq (q4 (AM O (AK (v:=(pP b1 1)) (AB O underlying38 O sizeOf28 O) O (BL 0 (Value.slice x.b.p ts.length x.b.c) Bp O (AK (v:=(vN ts.length)) (AF O underlying28) O (AK (Ad (c:=(decide (i<ts.length))) O O (B7 (a:=i) (b:=ts.length))) O (AC.nil (OkQ.subF (sL [1,3,9] O) (OkQ.then_ ?_)))))))))
 refine AE.cond O (λhc0=>?_) (λhc0=>?_)
 ·replace hc0:=of_decide_eq_true hc0
  obtain ⟨T,hT⟩:∃q,q=ts.getD i (0,0,0):=⟨_,rfl⟩
  obtain ⟨g1,g2,g3⟩:=Cn (CL hnb hc0)
  obtain ⟨n1,n2,n3⟩:=KC (CL hnb hc0)
  rw [<-hT] at g1 g2 g3 n1 n2 n3
  refine AE.skip (q1 (AE.block (q4 (AK (v:=(pP b1 1)) (AB O underlying38 O sizeOf28 O) O (BL 0 (Value.slice x.b.p ts.length x.b.c) Bp O (AM O (AK (v:=(pP (pB x.b.p) (pO x.b.p+i*3))) (AH (j:=i) O O x.b.ok underlying28 sizeOf68 O Z) O (AK (v:=(aG (Am (ts.getD i ((0,0,0):Tq3))))) (Ai (vs:=Am (ts.getD i ((0,0,0):Tq3))) (i:=2) O O (Ar.ne x.b.ok Z) DL (A8 Af _ _ _ Z) (Af _)) O (AC.retell (k:=16) (u:=(aG (Am T))) O (by rw [hT]) (al Ng O λb2=>BP O sizeOf68 O ?_))))))))))
  refine q3 (sL [1,3,4] O) (BC 1 CH O (AK (v:=(pP b2 0)) (AG (j:=0) O O underlying68 sizeOf3 O (by decide) O) O (BL 0 (vN T.1) BR O (Cc (args:=[(aG (BN x)),(vN T.1)]) (v:=(Value.bool true)) call56 (λw hw=>(by have h9:=PZ x T.1 w (Bc hw 2 O lx);rw [decide_eq_true Z] at h9;exact h9)) O (AK (BF (c:=false) O O) O (AM O (AC.step (v:=(aG (BN x))) (AA O) (BK (i:=1) (vs:=BN x) O O CH.a CH.s O O) O (AV O) (AC.step (v:=(pP b2 1)) (AA O) (AG (j:=1) O O underlying68 sizeOf3 O (by decide) O) O (AV O) (AC.step (v:=(vN T.2.1)) (AA O) (AN (i:=0) (v:=(vN T.2.1)) O O BR.a O) O (AV O) (AC.call (v:=(Value.bool true)) (AA O) (Aw (args:=[(aG (BN x)),(vN T.2.1)]) O O call56) (λw hw=>(by have h9:=PZ x T.2.1 w (Bc hw 2 O lx);rw [decide_eq_true Z] at h9;exact h9)) O (AV O) (AC.step (v:=(Value.bool false)) (AA O) (BF (c:=false) O O) O (AV O) ?_)))))))))))
  refine AK (v:=(Value.bool false)) (AO O O) O (AM O (AC.step (v:=(aG (BN x))) (AA O) (BK (i:=1) (vs:=BN x) O O CH.a CH.s O O) O (AV O) (AC.step (v:=(pP b2 2)) (AA O) (AG (j:=2) O O underlying68 sizeOf3 O (by decide) O) O (AV O) (AC.step (v:=(vN T.2.2)) (AA O) (AN (i:=0) (v:=(vN T.2.2)) O O BR.a O) O (AV O) (AC.call (v:=(Value.bool true)) (AA O) (Aw (args:=[(aG (BN x)),(vN T.2.2)]) O O call56) (λw hw=>(by have h9:=PZ x T.2.2 w (Bc hw 2 O lx);rw [decide_eq_true Z] at h9;exact h9)) O (AV O) (AC.step (v:=(Value.bool false)) (AA O) (BF (c:=false) O O) O (AV O) (AK (v:=(Value.bool false)) (AO O O) O (AM O (AC.step (v:=(pP b2 0)) (AA O) (AG (j:=0) O O underlying68 sizeOf3 O (by decide) O) O (AV O) (AC.step (v:=(vN T.1)) (AA O) (AN (i:=0) (v:=(vN T.1)) O O BR.a O) O (AV O) (AC.step (v:=(pP b2 1)) (AA O) (AG (j:=1) O O underlying68 sizeOf3 O (by decide) O) O (AV O) ?_)))))))))))
  refine AC.step (v:=(vN T.2.1)) (AA O) (AN (i:=0) (v:=(vN T.2.1)) O O BR.a O) O (AV O) (AC.step (v:=(Value.bool false)) (AA O) (BA (c:=false) O O (decide_eq_false Z)) O (AV O) (AK (v:=(Value.bool false)) (AO O O) O (AM O (AC.step (v:=(pP b2 0)) (AA O) (AG (j:=0) O O underlying68 sizeOf3 O (by decide) O) O (AV O) (AC.step (v:=(vN T.1)) (AA O) (AN (i:=0) (v:=(vN T.1)) O O BR.a O) O (AV O) (AC.step (v:=(pP b2 2)) (AA O) (AG (j:=2) O O underlying68 sizeOf3 O (by decide) O) O (AV O) (AC.step (v:=(vN T.2.2)) (AA O) (AN (i:=0) (v:=(vN T.2.2)) O O BR.a O) O (AV O) (AC.step (v:=(Value.bool false)) (AA O) (BA (c:=false) O O (decide_eq_false Z)) O (AV O) (AK (v:=(Value.bool false)) (AO O O) O (AM O (AC.step (v:=(pP b2 1)) (AA O) (AG (j:=1) O O underlying68 sizeOf3 O (by decide) O) O (AV O) ?_)))))))))))
  refine AC.step (v:=(vN T.2.1)) (AA O) (AN (i:=0) (v:=(vN T.2.1)) O O BR.a O) O (AV O) (AC.step (v:=(pP b2 2)) (AA O) (AG (j:=2) O O underlying68 sizeOf3 O (by decide) O) O (AV O) (AC.step (v:=(vN T.2.2)) (AA O) (AN (i:=0) (v:=(vN T.2.2)) O O BR.a O) O (AV O) (AC.step (v:=(Value.bool false)) (AA O) (BA (c:=false) O O (decide_eq_false Z)) O (AV O) (AK (v:=(Value.bool false)) (AO O O) O (AC.nil (OkQ.subF (sL [1,3,4,56] O) (OkQ.then_ (AE.cond_false O (AE.skip (OkQ.in_normal (OkQ.then_ ?_)))))))))))
  exact AE.region (AM O (AK (AY (c:=((i+1:Nat):Int)) O O (AU (a:=i) (b:=1) Z)) O (AI O (AC.nil (OkQ.subF (sL [1,3,4] O) (OkQ.round1 (i+1) Z Z (sF O) (sl sr)))))))
 ·replace hc0:=of_decide_eq_false hc0
  exact AE.exit (OkQ.then_exit (OkQ.round1_exit (OkQ.in_exit (q2 (AI O (AC.nil (OkQ.then_ (AE.ret (AS O (AZ (v:=(Value.bool true)) O) (λw hw=>⟨rfl,hw.out⟩))))))))))
theorem Du {N:Nat} {ts ss:List T3} (x:RM N ts ss) (a b:Nat) (hl:ts.length<=1000000) (w:World) {S:Nat->Prop} (hx:Ro S w x):Calls prog 38 #[(aG (BN x)),(vN a),(vN b)] w (Ak w (vI (Bb ts a b ts.length))):=by
 have lx:=CV (W:=w) hx
 refine Ag (args:=[(aG (BN x)),(vN a),(vN b)]) (L:=[AJ x.a.p (x.cs),AJ x.b.p (rowsL Am ts),AJ x.c.p (x.ds)]) func38 O O (AV O) (C4 hx Ao) (AE.subF (sL [0,1,2] O) (q4 (B0 (cs:=BN x) O λb1=>AI O (q6 (sL [1,2,3,6] O) (q4 (AI O (AC.nil (OkQ.then_ (AE.block ?_)))))))))
 refine AE.lp1 (tg λ(t:Nat)=>t<=ts.length/\∀j,j<t->Cv (ts.getD j (0,0,0)) a b=false) (tg λ(t:Nat)=>[(1,(vN a)),(2,(vN b)),(3,(pP b1 0)),(7,(vN t))]) (tg λ(t:Nat)=>[Ah b1 38 (BN x),AJ x.a.p (x.cs),AJ x.b.p (rowsL Am ts),AJ x.c.p (x.ds)]) (tg λ(t:Nat)=>ts.length-t) 0 (⟨Nat.zero_le _,λj hj=>absurd hj (Nat.not_lt_zero _)⟩) (sF O) sr (λt hJ=>?_)
 obtain ⟨ht,hn⟩:=hJ
 refine AE.seq (q4 (AM O (AK (v:=(pP b1 1)) (AB O underlying38 O sizeOf28 O) O (BL 0 (Value.slice x.b.p ts.length x.b.c) Bp O (AK (v:=(vN ts.length)) (AF O underlying28) O (AK (Ad (c:=(decide (t<ts.length))) O O (B7 (a:=t) (b:=ts.length))) O (AC.nil (OkQ.subF (sL [1,2,3,7,12] O) (OkQ.then_ ?_)))))))))
 refine AE.cond O (λhc0=>?_) (λhc0=>?_)
 ·replace hc0:=of_decide_eq_true hc0
  refine AE.skip (q1 (AE.block (q4 (AK (v:=(pP b1 1)) (AB O underlying38 O sizeOf28 O) O (BL 0 (Value.slice x.b.p ts.length x.b.c) Bp O (AM O (AK (v:=(pP (pB x.b.p) (pO x.b.p+t*3))) (AH (j:=t) O O x.b.ok underlying28 sizeOf68 O Z) O (AK (v:=(aG (Am (ts.getD t ((0,0,0):Tq3))))) (Ai (vs:=Am (ts.getD t ((0,0,0):Tq3))) (i:=2) O O (Ar.ne x.b.ok Z) DL (A8 Af _ _ _ Z) (Af _)) O (AM O (AM O (ck' call55 (Hu (ts.getD t ((0,0,0):Tq3)) a b) O ?_)))))))))))
  refine AC.nil (OkQ.subF (sL [1,2,3,7,22] O) (OkQ.then_ ?_))
  refine AE.cond O (λhc1=>?_) (λhc1=>?_)
  ·skip
   exact q4 (AM O (AI O (AC.nil (OkQ.subF (sL [1,2,3,7,6] O) (OkQ.then_ (AE.ret (OkQ.in_ret (OkQ.then_ret (OkQ.round1_ret (OkQ.in_ret (OkQ.then_ret (AS O (AZ (v:=(vN t)) O) (λw hw=>⟨by rw [Hm _ hc0 (by first|exact hc1|simpa using hc1) hn],hw.out⟩)))))))))))))
  ·skip
   exact AE.skip (OkQ.in_normal (OkQ.then_ (AE.region (AM O (AK (AY (c:=((t+1:Nat):Int)) O O (AU (a:=t) (b:=1) Z)) O (AI O (AC.nil (OkQ.subF (sL [1,2,3,7] O) (OkQ.round1 (t+1) (⟨Z,λj hj=>by rcases Nat.lt_or_ge j t with h9|h9;exact hn j h9;rw [show j=t by omega];exact (by first|exact hc1|simpa using hc1)⟩) Z (sF O) sr)))))))))
 ·replace hc0:=of_decide_eq_false hc0
  exact AE.exit (OkQ.then_exit (OkQ.round1_exit (OkQ.in_exit (q2 (AI O (AC.nil (OkQ.then_ (AE.ret (AS O (AZ (v:=(vI (-1:Int))) O) (λw hw=>⟨by rw [GT _ λj hj=>hn j Z],hw.out⟩))))))))))
set_option maxHeartbeats 1000000 in
theorem K_ {N:Nat} {ts ss:List T3} (x:RM N ts ss) (hnb:A_ N ts=true) (hl:ts.length<=1000000) (hN:N<=1000000) (w:World) {S:Nat->Prop} (hx:Ro S w x):Calls prog 18 #[(aG (BN x))] w (Ak w (Value.bool (Em ts ts.length))):=by
 have lx:=CV (W:=w) hx
 refine Ag (args:=[(aG (BN x))]) (L:=[AJ x.a.p (x.cs),AJ x.b.p (rowsL Am ts),AJ x.c.p (x.ds)]) func18 O O (AV O) (C4 hx Ao) (AE.subF (sL [0] O) (q4 (B0 (cs:=BN x) O λb1=>AI O (q6 (sL [1,2] O) (q4 (BC 0 CH O (Cc call39 (λw hw=>Gc x hnb hl hN w (Bc hw 1 O lx)) O (AK (BF (c:=false) O O) O (AC.nil (OkQ.subF (sL [1,2,7] O) ?_))))))))))
 refine OkQ.then_ (AE.cond_false O (AE.skip (q1 (q4 (AI O (AC.nil (OkQ.subF (sL [1,2,3] O) (OkQ.then_ (AE.block ?_)))))))))
 refine AE.lp1 (tg λ(t:Nat)=>t<=ts.length/\Em ts t=true) (tg λ(t:Nat)=>[(1,(pP b1 0)),(3,(vN t))]) (tg λ(t:Nat)=>[Ah b1 38 (BN x),AJ x.a.p (x.cs),AJ x.b.p (rowsL Am ts),AJ x.c.p (x.ds)]) (tg λ(t:Nat)=>ts.length-t) 0 (⟨Nat.zero_le _,rfl⟩) (sF O) sr (λt hJ=>?_)
 obtain ⟨ht,hpl⟩:=hJ
 refine AE.seq (q4 (AM O (AK (v:=(pP b1 1)) (AB O underlying38 O sizeOf28 O) O (BL 0 (Value.slice x.b.p ts.length x.b.c) Bp O (AK (v:=(vN ts.length)) (AF O underlying28) O (AK (Ad (c:=(decide (t<ts.length))) O O (B7 (a:=t) (b:=ts.length))) O (AC.nil (OkQ.subF (sL [1,3,12] O) (OkQ.then_ ?_)))))))))
 refine AE.cond O (λhc1=>?_) (λhc1=>?_)
 ·replace hc1:=of_decide_eq_true hc1
  refine AE.skip (q1 (AE.block (q4 (AI O (AC.nil (OkQ.then_ (AE.block (AE.unroll 4 (FF.step (AE.seq (q4 ?_)))))))))))
  refine AM O (AK (Ad (c:=true) O O (by decide)) O (AC.nil (OkQ.subF (sL [1,3,4,16] O) (OkQ.then_ (AE.cond_true O (AE.skip (q1 (AE.block (AE.seq (Cu [(0,true),(1,true),(2,true),(3,true),(4,true),(5,true),(6,true),(7,true),(8,true),(9,true),(10,true),(11,true),(12,true),(13,true),(14,true),(15,true),(16,true),(18,true),(17,false),(19,true)] sr (Gx 0 CH O ?_)))))))))))
  refine Av (v:=(pP b1 1)) O (AB O underlying38 O sizeOf28 O) (Bx 0 (Value.slice x.b.p ts.length x.b.c) Bp O (BU O (BU O (Av (v:=(pP (pB x.b.p) (pO x.b.p+t*3))) O (AH (j:=t) O O x.b.ok underlying28 sizeOf68 O Z) (Av (v:=(pP (pB x.b.p) (pO x.b.p+(t*3+0)))) O (AG (j:=0) O O underlying68 sizeOf3 O (by decide) (Nat.add_assoc _ _ _)) (Av O (AL (v:=(vN ((ts.getD t ((0,0,0):Tq3)).1))) (i:=2) O O (Ar.ne x.b.ok Z) BR (Az Af ((0,0,0):Tq3) _ _ 0 Z (by decide) O)) (Av (v:=(pP b1 1)) O (AB O underlying38 O sizeOf28 O) (Bx 0 (Value.slice x.b.p ts.length x.b.c) Bp O (BU O (BU O (Av O (AY (c:=(1:Int)) O O (by decide)) ?_)))))))))))
  refine Av O (Cb (c:=(1:Int)) O O (by decide) (by decide)) (Av (v:=(pP (pB x.b.p) (pO x.b.p+t*3))) O (AH (j:=t) O O x.b.ok underlying28 sizeOf68 O Z) (Av (v:=(pP (pB x.b.p) (pO x.b.p+(t*3+1)))) O (AG (j:=1) O O underlying68 sizeOf3 O (by decide) (Nat.add_assoc _ _ _)) (Av O (AL (v:=(vN ((ts.getD t ((0,0,0):Tq3)).2.1))) (i:=2) O O (Ar.ne x.b.ok Z) BR (Az Af ((0,0,0):Tq3) _ _ 1 Z (by decide) O)) (BU O (OkE.imp O (Cc call38 (λw hw=>Du x ((ts.getD t ((0,0,0):Tq3)).1) ((ts.getD t ((0,0,0):Tq3)).2.1) hl w (Bc hw 1 O lx)) O (OkE.back sr (Av O (Ce (c:=(decide ((Bb ts ((ts.getD t ((0,0,0):Tq3)).1) ((ts.getD t ((0,0,0):Tq3)).2.1) ts.length)≠((t:Nat):Int)))) O O O) (OkE.nil (OkQ.subF (sL [1,3,4,38] O) (OkQ.then_ ?_)))))))))))
  refine AE.cond O (λhc3=>?_) (λhc3=>?_)
  ·replace hc3:=of_decide_eq_true hc3
   refine q4 (AI O (AC.nil (OkQ.then_ (AE.ret (OkQ.in_ret (OkQ.then_ret (OkQ.then_ret (OkQ.in_ret (OkQ.in_ret (OkQ.then_ret (OkQ.round1_ret ?_)))))))))))
   exact OkQ.in_ret (OkQ.then_ret (AS O (AZ (v:=(Value.bool false)) O) (λw hw=>⟨by rw [L_ hc1 (λh9=>by first|exact hc3 h9.1|exact hc3 h9.2.1|exact hc3 h9.2.2)],hw.out⟩)))
  ·replace hc3:=of_decide_eq_false hc3
   have f0:=hc3
   refine AE.skip (OkQ.in_normal (OkQ.then_ (AE.region (AM O (AK (AY (c:=(1:Int)) O O (by decide)) O (AI O (AC.nil (OkQ.subF (sL [1,3,4] O) (OkQ.again (FF.step (AE.seq ?_)))))))))))
   refine q4 (AM O (AK (Ad (c:=true) O O (by decide)) O (AC.nil (OkQ.subF (sL [1,3,4,16] O) (OkQ.then_ (AE.cond_true O (AE.skip (q1 (AE.block (AE.seq (Cu [(0,true),(1,true),(2,true),(3,true),(4,true),(5,true),(6,true),(7,true),(8,true),(9,true),(10,true),(11,true),(12,true),(13,true),(14,true),(15,true),(16,true),(18,true),(17,false),(19,true)] sr ?_)))))))))))
   refine Gx 0 CH O (Av (v:=(pP b1 1)) O (AB O underlying38 O sizeOf28 O) (Bx 0 (Value.slice x.b.p ts.length x.b.c) Bp O (BU O (BU O (Av (v:=(pP (pB x.b.p) (pO x.b.p+t*3))) O (AH (j:=t) O O x.b.ok underlying28 sizeOf68 O Z) (Av (v:=(pP (pB x.b.p) (pO x.b.p+(t*3+1)))) O (AG (j:=1) O O underlying68 sizeOf3 O (by decide) (Nat.add_assoc _ _ _)) (Av O (AL (v:=(vN ((ts.getD t ((0,0,0):Tq3)).2.1))) (i:=2) O O (Ar.ne x.b.ok Z) BR (Az Af ((0,0,0):Tq3) _ _ 1 Z (by decide) O)) (Av (v:=(pP b1 1)) O (AB O underlying38 O sizeOf28 O) (Bx 0 (Value.slice x.b.p ts.length x.b.c) Bp O (BU O (BU O ?_)))))))))))
   refine Av O (AY (c:=(2:Int)) O O (by decide)) (Av O (Cb (c:=(2:Int)) O O (by decide) (by decide)) (Av (v:=(pP (pB x.b.p) (pO x.b.p+t*3))) O (AH (j:=t) O O x.b.ok underlying28 sizeOf68 O Z) (Av (v:=(pP (pB x.b.p) (pO x.b.p+(t*3+2)))) O (AG (j:=2) O O underlying68 sizeOf3 O (by decide) (Nat.add_assoc _ _ _)) (Av O (AL (v:=(vN ((ts.getD t ((0,0,0):Tq3)).2.2))) (i:=2) O O (Ar.ne x.b.ok Z) BR (Az Af ((0,0,0):Tq3) _ _ 2 Z (by decide) O)) (BU O (OkE.imp O (Cc call38 (λw hw=>Du x ((ts.getD t ((0,0,0):Tq3)).2.1) ((ts.getD t ((0,0,0):Tq3)).2.2) hl w (Bc hw 1 O lx)) O (OkE.back sr (Av O (Ce (c:=(decide ((Bb ts ((ts.getD t ((0,0,0):Tq3)).2.1) ((ts.getD t ((0,0,0):Tq3)).2.2) ts.length)≠((t:Nat):Int)))) O O O) (OkE.nil (OkQ.subF (sL [1,3,4,38] O) ?_)))))))))))
   refine OkQ.then_ ?_
   refine AE.cond O (λhc3=>?_) (λhc3=>?_)
   ·replace hc3:=of_decide_eq_true hc3
    refine q4 (AI O (AC.nil (OkQ.then_ (AE.ret (OkQ.in_ret (OkQ.then_ret (OkQ.then_ret (OkQ.in_ret (OkQ.in_ret (OkQ.then_ret (OkQ.round1_ret ?_)))))))))))
    exact OkQ.in_ret (OkQ.then_ret (AS O (AZ (v:=(Value.bool false)) O) (λw hw=>⟨by rw [L_ hc1 (λh9=>by first|exact hc3 h9.1|exact hc3 h9.2.1|exact hc3 h9.2.2)],hw.out⟩)))
   ·replace hc3:=of_decide_eq_false hc3
    have f1:=hc3
    refine AE.skip (OkQ.in_normal (OkQ.then_ (AE.region (AM O (AK (AY (c:=(2:Int)) O O (by decide)) O (AI O (AC.nil (OkQ.subF (sL [1,3,4] O) (OkQ.again (FF.step (AE.seq ?_)))))))))))
    refine q4 (AM O (AK (Ad (c:=true) O O (by decide)) O (AC.nil (OkQ.subF (sL [1,3,4,16] O) (OkQ.then_ (AE.cond_true O (AE.skip (q1 (AE.block (AE.seq (Cu [(0,true),(1,true),(2,true),(3,true),(4,true),(5,true),(6,true),(7,true),(8,true),(9,true),(10,true),(11,true),(12,true),(13,true),(14,true),(15,true),(16,true),(18,true),(17,false),(19,true)] sr ?_)))))))))))
    refine Gx 0 CH O (Av (v:=(pP b1 1)) O (AB O underlying38 O sizeOf28 O) (Bx 0 (Value.slice x.b.p ts.length x.b.c) Bp O (BU O (BU O (Av (v:=(pP (pB x.b.p) (pO x.b.p+t*3))) O (AH (j:=t) O O x.b.ok underlying28 sizeOf68 O Z) (Av (v:=(pP (pB x.b.p) (pO x.b.p+(t*3+2)))) O (AG (j:=2) O O underlying68 sizeOf3 O (by decide) (Nat.add_assoc _ _ _)) (Av O (AL (v:=(vN ((ts.getD t ((0,0,0):Tq3)).2.2))) (i:=2) O O (Ar.ne x.b.ok Z) BR (Az Af ((0,0,0):Tq3) _ _ 2 Z (by decide) O)) (Av (v:=(pP b1 1)) O (AB O underlying38 O sizeOf28 O) (Bx 0 (Value.slice x.b.p ts.length x.b.c) Bp O (BU O (BU O ?_)))))))))))
    refine Av O (AY (c:=(3:Int)) O O (by decide)) (Av O (Cb (c:=(0:Int)) O O (by decide) (by decide)) (Av (v:=(pP (pB x.b.p) (pO x.b.p+t*3))) O (AH (j:=t) O O x.b.ok underlying28 sizeOf68 O Z) (Av (v:=(pP (pB x.b.p) (pO x.b.p+(t*3+0)))) O (AG (j:=0) O O underlying68 sizeOf3 O (by decide) (Nat.add_assoc _ _ _)) (Av O (AL (v:=(vN ((ts.getD t ((0,0,0):Tq3)).1))) (i:=2) O O (Ar.ne x.b.ok Z) BR (Az Af ((0,0,0):Tq3) _ _ 0 Z (by decide) O)) (BU O (OkE.imp O (Cc call38 (λw hw=>Du x ((ts.getD t ((0,0,0):Tq3)).2.2) ((ts.getD t ((0,0,0):Tq3)).1) hl w (Bc hw 1 O lx)) O (OkE.back sr (Av O (Ce (c:=(decide ((Bb ts ((ts.getD t ((0,0,0):Tq3)).2.2) ((ts.getD t ((0,0,0):Tq3)).1) ts.length)≠((t:Nat):Int)))) O O O) (OkE.nil (OkQ.subF (sL [1,3,4,38] O) ?_)))))))))))
    refine OkQ.then_ ?_
    refine AE.cond O (λhc3=>?_) (λhc3=>?_)
    ·replace hc3:=of_decide_eq_true hc3
     refine q4 (AI O (AC.nil (OkQ.then_ (AE.ret (OkQ.in_ret (OkQ.then_ret (OkQ.then_ret (OkQ.in_ret (OkQ.in_ret (OkQ.then_ret (OkQ.round1_ret ?_)))))))))))
     exact OkQ.in_ret (OkQ.then_ret (AS O (AZ (v:=(Value.bool false)) O) (λw hw=>⟨by rw [L_ hc1 (λh9=>by first|exact hc3 h9.1|exact hc3 h9.2.1|exact hc3 h9.2.2)],hw.out⟩)))
    ·replace hc3:=of_decide_eq_false hc3
     have f2:=hc3
     refine AE.skip (OkQ.in_normal (OkQ.then_ (AE.region (AM O (AK (AY (c:=(3:Int)) O O (by decide)) O (AI O (AC.nil (OkQ.subF (sL [1,3,4] O) (OkQ.again (FF.step (AE.seq ?_)))))))))))
     refine q4 (AM O (AK (Ad (c:=false) O O (by decide)) O (AC.nil (OkQ.subF (sL [1,3,4,16] O) (OkQ.then_ (AE.cond_false O (AE.exit (OkQ.then_exit (OkQ.then_exit (OkQ.in_exit (OkQ.in_normal ?_)))))))))))
     exact OkQ.then_ (AE.region (AM O (AK (AY (c:=((t+1:Nat):Int)) O O (AU (a:=t) (b:=1) Z)) O (AI O (AC.nil (OkQ.subF (sL [1,3,4] O) (OkQ.round1 (t+1) (⟨Z,OA hpl (by first|exact f0|simpa using f0) (by first|exact f1|simpa using f1) (by first|exact f2|simpa using f2)⟩) Z (sF O) sr)))))))
 ·replace hc1:=of_decide_eq_false hc1
  exact AE.exit (OkQ.then_exit (OkQ.round1_exit (OkQ.in_exit (q2 (AI O (AC.nil (OkQ.then_ (AE.ret (AS O (AZ (v:=(Value.bool true)) O) (λw hw=>⟨by rw [show t=ts.length by omega] at hpl;rw [hpl],hw.out⟩))))))))))
end
end Go.Proofs.YtpgncndhhhllfaaGreat
