import Derived.Test.YtpgncndhhhllfaaGreatPart03
import Derived.Test.YtpgncndhhhllfaaGreatPart24
import Derived.Test.YtpgncndhhhllfaaGreatPart34
import Derived.Test.YtpgncndhhhllfaaGreatPart35
import Derived.Test.YtpgncndhhhllfaaGreatPart36
namespace Go.Proofs.YtpgncndhhhllfaaGreat
open Go Go.RowKit Go.Proofs.Tryz
set_option linter.unusedVariables false
set_option linter.unusedSimpArgs false
section
set_option maxRecDepth 100000
set_option maxHeartbeats 2000000 in
theorem R5 {N:Nat} {ts ss:List T3} (x:RM N ts ss) (hnb:A_ N ts=true) (hl:ts.length<=1000000) (hN:N<=1000000) (w:World) {S:Nat->Prop} (hx:Ro S w x):Calls prog 23 #[(aG (BN x))] w (Al (VF ts) S w):=by
 have lx:=CV (W:=w) hx
 refine Ag (args:=[(aG (BN x))]) (L:=[AJ x.a.p (x.cs),AJ x.b.p (rowsL Am ts),AJ x.c.p (x.ds)]) func23 O O (AV O) (C4 hx Ao) (AE.subF (sL [0] O) (q4 (B0 (cs:=BN x) O λb1=>AI O (AI O (q6 (sL [1,2,3] O) (q4 (BC 0 CH O (Cc call39 (λw hw=>Gc x hnb hl hN w (Bc hw 1 O lx)) O (AK (BF (c:=false) O O) O (AC.nil ?_))))))))))
 refine OkQ.subF (sL [1,2,3,15] O) (OkQ.then_ (AE.cond_false O (AE.skip (q2 (AK (v:=(pP b1 1)) (AB O underlying38 O sizeOf28 O) O (BL 0 (Value.slice x.b.p ts.length x.b.c) Bp O (AK (v:=(vN ts.length)) (AF O underlying28) O ?_)))))))
 refine AC.makeNat (m:=ts.length) TH O O Z O O ?_;intro bl hbl;rw [TE]
 refine AI O (q6 (sL [1,2,3,4] O) (q4 (AI O (AC.nil (OkQ.then_ (AE.block ?_))))))
 refine AE.lp1 (tg λ(q:Nat)=>q<=ts.length) (tg λ(q:Nat)=>[(1,(pP b1 0)),(2,(Value.slice none 0 0)),(3,(vI 0)),(4,(Value.slice (some ⟨bl,0,none⟩) ts.length ts.length)),(5,(vN q))]) (tg λ(q:Nat)=>[rowW (some ⟨bl,0,none⟩) 3 1 ts.length ts.length (inL (Ry ts.length q)),Ah b1 38 (BN x),AJ x.a.p (x.cs),AJ x.b.p (rowsL Am ts),AJ x.c.p (x.ds)]) (tg λ(q:Nat)=>ts.length-q) 0 (Nat.zero_le _) (sF O) sr (λq hJ=>?_)
 have hq:=hJ
 refine AE.seq (q4 (AM O (AM O (AK (v:=(vN ts.length)) (AF O underlying86) O (AK (Ad (c:=(decide (q<ts.length))) O O (B7 (a:=q) (b:=ts.length))) O (AC.nil (OkQ.subF (sL [1,2,3,4,5,23] O) (OkQ.then_ ?_))))))))
 refine AE.cond O (λhc1=>?_) (λhc1=>?_)
 ·replace hc1:=of_decide_eq_true hc1
  refine AE.skip (q1 (AE.block (AE.region (AM O (AM O (AM O (AK (v:=(pP (pB (some ⟨bl,0,none⟩)) (pO (some ⟨bl,0,none⟩)+q*1))) (AH (j:=q) O O hbl.row underlying86 sizeOf3 O Z) O (AC.storeRow0 (j:=q) (v:=(vN q)) O O hbl (by rw [BG,Nat.mul_one];exact (QT Z)) Z O sizeOf3 O (Qe _ _ _) (AC.nil (OkQ.subF (sL [1,2,3,4,5] O) (OkQ.in_normal ?_)))))))))))
  refine OkQ.then_ (AE.region (AM O (AK (AY (c:=((q+1:Nat):Int)) O O (AU (a:=q) (b:=1) Z)) O (AI O (AC.nil (OkQ.subF (sL [1,2,3,4,5] O) ?_))))))
  rw [WZ Z]
  exact OkQ.round1 (q+1) Z Z (sF O) sr
 ·replace hc1:=of_decide_eq_false hc1
  rw [show Ry ts.length q=Ry ts.length ts.length by rw [show q=ts.length by omega]]
  refine AE.exit (OkQ.then_exit (OkQ.round1_exit (OkQ.in_exit (q1 (q4 (AI O (AC.nil (OkQ.then_ (AE.block ?_)))))))))
  refine AE.lp2 (tg λ(ag:Bool) (l:List Nat)=>V5 ts l/\(ag=false->YD ts l)) (tg λ(ag:Bool) (l:List Nat)=>[(1,(pP b1 0)),(2,(Value.slice none 0 0)),(3,(vI 0)),(4,(Value.slice (some ⟨bl,0,none⟩) ts.length ts.length)),(6,(Value.bool ag))]) (tg λ(ag:Bool) (l:List Nat)=>[rowW (some ⟨bl,0,none⟩) 3 1 ts.length ts.length (inL l),Ah b1 38 (BN x),AJ x.a.p (x.cs),AJ x.b.p (rowsL Am ts),AJ x.c.p (x.ds)]) (tg λ(ag:Bool) (l:List Nat)=>2*l.sum+ag.toNat) true (Ry ts.length ts.length) (⟨V5.start,λe=>by cases e⟩) (sF O) sr (λag l hJ=>?_)
  obtain ⟨hP,hSp⟩:=hJ
  have hPl:=hP.len
  refine AE.seq (q4 (AM O (AC.nil (OkQ.then_ ?_))))
  refine AE.cond O (λhc2=>?_) (λhc2=>?_)
  ·skip
   refine AE.skip (OkQ.then_ (AE.block (q4 (AI O (AC.nil (q2 (AI O (AC.nil (OkQ.then_ (AE.block ?_))))))))))
   refine AE.lp3 (tg λ(t:Nat) (a2:Bool) (l2:List Nat)=>t<=ts.length/\Ml ts l.sum a2 l2 t 0) (tg λ(t:Nat) (a2:Bool) (l2:List Nat)=>[(1,(pP b1 0)),(2,(Value.slice none 0 0)),(3,(vI 0)),(4,(Value.slice (some ⟨bl,0,none⟩) ts.length ts.length)),(7,(vN t)),(6,(Value.bool a2))]) (tg λ(t:Nat) (a2:Bool) (l2:List Nat)=>[rowW (some ⟨bl,0,none⟩) 3 1 ts.length ts.length (inL l2),Ah b1 38 (BN x),AJ x.a.p (x.cs),AJ x.b.p (rowsL Am ts),AJ x.c.p (x.ds)]) (tg λ(t:Nat) (a2:Bool) (l2:List Nat)=>ts.length-t) 0 false l (⟨Nat.zero_le _,Ml.start hP⟩) (sF O) sr (λt a2 l2 hJ=>?_)
   obtain ⟨ht,hS⟩:=hJ
   have hSl:=hS.pr.len
   refine AE.seq (q4 (AM O (AM O (AK (v:=(vN ts.length)) (AF O underlying86) O (AK (Ad (c:=(decide (t<ts.length))) O O (B7 (a:=t) (b:=ts.length))) O (AC.nil (OkQ.subF (sL [1,2,3,4,7,6,34] O) (OkQ.then_ ?_))))))))
   refine AE.cond O (λhc3=>?_) (λhc3=>?_)
   ·replace hc3:=of_decide_eq_true hc3
    refine AE.skip (q1 (AE.block (q4 (AI O (AC.nil (OkQ.then_ (AE.block ?_)))))))
    refine AE.lp3 (tg λ(s:Nat) (a3:Bool) (l3:List Nat)=>s<=ts.length/\Ml ts l.sum a3 l3 t s) (tg λ(s:Nat) (a3:Bool) (l3:List Nat)=>[(1,(pP b1 0)),(2,(Value.slice none 0 0)),(3,(vI 0)),(4,(Value.slice (some ⟨bl,0,none⟩) ts.length ts.length)),(7,(vN t)),(8,(vN s)),(6,(Value.bool a3))]) (tg λ(s:Nat) (a3:Bool) (l3:List Nat)=>[rowW (some ⟨bl,0,none⟩) 3 1 ts.length ts.length (inL l3),Ah b1 38 (BN x),AJ x.a.p (x.cs),AJ x.b.p (rowsL Am ts),AJ x.c.p (x.ds)]) (tg λ(s:Nat) (a3:Bool) (l3:List Nat)=>ts.length-s) 0 a2 l2 (⟨Nat.zero_le _,hS⟩) (sF O) sr (λs a3 l3 hJ=>?_)
    obtain ⟨hs,hU⟩:=hJ
    have hUl:=hU.pr.len
    refine AE.seq (q4 (AM O (AM O (AK (v:=(vN ts.length)) (AF O underlying86) O (AK (Ad (c:=(decide (s<ts.length))) O O (B7 (a:=s) (b:=ts.length))) O (AC.nil (OkQ.subF (sL [1,2,3,4,7,8,6,40] O) (OkQ.then_ ?_))))))))
    refine AE.cond O (λhc4=>?_) (λhc4=>?_)
    ·replace hc4:=of_decide_eq_true hc4
     refine AE.skip (q1 (AE.block (AE.seq ?_)))
     refine AE.jn1 (tg λ(tc:Bool)=>tc=Kb (ts.getD s (0,0,0)) (ts.getD t (0,0,0))) (tg λ(tc:Bool)=>[(1,(pP b1 0)),(2,(Value.slice none 0 0)),(3,(vI 0)),(4,(Value.slice (some ⟨bl,0,none⟩) ts.length ts.length)),(7,(vN t)),(8,(vN s)),(6,(Value.bool a3)),(9,(Value.bool tc))]) (tg λ(tc:Bool)=>[rowW (some ⟨bl,0,none⟩) 3 1 ts.length ts.length (inL l3),Ah b1 38 (BN x),AJ x.a.p (x.cs),AJ x.b.p (rowsL Am ts),AJ x.c.p (x.ds)]) ?_ ?_
     ·skip
      by_cases hs0:D7 (ts.getD s (0,0,0)) (ts.getD t (0,0,0)).1=true
      ·skip
       refine Cu [(0,true),(1,true),(2,true),(3,true),(4,true),(5,true),(6,true),(7,true),(8,true),(9,true),(10,true),(11,false),(12,true),(13,true),(14,true),(15,true),(16,true),(17,true),(18,true),(19,true),(20,true),(21,true),(22,true),(23,true),(24,false),(25,true),(26,true),(27,true),(28,true),(29,true),(30,true),(31,true),(32,true),(33,true),(34,true),(35,true),(36,true),(37,true),(38,false),(39,true),(40,true)] sr (Av (v:=(pP b1 1)) O (AB O underlying38 O sizeOf28 O) (Bx 1 (Value.slice x.b.p ts.length x.b.c) Bp O (BU O (Av (v:=(pP (pB x.b.p) (pO x.b.p+s*3))) O (AH (j:=s) O O x.b.ok underlying28 sizeOf68 O Z) (Av (v:=(aG (Am (ts.getD s ((0,0,0):Tq3))))) O (Ai (vs:=Am (ts.getD s ((0,0,0):Tq3))) (i:=3) O O (Ar.ne x.b.ok Z) DL (A8 Af _ _ _ Z) (Af _)) (Av (v:=(pP b1 1)) O (AB O underlying38 O sizeOf28 O) (Bx 1 (Value.slice x.b.p ts.length x.b.c) Bp O (BU O (Av (v:=(pP (pB x.b.p) (pO x.b.p+t*3))) O (AH (j:=t) O O x.b.ok underlying28 sizeOf68 O Z) (Av (v:=(pP (pB x.b.p) (pO x.b.p+(t*3+0)))) O (AG (j:=0) O O underlying68 sizeOf3 O (by decide) (Nat.add_assoc _ _ _)) (Av O (AL (v:=(vN ((ts.getD t ((0,0,0):Tq3)).1))) (i:=3) O O (Ar.ne x.b.ok Z) BR (Az Af ((0,0,0):Tq3) _ _ 0 Z (by decide) O)) ?_)))))))))))
       refine OkE.imp O (Cc (args:=[(aG (Am (ts.getD s ((0,0,0):Tq3)))),(vN ((ts.getD t ((0,0,0):Tq3)).1))]) (v:=(Value.bool true)) call33 (λw hw=>(by have h9:=El (ts.getD s (0,0,0)) ((ts.getD t (0,0,0)).1) w;rw [hs0] at h9;exact h9)) O (OkE.back sr (BU O (OkE.skp O (AD O) O O (OkE.skp O (AD O) O O (OkE.skp O (AD O) O O (OkE.skp O (AD O) O O (OkE.skp O (AD O) O O (OkE.skp O (AD O) O O (OkE.skp O (AD O) O O (OkE.skp O (AD O) O O ?_)))))))))))
       refine OkE.skp O (AD O) O O (OkE.skp O (AD O) O O (OkE.skp O (AD O) O O (OkE.imp O (AC.skip (AD O) O (AV O) (OkE.back sr (Av (v:=(Value.bool true)) O (AR O O) (BU O (OkE.skp O (AD O) O O (OkE.skp O (AD O) O O (OkE.skp O (AD O) O O (OkE.skp O (AD O) O O ?_)))))))))))
       refine OkE.skp O (AD O) O O (OkE.skp O (AD O) O O (OkE.skp O (AD O) O O (OkE.skp O (AD O) O O (OkE.skp O (AD O) O O (OkE.skp O (AD O) O O (OkE.skp O (AD O) O O (OkE.imp O (AC.skip (AD O) O (AV O) (OkE.back sr (Av (v:=(Value.bool true)) O (AR O O) (pS' O ?_)))))))))))
       exact OkE.nil (OkQ.subF (sL [1,2,3,4,7,8,6,9] O) (OkQ.join1 true ((by first|exact (by unfold Kb;rw [hs0];rfl)|exact (by unfold Kb;rw [hs1];simp)|exact (by unfold Kb;rw [hs2];simp)|exact (by unfold Kb;rw [hb0,hb1,hb2];rfl))) (sF O) sr))
      ·skip
       have hb0:D7 (ts.getD s (0,0,0)) (ts.getD t (0,0,0)).1=false:=Bool.eq_false_iff.2 hs0
       by_cases hs1:D7 (ts.getD s (0,0,0)) (ts.getD t (0,0,0)).2.1=true
       ·skip
        refine Cu [(0,true),(1,true),(2,true),(3,true),(4,true),(5,true),(6,true),(7,true),(8,true),(9,true),(10,true),(11,false),(12,true),(13,true),(14,true),(15,true),(16,true),(17,true),(18,true),(19,true),(20,true),(21,true),(22,true),(23,true),(24,false),(25,true),(26,true),(27,true),(28,true),(29,true),(30,true),(31,true),(32,true),(33,true),(34,true),(35,true),(36,true),(37,true),(38,false),(39,true),(40,true)] sr (Av (v:=(pP b1 1)) O (AB O underlying38 O sizeOf28 O) (Bx 1 (Value.slice x.b.p ts.length x.b.c) Bp O (BU O (Av (v:=(pP (pB x.b.p) (pO x.b.p+s*3))) O (AH (j:=s) O O x.b.ok underlying28 sizeOf68 O Z) (Av (v:=(aG (Am (ts.getD s ((0,0,0):Tq3))))) O (Ai (vs:=Am (ts.getD s ((0,0,0):Tq3))) (i:=3) O O (Ar.ne x.b.ok Z) DL (A8 Af _ _ _ Z) (Af _)) (Av (v:=(pP b1 1)) O (AB O underlying38 O sizeOf28 O) (Bx 1 (Value.slice x.b.p ts.length x.b.c) Bp O (BU O (Av (v:=(pP (pB x.b.p) (pO x.b.p+t*3))) O (AH (j:=t) O O x.b.ok underlying28 sizeOf68 O Z) (Av (v:=(pP (pB x.b.p) (pO x.b.p+(t*3+0)))) O (AG (j:=0) O O underlying68 sizeOf3 O (by decide) (Nat.add_assoc _ _ _)) (Av O (AL (v:=(vN ((ts.getD t ((0,0,0):Tq3)).1))) (i:=3) O O (Ar.ne x.b.ok Z) BR (Az Af ((0,0,0):Tq3) _ _ 0 Z (by decide) O)) ?_)))))))))))
        refine OkE.imp O (Cc (args:=[(aG (Am (ts.getD s ((0,0,0):Tq3)))),(vN ((ts.getD t ((0,0,0):Tq3)).1))]) (v:=(Value.bool false)) call33 (λw hw=>(by have h9:=El (ts.getD s (0,0,0)) ((ts.getD t (0,0,0)).1) w;rw [hb0] at h9;exact h9)) O (OkE.back sr (BU O (OkE.pas (v:=(pP b1 1)) O (AA O) (AB O underlying38 O sizeOf28 O) O O (OkE.pas (v:=(Value.slice x.b.p ts.length x.b.c)) O (AA O) (AN (i:=1) (v:=(Value.slice x.b.p ts.length x.b.c)) O O Bp.a O) O O (OkE.pas (v:=(vN s)) O (AA O) (AW O) O O (OkE.pas (v:=(pP (pB x.b.p) (pO x.b.p+s*3))) O (AA O) (AH (j:=s) O O x.b.ok underlying28 sizeOf68 O Z) O O (OkE.pas (v:=(aG (Am (ts.getD s ((0,0,0):Tq3))))) O (AA O) (Ai (vs:=Am (ts.getD s ((0,0,0):Tq3))) (i:=3) O O (Ar.ne x.b.ok Z) DL (A8 Af _ _ _ Z) (Af _)) O O (OkE.pas (v:=(pP b1 1)) O (AA O) (AB O underlying38 O sizeOf28 O) O O (OkE.pas (v:=(Value.slice x.b.p ts.length x.b.c)) O (AA O) (AN (i:=1) (v:=(Value.slice x.b.p ts.length x.b.c)) O O Bp.a O) O O (OkE.pas (v:=(vN t)) O (AA O) (AW O) O O ?_)))))))))))
        refine OkE.pas (v:=(pP (pB x.b.p) (pO x.b.p+t*3))) O (AA O) (AH (j:=t) O O x.b.ok underlying28 sizeOf68 O Z) O O (OkE.pas (v:=(pP (pB x.b.p) (pO x.b.p+(t*3+1)))) O (AA O) (AG (j:=1) O O underlying68 sizeOf3 O (by decide) (Nat.add_assoc _ _ _)) O O (OkE.pas (v:=(vN ((ts.getD t ((0,0,0):Tq3)).2.1))) O (AA O) (AL (v:=(vN ((ts.getD t ((0,0,0):Tq3)).2.1))) (i:=3) O O (Ar.ne x.b.ok Z) BR (Az Af ((0,0,0):Tq3) _ _ 1 Z (by decide) O)) O O (OkE.imp O (AC.call (v:=(Value.bool true)) (AA O) (Aw (args:=[(aG (Am (ts.getD s ((0,0,0):Tq3)))),(vN ((ts.getD t ((0,0,0):Tq3)).2.1))]) O O call33) (λw hw=>(by have h9:=El (ts.getD s (0,0,0)) ((ts.getD t (0,0,0)).2.1) w;rw [hs1] at h9;exact h9)) O (AV O) (OkE.back sr (Av (v:=(Value.bool true)) O (AO O O) (BU O (OkE.skp O (AD O) O O (OkE.skp O (AD O) O O (OkE.skp O (AD O) O O (OkE.skp O (AD O) O O ?_)))))))))))
        refine OkE.skp O (AD O) O O (OkE.skp O (AD O) O O (OkE.skp O (AD O) O O (OkE.skp O (AD O) O O (OkE.skp O (AD O) O O (OkE.skp O (AD O) O O (OkE.skp O (AD O) O O (OkE.imp O (AC.skip (AD O) O (AV O) (OkE.back sr (Av (v:=(Value.bool true)) O (AR O O) (pS' O ?_)))))))))))
        exact OkE.nil (OkQ.subF (sL [1,2,3,4,7,8,6,9] O) (OkQ.join1 true ((by first|exact (by unfold Kb;rw [hs0];rfl)|exact (by unfold Kb;rw [hs1];simp)|exact (by unfold Kb;rw [hs2];simp)|exact (by unfold Kb;rw [hb0,hb1,hb2];rfl))) (sF O) sr))
       ·skip
        have hb1:D7 (ts.getD s (0,0,0)) (ts.getD t (0,0,0)).2.1=false:=Bool.eq_false_iff.2 hs1
        by_cases hs2:D7 (ts.getD s (0,0,0)) (ts.getD t (0,0,0)).2.2=true
        ·skip
         refine Cu [(0,true),(1,true),(2,true),(3,true),(4,true),(5,true),(6,true),(7,true),(8,true),(9,true),(10,true),(11,false),(12,true),(13,true),(14,true),(15,true),(16,true),(17,true),(18,true),(19,true),(20,true),(21,true),(22,true),(23,true),(24,false),(25,true),(26,true),(27,true),(28,true),(29,true),(30,true),(31,true),(32,true),(33,true),(34,true),(35,true),(36,true),(37,true),(38,false),(39,true),(40,true)] sr (Av (v:=(pP b1 1)) O (AB O underlying38 O sizeOf28 O) (Bx 1 (Value.slice x.b.p ts.length x.b.c) Bp O (BU O (Av (v:=(pP (pB x.b.p) (pO x.b.p+s*3))) O (AH (j:=s) O O x.b.ok underlying28 sizeOf68 O Z) (Av (v:=(aG (Am (ts.getD s ((0,0,0):Tq3))))) O (Ai (vs:=Am (ts.getD s ((0,0,0):Tq3))) (i:=3) O O (Ar.ne x.b.ok Z) DL (A8 Af _ _ _ Z) (Af _)) (Av (v:=(pP b1 1)) O (AB O underlying38 O sizeOf28 O) (Bx 1 (Value.slice x.b.p ts.length x.b.c) Bp O (BU O (Av (v:=(pP (pB x.b.p) (pO x.b.p+t*3))) O (AH (j:=t) O O x.b.ok underlying28 sizeOf68 O Z) (Av (v:=(pP (pB x.b.p) (pO x.b.p+(t*3+0)))) O (AG (j:=0) O O underlying68 sizeOf3 O (by decide) (Nat.add_assoc _ _ _)) (Av O (AL (v:=(vN ((ts.getD t ((0,0,0):Tq3)).1))) (i:=3) O O (Ar.ne x.b.ok Z) BR (Az Af ((0,0,0):Tq3) _ _ 0 Z (by decide) O)) ?_)))))))))))
         refine OkE.imp O (Cc (args:=[(aG (Am (ts.getD s ((0,0,0):Tq3)))),(vN ((ts.getD t ((0,0,0):Tq3)).1))]) (v:=(Value.bool false)) call33 (λw hw=>(by have h9:=El (ts.getD s (0,0,0)) ((ts.getD t (0,0,0)).1) w;rw [hb0] at h9;exact h9)) O (OkE.back sr (BU O (OkE.pas (v:=(pP b1 1)) O (AA O) (AB O underlying38 O sizeOf28 O) O O (OkE.pas (v:=(Value.slice x.b.p ts.length x.b.c)) O (AA O) (AN (i:=1) (v:=(Value.slice x.b.p ts.length x.b.c)) O O Bp.a O) O O (OkE.pas (v:=(vN s)) O (AA O) (AW O) O O (OkE.pas (v:=(pP (pB x.b.p) (pO x.b.p+s*3))) O (AA O) (AH (j:=s) O O x.b.ok underlying28 sizeOf68 O Z) O O (OkE.pas (v:=(aG (Am (ts.getD s ((0,0,0):Tq3))))) O (AA O) (Ai (vs:=Am (ts.getD s ((0,0,0):Tq3))) (i:=3) O O (Ar.ne x.b.ok Z) DL (A8 Af _ _ _ Z) (Af _)) O O (OkE.pas (v:=(pP b1 1)) O (AA O) (AB O underlying38 O sizeOf28 O) O O (OkE.pas (v:=(Value.slice x.b.p ts.length x.b.c)) O (AA O) (AN (i:=1) (v:=(Value.slice x.b.p ts.length x.b.c)) O O Bp.a O) O O (OkE.pas (v:=(vN t)) O (AA O) (AW O) O O ?_)))))))))))
         refine OkE.pas (v:=(pP (pB x.b.p) (pO x.b.p+t*3))) O (AA O) (AH (j:=t) O O x.b.ok underlying28 sizeOf68 O Z) O O (OkE.pas (v:=(pP (pB x.b.p) (pO x.b.p+(t*3+1)))) O (AA O) (AG (j:=1) O O underlying68 sizeOf3 O (by decide) (Nat.add_assoc _ _ _)) O O (OkE.pas (v:=(vN ((ts.getD t ((0,0,0):Tq3)).2.1))) O (AA O) (AL (v:=(vN ((ts.getD t ((0,0,0):Tq3)).2.1))) (i:=3) O O (Ar.ne x.b.ok Z) BR (Az Af ((0,0,0):Tq3) _ _ 1 Z (by decide) O)) O O (OkE.imp O (AC.call (v:=(Value.bool false)) (AA O) (Aw (args:=[(aG (Am (ts.getD s ((0,0,0):Tq3)))),(vN ((ts.getD t ((0,0,0):Tq3)).2.1))]) O O call33) (λw hw=>(by have h9:=El (ts.getD s (0,0,0)) ((ts.getD t (0,0,0)).2.1) w;rw [hb1] at h9;exact h9)) O (AV O) (OkE.back sr (Av (v:=(Value.bool false)) O (AO O O) (BU O (OkE.pas (v:=(pP b1 1)) O (AA O) (AB O underlying38 O sizeOf28 O) O O (OkE.pas (v:=(Value.slice x.b.p ts.length x.b.c)) O (AA O) (AN (i:=1) (v:=(Value.slice x.b.p ts.length x.b.c)) O O Bp.a O) O O (OkE.pas (v:=(vN s)) O (AA O) (AW O) O O (OkE.pas (v:=(pP (pB x.b.p) (pO x.b.p+s*3))) O (AA O) (AH (j:=s) O O x.b.ok underlying28 sizeOf68 O Z) O O ?_)))))))))))
         refine OkE.pas (v:=(aG (Am (ts.getD s ((0,0,0):Tq3))))) O (AA O) (Ai (vs:=Am (ts.getD s ((0,0,0):Tq3))) (i:=3) O O (Ar.ne x.b.ok Z) DL (A8 Af _ _ _ Z) (Af _)) O O (OkE.pas (v:=(pP b1 1)) O (AA O) (AB O underlying38 O sizeOf28 O) O O (OkE.pas (v:=(Value.slice x.b.p ts.length x.b.c)) O (AA O) (AN (i:=1) (v:=(Value.slice x.b.p ts.length x.b.c)) O O Bp.a O) O O (OkE.pas (v:=(vN t)) O (AA O) (AW O) O O (OkE.pas (v:=(pP (pB x.b.p) (pO x.b.p+t*3))) O (AA O) (AH (j:=t) O O x.b.ok underlying28 sizeOf68 O Z) O O (OkE.pas (v:=(pP (pB x.b.p) (pO x.b.p+(t*3+2)))) O (AA O) (AG (j:=2) O O underlying68 sizeOf3 O (by decide) (Nat.add_assoc _ _ _)) O O (OkE.pas (v:=(vN ((ts.getD t ((0,0,0):Tq3)).2.2))) O (AA O) (AL (v:=(vN ((ts.getD t ((0,0,0):Tq3)).2.2))) (i:=3) O O (Ar.ne x.b.ok Z) BR (Az Af ((0,0,0):Tq3) _ _ 2 Z (by decide) O)) O O (OkE.imp O (AC.call (v:=(Value.bool true)) (AA O) (Aw (args:=[(aG (Am (ts.getD s ((0,0,0):Tq3)))),(vN ((ts.getD t ((0,0,0):Tq3)).2.2))]) O O call33) (λw hw=>(by have h9:=El (ts.getD s (0,0,0)) ((ts.getD t (0,0,0)).2.2) w;rw [hs2] at h9;exact h9)) O (AV O) (OkE.back sr (Av (v:=(Value.bool true)) O (AO O O) (pS' O ?_)))))))))))
         exact OkE.nil (OkQ.subF (sL [1,2,3,4,7,8,6,9] O) (OkQ.join1 true ((by first|exact (by unfold Kb;rw [hs0];rfl)|exact (by unfold Kb;rw [hs1];simp)|exact (by unfold Kb;rw [hs2];simp)|exact (by unfold Kb;rw [hb0,hb1,hb2];rfl))) (sF O) sr))
        ·skip
         have hb2:D7 (ts.getD s (0,0,0)) (ts.getD t (0,0,0)).2.2=false:=Bool.eq_false_iff.2 hs2
         refine Cu [(0,true),(1,true),(2,true),(3,true),(4,true),(5,true),(6,true),(7,true),(8,true),(9,true),(10,true),(11,false),(12,true),(13,true),(14,true),(15,true),(16,true),(17,true),(18,true),(19,true),(20,true),(21,true),(22,true),(23,true),(24,false),(25,true),(26,true),(27,true),(28,true),(29,true),(30,true),(31,true),(32,true),(33,true),(34,true),(35,true),(36,true),(37,true),(38,false),(39,true),(40,true)] sr (Av (v:=(pP b1 1)) O (AB O underlying38 O sizeOf28 O) (Bx 1 (Value.slice x.b.p ts.length x.b.c) Bp O (BU O (Av (v:=(pP (pB x.b.p) (pO x.b.p+s*3))) O (AH (j:=s) O O x.b.ok underlying28 sizeOf68 O Z) (Av (v:=(aG (Am (ts.getD s ((0,0,0):Tq3))))) O (Ai (vs:=Am (ts.getD s ((0,0,0):Tq3))) (i:=3) O O (Ar.ne x.b.ok Z) DL (A8 Af _ _ _ Z) (Af _)) (Av (v:=(pP b1 1)) O (AB O underlying38 O sizeOf28 O) (Bx 1 (Value.slice x.b.p ts.length x.b.c) Bp O (BU O (Av (v:=(pP (pB x.b.p) (pO x.b.p+t*3))) O (AH (j:=t) O O x.b.ok underlying28 sizeOf68 O Z) (Av (v:=(pP (pB x.b.p) (pO x.b.p+(t*3+0)))) O (AG (j:=0) O O underlying68 sizeOf3 O (by decide) (Nat.add_assoc _ _ _)) (Av O (AL (v:=(vN ((ts.getD t ((0,0,0):Tq3)).1))) (i:=3) O O (Ar.ne x.b.ok Z) BR (Az Af ((0,0,0):Tq3) _ _ 0 Z (by decide) O)) ?_)))))))))))
         refine OkE.imp O (Cc (args:=[(aG (Am (ts.getD s ((0,0,0):Tq3)))),(vN ((ts.getD t ((0,0,0):Tq3)).1))]) (v:=(Value.bool false)) call33 (λw hw=>(by have h9:=El (ts.getD s (0,0,0)) ((ts.getD t (0,0,0)).1) w;rw [hb0] at h9;exact h9)) O (OkE.back sr (BU O (OkE.pas (v:=(pP b1 1)) O (AA O) (AB O underlying38 O sizeOf28 O) O O (OkE.pas (v:=(Value.slice x.b.p ts.length x.b.c)) O (AA O) (AN (i:=1) (v:=(Value.slice x.b.p ts.length x.b.c)) O O Bp.a O) O O (OkE.pas (v:=(vN s)) O (AA O) (AW O) O O (OkE.pas (v:=(pP (pB x.b.p) (pO x.b.p+s*3))) O (AA O) (AH (j:=s) O O x.b.ok underlying28 sizeOf68 O Z) O O (OkE.pas (v:=(aG (Am (ts.getD s ((0,0,0):Tq3))))) O (AA O) (Ai (vs:=Am (ts.getD s ((0,0,0):Tq3))) (i:=3) O O (Ar.ne x.b.ok Z) DL (A8 Af _ _ _ Z) (Af _)) O O (OkE.pas (v:=(pP b1 1)) O (AA O) (AB O underlying38 O sizeOf28 O) O O (OkE.pas (v:=(Value.slice x.b.p ts.length x.b.c)) O (AA O) (AN (i:=1) (v:=(Value.slice x.b.p ts.length x.b.c)) O O Bp.a O) O O (OkE.pas (v:=(vN t)) O (AA O) (AW O) O O ?_)))))))))))
         refine OkE.pas (v:=(pP (pB x.b.p) (pO x.b.p+t*3))) O (AA O) (AH (j:=t) O O x.b.ok underlying28 sizeOf68 O Z) O O (OkE.pas (v:=(pP (pB x.b.p) (pO x.b.p+(t*3+1)))) O (AA O) (AG (j:=1) O O underlying68 sizeOf3 O (by decide) (Nat.add_assoc _ _ _)) O O (OkE.pas (v:=(vN ((ts.getD t ((0,0,0):Tq3)).2.1))) O (AA O) (AL (v:=(vN ((ts.getD t ((0,0,0):Tq3)).2.1))) (i:=3) O O (Ar.ne x.b.ok Z) BR (Az Af ((0,0,0):Tq3) _ _ 1 Z (by decide) O)) O O (OkE.imp O (AC.call (v:=(Value.bool false)) (AA O) (Aw (args:=[(aG (Am (ts.getD s ((0,0,0):Tq3)))),(vN ((ts.getD t ((0,0,0):Tq3)).2.1))]) O O call33) (λw hw=>(by have h9:=El (ts.getD s (0,0,0)) ((ts.getD t (0,0,0)).2.1) w;rw [hb1] at h9;exact h9)) O (AV O) (OkE.back sr (Av (v:=(Value.bool false)) O (AO O O) (BU O (OkE.pas (v:=(pP b1 1)) O (AA O) (AB O underlying38 O sizeOf28 O) O O (OkE.pas (v:=(Value.slice x.b.p ts.length x.b.c)) O (AA O) (AN (i:=1) (v:=(Value.slice x.b.p ts.length x.b.c)) O O Bp.a O) O O (OkE.pas (v:=(vN s)) O (AA O) (AW O) O O (OkE.pas (v:=(pP (pB x.b.p) (pO x.b.p+s*3))) O (AA O) (AH (j:=s) O O x.b.ok underlying28 sizeOf68 O Z) O O ?_)))))))))))
         refine OkE.pas (v:=(aG (Am (ts.getD s ((0,0,0):Tq3))))) O (AA O) (Ai (vs:=Am (ts.getD s ((0,0,0):Tq3))) (i:=3) O O (Ar.ne x.b.ok Z) DL (A8 Af _ _ _ Z) (Af _)) O O (OkE.pas (v:=(pP b1 1)) O (AA O) (AB O underlying38 O sizeOf28 O) O O (OkE.pas (v:=(Value.slice x.b.p ts.length x.b.c)) O (AA O) (AN (i:=1) (v:=(Value.slice x.b.p ts.length x.b.c)) O O Bp.a O) O O (OkE.pas (v:=(vN t)) O (AA O) (AW O) O O (OkE.pas (v:=(pP (pB x.b.p) (pO x.b.p+t*3))) O (AA O) (AH (j:=t) O O x.b.ok underlying28 sizeOf68 O Z) O O (OkE.pas (v:=(pP (pB x.b.p) (pO x.b.p+(t*3+2)))) O (AA O) (AG (j:=2) O O underlying68 sizeOf3 O (by decide) (Nat.add_assoc _ _ _)) O O (OkE.pas (v:=(vN ((ts.getD t ((0,0,0):Tq3)).2.2))) O (AA O) (AL (v:=(vN ((ts.getD t ((0,0,0):Tq3)).2.2))) (i:=3) O O (Ar.ne x.b.ok Z) BR (Az Af ((0,0,0):Tq3) _ _ 2 Z (by decide) O)) O O (OkE.imp O (AC.call (v:=(Value.bool false)) (AA O) (Aw (args:=[(aG (Am (ts.getD s ((0,0,0):Tq3)))),(vN ((ts.getD t ((0,0,0):Tq3)).2.2))]) O O call33) (λw hw=>(by have h9:=El (ts.getD s (0,0,0)) ((ts.getD t (0,0,0)).2.2) w;rw [hb2] at h9;exact h9)) O (AV O) (OkE.back sr (Av (v:=(Value.bool false)) O (AO O O) (pS' O ?_)))))))))))
         exact OkE.nil (OkQ.subF (sL [1,2,3,4,7,8,6,9] O) (OkQ.join1 false ((by first|exact (by unfold Kb;rw [hs0];rfl)|exact (by unfold Kb;rw [hs1];simp)|exact (by unfold Kb;rw [hs2];simp)|exact (by unfold Kb;rw [hb0,hb1,hb2];rfl))) (sF O) sr))
     ·intro tc hJ
      have htc:=hJ
      refine q1 ?_
      by_cases hs3:tc=true
      ·skip
       subst hs3
       by_cases hs4:l3.getD s 0<l3.getD t 0
       ·skip
        refine Cu [(0,true),(1,true),(2,true),(3,true),(4,true),(5,true),(6,true),(7,true),(8,true),(9,true),(10,true),(11,true)] sr (BU O (BU O (OkE.pas (v:=(Value.slice (some ⟨bl,0,none⟩) ts.length ts.length)) O (AA O) (AW O) O O (OkE.pas (v:=(vN s)) O (AA O) (AW O) O O (OkE.pas (v:=(pP (pB (some ⟨bl,0,none⟩)) (pO (some ⟨bl,0,none⟩)+s*1))) O (AA O) (AH (j:=s) O O hbl.row underlying86 sizeOf3 O Z) O O (OkE.pas (v:=(vN (l3.getD s 0))) O (AA O) (Ay (v:=(vN (l3.getD s 0))) (i:=0) O O hbl (by rw [BG,Nat.mul_one];exact hU.pr.len) (hbl.row.ne Z) BR (CM (l:=l3) (j:=s) Z)) O O (OkE.pas (v:=(Value.slice (some ⟨bl,0,none⟩) ts.length ts.length)) O (AA O) (AW O) O O (OkE.pas (v:=(vN t)) O (AA O) (AW O) O O (OkE.pas (v:=(pP (pB (some ⟨bl,0,none⟩)) (pO (some ⟨bl,0,none⟩)+t*1))) O (AA O) (AH (j:=t) O O hbl.row underlying86 sizeOf3 O Z) O O (OkE.pas (v:=(vN (l3.getD t 0))) O (AA O) (Ay (v:=(vN (l3.getD t 0))) (i:=0) O O hbl (by rw [BG,Nat.mul_one];exact hU.pr.len) (hbl.row.ne Z) BR (CM (l:=l3) (j:=t) Z)) O O (OkE.pas (v:=(Value.bool true)) O (AA O) (Ad (c:=true) O O (decide_eq_true Z)) O O ?_)))))))))))
        refine Av (v:=(Value.bool true)) O (AR O O) (OkE.nil (OkQ.subF (sL [1,2,3,4,7,8,6,9,94] O) (OkQ.then_ (AE.cond_true O (q4 (AM O (AM O (AM O (AM O (AK (v:=(pP (pB (some ⟨bl,0,none⟩)) (pO (some ⟨bl,0,none⟩)+s*1))) (AH (j:=s) O O hbl.row underlying86 sizeOf3 O Z) O (AK (Ay (v:=(vN (l3.getD s 0))) (i:=0) O O hbl (by rw [BG,Nat.mul_one];exact hU.pr.len) (hbl.row.ne Z) BR (CM (l:=l3) (j:=s) Z)) O ?_)))))))))))
        refine AK (v:=(pP (pB (some ⟨bl,0,none⟩)) (pO (some ⟨bl,0,none⟩)+t*1))) (AH (j:=t) O O hbl.row underlying86 sizeOf3 O Z) O (AC.storeRow0 (j:=t) (v:=(vN (l3.getD s 0))) O O hbl (by rw [BG,Nat.mul_one];exact hU.pr.len) Z O sizeOf3 O (Qe _ _ _) (AC.nil (OkQ.subF (sL [1,2,3,4,7,8,6,9] O) (OkQ.then_ (AE.region (AI O (AC.nil (OkQ.in_normal (OkQ.then_ (AE.region (AM O ?_)))))))))))
        exact AK (AY (c:=((s+1:Nat):Int)) O O (AU (a:=s) (b:=1) Z)) O (AI O (AC.nil (OkQ.subF (sL [1,2,3,4,7,8,6,9] O) (OkQ.round3 (s+1) true (l3.set t (l3.getD s 0)) (⟨Z,hU.put Z Z htc.symm hs4⟩) Z (sF O) sr))))
       ·skip
        refine Cu [(0,true),(1,true),(2,true),(3,true),(4,true),(5,true),(6,true),(7,true),(8,true),(9,true),(10,true),(11,true)] sr (BU O (BU O (OkE.pas (v:=(Value.slice (some ⟨bl,0,none⟩) ts.length ts.length)) O (AA O) (AW O) O O (OkE.pas (v:=(vN s)) O (AA O) (AW O) O O (OkE.pas (v:=(pP (pB (some ⟨bl,0,none⟩)) (pO (some ⟨bl,0,none⟩)+s*1))) O (AA O) (AH (j:=s) O O hbl.row underlying86 sizeOf3 O Z) O O (OkE.pas (v:=(vN (l3.getD s 0))) O (AA O) (Ay (v:=(vN (l3.getD s 0))) (i:=0) O O hbl (by rw [BG,Nat.mul_one];exact hU.pr.len) (hbl.row.ne Z) BR (CM (l:=l3) (j:=s) Z)) O O (OkE.pas (v:=(Value.slice (some ⟨bl,0,none⟩) ts.length ts.length)) O (AA O) (AW O) O O (OkE.pas (v:=(vN t)) O (AA O) (AW O) O O (OkE.pas (v:=(pP (pB (some ⟨bl,0,none⟩)) (pO (some ⟨bl,0,none⟩)+t*1))) O (AA O) (AH (j:=t) O O hbl.row underlying86 sizeOf3 O Z) O O (OkE.pas (v:=(vN (l3.getD t 0))) O (AA O) (Ay (v:=(vN (l3.getD t 0))) (i:=0) O O hbl (by rw [BG,Nat.mul_one];exact hU.pr.len) (hbl.row.ne Z) BR (CM (l:=l3) (j:=t) Z)) O O (OkE.pas (v:=(Value.bool false)) O (AA O) (Ad (c:=false) O O (decide_eq_false Z)) O O ?_)))))))))))
        refine Av (v:=(Value.bool false)) O (AR O O) (OkE.nil (OkQ.subF (sL [1,2,3,4,7,8,6,9,94] O) (OkQ.then_ (AE.cond_false O (AE.skip (OkQ.in_normal (OkQ.then_ (AE.region (AM O (AK (AY (c:=((s+1:Nat):Int)) O O (AU (a:=s) (b:=1) Z)) O (AI O ?_)))))))))))
        exact AC.nil (OkQ.subF (sL [1,2,3,4,7,8,6,9] O) (OkQ.round3 (s+1) a3 l3 (⟨Z,hU.skip (λh9=>by first|exact hs4 h9.2|(rw [<-htc] at h9;exact Bool.false_ne_true h9.1))⟩) Z (sF O) sr))
      ·skip
       have hs5:tc=false:=Bool.eq_false_iff.2 hs3
       subst hs5
       refine Cu [(0,true),(1,true),(2,true),(3,true),(4,true),(5,true),(6,true),(7,true),(8,true),(9,true),(10,true),(11,true)] sr (BU O (BU O (OkE.skp O (AD O) O O (OkE.skp O (AD O) O O (OkE.skp O (AD O) O O (OkE.skp O (AD O) O O (OkE.skp O (AD O) O O (OkE.skp O (AD O) O O (OkE.skp O (AD O) O O (OkE.skp O (AD O) O O (OkE.skp O (AD O) O O ?_)))))))))))
       refine Av (v:=(Value.bool false)) O (AO O O) (OkE.nil (OkQ.subF (sL [1,2,3,4,7,8,6,9,94] O) (OkQ.then_ (AE.cond_false O (AE.skip (OkQ.in_normal (OkQ.then_ (AE.region (AM O (AK (AY (c:=((s+1:Nat):Int)) O O (AU (a:=s) (b:=1) Z)) O (AI O ?_)))))))))))
       exact AC.nil (OkQ.subF (sL [1,2,3,4,7,8,6,9] O) (OkQ.round3 (s+1) a3 l3 (⟨Z,hU.skip (λh9=>by first|exact hs4 h9.2|(rw [<-htc] at h9;exact Bool.false_ne_true h9.1))⟩) Z (sF O) sr))
    ·replace hc4:=of_decide_eq_false hc4
     exact AE.exit (OkQ.then_exit (OkQ.round3_exit (OkQ.in_exit (OkQ.in_normal (OkQ.then_ (AE.region (AM O (AK (AY (c:=((t+1:Nat):Int)) O O (AU (a:=t) (b:=1) Z)) O (AI O (AC.nil (OkQ.subF (sL [1,2,3,4,7,8,6] O) (OkQ.round3 (t+1) a3 l3 (⟨Z,hU.row Z⟩) Z (sF O) sr))))))))))))
   ·replace hc3:=of_decide_eq_false hc3
    exact AE.exit (OkQ.then_exit (OkQ.round3_exit (OkQ.in_exit (OkQ.in_normal (OkQ.round2 a2 l2 (⟨hS.pr,hS.spread Z⟩) (by rw [hc2];exact hS.mu) (sF O) sr)))))
  ·skip
   have hF:=hP.fin (hSp hc2)
   refine AE.exit (OkQ.then_exit (OkQ.round2_exit (OkQ.in_exit (q2 (AI O (AC.nil (q2 (AM O (AK (v:=(vN ts.length)) (AF O underlying86) O ?_)))))))))
   refine AC.makeInt (m:=ts.length) TH O O Z O O ?_;intro bm hbm;rw [show List.replicate ts.length 0=Oc ts.length 0 from O]
   refine AI O (q6 (sL [1,2,3,4,6,10,11] O) (q4 (AI O (AC.nil (OkQ.then_ (AE.block ?_))))))
   refine AE.lp3 (tg λ(t:Nat) (n:Nat) (out:List Int)=>t<=ts.length/\SU ts l out n t) (tg λ(t:Nat) (n:Nat) (out:List Int)=>[(2,(Value.slice none 0 0)),(3,(vI 0)),(4,(Value.slice (some ⟨bl,0,none⟩) ts.length ts.length)),(11,(Value.slice (some ⟨bm,0,none⟩) ts.length ts.length)),(12,(vN t)),(10,(vN n))]) (tg λ(t:Nat) (n:Nat) (out:List Int)=>[rowW (some ⟨bm,0,none⟩) 3 1 ts.length ts.length (zL out),rowW (some ⟨bl,0,none⟩) 3 1 ts.length ts.length (inL l),Ah b1 38 (BN x),AJ x.a.p (x.cs),AJ x.b.p (rowsL Am ts),AJ x.c.p (x.ds)]) (tg λ(t:Nat) (n:Nat) (out:List Int)=>ts.length-t) 0 0 (Oc ts.length 0) (⟨Nat.zero_le _,SU.start⟩) (sF O) sr (λt n out hJ=>?_)
   obtain ⟨ht,hO⟩:=hJ
   have hnle:=hO.nle
   have hOl:=hO.len
   refine AE.seq (q4 (AM O (AM O (AK (v:=(vN ts.length)) (AF O underlying86) O (AK (Ad (c:=(decide (t<ts.length))) O O (B7 (a:=t) (b:=ts.length))) O (AC.nil (OkQ.subF (sL [2,3,4,11,12,10,108] O) (OkQ.then_ ?_))))))))
   refine AE.cond O (λhc6=>?_) (λhc6=>?_)
   ·replace hc6:=of_decide_eq_true hc6
    have hlt:=hF.lt hc6
    refine AE.skip (q1 (AE.block (q4 (AM O (AM O (AK (v:=(pP (pB (some ⟨bl,0,none⟩)) (pO (some ⟨bl,0,none⟩)+t*1))) (AH (j:=t) O O hbl.row underlying86 sizeOf3 O Z) O (AK (Ay (v:=(vN (l.getD t 0))) (i:=1) O O hbl (by rw [BG,Nat.mul_one];exact hP.len) (hbl.row.ne Z) BR (CM (l:=l) (j:=t) Z)) O (AM O (AK (BA (c:=(decide ((l.getD t 0)=t))) O O (KW (a:=l.getD t 0) (b:=t))) O (AC.nil (OkQ.subF (sL [2,3,4,11,12,10,116] O) ?_)))))))))))
    refine OkQ.then_ ?_
    refine AE.cond O (λhc7=>?_) (λhc7=>?_)
    ·replace hc7:=of_decide_eq_true hc7
     refine q4 (AM O (AM O (AM O (AK (v:=(pP (pB (some ⟨bm,0,none⟩)) (pO (some ⟨bm,0,none⟩)+t*1))) (AH (j:=t) O O hbm.row underlying86 sizeOf3 O Z) O (AC.storeRow0 (j:=t) (v:=(vN n)) O O hbm (by rw [B6,Nat.mul_one];exact hO.len) Z O sizeOf3 O (G3 _ _ _) (AC.nil (OkQ.subF (sL [2,3,4,11,12,10] O) (OkQ.then_ (AE.region (AM O (AK (AY (c:=((n+1:Nat):Int)) O O (AU (a:=n) (b:=1) Z)) O ?_)))))))))))
     exact AI O (AC.nil (OkQ.subF (sL [2,3,4,11,12,10] O) (OkQ.in_normal (OkQ.then_ (AE.region (AM O (AK (AY (c:=((t+1:Nat):Int)) O O (AU (a:=t) (b:=1) Z)) O (AI O (AC.nil (OkQ.subF (sL [2,3,4,11,12,10] O) (OkQ.round3 (t+1) (n+1) (out.set t ((n:Nat):Int)) (⟨Z,hO.new hF Z hc7⟩) Z (sF O) sr)))))))))))
    ·replace hc7:=of_decide_eq_false hc7
     refine AE.region (AM O (AM O (AM O (AM O (AM O (AK (v:=(pP (pB (some ⟨bl,0,none⟩)) (pO (some ⟨bl,0,none⟩)+t*1))) (AH (j:=t) O O hbl.row underlying86 sizeOf3 O Z) O (AK (Ay (v:=(vN (l.getD t 0))) (i:=1) O O hbl (by rw [BG,Nat.mul_one];exact hP.len) (hbl.row.ne Z) BR (CM (l:=l) (j:=t) Z)) O (AK (v:=(pP (pB (some ⟨bm,0,none⟩)) (pO (some ⟨bm,0,none⟩)+(l.getD t 0)*1))) (AH (j:=l.getD t 0) O O hbm.row underlying86 sizeOf3 O Z) O (AK (Ay (v:=(vI (out.getD (l.getD t 0) 0))) (i:=0) O O hbm (by rw [B6,Nat.mul_one];exact hO.len) (hbm.row.ne Z) BR (G6 (l:=out) (j:=l.getD t 0) Z)) O (AK (v:=(pP (pB (some ⟨bm,0,none⟩)) (pO (some ⟨bm,0,none⟩)+t*1))) (AH (j:=t) O O hbm.row underlying86 sizeOf3 O Z) O (AC.storeRow0 (j:=t) (v:=(vI (out.getD (l.getD t 0) 0))) O O hbm (by rw [B6,Nat.mul_one];exact hO.len) Z O sizeOf3 O (G3 _ _ _) ?_)))))))))))
     exact AC.nil (OkQ.subF (sL [2,3,4,11,12,10] O) (OkQ.in_normal (OkQ.then_ (AE.region (AM O (AK (AY (c:=((t+1:Nat):Int)) O O (AU (a:=t) (b:=1) Z)) O (AI O (AC.nil (OkQ.subF (sL [2,3,4,11,12,10] O) (OkQ.round3 (t+1) n (out.set t (gZ out (l.getD t 0))) (⟨Z,hO.old hF Z hc7⟩) Z (sF O) sr))))))))))
   ·replace hc6:=of_decide_eq_false hc6
    refine AE.exit (OkQ.then_exit (OkQ.round3_exit (OkQ.in_exit (q2 (AM O (AM O (AI O (AI O (AC.nil (OkQ.subF (sL [2,3,4,11,12,10] O) (OkQ.then_ ?_)))))))))))
    exact AE.ret (Bo O (AZ (v:=(Value.slice (some ⟨bm,0,none⟩) ts.length ts.length)) O) (AZ (v:=(vN n)) O) (λw hw=>(Zm hw 0 O hbm hOl.symm (hO.pts hF Z) O)))
end
section
def Cw (ts:List T3) (a b:Nat):Nat->Int
  | 0 => -1
  | k+1=>if Cv (ts.getD (ts.length-1-k) (0,0,0)) a b=true then ((ts.length-1-k:Nat):Int) else Cw ts a b k
def Sa (ts:List T3) (a b:Nat):E4:=⟨a,b,Bb ts a b ts.length,Bb ts b a ts.length⟩
def HR (ts:List T3) (a:Nat):Nat->List E4
  | 0=>[]
  | j+1=>if 0<=(Sa ts a (a+1+j)).l\/0<=(Sa ts a (a+1+j)).r then HR ts a j++[Sa ts a (a+1+j)] else HR ts a j
def X5 (ts:List T3) (N:Nat):Nat->List E4
  | 0=>[]
  | a+1=>X5 ts N a++HR ts a (N-(a+1))
section
variable {ts:List T3} {a b N:Nat}
theorem KF:∀k,k<=ts.length->(Cw ts a b k = -1/\∀j,ts.length-k<=j->j<ts.length->Cv (ts.getD j (0,0,0)) a b=false)\/∃j,ts.length-k<=j/\j<ts.length/\Cv (ts.getD j (0,0,0)) a b=true/\Cw ts a b k=(j:Int)/\∀i,ts.length-k<=i->i<j->Cv (ts.getD i (0,0,0)) a b=false
  | 0,_=>.inl ⟨rfl,λj h1 h2=>by omega⟩
  | k+1,hk=>by
    rw [Cw]
    by_cases e:Cv (ts.getD (ts.length-1-k) (0,0,0)) a b=true
    · rw [if_pos e]
      exact .inr ⟨ts.length-1-k,Z,Z,e,rfl,λi h1 h2=>by omega⟩
    · rw [if_neg e]
      have e2:Cv (ts.getD (ts.length-1-k) (0,0,0)) a b=false:=by simpa using e
      rcases KF k Z with ⟨h1,h2⟩|⟨j,h1,h2,h3,h4,h5⟩
      · refine .inl ⟨h1,λj q1 q2=>?_⟩
        rcases Nat.lt_or_ge j (ts.length-k) with h|h
        · rw [show j=ts.length-1-k by omega];exact e2
        · exact h2 j h q2
      · refine .inr ⟨j,Z,h2,h3,h4,λi q1 q2=>?_⟩
        rcases Nat.lt_or_ge i (ts.length-k) with h|h
        · rw [show i=ts.length-1-k by omega];exact e2
        · exact h5 i h q2
theorem Mj:Cw ts a b ts.length=Bb ts a b ts.length:=by
  rcases KF (ts:=ts) (a:=a) (b:=b) ts.length (Nat.le_refl _) with ⟨h1,h2⟩|⟨j,h1,h2,h3,h4,h5⟩
  · rw [h1,GT _ λj hj=>h2 j Z hj]
  · rw [h4,Hm _ h2 h3 λi hi=>h5 i Z hi]
theorem KR {j:Nat}:Cv (ts.getD j (0,0,0)) a b=true↔Oe ts j a b:=by
  unfold Oe
  constructor
  · intro h
    unfold Cv at h
    simp only [Bool.or_eq_true,Bool.and_eq_true,decide_eq_true_eq] at h
    rcases h with ⟨h1,h2⟩|⟨h1,h2⟩|⟨h1,h2⟩
    · exact ⟨0,by decide,by rw [CB (by decide)];exact Prod.ext h1 h2⟩
    · exact ⟨1,by decide,by rw [CB (by decide)];exact Prod.ext h1 h2⟩
    · exact ⟨2,by decide,by rw [CB (by decide)];exact Prod.ext h1 h2⟩
  · rintro ⟨r,hr,h⟩
    rw [CB hr] at h
    have h1:=congrArg Prod.fst h
    have h2:=congrArg Prod.snd h
    simp only at h1 h2
    have e:r=0\/r=1\/r=2:=by omega
    unfold Cv
    rcases e with rfl|rfl|rfl<;>simp [Bl] at h1 h2<;>simp [h1,h2]
theorem GN:Gf ts (3*ts.length) a b (Bb ts a b ts.length):=by
  refine Ni ?_
  by_cases h:∃j,j<ts.length/\Cv (ts.getD j (0,0,0)) a b=true
  · rcases KF (ts:=ts) (a:=a) (b:=b) ts.length (Nat.le_refl _) with ⟨h1,h2⟩|⟨j,h1,h2,h3,h4,h5⟩
    · obtain ⟨j,k1,k2⟩:=h
      rw [h2 j Z k1] at k2
      cases k2
    · refine .inr ⟨j,h2,by rw [<-Mj];exact h4,KR.1 h3,λi hi k=>?_⟩
      have:=h5 i Z hi
      rw [KR.2 k] at this
      cases this
  · have hn:∀j,j<ts.length->Cv (ts.getD j (0,0,0)) a b=false:=λj hj=>by
      cases e:Cv (ts.getD j (0,0,0)) a b with
      | false=>rfl
      | true=>exact absurd ⟨j,hj,e⟩ h
    exact .inl ⟨GT _ hn,λj hj k=>by have:=hn j hj;rw [KR.2 k] at this;cases this⟩
theorem Fv {e:E4}:∀j,e∈HR ts a j↔e.a=a/\a<e.b/\e.b<a+1+j/\e=Sa ts e.a e.b/\(0<=e.l\/0<=e.r)
  | 0=>⟨λh=>(by cases h),λh=>Z⟩
  | j+1=>by
    rw [HR]
    split
    · rename_i hc
      rw [List.mem_append,Fv j,List.mem_singleton]
      constructor
      · rintro (h|rfl)
        · exact ⟨h.1,h.2.1,Z,h.2.2.2⟩
        · exact ⟨rfl,(by show a<a+1+j;omega),(by show a+1+j<a+1+(j+1);omega),rfl,hc⟩
      · rintro ⟨h1,h2,h3,h4,h5⟩
        rcases Nat.lt_or_ge e.b (a+1+j) with h6|h6
        · exact .inl ⟨h1,h2,h6,h4,h5⟩
        · refine .inr ?_
          rw [h4,h1,show e.b=a+1+j by omega]
    · rename_i hc
      rw [Fv j]
      constructor
      · exact λh=>⟨h.1,h.2.1,Z,h.2.2.2⟩
      · rintro ⟨h1,h2,h3,h4,h5⟩
        rcases Nat.lt_or_ge e.b (a+1+j) with h6|h6
        · exact ⟨h1,h2,h6,h4,h5⟩
        · rw [h1,show e.b=a+1+j by omega] at h4
          rw [h4] at h5
          exact absurd h5 hc
theorem MM {e:E4}:∀A,e∈X5 ts N A↔e.a<A/\e.a<e.b/\e.b<N/\e=Sa ts e.a e.b/\(0<=e.l\/0<=e.r)
  | 0=>⟨λh=>(by cases h),λh=>Z⟩
  | A+1=>by
    rw [X5,List.mem_append,MM A,Fv]
    constructor
    · rintro (h|h)
      · exact ⟨Z,h.2⟩
      · exact ⟨Z,Z,Z,h.2.2.2⟩
    · rintro ⟨h1,h2,h3,h4⟩
      rcases Nat.lt_or_ge e.a A with h5|h5
      · exact .inl ⟨h5,h2,h3,h4⟩
      · exact .inr ⟨Z,Z,Z,h4⟩
theorem Fs:∀j,(HR ts a j).Pairwise Vd
  | 0=>List.Pairwise.nil
  | j+1=>by
    rw [HR]
    split
    · refine List.pairwise_append.2 ⟨Fs j,List.pairwise_singleton _ _,λx hx y hy=>?_⟩
      rw [List.mem_singleton] at hy
      subst hy
      have h:=(Fv j).1 hx
      exact .inr ⟨h.1,(by show x.b<a+1+j;exact h.2.2.1)⟩
    · exact Fs j
theorem KG:∀A,(X5 ts N A).Pairwise Vd
  | 0=>List.Pairwise.nil
  | A+1=>List.pairwise_append.2 ⟨KG A,Fs _,λx hx y hy=>.inl (by
      have h1:=(MM A).1 hx
      have h2:=(Fv _).1 hy
      omega)⟩
theorem YB (hn:A_ N ts=true) (hN:N<=4611686018427387904):X5 ts N N=Bv ts:=by
  refine Gu Vd.asymm (KG N) (J8 hn hN) λe=>?_
  rw [MM,I8 hn hN]
  constructor
  · rintro ⟨_,h2,_,h4,h5⟩
    have el:e.l=Bb ts e.a e.b ts.length:=congrArg E4.l h4
    have er:e.r=Bb ts e.b e.a ts.length:=congrArg E4.r h4
    refine ⟨rfl,rfl,h2,by rw [el];exact GN,by rw [er];exact GN,?_⟩
    rcases h5 with h5|h5
    · rw [el] at h5
      obtain ⟨u,hu,h⟩:=(Gf.neg2 GN).1 h5
      exact ⟨u,hu,.inl h⟩
    · rw [er] at h5
      obtain ⟨u,hu,h⟩:=(Gf.neg2 GN).1 h5
      exact ⟨u,hu,.inr h⟩
  · intro k
    have kl:Gf ts (3*ts.length) e.a e.b e.l:=k.l
    have kr:Gf ts (3*ts.length) e.b e.a e.r:=k.r
    have el:e.l=Bb ts e.a e.b ts.length:=kl.uniq GN
    have er:e.r=Bb ts e.b e.a ts.length:=kr.uniq GN
    have hk:(e.a,e.b)∈G_ ts:=(HI hn hN).2 ⟨e,(I8 hn hN).2 k,rfl,rfl⟩
    obtain ⟨k1,k2⟩:=Nk hn hN hk
    refine ⟨Z,k1,k2,?_,?_⟩
    · obtain ⟨x,y,l,r⟩:=e
      simp only at el er
      rw [el,er]
      rfl
    · obtain ⟨u,hu,h⟩:=k.some
      rcases h with h|h
      · exact .inl ((Gf.neg2 kl).2 ⟨u,hu,h⟩)
      · exact .inr ((Gf.neg2 kr).2 ⟨u,hu,h⟩)
where
  Gf.neg2 {s x y:Nat} {z:Int} (h:Gf ts s x y z):0<=z↔∃u,u<s/\BQ ts u=(x,y):=by
    rcases h with ⟨h1,h2⟩|⟨u,h1,h2,h3,_⟩
    · exact ⟨λ_=>by omega,λ⟨u,hu,e⟩=>absurd e (h2 u hu)⟩
    · exact ⟨λ_=>⟨u,h1,h3⟩,λ_=>by omega⟩
theorem QI {k:Nat} (h:Cv (ts.getD (ts.length-1-k) (0,0,0)) a b=true):Cw ts a b (k+1)=((ts.length-1-k:Nat):Int):=if_pos h
theorem UM {k:Nat} (h:¬Cv (ts.getD (ts.length-1-k) (0,0,0)) a b=true):Cw ts a b (k+1)=Cw ts a b k:=if_neg h
theorem Ta {j:Nat} (hj:a+1<=j) (h:0<=(Sa ts a j).l\/0<=(Sa ts a j).r):HR ts a (j+1-(a+1))=HR ts a (j-(a+1))++[Sa ts a j]:=by
  rw [show j+1-(a+1)=(j-(a+1))+1 by omega,HR,if_pos (by rw [show a+1+(j-(a+1))=j by omega];exact h),show a+1+(j-(a+1))=j by omega]
theorem Wr {j:Nat} (hj:a+1<=j) (h:¬(0<=(Sa ts a j).l\/0<=(Sa ts a j).r)):HR ts a (j+1-(a+1))=HR ts a (j-(a+1)):=by
  rw [show j+1-(a+1)=(j-(a+1))+1 by omega,HR,if_neg (by rw [show a+1+(j-(a+1))=j by omega];exact h)]
theorem Xr {k:Nat} (h:k=ts.length):(⟨a,b,Cw ts a b k,Cw ts b a k⟩:E4)=Sa ts a b:=by
  subst h
  rw [Mj,Mj];rfl
end
end
end Go.Proofs.YtpgncndhhhllfaaGreat
