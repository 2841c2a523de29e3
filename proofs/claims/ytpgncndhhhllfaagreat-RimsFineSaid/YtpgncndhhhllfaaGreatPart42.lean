import Derived.Test.YtpgncndhhhllfaaGreatPart03
import Derived.Test.YtpgncndhhhllfaaGreatPart29
import Derived.Test.YtpgncndhhhllfaaGreatPart39
import Derived.Test.YtpgncndhhhllfaaGreatPart40
import Derived.Test.YtpgncndhhhllfaaGreatPart41
namespace Go.Proofs.YtpgncndhhhllfaaGreat
open Go Go.RowKit Go.Proofs.Tryz
set_option linter.unusedVariables false
set_option linter.unusedSimpArgs false
section
set_option maxRecDepth 100000
set_option maxHeartbeats 2000000 in
theorem SJ {N:Nat} {ts ss:List T3} (x:RM N ts ss) (hnb:BI N ts=true) (hl:ts.length<=1000000) (hN:N<=1000000) (w:World) {S:Nat->Prop} (hx:Ro S w x):Calls prog 23 #[(aG (Bt x))] w (Am (We ts) S w):=by
 have lx:=Dk (W:=w) hx
 refine An (args:=[(aG (Bt x))]) (L:=[AK x.a.p (x.cs),AK x.b.p (rowsL AZ ts),AK x.c.p (rowsL AZ ss)]) func23 O O (Ad O) (E3 hx BA) (AE.subF (sL [0] O) (q4 (Ca (cs:=Bt x) O λb1=>AI O (AI O (q6 (sL [1,2,3] O) (q4 (BF 0 C7 O (DS call39 (λw hw=>G0 x hnb hl hN w (Br hw 1 O lx)) O (AJ (Bj (c:=false) O O) O (AC.nil ?_))))))))))
 refine OkQ.subF (sL [1,2,3,15] O) (OkQ.then_ (AE.cond_false O (AE.skip (q2 (AJ (v:=(pP b1 1)) (AB O underlying38 O sizeOf28 O) O (BE 0 (Value.slice x.b.p ts.length x.b.c) Bl O (AJ (v:=(vN ts.length)) (AF O underlying28) O ?_)))))))
 refine AC.makeNat (m:=ts.length) Tx O O Z O O ?_;intro bl hbl;rw [Uh]
 refine AI O (q6 (sL [1,2,3,4] O) (q4 (AI O (AC.nil (OkQ.then_ (AE.block ?_))))))
 refine AE.lp1 (tg λ(q:Nat)=>q<=ts.length) (tg λ(q:Nat)=>[(1,(pP b1 0)),(2,(Value.slice none 0 0)),(3,(vI 0)),(4,(Value.slice (some ⟨bl,0,none⟩) ts.length ts.length)),(5,(vN q))]) (tg λ(q:Nat)=>[rowW (some ⟨bl,0,none⟩) 3 1 ts.length ts.length (inL (TY ts.length q)),Af b1 38 (Bt x),AK x.a.p (x.cs),AK x.b.p (rowsL AZ ts),AK x.c.p (rowsL AZ ss)]) (tg λ(q:Nat)=>ts.length-q) 0 (Nat.zero_le _) (sF O) sr (λq hJ=>?_)
 have hq:=hJ
 refine AE.seq (q4 (AM O (AM O (AJ (v:=(vN ts.length)) (AF O underlying86) O (AJ (Ac (c:=(decide (q<ts.length))) O O (CD (a:=q) (b:=ts.length))) O (AC.nil (OkQ.subF (sL [1,2,3,4,5,23] O) (OkQ.then_ ?_))))))))
 refine AE.cond O (λhc1=>?_) (λhc1=>?_)
 ·replace hc1:=of_decide_eq_true hc1
  refine AE.skip (q1 (AE.block (AE.region (AM O (AM O (AM O (AJ (v:=(pP (pB (some ⟨bl,0,none⟩)) (pO (some ⟨bl,0,none⟩)+q*1))) (AG (j:=q) O O hbl.row underlying86 sizeOf3 O Z) O (AC.storeRow0 (j:=q) (v:=(vN q)) O O hbl (by rw [BR,Nat.mul_one];exact (Qy Z)) Z O sizeOf3 O (RK _ _ _) (AC.nil (OkQ.subF (sL [1,2,3,4,5] O) (OkQ.in_normal ?_)))))))))))
  refine OkQ.then_ (AE.region (AM O (AJ (AQ (c:=((q+1:Nat):Int)) O O (AN (a:=q) (b:=1) Z)) O (AI O (AC.nil (OkQ.subF (sL [1,2,3,4,5] O) ?_))))))
  rw [Xj Z]
  exact OkQ.round1 (q+1) Z Z (sF O) sr
 ·replace hc1:=of_decide_eq_false hc1
  rw [show TY ts.length q=TY ts.length ts.length by rw [show q=ts.length by omega]]
  refine AE.exit (OkQ.then_exit (OkQ.round1_exit (OkQ.in_exit (q1 (q4 (AI O (AC.nil (OkQ.then_ (AE.block ?_)))))))))
  refine AE.lp2 (tg λ(ag:Bool) (l:List Nat)=>XZ ts l/\(ag=false->Y_ ts l)) (tg λ(ag:Bool) (l:List Nat)=>[(1,(pP b1 0)),(2,(Value.slice none 0 0)),(3,(vI 0)),(4,(Value.slice (some ⟨bl,0,none⟩) ts.length ts.length)),(6,(Value.bool ag))]) (tg λ(ag:Bool) (l:List Nat)=>[rowW (some ⟨bl,0,none⟩) 3 1 ts.length ts.length (inL l),Af b1 38 (Bt x),AK x.a.p (x.cs),AK x.b.p (rowsL AZ ts),AK x.c.p (rowsL AZ ss)]) (tg λ(ag:Bool) (l:List Nat)=>2*l.sum+ag.toNat) true (TY ts.length ts.length) (⟨XZ.start,λe=>by cases e⟩) (sF O) sr (λag l hJ=>?_)
  obtain ⟨hP,hSp⟩:=hJ
  have hPl:=hP.len
  refine AE.seq (q4 (AM O (AC.nil (OkQ.then_ ?_))))
  refine AE.cond O (λhc2=>?_) (λhc2=>?_)
  ·skip
   refine AE.skip (OkQ.then_ (AE.block (q4 (AI O (AC.nil (q2 (AI O (AC.nil (OkQ.then_ (AE.block ?_))))))))))
   refine AE.lp3 (tg λ(t:Nat) (a2:Bool) (l2:List Nat)=>t<=ts.length/\Ng ts l.sum a2 l2 t 0) (tg λ(t:Nat) (a2:Bool) (l2:List Nat)=>[(1,(pP b1 0)),(2,(Value.slice none 0 0)),(3,(vI 0)),(4,(Value.slice (some ⟨bl,0,none⟩) ts.length ts.length)),(7,(vN t)),(6,(Value.bool a2))]) (tg λ(t:Nat) (a2:Bool) (l2:List Nat)=>[rowW (some ⟨bl,0,none⟩) 3 1 ts.length ts.length (inL l2),Af b1 38 (Bt x),AK x.a.p (x.cs),AK x.b.p (rowsL AZ ts),AK x.c.p (rowsL AZ ss)]) (tg λ(t:Nat) (a2:Bool) (l2:List Nat)=>ts.length-t) 0 false l (⟨Nat.zero_le _,Ng.start hP⟩) (sF O) sr (λt a2 l2 hJ=>?_)
   obtain ⟨ht,hS⟩:=hJ
   have hSl:=hS.pr.len
   refine AE.seq (q4 (AM O (AM O (AJ (v:=(vN ts.length)) (AF O underlying86) O (AJ (Ac (c:=(decide (t<ts.length))) O O (CD (a:=t) (b:=ts.length))) O (AC.nil (OkQ.subF (sL [1,2,3,4,7,6,34] O) (OkQ.then_ ?_))))))))
   refine AE.cond O (λhc3=>?_) (λhc3=>?_)
   ·replace hc3:=of_decide_eq_true hc3
    refine AE.skip (q1 (AE.block (q4 (AI O (AC.nil (OkQ.then_ (AE.block ?_)))))))
    refine AE.lp3 (tg λ(s:Nat) (a3:Bool) (l3:List Nat)=>s<=ts.length/\Ng ts l.sum a3 l3 t s) (tg λ(s:Nat) (a3:Bool) (l3:List Nat)=>[(1,(pP b1 0)),(2,(Value.slice none 0 0)),(3,(vI 0)),(4,(Value.slice (some ⟨bl,0,none⟩) ts.length ts.length)),(7,(vN t)),(8,(vN s)),(6,(Value.bool a3))]) (tg λ(s:Nat) (a3:Bool) (l3:List Nat)=>[rowW (some ⟨bl,0,none⟩) 3 1 ts.length ts.length (inL l3),Af b1 38 (Bt x),AK x.a.p (x.cs),AK x.b.p (rowsL AZ ts),AK x.c.p (rowsL AZ ss)]) (tg λ(s:Nat) (a3:Bool) (l3:List Nat)=>ts.length-s) 0 a2 l2 (⟨Nat.zero_le _,hS⟩) (sF O) sr (λs a3 l3 hJ=>?_)
    obtain ⟨hs,hU⟩:=hJ
    have hUl:=hU.pr.len
    refine AE.seq (q4 (AM O (AM O (AJ (v:=(vN ts.length)) (AF O underlying86) O (AJ (Ac (c:=(decide (s<ts.length))) O O (CD (a:=s) (b:=ts.length))) O (AC.nil (OkQ.subF (sL [1,2,3,4,7,8,6,40] O) (OkQ.then_ ?_))))))))
    refine AE.cond O (λhc4=>?_) (λhc4=>?_)
    ·replace hc4:=of_decide_eq_true hc4
     refine AE.skip (q1 (AE.block (AE.seq ?_)))
     refine AE.jn1 (tg λ(tc:Bool)=>tc=LP (ts.getD s (0,0,0)) (ts.getD t (0,0,0))) (tg λ(tc:Bool)=>[(1,(pP b1 0)),(2,(Value.slice none 0 0)),(3,(vI 0)),(4,(Value.slice (some ⟨bl,0,none⟩) ts.length ts.length)),(7,(vN t)),(8,(vN s)),(6,(Value.bool a3)),(9,(Value.bool tc))]) (tg λ(tc:Bool)=>[rowW (some ⟨bl,0,none⟩) 3 1 ts.length ts.length (inL l3),Af b1 38 (Bt x),AK x.a.p (x.cs),AK x.b.p (rowsL AZ ts),AK x.c.p (rowsL AZ ss)]) ?_ ?_
     ·skip
      by_cases hs0:C_ (ts.getD s (0,0,0)) (ts.getD t (0,0,0)).1=true
      ·skip
       refine Ck [(0,true),(1,true),(2,true),(3,true),(4,true),(5,true),(6,true),(7,true),(8,true),(9,true),(10,true),(11,false),(12,true),(13,true),(14,true),(15,true),(16,true),(17,true),(18,true),(19,true),(20,true),(21,true),(22,true),(23,true),(24,false),(25,true),(26,true),(27,true),(28,true),(29,true),(30,true),(31,true),(32,true),(33,true),(34,true),(35,true),(36,true),(37,true),(38,false),(39,true),(40,true)] sr (Ao (v:=(pP b1 1)) O (AB O underlying38 O sizeOf28 O) (Bk 1 (Value.slice x.b.p ts.length x.b.c) Bl O (BT O (Ao (v:=(pP (pB x.b.p) (pO x.b.p+s*3))) O (AG (j:=s) O O x.b.ok underlying28 sizeOf68 O Z) (Ao (v:=(aG (AZ (ts.getD s ((0,0,0):Tq3))))) O (Ak (vs:=AZ (ts.getD s ((0,0,0):Tq3))) (i:=3) O O (Aw.ne x.b.ok Z) Dj (BD Aa _ _ _ Z) (Aa _)) (Ao (v:=(pP b1 1)) O (AB O underlying38 O sizeOf28 O) (Bk 1 (Value.slice x.b.p ts.length x.b.c) Bl O (BT O (Ao (v:=(pP (pB x.b.p) (pO x.b.p+t*3))) O (AG (j:=t) O O x.b.ok underlying28 sizeOf68 O Z) (Ao (v:=(pP (pB x.b.p) (pO x.b.p+(t*3+0)))) O (AD (j:=0) O O underlying68 sizeOf3 O (by decide) (Nat.add_assoc _ _ _)) (Ao O (AL (v:=(vN ((ts.getD t ((0,0,0):Tq3)).1))) (i:=3) O O (Aw.ne x.b.ok Z) BY (Az Aa ((0,0,0):Tq3) _ _ 0 Z (by decide) O)) ?_)))))))))))
       refine OkE.imp O (DS (args:=[(aG (AZ (ts.getD s ((0,0,0):Tq3)))),(vN ((ts.getD t ((0,0,0):Tq3)).1))]) (v:=(Value.bool true)) call33 (λw hw=>(by have h9:=EZ (ts.getD s (0,0,0)) ((ts.getD t (0,0,0)).1) w;rw [hs0] at h9;exact h9)) O (OkE.back sr (BT O (OkE.skp O (AH O) O O (OkE.skp O (AH O) O O (OkE.skp O (AH O) O O (OkE.skp O (AH O) O O (OkE.skp O (AH O) O O (OkE.skp O (AH O) O O (OkE.skp O (AH O) O O (OkE.skp O (AH O) O O ?_)))))))))))
       refine OkE.skp O (AH O) O O (OkE.skp O (AH O) O O (OkE.skp O (AH O) O O (OkE.imp O (AC.skip (AH O) O (Ad O) (OkE.back sr (Ao (v:=(Value.bool true)) O (AW O O) (BT O (OkE.skp O (AH O) O O (OkE.skp O (AH O) O O (OkE.skp O (AH O) O O (OkE.skp O (AH O) O O ?_)))))))))))
       refine OkE.skp O (AH O) O O (OkE.skp O (AH O) O O (OkE.skp O (AH O) O O (OkE.skp O (AH O) O O (OkE.skp O (AH O) O O (OkE.skp O (AH O) O O (OkE.skp O (AH O) O O (OkE.imp O (AC.skip (AH O) O (Ad O) (OkE.back sr (Ao (v:=(Value.bool true)) O (AW O O) (pS' O ?_)))))))))))
       exact OkE.nil (OkQ.subF (sL [1,2,3,4,7,8,6,9] O) (OkQ.join1 true ((by first|exact (by unfold LP;rw [hs0];rfl)|exact (by unfold LP;rw [hs1];simp)|exact (by unfold LP;rw [hs2];simp)|exact (by unfold LP;rw [hb0,hb1,hb2];rfl))) (sF O) sr))
      ·skip
       have hb0:C_ (ts.getD s (0,0,0)) (ts.getD t (0,0,0)).1=false:=Bool.eq_false_iff.2 hs0
       by_cases hs1:C_ (ts.getD s (0,0,0)) (ts.getD t (0,0,0)).2.1=true
       ·skip
        refine Ck [(0,true),(1,true),(2,true),(3,true),(4,true),(5,true),(6,true),(7,true),(8,true),(9,true),(10,true),(11,false),(12,true),(13,true),(14,true),(15,true),(16,true),(17,true),(18,true),(19,true),(20,true),(21,true),(22,true),(23,true),(24,false),(25,true),(26,true),(27,true),(28,true),(29,true),(30,true),(31,true),(32,true),(33,true),(34,true),(35,true),(36,true),(37,true),(38,false),(39,true),(40,true)] sr (Ao (v:=(pP b1 1)) O (AB O underlying38 O sizeOf28 O) (Bk 1 (Value.slice x.b.p ts.length x.b.c) Bl O (BT O (Ao (v:=(pP (pB x.b.p) (pO x.b.p+s*3))) O (AG (j:=s) O O x.b.ok underlying28 sizeOf68 O Z) (Ao (v:=(aG (AZ (ts.getD s ((0,0,0):Tq3))))) O (Ak (vs:=AZ (ts.getD s ((0,0,0):Tq3))) (i:=3) O O (Aw.ne x.b.ok Z) Dj (BD Aa _ _ _ Z) (Aa _)) (Ao (v:=(pP b1 1)) O (AB O underlying38 O sizeOf28 O) (Bk 1 (Value.slice x.b.p ts.length x.b.c) Bl O (BT O (Ao (v:=(pP (pB x.b.p) (pO x.b.p+t*3))) O (AG (j:=t) O O x.b.ok underlying28 sizeOf68 O Z) (Ao (v:=(pP (pB x.b.p) (pO x.b.p+(t*3+0)))) O (AD (j:=0) O O underlying68 sizeOf3 O (by decide) (Nat.add_assoc _ _ _)) (Ao O (AL (v:=(vN ((ts.getD t ((0,0,0):Tq3)).1))) (i:=3) O O (Aw.ne x.b.ok Z) BY (Az Aa ((0,0,0):Tq3) _ _ 0 Z (by decide) O)) ?_)))))))))))
        refine OkE.imp O (DS (args:=[(aG (AZ (ts.getD s ((0,0,0):Tq3)))),(vN ((ts.getD t ((0,0,0):Tq3)).1))]) (v:=(Value.bool false)) call33 (λw hw=>(by have h9:=EZ (ts.getD s (0,0,0)) ((ts.getD t (0,0,0)).1) w;rw [hb0] at h9;exact h9)) O (OkE.back sr (BT O (OkE.pas (v:=(pP b1 1)) O (AA O) (AB O underlying38 O sizeOf28 O) O O (OkE.pas (v:=(Value.slice x.b.p ts.length x.b.c)) O (AA O) (AS (i:=1) (v:=(Value.slice x.b.p ts.length x.b.c)) O O Bl.a O) O O (OkE.pas (v:=(vN s)) O (AA O) (AU O) O O (OkE.pas (v:=(pP (pB x.b.p) (pO x.b.p+s*3))) O (AA O) (AG (j:=s) O O x.b.ok underlying28 sizeOf68 O Z) O O (OkE.pas (v:=(aG (AZ (ts.getD s ((0,0,0):Tq3))))) O (AA O) (Ak (vs:=AZ (ts.getD s ((0,0,0):Tq3))) (i:=3) O O (Aw.ne x.b.ok Z) Dj (BD Aa _ _ _ Z) (Aa _)) O O (OkE.pas (v:=(pP b1 1)) O (AA O) (AB O underlying38 O sizeOf28 O) O O (OkE.pas (v:=(Value.slice x.b.p ts.length x.b.c)) O (AA O) (AS (i:=1) (v:=(Value.slice x.b.p ts.length x.b.c)) O O Bl.a O) O O (OkE.pas (v:=(vN t)) O (AA O) (AU O) O O ?_)))))))))))
        refine OkE.pas (v:=(pP (pB x.b.p) (pO x.b.p+t*3))) O (AA O) (AG (j:=t) O O x.b.ok underlying28 sizeOf68 O Z) O O (OkE.pas (v:=(pP (pB x.b.p) (pO x.b.p+(t*3+1)))) O (AA O) (AD (j:=1) O O underlying68 sizeOf3 O (by decide) (Nat.add_assoc _ _ _)) O O (OkE.pas (v:=(vN ((ts.getD t ((0,0,0):Tq3)).2.1))) O (AA O) (AL (v:=(vN ((ts.getD t ((0,0,0):Tq3)).2.1))) (i:=3) O O (Aw.ne x.b.ok Z) BY (Az Aa ((0,0,0):Tq3) _ _ 1 Z (by decide) O)) O O (OkE.imp O (AC.call (v:=(Value.bool true)) (AA O) (A_ (args:=[(aG (AZ (ts.getD s ((0,0,0):Tq3)))),(vN ((ts.getD t ((0,0,0):Tq3)).2.1))]) O O call33) (λw hw=>(by have h9:=EZ (ts.getD s (0,0,0)) ((ts.getD t (0,0,0)).2.1) w;rw [hs1] at h9;exact h9)) O (Ad O) (OkE.back sr (Ao (v:=(Value.bool true)) O (AT O O) (BT O (OkE.skp O (AH O) O O (OkE.skp O (AH O) O O (OkE.skp O (AH O) O O (OkE.skp O (AH O) O O ?_)))))))))))
        refine OkE.skp O (AH O) O O (OkE.skp O (AH O) O O (OkE.skp O (AH O) O O (OkE.skp O (AH O) O O (OkE.skp O (AH O) O O (OkE.skp O (AH O) O O (OkE.skp O (AH O) O O (OkE.imp O (AC.skip (AH O) O (Ad O) (OkE.back sr (Ao (v:=(Value.bool true)) O (AW O O) (pS' O ?_)))))))))))
        exact OkE.nil (OkQ.subF (sL [1,2,3,4,7,8,6,9] O) (OkQ.join1 true ((by first|exact (by unfold LP;rw [hs0];rfl)|exact (by unfold LP;rw [hs1];simp)|exact (by unfold LP;rw [hs2];simp)|exact (by unfold LP;rw [hb0,hb1,hb2];rfl))) (sF O) sr))
       ·skip
        have hb1:C_ (ts.getD s (0,0,0)) (ts.getD t (0,0,0)).2.1=false:=Bool.eq_false_iff.2 hs1
        by_cases hs2:C_ (ts.getD s (0,0,0)) (ts.getD t (0,0,0)).2.2=true
        ·skip
         refine Ck [(0,true),(1,true),(2,true),(3,true),(4,true),(5,true),(6,true),(7,true),(8,true),(9,true),(10,true),(11,false),(12,true),(13,true),(14,true),(15,true),(16,true),(17,true),(18,true),(19,true),(20,true),(21,true),(22,true),(23,true),(24,false),(25,true),(26,true),(27,true),(28,true),(29,true),(30,true),(31,true),(32,true),(33,true),(34,true),(35,true),(36,true),(37,true),(38,false),(39,true),(40,true)] sr (Ao (v:=(pP b1 1)) O (AB O underlying38 O sizeOf28 O) (Bk 1 (Value.slice x.b.p ts.length x.b.c) Bl O (BT O (Ao (v:=(pP (pB x.b.p) (pO x.b.p+s*3))) O (AG (j:=s) O O x.b.ok underlying28 sizeOf68 O Z) (Ao (v:=(aG (AZ (ts.getD s ((0,0,0):Tq3))))) O (Ak (vs:=AZ (ts.getD s ((0,0,0):Tq3))) (i:=3) O O (Aw.ne x.b.ok Z) Dj (BD Aa _ _ _ Z) (Aa _)) (Ao (v:=(pP b1 1)) O (AB O underlying38 O sizeOf28 O) (Bk 1 (Value.slice x.b.p ts.length x.b.c) Bl O (BT O (Ao (v:=(pP (pB x.b.p) (pO x.b.p+t*3))) O (AG (j:=t) O O x.b.ok underlying28 sizeOf68 O Z) (Ao (v:=(pP (pB x.b.p) (pO x.b.p+(t*3+0)))) O (AD (j:=0) O O underlying68 sizeOf3 O (by decide) (Nat.add_assoc _ _ _)) (Ao O (AL (v:=(vN ((ts.getD t ((0,0,0):Tq3)).1))) (i:=3) O O (Aw.ne x.b.ok Z) BY (Az Aa ((0,0,0):Tq3) _ _ 0 Z (by decide) O)) ?_)))))))))))
         refine OkE.imp O (DS (args:=[(aG (AZ (ts.getD s ((0,0,0):Tq3)))),(vN ((ts.getD t ((0,0,0):Tq3)).1))]) (v:=(Value.bool false)) call33 (λw hw=>(by have h9:=EZ (ts.getD s (0,0,0)) ((ts.getD t (0,0,0)).1) w;rw [hb0] at h9;exact h9)) O (OkE.back sr (BT O (OkE.pas (v:=(pP b1 1)) O (AA O) (AB O underlying38 O sizeOf28 O) O O (OkE.pas (v:=(Value.slice x.b.p ts.length x.b.c)) O (AA O) (AS (i:=1) (v:=(Value.slice x.b.p ts.length x.b.c)) O O Bl.a O) O O (OkE.pas (v:=(vN s)) O (AA O) (AU O) O O (OkE.pas (v:=(pP (pB x.b.p) (pO x.b.p+s*3))) O (AA O) (AG (j:=s) O O x.b.ok underlying28 sizeOf68 O Z) O O (OkE.pas (v:=(aG (AZ (ts.getD s ((0,0,0):Tq3))))) O (AA O) (Ak (vs:=AZ (ts.getD s ((0,0,0):Tq3))) (i:=3) O O (Aw.ne x.b.ok Z) Dj (BD Aa _ _ _ Z) (Aa _)) O O (OkE.pas (v:=(pP b1 1)) O (AA O) (AB O underlying38 O sizeOf28 O) O O (OkE.pas (v:=(Value.slice x.b.p ts.length x.b.c)) O (AA O) (AS (i:=1) (v:=(Value.slice x.b.p ts.length x.b.c)) O O Bl.a O) O O (OkE.pas (v:=(vN t)) O (AA O) (AU O) O O ?_)))))))))))
         refine OkE.pas (v:=(pP (pB x.b.p) (pO x.b.p+t*3))) O (AA O) (AG (j:=t) O O x.b.ok underlying28 sizeOf68 O Z) O O (OkE.pas (v:=(pP (pB x.b.p) (pO x.b.p+(t*3+1)))) O (AA O) (AD (j:=1) O O underlying68 sizeOf3 O (by decide) (Nat.add_assoc _ _ _)) O O (OkE.pas (v:=(vN ((ts.getD t ((0,0,0):Tq3)).2.1))) O (AA O) (AL (v:=(vN ((ts.getD t ((0,0,0):Tq3)).2.1))) (i:=3) O O (Aw.ne x.b.ok Z) BY (Az Aa ((0,0,0):Tq3) _ _ 1 Z (by decide) O)) O O (OkE.imp O (AC.call (v:=(Value.bool false)) (AA O) (A_ (args:=[(aG (AZ (ts.getD s ((0,0,0):Tq3)))),(vN ((ts.getD t ((0,0,0):Tq3)).2.1))]) O O call33) (λw hw=>(by have h9:=EZ (ts.getD s (0,0,0)) ((ts.getD t (0,0,0)).2.1) w;rw [hb1] at h9;exact h9)) O (Ad O) (OkE.back sr (Ao (v:=(Value.bool false)) O (AT O O) (BT O (OkE.pas (v:=(pP b1 1)) O (AA O) (AB O underlying38 O sizeOf28 O) O O (OkE.pas (v:=(Value.slice x.b.p ts.length x.b.c)) O (AA O) (AS (i:=1) (v:=(Value.slice x.b.p ts.length x.b.c)) O O Bl.a O) O O (OkE.pas (v:=(vN s)) O (AA O) (AU O) O O (OkE.pas (v:=(pP (pB x.b.p) (pO x.b.p+s*3))) O (AA O) (AG (j:=s) O O x.b.ok underlying28 sizeOf68 O Z) O O ?_)))))))))))
         refine OkE.pas (v:=(aG (AZ (ts.getD s ((0,0,0):Tq3))))) O (AA O) (Ak (vs:=AZ (ts.getD s ((0,0,0):Tq3))) (i:=3) O O (Aw.ne x.b.ok Z) Dj (BD Aa _ _ _ Z) (Aa _)) O O (OkE.pas (v:=(pP b1 1)) O (AA O) (AB O underlying38 O sizeOf28 O) O O (OkE.pas (v:=(Value.slice x.b.p ts.length x.b.c)) O (AA O) (AS (i:=1) (v:=(Value.slice x.b.p ts.length x.b.c)) O O Bl.a O) O O (OkE.pas (v:=(vN t)) O (AA O) (AU O) O O (OkE.pas (v:=(pP (pB x.b.p) (pO x.b.p+t*3))) O (AA O) (AG (j:=t) O O x.b.ok underlying28 sizeOf68 O Z) O O (OkE.pas (v:=(pP (pB x.b.p) (pO x.b.p+(t*3+2)))) O (AA O) (AD (j:=2) O O underlying68 sizeOf3 O (by decide) (Nat.add_assoc _ _ _)) O O (OkE.pas (v:=(vN ((ts.getD t ((0,0,0):Tq3)).2.2))) O (AA O) (AL (v:=(vN ((ts.getD t ((0,0,0):Tq3)).2.2))) (i:=3) O O (Aw.ne x.b.ok Z) BY (Az Aa ((0,0,0):Tq3) _ _ 2 Z (by decide) O)) O O (OkE.imp O (AC.call (v:=(Value.bool true)) (AA O) (A_ (args:=[(aG (AZ (ts.getD s ((0,0,0):Tq3)))),(vN ((ts.getD t ((0,0,0):Tq3)).2.2))]) O O call33) (λw hw=>(by have h9:=EZ (ts.getD s (0,0,0)) ((ts.getD t (0,0,0)).2.2) w;rw [hs2] at h9;exact h9)) O (Ad O) (OkE.back sr (Ao (v:=(Value.bool true)) O (AT O O) (pS' O ?_)))))))))))
         exact OkE.nil (OkQ.subF (sL [1,2,3,4,7,8,6,9] O) (OkQ.join1 true ((by first|exact (by unfold LP;rw [hs0];rfl)|exact (by unfold LP;rw [hs1];simp)|exact (by unfold LP;rw [hs2];simp)|exact (by unfold LP;rw [hb0,hb1,hb2];rfl))) (sF O) sr))
        ·skip
         have hb2:C_ (ts.getD s (0,0,0)) (ts.getD t (0,0,0)).2.2=false:=Bool.eq_false_iff.2 hs2
         refine Ck [(0,true),(1,true),(2,true),(3,true),(4,true),(5,true),(6,true),(7,true),(8,true),(9,true),(10,true),(11,false),(12,true),(13,true),(14,true),(15,true),(16,true),(17,true),(18,true),(19,true),(20,true),(21,true),(22,true),(23,true),(24,false),(25,true),(26,true),(27,true),(28,true),(29,true),(30,true),(31,true),(32,true),(33,true),(34,true),(35,true),(36,true),(37,true),(38,false),(39,true),(40,true)] sr (Ao (v:=(pP b1 1)) O (AB O underlying38 O sizeOf28 O) (Bk 1 (Value.slice x.b.p ts.length x.b.c) Bl O (BT O (Ao (v:=(pP (pB x.b.p) (pO x.b.p+s*3))) O (AG (j:=s) O O x.b.ok underlying28 sizeOf68 O Z) (Ao (v:=(aG (AZ (ts.getD s ((0,0,0):Tq3))))) O (Ak (vs:=AZ (ts.getD s ((0,0,0):Tq3))) (i:=3) O O (Aw.ne x.b.ok Z) Dj (BD Aa _ _ _ Z) (Aa _)) (Ao (v:=(pP b1 1)) O (AB O underlying38 O sizeOf28 O) (Bk 1 (Value.slice x.b.p ts.length x.b.c) Bl O (BT O (Ao (v:=(pP (pB x.b.p) (pO x.b.p+t*3))) O (AG (j:=t) O O x.b.ok underlying28 sizeOf68 O Z) (Ao (v:=(pP (pB x.b.p) (pO x.b.p+(t*3+0)))) O (AD (j:=0) O O underlying68 sizeOf3 O (by decide) (Nat.add_assoc _ _ _)) (Ao O (AL (v:=(vN ((ts.getD t ((0,0,0):Tq3)).1))) (i:=3) O O (Aw.ne x.b.ok Z) BY (Az Aa ((0,0,0):Tq3) _ _ 0 Z (by decide) O)) ?_)))))))))))
         refine OkE.imp O (DS (args:=[(aG (AZ (ts.getD s ((0,0,0):Tq3)))),(vN ((ts.getD t ((0,0,0):Tq3)).1))]) (v:=(Value.bool false)) call33 (λw hw=>(by have h9:=EZ (ts.getD s (0,0,0)) ((ts.getD t (0,0,0)).1) w;rw [hb0] at h9;exact h9)) O (OkE.back sr (BT O (OkE.pas (v:=(pP b1 1)) O (AA O) (AB O underlying38 O sizeOf28 O) O O (OkE.pas (v:=(Value.slice x.b.p ts.length x.b.c)) O (AA O) (AS (i:=1) (v:=(Value.slice x.b.p ts.length x.b.c)) O O Bl.a O) O O (OkE.pas (v:=(vN s)) O (AA O) (AU O) O O (OkE.pas (v:=(pP (pB x.b.p) (pO x.b.p+s*3))) O (AA O) (AG (j:=s) O O x.b.ok underlying28 sizeOf68 O Z) O O (OkE.pas (v:=(aG (AZ (ts.getD s ((0,0,0):Tq3))))) O (AA O) (Ak (vs:=AZ (ts.getD s ((0,0,0):Tq3))) (i:=3) O O (Aw.ne x.b.ok Z) Dj (BD Aa _ _ _ Z) (Aa _)) O O (OkE.pas (v:=(pP b1 1)) O (AA O) (AB O underlying38 O sizeOf28 O) O O (OkE.pas (v:=(Value.slice x.b.p ts.length x.b.c)) O (AA O) (AS (i:=1) (v:=(Value.slice x.b.p ts.length x.b.c)) O O Bl.a O) O O (OkE.pas (v:=(vN t)) O (AA O) (AU O) O O ?_)))))))))))
         refine OkE.pas (v:=(pP (pB x.b.p) (pO x.b.p+t*3))) O (AA O) (AG (j:=t) O O x.b.ok underlying28 sizeOf68 O Z) O O (OkE.pas (v:=(pP (pB x.b.p) (pO x.b.p+(t*3+1)))) O (AA O) (AD (j:=1) O O underlying68 sizeOf3 O (by decide) (Nat.add_assoc _ _ _)) O O (OkE.pas (v:=(vN ((ts.getD t ((0,0,0):Tq3)).2.1))) O (AA O) (AL (v:=(vN ((ts.getD t ((0,0,0):Tq3)).2.1))) (i:=3) O O (Aw.ne x.b.ok Z) BY (Az Aa ((0,0,0):Tq3) _ _ 1 Z (by decide) O)) O O (OkE.imp O (AC.call (v:=(Value.bool false)) (AA O) (A_ (args:=[(aG (AZ (ts.getD s ((0,0,0):Tq3)))),(vN ((ts.getD t ((0,0,0):Tq3)).2.1))]) O O call33) (λw hw=>(by have h9:=EZ (ts.getD s (0,0,0)) ((ts.getD t (0,0,0)).2.1) w;rw [hb1] at h9;exact h9)) O (Ad O) (OkE.back sr (Ao (v:=(Value.bool false)) O (AT O O) (BT O (OkE.pas (v:=(pP b1 1)) O (AA O) (AB O underlying38 O sizeOf28 O) O O (OkE.pas (v:=(Value.slice x.b.p ts.length x.b.c)) O (AA O) (AS (i:=1) (v:=(Value.slice x.b.p ts.length x.b.c)) O O Bl.a O) O O (OkE.pas (v:=(vN s)) O (AA O) (AU O) O O (OkE.pas (v:=(pP (pB x.b.p) (pO x.b.p+s*3))) O (AA O) (AG (j:=s) O O x.b.ok underlying28 sizeOf68 O Z) O O ?_)))))))))))
         refine OkE.pas (v:=(aG (AZ (ts.getD s ((0,0,0):Tq3))))) O (AA O) (Ak (vs:=AZ (ts.getD s ((0,0,0):Tq3))) (i:=3) O O (Aw.ne x.b.ok Z) Dj (BD Aa _ _ _ Z) (Aa _)) O O (OkE.pas (v:=(pP b1 1)) O (AA O) (AB O underlying38 O sizeOf28 O) O O (OkE.pas (v:=(Value.slice x.b.p ts.length x.b.c)) O (AA O) (AS (i:=1) (v:=(Value.slice x.b.p ts.length x.b.c)) O O Bl.a O) O O (OkE.pas (v:=(vN t)) O (AA O) (AU O) O O (OkE.pas (v:=(pP (pB x.b.p) (pO x.b.p+t*3))) O (AA O) (AG (j:=t) O O x.b.ok underlying28 sizeOf68 O Z) O O (OkE.pas (v:=(pP (pB x.b.p) (pO x.b.p+(t*3+2)))) O (AA O) (AD (j:=2) O O underlying68 sizeOf3 O (by decide) (Nat.add_assoc _ _ _)) O O (OkE.pas (v:=(vN ((ts.getD t ((0,0,0):Tq3)).2.2))) O (AA O) (AL (v:=(vN ((ts.getD t ((0,0,0):Tq3)).2.2))) (i:=3) O O (Aw.ne x.b.ok Z) BY (Az Aa ((0,0,0):Tq3) _ _ 2 Z (by decide) O)) O O (OkE.imp O (AC.call (v:=(Value.bool false)) (AA O) (A_ (args:=[(aG (AZ (ts.getD s ((0,0,0):Tq3)))),(vN ((ts.getD t ((0,0,0):Tq3)).2.2))]) O O call33) (λw hw=>(by have h9:=EZ (ts.getD s (0,0,0)) ((ts.getD t (0,0,0)).2.2) w;rw [hb2] at h9;exact h9)) O (Ad O) (OkE.back sr (Ao (v:=(Value.bool false)) O (AT O O) (pS' O ?_)))))))))))
         exact OkE.nil (OkQ.subF (sL [1,2,3,4,7,8,6,9] O) (OkQ.join1 false ((by first|exact (by unfold LP;rw [hs0];rfl)|exact (by unfold LP;rw [hs1];simp)|exact (by unfold LP;rw [hs2];simp)|exact (by unfold LP;rw [hb0,hb1,hb2];rfl))) (sF O) sr))
     ·intro tc hJ
      have htc:=hJ
      refine q1 ?_
      by_cases hs3:tc=true
      ·skip
       subst hs3
       by_cases hs4:l3.getD s 0<l3.getD t 0
       ·skip
        refine Ck [(0,true),(1,true),(2,true),(3,true),(4,true),(5,true),(6,true),(7,true),(8,true),(9,true),(10,true),(11,true)] sr (BT O (BT O (OkE.pas (v:=(Value.slice (some ⟨bl,0,none⟩) ts.length ts.length)) O (AA O) (AU O) O O (OkE.pas (v:=(vN s)) O (AA O) (AU O) O O (OkE.pas (v:=(pP (pB (some ⟨bl,0,none⟩)) (pO (some ⟨bl,0,none⟩)+s*1))) O (AA O) (AG (j:=s) O O hbl.row underlying86 sizeOf3 O Z) O O (OkE.pas (v:=(vN (l3.getD s 0))) O (AA O) (A7 (v:=(vN (l3.getD s 0))) (i:=0) O O hbl (by rw [BR,Nat.mul_one];exact hU.pr.len) (hbl.row.ne Z) BY (CV (l:=l3) (j:=s) Z)) O O (OkE.pas (v:=(Value.slice (some ⟨bl,0,none⟩) ts.length ts.length)) O (AA O) (AU O) O O (OkE.pas (v:=(vN t)) O (AA O) (AU O) O O (OkE.pas (v:=(pP (pB (some ⟨bl,0,none⟩)) (pO (some ⟨bl,0,none⟩)+t*1))) O (AA O) (AG (j:=t) O O hbl.row underlying86 sizeOf3 O Z) O O (OkE.pas (v:=(vN (l3.getD t 0))) O (AA O) (A7 (v:=(vN (l3.getD t 0))) (i:=0) O O hbl (by rw [BR,Nat.mul_one];exact hU.pr.len) (hbl.row.ne Z) BY (CV (l:=l3) (j:=t) Z)) O O (OkE.pas (v:=(Value.bool true)) O (AA O) (Ac (c:=true) O O (decide_eq_true Z)) O O ?_)))))))))))
        refine Ao (v:=(Value.bool true)) O (AW O O) (OkE.nil (OkQ.subF (sL [1,2,3,4,7,8,6,9,94] O) (OkQ.then_ (AE.cond_true O (q4 (AM O (AM O (AM O (AM O (AJ (v:=(pP (pB (some ⟨bl,0,none⟩)) (pO (some ⟨bl,0,none⟩)+s*1))) (AG (j:=s) O O hbl.row underlying86 sizeOf3 O Z) O (AJ (A7 (v:=(vN (l3.getD s 0))) (i:=0) O O hbl (by rw [BR,Nat.mul_one];exact hU.pr.len) (hbl.row.ne Z) BY (CV (l:=l3) (j:=s) Z)) O ?_)))))))))))
        refine AJ (v:=(pP (pB (some ⟨bl,0,none⟩)) (pO (some ⟨bl,0,none⟩)+t*1))) (AG (j:=t) O O hbl.row underlying86 sizeOf3 O Z) O (AC.storeRow0 (j:=t) (v:=(vN (l3.getD s 0))) O O hbl (by rw [BR,Nat.mul_one];exact hU.pr.len) Z O sizeOf3 O (RK _ _ _) (AC.nil (OkQ.subF (sL [1,2,3,4,7,8,6,9] O) (OkQ.then_ (AE.region (AI O (AC.nil (OkQ.in_normal (OkQ.then_ (AE.region (AM O ?_)))))))))))
        exact AJ (AQ (c:=((s+1:Nat):Int)) O O (AN (a:=s) (b:=1) Z)) O (AI O (AC.nil (OkQ.subF (sL [1,2,3,4,7,8,6,9] O) (OkQ.round3 (s+1) true (l3.set t (l3.getD s 0)) (⟨Z,hU.put Z Z htc.symm hs4⟩) Z (sF O) sr))))
       ·skip
        refine Ck [(0,true),(1,true),(2,true),(3,true),(4,true),(5,true),(6,true),(7,true),(8,true),(9,true),(10,true),(11,true)] sr (BT O (BT O (OkE.pas (v:=(Value.slice (some ⟨bl,0,none⟩) ts.length ts.length)) O (AA O) (AU O) O O (OkE.pas (v:=(vN s)) O (AA O) (AU O) O O (OkE.pas (v:=(pP (pB (some ⟨bl,0,none⟩)) (pO (some ⟨bl,0,none⟩)+s*1))) O (AA O) (AG (j:=s) O O hbl.row underlying86 sizeOf3 O Z) O O (OkE.pas (v:=(vN (l3.getD s 0))) O (AA O) (A7 (v:=(vN (l3.getD s 0))) (i:=0) O O hbl (by rw [BR,Nat.mul_one];exact hU.pr.len) (hbl.row.ne Z) BY (CV (l:=l3) (j:=s) Z)) O O (OkE.pas (v:=(Value.slice (some ⟨bl,0,none⟩) ts.length ts.length)) O (AA O) (AU O) O O (OkE.pas (v:=(vN t)) O (AA O) (AU O) O O (OkE.pas (v:=(pP (pB (some ⟨bl,0,none⟩)) (pO (some ⟨bl,0,none⟩)+t*1))) O (AA O) (AG (j:=t) O O hbl.row underlying86 sizeOf3 O Z) O O (OkE.pas (v:=(vN (l3.getD t 0))) O (AA O) (A7 (v:=(vN (l3.getD t 0))) (i:=0) O O hbl (by rw [BR,Nat.mul_one];exact hU.pr.len) (hbl.row.ne Z) BY (CV (l:=l3) (j:=t) Z)) O O (OkE.pas (v:=(Value.bool false)) O (AA O) (Ac (c:=false) O O (decide_eq_false Z)) O O ?_)))))))))))
        refine Ao (v:=(Value.bool false)) O (AW O O) (OkE.nil (OkQ.subF (sL [1,2,3,4,7,8,6,9,94] O) (OkQ.then_ (AE.cond_false O (AE.skip (OkQ.in_normal (OkQ.then_ (AE.region (AM O (AJ (AQ (c:=((s+1:Nat):Int)) O O (AN (a:=s) (b:=1) Z)) O (AI O ?_)))))))))))
        exact AC.nil (OkQ.subF (sL [1,2,3,4,7,8,6,9] O) (OkQ.round3 (s+1) a3 l3 (⟨Z,hU.skip (λh9=>by first|exact hs4 h9.2|(rw [<-htc] at h9;exact Bool.false_ne_true h9.1))⟩) Z (sF O) sr))
      ·skip
       have hs5:tc=false:=Bool.eq_false_iff.2 hs3
       subst hs5
       refine Ck [(0,true),(1,true),(2,true),(3,true),(4,true),(5,true),(6,true),(7,true),(8,true),(9,true),(10,true),(11,true)] sr (BT O (BT O (OkE.skp O (AH O) O O (OkE.skp O (AH O) O O (OkE.skp O (AH O) O O (OkE.skp O (AH O) O O (OkE.skp O (AH O) O O (OkE.skp O (AH O) O O (OkE.skp O (AH O) O O (OkE.skp O (AH O) O O (OkE.skp O (AH O) O O ?_)))))))))))
       refine Ao (v:=(Value.bool false)) O (AT O O) (OkE.nil (OkQ.subF (sL [1,2,3,4,7,8,6,9,94] O) (OkQ.then_ (AE.cond_false O (AE.skip (OkQ.in_normal (OkQ.then_ (AE.region (AM O (AJ (AQ (c:=((s+1:Nat):Int)) O O (AN (a:=s) (b:=1) Z)) O (AI O ?_)))))))))))
       exact AC.nil (OkQ.subF (sL [1,2,3,4,7,8,6,9] O) (OkQ.round3 (s+1) a3 l3 (⟨Z,hU.skip (λh9=>by first|exact hs4 h9.2|(rw [<-htc] at h9;exact Bool.false_ne_true h9.1))⟩) Z (sF O) sr))
    ·replace hc4:=of_decide_eq_false hc4
     exact AE.exit (OkQ.then_exit (OkQ.round3_exit (OkQ.in_exit (OkQ.in_normal (OkQ.then_ (AE.region (AM O (AJ (AQ (c:=((t+1:Nat):Int)) O O (AN (a:=t) (b:=1) Z)) O (AI O (AC.nil (OkQ.subF (sL [1,2,3,4,7,8,6] O) (OkQ.round3 (t+1) a3 l3 (⟨Z,hU.row Z⟩) Z (sF O) sr))))))))))))
   ·replace hc3:=of_decide_eq_false hc3
    exact AE.exit (OkQ.then_exit (OkQ.round3_exit (OkQ.in_exit (OkQ.in_normal (OkQ.round2 a2 l2 (⟨hS.pr,hS.spread Z⟩) (by rw [hc2];exact hS.mu) (sF O) sr)))))
  ·skip
   have hF:=hP.fin (hSp hc2)
   refine AE.exit (OkQ.then_exit (OkQ.round2_exit (OkQ.in_exit (q2 (AI O (AC.nil (q2 (AM O (AJ (v:=(vN ts.length)) (AF O underlying86) O ?_)))))))))
   refine AC.makeInt (m:=ts.length) Tx O O Z O O ?_;intro bm hbm;rw [show List.replicate ts.length 0=Pu ts.length 0 from O]
   refine AI O (q6 (sL [1,2,3,4,6,10,11] O) (q4 (AI O (AC.nil (OkQ.then_ (AE.block ?_))))))
   refine AE.lp3 (tg λ(t:Nat) (n:Nat) (out:List Int)=>t<=ts.length/\Tj ts l out n t) (tg λ(t:Nat) (n:Nat) (out:List Int)=>[(2,(Value.slice none 0 0)),(3,(vI 0)),(4,(Value.slice (some ⟨bl,0,none⟩) ts.length ts.length)),(11,(Value.slice (some ⟨bm,0,none⟩) ts.length ts.length)),(12,(vN t)),(10,(vN n))]) (tg λ(t:Nat) (n:Nat) (out:List Int)=>[rowW (some ⟨bm,0,none⟩) 3 1 ts.length ts.length (zL out),rowW (some ⟨bl,0,none⟩) 3 1 ts.length ts.length (inL l),Af b1 38 (Bt x),AK x.a.p (x.cs),AK x.b.p (rowsL AZ ts),AK x.c.p (rowsL AZ ss)]) (tg λ(t:Nat) (n:Nat) (out:List Int)=>ts.length-t) 0 0 (Pu ts.length 0) (⟨Nat.zero_le _,Tj.start⟩) (sF O) sr (λt n out hJ=>?_)
   obtain ⟨ht,hO⟩:=hJ
   have hnle:=hO.nle
   have hOl:=hO.len
   refine AE.seq (q4 (AM O (AM O (AJ (v:=(vN ts.length)) (AF O underlying86) O (AJ (Ac (c:=(decide (t<ts.length))) O O (CD (a:=t) (b:=ts.length))) O (AC.nil (OkQ.subF (sL [2,3,4,11,12,10,108] O) (OkQ.then_ ?_))))))))
   refine AE.cond O (λhc6=>?_) (λhc6=>?_)
   ·replace hc6:=of_decide_eq_true hc6
    have hlt:=hF.lt hc6
    refine AE.skip (q1 (AE.block (q4 (AM O (AM O (AJ (v:=(pP (pB (some ⟨bl,0,none⟩)) (pO (some ⟨bl,0,none⟩)+t*1))) (AG (j:=t) O O hbl.row underlying86 sizeOf3 O Z) O (AJ (A7 (v:=(vN (l.getD t 0))) (i:=1) O O hbl (by rw [BR,Nat.mul_one];exact hP.len) (hbl.row.ne Z) BY (CV (l:=l) (j:=t) Z)) O (AM O (AJ (BQ (c:=(decide ((l.getD t 0)=t))) O O (JC (a:=l.getD t 0) (b:=t))) O (AC.nil (OkQ.subF (sL [2,3,4,11,12,10,116] O) ?_)))))))))))
    refine OkQ.then_ ?_
    refine AE.cond O (λhc7=>?_) (λhc7=>?_)
    ·replace hc7:=of_decide_eq_true hc7
     refine q4 (AM O (AM O (AM O (AJ (v:=(pP (pB (some ⟨bm,0,none⟩)) (pO (some ⟨bm,0,none⟩)+t*1))) (AG (j:=t) O O hbm.row underlying86 sizeOf3 O Z) O (AC.storeRow0 (j:=t) (v:=(vN n)) O O hbm (by rw [CG,Nat.mul_one];exact hO.len) Z O sizeOf3 O (HK _ _ _) (AC.nil (OkQ.subF (sL [2,3,4,11,12,10] O) (OkQ.then_ (AE.region (AM O (AJ (AQ (c:=((n+1:Nat):Int)) O O (AN (a:=n) (b:=1) Z)) O ?_)))))))))))
     exact AI O (AC.nil (OkQ.subF (sL [2,3,4,11,12,10] O) (OkQ.in_normal (OkQ.then_ (AE.region (AM O (AJ (AQ (c:=((t+1:Nat):Int)) O O (AN (a:=t) (b:=1) Z)) O (AI O (AC.nil (OkQ.subF (sL [2,3,4,11,12,10] O) (OkQ.round3 (t+1) (n+1) (out.set t ((n:Nat):Int)) (⟨Z,hO.new hF Z hc7⟩) Z (sF O) sr)))))))))))
    ·replace hc7:=of_decide_eq_false hc7
     refine AE.region (AM O (AM O (AM O (AM O (AM O (AJ (v:=(pP (pB (some ⟨bl,0,none⟩)) (pO (some ⟨bl,0,none⟩)+t*1))) (AG (j:=t) O O hbl.row underlying86 sizeOf3 O Z) O (AJ (A7 (v:=(vN (l.getD t 0))) (i:=1) O O hbl (by rw [BR,Nat.mul_one];exact hP.len) (hbl.row.ne Z) BY (CV (l:=l) (j:=t) Z)) O (AJ (v:=(pP (pB (some ⟨bm,0,none⟩)) (pO (some ⟨bm,0,none⟩)+(l.getD t 0)*1))) (AG (j:=l.getD t 0) O O hbm.row underlying86 sizeOf3 O Z) O (AJ (A7 (v:=(vI (out.getD (l.getD t 0) 0))) (i:=0) O O hbm (by rw [CG,Nat.mul_one];exact hO.len) (hbm.row.ne Z) BY (HO (l:=out) (j:=l.getD t 0) Z)) O (AJ (v:=(pP (pB (some ⟨bm,0,none⟩)) (pO (some ⟨bm,0,none⟩)+t*1))) (AG (j:=t) O O hbm.row underlying86 sizeOf3 O Z) O (AC.storeRow0 (j:=t) (v:=(vI (out.getD (l.getD t 0) 0))) O O hbm (by rw [CG,Nat.mul_one];exact hO.len) Z O sizeOf3 O (HK _ _ _) ?_)))))))))))
     exact AC.nil (OkQ.subF (sL [2,3,4,11,12,10] O) (OkQ.in_normal (OkQ.then_ (AE.region (AM O (AJ (AQ (c:=((t+1:Nat):Int)) O O (AN (a:=t) (b:=1) Z)) O (AI O (AC.nil (OkQ.subF (sL [2,3,4,11,12,10] O) (OkQ.round3 (t+1) n (out.set t (gZ out (l.getD t 0))) (⟨Z,hO.old hF Z hc7⟩) Z (sF O) sr))))))))))
   ·replace hc6:=of_decide_eq_false hc6
    refine AE.exit (OkQ.then_exit (OkQ.round3_exit (OkQ.in_exit (q2 (AM O (AM O (AI O (AI O (AC.nil (OkQ.subF (sL [2,3,4,11,12,10] O) (OkQ.then_ ?_)))))))))))
    exact AE.ret (CH O (Ah (v:=(Value.slice (some ⟨bm,0,none⟩) ts.length ts.length)) O) (Ah (v:=(vN n)) O) (λw hw=>(cL hw 0 O hbm hOl.symm (hO.pts hF Z) O)))
end
section
def DB (ts:List T3) (a b:Nat):Nat->Int
  | 0 => -1
  | k+1=>if C9 (ts.getD (ts.length-1-k) (0,0,0)) a b=true then ((ts.length-1-k:Nat):Int) else DB ts a b k
def Tl (ts:List T3) (a b:Nat):E4:=⟨a,b,Be ts a b ts.length,Be ts b a ts.length⟩
def IH (ts:List T3) (a:Nat):Nat->List E4
  | 0=>[]
  | j+1=>if 0<=(Tl ts a (a+1+j)).l\/0<=(Tl ts a (a+1+j)).r then IH ts a j++[Tl ts a (a+1+j)] else IH ts a j
def ZG (ts:List T3) (N:Nat):Nat->List E4
  | 0=>[]
  | a+1=>ZG ts N a++IH ts a (N-(a+1))
section
variable {ts:List T3} {a b N:Nat}
theorem J6:∀k,k<=ts.length->(DB ts a b k = -1/\∀j,ts.length-k<=j->j<ts.length->C9 (ts.getD j (0,0,0)) a b=false)\/∃j,ts.length-k<=j/\j<ts.length/\C9 (ts.getD j (0,0,0)) a b=true/\DB ts a b k=(j:Int)/\∀i,ts.length-k<=i->i<j->C9 (ts.getD i (0,0,0)) a b=false
  | 0,_=>.inl ⟨rfl,λj h1 h2=>by omega⟩
  | k+1,hk=>by
    rw [DB]
    by_cases e:C9 (ts.getD (ts.length-1-k) (0,0,0)) a b=true
    · rw [if_pos e]
      exact .inr ⟨ts.length-1-k,Z,Z,e,rfl,λi h1 h2=>by omega⟩
    · rw [if_neg e]
      have e2:C9 (ts.getD (ts.length-1-k) (0,0,0)) a b=false:=by simpa using e
      rcases J6 k Z with ⟨h1,h2⟩|⟨j,h1,h2,h3,h4,h5⟩
      · refine .inl ⟨h1,λj q1 q2=>?_⟩
        rcases Nat.lt_or_ge j (ts.length-k) with h|h
        · rw [show j=ts.length-1-k by omega];exact e2
        · exact h2 j h q2
      · refine .inr ⟨j,Z,h2,h3,h4,λi q1 q2=>?_⟩
        rcases Nat.lt_or_ge i (ts.length-k) with h|h
        · rw [show i=ts.length-1-k by omega];exact e2
        · exact h5 i h q2
theorem Mj:DB ts a b ts.length=Be ts a b ts.length:=by
  rcases J6 (ts:=ts) (a:=a) (b:=b) ts.length (Nat.le_refl _) with ⟨h1,h2⟩|⟨j,h1,h2,h3,h4,h5⟩
  · rw [h1,Gy _ λj hj=>h2 j Z hj]
  · rw [h4,Hx _ h2 h3 λi hi=>h5 i Z hi]
theorem Kx {j:Nat}:C9 (ts.getD j (0,0,0)) a b=true↔Wm ts j a b:=by
  unfold Wm
  constructor
  · intro h
    unfold C9 at h
    simp only [Bool.or_eq_true,Bool.and_eq_true,decide_eq_true_eq] at h
    rcases h with ⟨h1,h2⟩|⟨h1,h2⟩|⟨h1,h2⟩
    · exact ⟨0,by decide,by rw [CN (by decide)];exact Prod.ext h1 h2⟩
    · exact ⟨1,by decide,by rw [CN (by decide)];exact Prod.ext h1 h2⟩
    · exact ⟨2,by decide,by rw [CN (by decide)];exact Prod.ext h1 h2⟩
  · rintro ⟨r,hr,h⟩
    rw [CN hr] at h
    have h1:=congrArg Prod.fst h
    have h2:=congrArg Prod.snd h
    simp only at h1 h2
    have e:r=0\/r=1\/r=2:=by omega
    unfold C9
    rcases e with rfl|rfl|rfl<;>simp [Bw] at h1 h2<;>simp [h1,h2]
theorem Gl:Ff ts (3*ts.length) a b (Be ts a b ts.length):=by
  refine Vg ?_
  by_cases h:∃j,j<ts.length/\C9 (ts.getD j (0,0,0)) a b=true
  · rcases J6 (ts:=ts) (a:=a) (b:=b) ts.length (Nat.le_refl _) with ⟨h1,h2⟩|⟨j,h1,h2,h3,h4,h5⟩
    · obtain ⟨j,k1,k2⟩:=h
      rw [h2 j Z k1] at k2
      cases k2
    · refine .inr ⟨j,h2,by rw [<-Mj];exact h4,Kx.1 h3,λi hi k=>?_⟩
      have:=h5 i Z hi
      rw [Kx.2 k] at this
      cases this
  · have hn:∀j,j<ts.length->C9 (ts.getD j (0,0,0)) a b=false:=λj hj=>by
      cases e:C9 (ts.getD j (0,0,0)) a b with
      | false=>rfl
      | true=>exact absurd ⟨j,hj,e⟩ h
    exact .inl ⟨Gy _ hn,λj hj k=>by have:=hn j hj;rw [Kx.2 k] at this;cases this⟩
theorem GZ {e:E4}:∀j,e∈IH ts a j↔e.a=a/\a<e.b/\e.b<a+1+j/\e=Tl ts e.a e.b/\(0<=e.l\/0<=e.r)
  | 0=>⟨λh=>(by cases h),λh=>Z⟩
  | j+1=>by
    rw [IH]
    split
    · rename_i hc
      rw [List.mem_append,GZ j,List.mem_singleton]
      constructor
      · rintro (h|rfl)
        · exact ⟨h.1,h.2.1,Z,h.2.2.2⟩
        · exact ⟨rfl,(by show a<a+1+j;omega),(by show a+1+j<a+1+(j+1);omega),rfl,hc⟩
      · rintro ⟨h1,h2,h3,h4,h5⟩
        rcases Nat.lt_or_ge e.b (a+1+j) with h6|h6
        · exact .inl ⟨h1,h2,h6,h4,h5⟩
        · refine .inr ?_
          rw [h4,h1,show e.b=a+1+j by omega]
    · rename_i hc
      rw [GZ j]
      constructor
      · exact λh=>⟨h.1,h.2.1,Z,h.2.2.2⟩
      · rintro ⟨h1,h2,h3,h4,h5⟩
        rcases Nat.lt_or_ge e.b (a+1+j) with h6|h6
        · exact ⟨h1,h2,h6,h4,h5⟩
        · rw [h1,show e.b=a+1+j by omega] at h4
          rw [h4] at h5
          exact absurd h5 hc
theorem NC {e:E4}:∀A,e∈ZG ts N A↔e.a<A/\e.a<e.b/\e.b<N/\e=Tl ts e.a e.b/\(0<=e.l\/0<=e.r)
  | 0=>⟨λh=>(by cases h),λh=>Z⟩
  | A+1=>by
    rw [ZG,List.mem_append,NC A,GZ]
    constructor
    · rintro (h|h)
      · exact ⟨Z,h.2⟩
      · exact ⟨Z,Z,Z,h.2.2.2⟩
    · rintro ⟨h1,h2,h3,h4⟩
      rcases Nat.lt_or_ge e.a A with h5|h5
      · exact .inl ⟨h5,h2,h3,h4⟩
      · exact .inr ⟨Z,Z,Z,h4⟩
theorem Gf:∀j,(IH ts a j).Pairwise Wu
  | 0=>List.Pairwise.nil
  | j+1=>by
    rw [IH]
    split
    · refine List.pairwise_append.2 ⟨Gf j,List.pairwise_singleton _ _,λx hx y hy=>?_⟩
      rw [List.mem_singleton] at hy
      subst hy
      have h:=(GZ j).1 hx
      exact .inr ⟨h.1,(by show x.b<a+1+j;exact h.2.2.1)⟩
    · exact Gf j
theorem Ki:∀A,(ZG ts N A).Pairwise Wu
  | 0=>List.Pairwise.nil
  | A+1=>List.pairwise_append.2 ⟨Ki A,Gf _,λx hx y hy=>.inl (by
      have h1:=(NC A).1 hx
      have h2:=(GZ _).1 hy
      omega)⟩
theorem aF (hn:BI N ts=true) (hN:N<=4611686018427387904):ZG ts N N=Bd ts:=by
  refine HP Wu.asymm (Ki N) (Ha hn hN) λe=>?_
  rw [NC,Du hn hN]
  constructor
  · rintro ⟨_,h2,_,h4,h5⟩
    have el:e.l=Be ts e.a e.b ts.length:=congrArg E4.l h4
    have er:e.r=Be ts e.b e.a ts.length:=congrArg E4.r h4
    refine ⟨rfl,rfl,h2,by rw [el];exact Gl,by rw [er];exact Gl,?_⟩
    rcases h5 with h5|h5
    · rw [el] at h5
      obtain ⟨u,hu,h⟩:=(Ff.neg2 Gl).1 h5
      exact ⟨u,hu,.inl h⟩
    · rw [er] at h5
      obtain ⟨u,hu,h⟩:=(Ff.neg2 Gl).1 h5
      exact ⟨u,hu,.inr h⟩
  · intro k
    have kl:Ff ts (3*ts.length) e.a e.b e.l:=k.l
    have kr:Ff ts (3*ts.length) e.b e.a e.r:=k.r
    have el:e.l=Be ts e.a e.b ts.length:=kl.uniq Gl
    have er:e.r=Be ts e.b e.a ts.length:=kr.uniq Gl
    have hk:(e.a,e.b)∈HY ts:=(IB hn hN).2 ⟨e,(Du hn hN).2 k,rfl,rfl⟩
    obtain ⟨k1,k2⟩:=O0 hn hN hk
    refine ⟨Z,k1,k2,?_,?_⟩
    · obtain ⟨x,y,l,r⟩:=e
      simp only at el er
      rw [el,er]
      rfl
    · obtain ⟨u,hu,h⟩:=k.some
      rcases h with h|h
      · exact .inl ((Ff.neg2 kl).2 ⟨u,hu,h⟩)
      · exact .inr ((Ff.neg2 kr).2 ⟨u,hu,h⟩)
where
  Ff.neg2 {s x y:Nat} {z:Int} (h:Ff ts s x y z):0<=z↔∃u,u<s/\BH ts u=(x,y):=by
    rcases h with ⟨h1,h2⟩|⟨u,h1,h2,h3,_⟩
    · exact ⟨λ_=>by omega,λ⟨u,hu,e⟩=>absurd e (h2 u hu)⟩
    · exact ⟨λ_=>⟨u,h1,h3⟩,λ_=>by omega⟩
theorem Rg {k:Nat} (h:C9 (ts.getD (ts.length-1-k) (0,0,0)) a b=true):DB ts a b (k+1)=((ts.length-1-k:Nat):Int):=if_pos h
theorem VQ {k:Nat} (h:¬C9 (ts.getD (ts.length-1-k) (0,0,0)) a b=true):DB ts a b (k+1)=DB ts a b k:=if_neg h
theorem WC {j:Nat} (hj:a+1<=j) (h:0<=(Tl ts a j).l\/0<=(Tl ts a j).r):IH ts a (j+1-(a+1))=IH ts a (j-(a+1))++[Tl ts a j]:=by
  rw [show j+1-(a+1)=(j-(a+1))+1 by omega,IH,if_pos (by rw [show a+1+(j-(a+1))=j by omega];exact h),show a+1+(j-(a+1))=j by omega]
theorem Yi {j:Nat} (hj:a+1<=j) (h:¬(0<=(Tl ts a j).l\/0<=(Tl ts a j).r)):IH ts a (j+1-(a+1))=IH ts a (j-(a+1)):=by
  rw [show j+1-(a+1)=(j-(a+1))+1 by omega,IH,if_neg (by rw [show a+1+(j-(a+1))=j by omega];exact h)]
theorem Z1 {k:Nat} (h:k=ts.length):(⟨a,b,DB ts a b k,DB ts b a k⟩:E4)=Tl ts a b:=by
  subst h
  rw [Mj,Mj];rfl
end
end
end Go.Proofs.YtpgncndhhhllfaaGreat
