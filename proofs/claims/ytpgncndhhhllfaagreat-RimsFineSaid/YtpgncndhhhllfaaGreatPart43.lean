import Derived.Test.YtpgncndhhhllfaaGreatPart03
import Derived.Test.YtpgncndhhhllfaaGreatPart26
import Derived.Test.YtpgncndhhhllfaaGreatPart31
import Derived.Test.YtpgncndhhhllfaaGreatPart39
import Derived.Test.YtpgncndhhhllfaaGreatPart41
import Derived.Test.YtpgncndhhhllfaaGreatPart42
namespace Go.Proofs.YtpgncndhhhllfaaGreat
open Go Go.RowKit Go.Proofs.Tryz
set_option linter.unusedVariables false
set_option linter.unusedSimpArgs false
section
set_option maxRecDepth 100000
theorem cH:ElemT prog 128 148 4 32:=⟨underlying128,CR (by kernel_rfl)⟩
theorem JR (x0:E4):Instr.fill (λi=>some (i*4,4)) ((Array.range (1*4)).map ((Value.agg (B8 (⟨0,0,0,0⟩:E4)).toArray).cells[·%(Value.agg (B8 (⟨0,0,0,0⟩:E4)).toArray).cells.size]!)) [(0,.agg (B8 x0).toArray)]=some (B8 x0).toArray:=by kernel_rfl
set_option maxHeartbeats 2000000 in
theorem TP {N:Nat} {ts ss:List T3} (x:RM N ts ss) (hnb:BI N ts=true) (hl:ts.length<=1000000) (hN:N<=4096) (w:World) {S:Nat->Prop} (hx:Ro S w x):Calls prog 48 #[(aG (Bt x))] w (Am (RX (rowsL B8 (Bd ts)) (Bd ts).length) S w):=by
 have lx:=Dk (W:=w) hx
 refine An (args:=[(aG (Bt x))]) (L:=[AK x.a.p (x.cs),AK x.b.p (rowsL AZ ts),AK x.c.p (rowsL AZ ss)]) func48 O O (Ad O) (E3 hx BA) (AE.subF (sL [0] O) (q4 (Ca (cs:=Bt x) O λb1=>AI O (q3 (sL [1,2] O) (AI O (AC.nilRow 148 4 (AC.nil (q1 (q4 (BF 1 C7 O ?_))))))))))
 refine DS call39 (λw hw=>G0 x hnb hl Z w (Br hw 2 O lx)) O (AJ (Bj (c:=false) O O) O (AC.nil (OkQ.subF (sL [1,2,3,10] O) (OkQ.then_ (AE.cond_false O (AE.skip (q1 (q4 (AI O (AC.nil (OkQ.subF (sL [1,2,3,4] O) ?_)))))))))))
 refine OkQ.then_ (AE.block ?_)
 refine AE.lp4 (tg λ(ai:Nat) (p1:Option Addr) (c1:Nat) (ou:List E4)=>ai<=N/\OwnOk p1 ou.length c1/\ou.length<=ai*4096/\ou=ZG ts N ai) (tg λ(ai:Nat) (p1:Option Addr) (c1:Nat) (ou:List E4)=>[(1,(pP b1 0)),(2,(Value.slice none 0 0)),(4,(vN ai)),(3,(Value.slice p1 ou.length c1))]) (tg λ(ai:Nat) (p1:Option Addr) (c1:Nat) (ou:List E4)=>[rowW p1 148 4 ou.length c1 (rowsL B8 ou),Af b1 38 (Bt x),AK x.a.p (x.cs),AK x.b.p (rowsL AZ ts),AK x.c.p (rowsL AZ ss)]) (tg λ(ai:Nat) (p1:Option Addr) (c1:Nat) (ou:List E4)=>N-ai) 0 none 0 ([]:List E4) (⟨Nat.zero_le _,OwnOk.none,by simp,rfl⟩) (sF O) sr (λai p1 c1 ou hJ=>?_)
 obtain ⟨hai,h1,hln,hou⟩:=hJ
 refine AE.seq (q4 (AM O (AJ (v:=(pP b1 0)) (AB O underlying38 O sizeOf35 O) O (BE 1 (Value.slice x.a.p N x.a.c) QA O (AJ (v:=(vN N)) (AF O underlying35) O (AJ (Ac (c:=(decide (ai<N))) O O (CD (a:=ai) (b:=N))) O (AC.nil (OkQ.subF (sL [1,2,4,3,16] O) (OkQ.then_ ?_)))))))))
 refine AE.cond O (λhc1=>?_) (λhc1=>?_)
 ·replace hc1:=of_decide_eq_true hc1
  refine AE.skip (q1 (AE.block (q4 (AM O (AJ (AQ (c:=((ai+1:Nat):Int)) O O (AN (a:=ai) (b:=1) Z)) O (AI O (AC.nil (OkQ.subF (sL [1,2,4,3,5] O) (OkQ.then_ (AE.block ?_))))))))))
  refine AE.lp4 (tg λ(bi:Nat) (p2:Option Addr) (c2:Nat) (oq:List E4)=>bi<=N/\ai+1<=bi/\OwnOk p2 oq.length c2/\oq.length<=ai*4096+(bi-(ai+1))/\oq=ZG ts N ai++IH ts ai (bi-(ai+1))) (tg λ(bi:Nat) (p2:Option Addr) (c2:Nat) (oq:List E4)=>[(1,(pP b1 0)),(2,(Value.slice none 0 0)),(4,(vN ai)),(5,(vN bi)),(3,(Value.slice p2 oq.length c2))]) (tg λ(bi:Nat) (p2:Option Addr) (c2:Nat) (oq:List E4)=>[rowW p2 148 4 oq.length c2 (rowsL B8 oq),Af b1 38 (Bt x),AK x.a.p (x.cs),AK x.b.p (rowsL AZ ts),AK x.c.p (rowsL AZ ss)]) (tg λ(bi:Nat) (p2:Option Addr) (c2:Nat) (oq:List E4)=>N-bi) (ai+1) p1 c1 ou (⟨Z,Nat.le_refl _,h1,Z,by rw [hou,Nat.sub_self];exact (List.append_nil _).symm⟩) (sF O) sr (λbi p2 c2 oq hJ=>?_)
  obtain ⟨hbi,hba,h2,hlq,hsq⟩:=hJ
  refine AE.seq (q4 (AM O (AJ (v:=(pP b1 0)) (AB O underlying38 O sizeOf35 O) O (BE 1 (Value.slice x.a.p N x.a.c) QA O (AJ (v:=(vN N)) (AF O underlying35) O (AJ (Ac (c:=(decide (bi<N))) O O (CD (a:=bi) (b:=N))) O (AC.nil (OkQ.subF (sL [1,2,4,5,3,25] O) (OkQ.then_ ?_)))))))))
  refine AE.cond O (λhc2=>?_) (λhc2=>?_)
  ·replace hc2:=of_decide_eq_true hc2
   refine AE.skip (q1 (AE.block (q4 (AM O (AM O (AJ (v:=(aG ([(vN ai),(vN bi),(vI (-1:Int)),(vI (-1:Int))]))) (AY (zs:=B8 (⟨0,0,0,0⟩:E4)) (vs:=[(vN ai),(vN bi),(vI (-1:Int)),(vI (-1:Int))]) (pv:=[(0,(vN ai)),(1,(vN bi)),(2,(vI (-1:Int))),(3,(vI (-1:Int)))]) (places:=[(0,1),(1,1),(2,1),(3,1)]) zeroValue148 underlying148 (λw=>by simp [sizeOf3]) O O) O (al bU O λb2=>BN O sizeOf148 O (q6 (sL [1,2,4,5,3,6] O) (q4 (AJ (v:=(pP b1 1)) (AB O underlying38 O sizeOf28 O) O ?_))))))))))
   refine BE 2 (Value.slice x.b.p ts.length x.b.c) Bl O (AJ (v:=(vN ts.length)) (AF O underlying28) O (AJ (BU (c:=(((ts.length:Nat):Int)-1-((0:Nat):Int))) O O (by rw [Ay Z Z];omega)) O (AI O (AC.nil (OkQ.subF (sL [1,2,4,5,3,6,7] O) (OkQ.then_ (AE.block ?_)))))))
   refine AE.lp1 (tg λ(k:Nat)=>k<=ts.length) (tg λ(k:Nat)=>[(1,(pP b1 0)),(2,(Value.slice none 0 0)),(4,(vN ai)),(5,(vN bi)),(3,(Value.slice p2 oq.length c2)),(6,(pP b2 0)),(7,(vI (((ts.length:Nat):Int)-1-((k:Nat):Int))))]) (tg λ(k:Nat)=>[Af b2 148 (B8 (⟨ai,bi,DB ts ai bi k,DB ts bi ai k⟩:E4)),rowW p2 148 4 oq.length c2 (rowsL B8 oq),Af b1 38 (Bt x),AK x.a.p (x.cs),AK x.b.p (rowsL AZ ts),AK x.c.p (rowsL AZ ss)]) (tg λ(k:Nat)=>ts.length-k) 0 (Nat.zero_le _) (sF O) sr (λk hJ=>?_)
   have hk:=hJ
   refine AE.seq (q4 (AM O (AJ (DR (c:=(decide ((0:Int)<=(((ts.length:Nat):Int)-1-((k:Nat):Int))))) O O O) O (AC.nil (OkQ.subF (sL [1,2,4,5,3,6,7,36] O) (OkQ.then_ ?_))))))
   refine AE.cond O (λhc3=>?_) (λhc3=>?_)
   ·replace hc3:=of_decide_eq_true hc3
    obtain ⟨u,hu⟩:∃u,u=ts.length-1-k:=⟨_,rfl⟩
    have hkl:k<ts.length:=by omega
    refine AE.retell (k:=7) (u:=(vN u)) O (by show Value.int _ _=Value.int _ _;congr 1;omega) (AE.skip (q1 (AE.block (AE.seq (q4 (AJ (v:=(pP b1 1)) (AB O underlying38 O sizeOf28 O) O (BE 2 (Value.slice x.b.p ts.length x.b.c) Bl O (AM O (AJ (v:=(pP (pB x.b.p) (pO x.b.p+u*3))) (AG (j:=u) O O x.b.ok underlying28 sizeOf68 O Z) O (AJ (v:=(aG (AZ (ts.getD u ((0,0,0):Tq3))))) (Ak (vs:=AZ (ts.getD u ((0,0,0):Tq3))) (i:=4) O O (Aw.ne x.b.ok Z) Dj (BD Aa _ _ _ Z) (Aa _)) O (AM O ?_)))))))))))
    refine AM O (ck' call55 (Ht (ts.getD u ((0,0,0):Tq3)) ai bi) O (AC.nil (OkQ.subF (sL [1,2,4,5,3,6,7,46] O) (OkQ.then_ ?_))))
    refine AE.jn1 (tg λ(l1:Int)=>l1=DB ts ai bi (k+1)) (tg λ(l1:Int)=>[(1,(pP b1 0)),(2,(Value.slice none 0 0)),(4,(vN ai)),(5,(vN bi)),(3,(Value.slice p2 oq.length c2)),(6,(pP b2 0)),(7,(vN u))]) (tg λ(l1:Int)=>[Af b2 148 (B8 (⟨ai,bi,l1,DB ts bi ai k⟩:E4)),rowW p2 148 4 oq.length c2 (rowsL B8 oq),Af b1 38 (Bt x),AK x.a.p (x.cs),AK x.b.p (rowsL AZ ts),AK x.c.p (rowsL AZ ss)]) ?_ ?_
    ·skip
     refine AE.cond O (λhc4=>?_) (λhc4=>?_)
     ·skip
      exact AE.region (AM O (AJ (v:=(pP b2 2)) (AB O underlying148 O sizeOf3 O) O (F2 0 (off:=2) (vs:=[(vN u)]) (cs':=[(vN ((⟨ai,bi,DB ts ai bi k,DB ts bi ai k⟩:E4).a)),(vN ((⟨ai,bi,DB ts ai bi k,DB ts bi ai k⟩:E4).b)),(vN u),(vI ((⟨ai,bi,DB ts ai bi k,DB ts bi ai k⟩:E4).r))]) (AP O) O sizeOf3 O (AC.nil (OkQ.subF (sL [1,2,4,5,3,6,7] O) (OkQ.join1 ((u:Nat):Int) ((by rw [Rg (by rw [<-hu];exact hc4),hu])) (sF O) sr))))))
     ·skip
      exact AE.skip (OkQ.join1 ((⟨ai,bi,DB ts ai bi k,DB ts bi ai k⟩:E4).l) ((VQ (by rw [<-hu];exact λh9=>Bool.false_ne_true (hc4.symm.trans h9))).symm) (sF O) sr)
    ·intro l1 hJ
     have hl1:=hJ
     refine q2 (AJ (v:=(pP b1 1)) (AB O underlying38 O sizeOf28 O) O (BE 2 (Value.slice x.b.p ts.length x.b.c) Bl O (AM O (AJ (v:=(pP (pB x.b.p) (pO x.b.p+u*3))) (AG (j:=u) O O x.b.ok underlying28 sizeOf68 O Z) O (AJ (v:=(aG (AZ (ts.getD u ((0,0,0):Tq3))))) (Ak (vs:=AZ (ts.getD u ((0,0,0):Tq3))) (i:=4) O O (Aw.ne x.b.ok Z) Dj (BD Aa _ _ _ Z) (Aa _)) O (AM O (AM O (ck' call55 (Ht (ts.getD u ((0,0,0):Tq3)) bi ai) O (AC.nil (OkQ.subF (sL [1,2,4,5,3,6,7,56] O) (OkQ.then_ ?_)))))))))))
     refine AE.jn1 (tg λ(r1:Int)=>r1=DB ts bi ai (k+1)) (tg λ(r1:Int)=>[(1,(pP b1 0)),(2,(Value.slice none 0 0)),(4,(vN ai)),(5,(vN bi)),(3,(Value.slice p2 oq.length c2)),(6,(pP b2 0)),(7,(vN u))]) (tg λ(r1:Int)=>[Af b2 148 (B8 (⟨ai,bi,l1,r1⟩:E4)),rowW p2 148 4 oq.length c2 (rowsL B8 oq),Af b1 38 (Bt x),AK x.a.p (x.cs),AK x.b.p (rowsL AZ ts),AK x.c.p (rowsL AZ ss)]) ?_ ?_
     ·skip
      refine AE.cond O (λhc5=>?_) (λhc5=>?_)
      ·skip
       exact AE.region (AM O (AJ (v:=(pP b2 3)) (AB O underlying148 O sizeOf3 O) O (F2 0 (off:=3) (vs:=[(vN u)]) (cs':=[(vN ((⟨ai,bi,l1,DB ts bi ai k⟩:E4).a)),(vN ((⟨ai,bi,l1,DB ts bi ai k⟩:E4).b)),(vI ((⟨ai,bi,l1,DB ts bi ai k⟩:E4).l)),(vN u)]) (AP O) O sizeOf3 O (AC.nil (OkQ.subF (sL [1,2,4,5,3,6,7] O) (OkQ.join1 ((u:Nat):Int) ((by rw [Rg (by rw [<-hu];exact hc5),hu])) (sF O) sr))))))
      ·skip
       exact AE.skip (OkQ.join1 ((⟨ai,bi,l1,DB ts bi ai k⟩:E4).r) ((VQ (by rw [<-hu];exact λh9=>Bool.false_ne_true (hc5.symm.trans h9))).symm) (sF O) sr)
     ·intro r1 hJ
      have hr1:=hJ
      refine OkQ.in_normal (OkQ.then_ (AE.region (AM O (AJ (BU (c:=(((ts.length:Nat):Int)-1-((k+1:Nat):Int))) O O (by rw [Ay Z Z];omega)) O (AI O (AC.nil (OkQ.subF (sL [1,2,4,5,3,6,7] O) ?_)))))))
      rw [show l1=DB ts ai bi (k+1) from hl1,show r1=DB ts bi ai (k+1) from hr1]
      exact OkQ.round1 (k+1) Z Z (sF O) sr
   ·replace hc3:=of_decide_eq_false hc3
    have hfe:(⟨ai,bi,DB ts ai bi k,DB ts bi ai k⟩:E4)=Tl ts ai bi:=Z1 Z
    refine AE.exit (OkQ.then_exit (OkQ.round1_exit (OkQ.in_exit (q2 (AJ (v:=(pP b2 2)) (AB O underlying148 O sizeOf3 O) O (BE 0 (vI ((⟨ai,bi,DB ts ai bi k,DB ts bi ai k⟩:E4).l)) BY O (AJ (DR (c:=(decide ((0:Int)<=((⟨ai,bi,DB ts ai bi k,DB ts bi ai k⟩:E4).l)))) O O O) O (AM O ?_))))))))
    refine AC.mid (FM:=[(1,(pP b1 0)),(2,(Value.slice none 0 0)),(4,(vN ai)),(5,(vN bi)),(3,(Value.slice p2 oq.length c2)),(6,(pP b2 0)),(7,(vI (((ts.length:Nat):Int)-1-((k:Nat):Int)))),(59,(pP b2 2)),(60,(vI ((⟨ai,bi,DB ts ai bi k,DB ts bi ai k⟩:E4).l))),(61,(Value.bool (decide ((0:Int)<=((⟨ai,bi,DB ts ai bi k,DB ts bi ai k⟩:E4).l))))),(62,(Value.bool (decide ((0:Int)<=((⟨ai,bi,DB ts ai bi k,DB ts bi ai k⟩:E4).l))))),(66,(Value.bool ((decide ((0:Int)<=((⟨ai,bi,DB ts ai bi k,DB ts bi ai k⟩:E4).l)))||(decide ((0:Int)<=((⟨ai,bi,DB ts ai bi k,DB ts bi ai k⟩:E4).r))))))]) (LM:=[Af b2 148 (B8 (⟨ai,bi,DB ts ai bi k,DB ts bi ai k⟩:E4)),rowW p2 148 4 oq.length c2 (rowsL B8 oq),Af b1 38 (Bt x),AK x.a.p (x.cs),AK x.b.p (rowsL AZ ts),AK x.c.p (rowsL AZ ss)]) 4 ?_ ?_
    ·rcases Bool.eq_false_or_eq_true (decide ((0:Int)<=((⟨ai,bi,DB ts ai bi k,DB ts bi ai k⟩:E4).l))) with hg1|hg1
     ·skip
      refine AC.retell (k:=62) (u:=Value.bool true) O (by rw [hg1]) ?_
      have hg1':=hg1
      replace hg1':=of_decide_eq_true hg1'
      exact AC.skip (AH O) O (Ad O) (AC.skip (AH O) O (Ad O) (AC.skip (AH O) O (Ad O) (AJ (v:=(Value.bool true)) (AW O O) O (AC.nil (OkQ.mid (sS O (sS O (sS O (sS O (sS O (sS O (sS O (sS O (sS O (sS O (sS (by first|rfl|(rw [hg1];rfl)|rw [hg1]) (sS (by first|rfl|(rw [hg1];rfl)|rw [hg1]) (sN))))))))))))) (List.Sublist.refl _))))))
     ·skip
      refine AC.retell (k:=62) (u:=Value.bool false) O (by rw [hg1]) ?_
      have hg1':=hg1
      replace hg1':=of_decide_eq_false hg1'
      exact AC.step (v:=(pP b2 3)) (AA O) (AB O underlying148 O sizeOf3 O) O (Ad O) (AC.step (v:=(vI ((⟨ai,bi,DB ts ai bi k,DB ts bi ai k⟩:E4).r))) (AA O) (AS (i:=0) (v:=(vI ((⟨ai,bi,DB ts ai bi k,DB ts bi ai k⟩:E4).r))) O O BY.a O) O (Ad O) (AC.step (v:=(Value.bool (decide ((0:Int)<=((⟨ai,bi,DB ts ai bi k,DB ts bi ai k⟩:E4).r))))) (AA O) (DR (c:=(decide ((0:Int)<=((⟨ai,bi,DB ts ai bi k,DB ts bi ai k⟩:E4).r)))) O O O) O (Ad O) (AJ (v:=(Value.bool (decide ((0:Int)<=((⟨ai,bi,DB ts ai bi k,DB ts bi ai k⟩:E4).r))))) (AT O O) O (AC.nil (OkQ.mid (sS O (sS O (sS O (sS O (sS O (sS O (sS O (sS O (sS O (sS O (sS (by first|rfl|(rw [hg1];rfl)|rw [hg1]) (sS (by first|rfl|(rw [hg1];rfl)|rw [hg1]) (sN))))))))))))) (List.Sublist.refl _))))))
    refine AC.nil (OkQ.subF (sL [1,2,4,5,3,6,7,66] O) (OkQ.then_ ?_))
    refine AE.cond O (λhc6=>?_) (λhc6=>?_)
    ·simp only [Bool.and_eq_true,Bool.or_eq_true,Bool.and_eq_false_iff,Bool.or_eq_false_iff,Bool.not_eq_true',Bool.not_eq_false',decide_eq_true_eq,decide_eq_false_iff_not] at hc6
     refine AE.region (AM O (BF 0 bV O (AC.openV (V:=λb3=>(Value.slice (some ⟨b3,0,none⟩) 1 1)) (T:=148) (cs:=B8 (⟨ai,bi,DB ts ai bi k,DB ts bi ai k⟩:E4)) (AP O) (Ai (z:=.agg (B8 (⟨0,0,0,0⟩:E4)).toArray) (cs:=B8 (⟨ai,bi,DB ts ai bi k,DB ts bi ai k⟩:E4)) (pv:=[(0,(aG (B8 (⟨ai,bi,DB ts ai bi k,DB ts bi ai k⟩:E4))))]) underlying128 sizeOf148 zeroValue148 (by decide) (by decide) O (JR (⟨ai,bi,DB ts ai bi k,DB ts bi ai k⟩:E4))) O (Ad O) λb3=>AC.append2 (j:=0) (cs2:=rowsL B8 (oq++[(⟨ai,bi,DB ts ai bi k,DB ts bi ai k⟩:E4)])) cH O h2 (Al EG _) O O O O (by decide) (FE Z) Z (by rw [BJ];rfl) O λp_1 c_1 ho_1 hne_1=>AI O (AC.nil (OkQ.subF (sL [1,2,4,5,3,6,7] O) (OkQ.in_normal (OkQ.then_ (AE.region (AM O ?_)))))))))
     refine AJ (AQ (c:=((bi+1:Nat):Int)) O O (AN (a:=bi) (b:=1) Z)) O (AI O (AC.nil (OkQ.subF (sL [1,2,4,5,3,6,7] O) ?_)))
     rw [show oq.length+1=(oq++[(⟨ai,bi,DB ts ai bi k,DB ts bi ai k⟩:E4)]).length by simp]
     exact OkQ.round4 (bi+1) p_1 c_1 (oq++[(⟨ai,bi,DB ts ai bi k,DB ts bi ai k⟩:E4)]) (⟨Z,Z,(by simpa using ho_1),by rw [List.length_append];simp only [List.length_singleton];omega,(by rw [hsq,List.append_assoc];congr 1;rw [hfe];exact (WC Z (by rw [<-hfe];exact hc6)).symm)⟩) Z (sF O) (sl (sl sr))
    ·simp only [Bool.and_eq_true,Bool.or_eq_true,Bool.and_eq_false_iff,Bool.or_eq_false_iff,Bool.not_eq_true',Bool.not_eq_false',decide_eq_true_eq,decide_eq_false_iff_not] at hc6
     exact AE.skip (OkQ.in_normal (OkQ.then_ (AE.region (AM O (AJ (AQ (c:=((bi+1:Nat):Int)) O O (AN (a:=bi) (b:=1) Z)) O (AI O (AC.nil (OkQ.subF (sL [1,2,4,5,3,6,7] O) (OkQ.round4 (bi+1) p2 c2 oq (⟨Z,Z,h2,Z,(by rw [hsq];congr 1;exact (Yi Z (by rw [<-hfe];dsimp only;omega)).symm)⟩) Z (sF O) (sl sr))))))))))
  ·replace hc2:=of_decide_eq_false hc2
   have hbn:bi=N:=by omega
   exact AE.exit (OkQ.then_exit (OkQ.round4_exit (OkQ.in_exit (OkQ.in_normal (OkQ.then_ (AE.region (AM O (AJ (AQ (c:=((ai+1:Nat):Int)) O O (AN (a:=ai) (b:=1) Z)) O (AI O (AC.nil (OkQ.subF (sL [1,2,4,5,3] O) (OkQ.round4 (ai+1) p2 c2 oq (⟨Z,h2,Z,by rw [hsq,show bi=N by omega];rfl⟩) Z (sF O) sr))))))))))))
 ·replace hc1:=of_decide_eq_false hc1
  exact AE.exit (OkQ.then_exit (OkQ.round4_exit (OkQ.in_exit (q2 (AM O (AI O (AC.nil (OkQ.subF (sL [1,2,4,3] O) (OkQ.then_ (AE.ret (AV O (Ah (v:=(Value.slice p1 ou.length c1)) O) (λw hw=>(by rw [show Bd ts=ou by rw [hou,show ai=N by omega];exact (aF hnb Z).symm];exact Wf hw 0 O h1 (Al EG _) O)))))))))))))
end
section
def bF (ts:List T3):List Nat:=ts.flatMap λt=>[t.1,t.2.1,t.2.2]
section
variable {ts:List T3} {l:List Int} {k q N n:Nat}
theorem PF {i:Nat} (h:i<ts.length):ts.getD i (0,0,0)∈ts:=by rw [List.getD,List.getElem?_eq_getElem h];exact List.getElem_mem h
theorem LE {t:T3} (h:t∈ts):∃i,i<ts.length/\ts.getD i (0,0,0)=t:=by
  obtain ⟨i,hi,e⟩:=List.getElem_of_mem h
  exact ⟨i,hi,by rw [List.getD,List.getElem?_eq_getElem hi];exact e⟩
theorem Mm {p:Nat}:p∈bF ts↔∃t∈ts,∃r,r<3/\Bw t r=p:=by
  unfold bF
  rw [List.mem_flatMap]
  constructor
  · rintro ⟨t,ht,hp⟩
    simp only [List.mem_cons,List.not_mem_nil,or_false] at hp
    refine ⟨t,ht,?_⟩
    rcases hp with rfl|rfl|rfl
    · exact ⟨0,by decide,rfl⟩
    · exact ⟨1,by decide,rfl⟩
    · exact ⟨2,by decide,rfl⟩
  · rintro ⟨t,ht,r,hr,rfl⟩
    refine ⟨t,ht,?_⟩
    have e:r=0\/r=1\/r=2:=by omega
    rcases e with rfl|rfl|rfl<;>simp [Bw]
theorem Oh {p:Nat}:∀s,(Ae (CE ts s) p).isSome=true↔∃u,u<s/\X0 ts u=p
  | 0=>⟨λh=>(by cases h),λ⟨u,h,_⟩=>absurd h (Nat.not_lt_zero _)⟩
  | s+1=>by
    show (Ae (BG (CE ts s) (X0 ts s) _) p).isSome=true↔_
    rw [Cc]
    split
    · rename_i e
      exact ⟨λ_=>⟨s,Z,e.symm⟩,λ_=>rfl⟩
    · rename_i e
      rw [Oh s]
      constructor
      · rintro ⟨u,h1,h2⟩;exact ⟨u,Z,h2⟩
      · rintro ⟨u,h1,h2⟩
        refine ⟨u,?_,h2⟩
        rcases Nat.lt_or_ge u s with h3|h3
        · exact h3
        · exact absurd (by rw [<-h2,show u=s by omega]) e
theorem WQ {β:Type} {kvs:List (Nat×β)} {p:Nat}:p∈kvs.map (·.1)↔(Ae kvs p).isSome=true:=by
  induction kvs with
  | nil=>simp [Ae]
  | cons x r ih =>
    obtain ⟨a,b⟩:=x
    rw [List.map_cons,List.mem_cons,ih]
    have e:Ae ((a,b)::r) p=if p=a then some b else Ae r p:=rfl
    rw [e]
    by_cases h:p=a
    · simp [h]
    · simp [h]
theorem UK {p:Nat}:p∈(CE ts (3*ts.length)).map (·.1)↔p∈bF ts:=by
  rw [WQ,Oh,Mm]
  constructor
  · rintro ⟨u,h1,h2⟩
    exact ⟨_,PF (show u/3<ts.length by omega),u%3,Nat.mod_lt _ (by decide),h2⟩
  · rintro ⟨t,ht,r,hr,rfl⟩
    obtain ⟨i,hi,rfl⟩:=LE ht
    refine ⟨3*i+r,Z,?_⟩
    unfold X0
    rw [show (3*i+r)/3=i by omega,show (3*i+r)%3=r by omega]
theorem Si (hn:BI N ts=true) (hN:N<=4611686018427387904):((CE ts (3*ts.length)).map (·.1)).Nodup:=List.pairwise_map.2 ((FC hn hN _ (Nat.le_refl _)).once.imp λ{a b} h e=>h e)
end
end
section
def Td (ts:List T3):Nat->Nat
  | 0=>0
  | p+1=>if 0<(K8 ts p ts.length).length then Td ts p+1 else Td ts p
section
variable {ts:List T3} {N p:Nat}
theorem Rm (h:0<(K8 ts p ts.length).length):Td ts (p+1)=Td ts p+1:=if_pos h
theorem U7 (h:¬0<(K8 ts p ts.length).length):Td ts (p+1)=Td ts p:=if_neg h
theorem U3:∀p,Td ts p<=p
  | 0=>Nat.le_refl _
  | p+1=>by have:=U3 p;unfold Td;split<;>omega
theorem Qi:∀p,Td ts p=((List.range p).filter λq=>decide (0<(K8 ts q ts.length).length)).length
  | 0=>rfl
  | p+1=>by
    rw [List.range_succ,List.filter_append,List.length_append,<-Qi p,List.filter_cons]
    by_cases h:0<(K8 ts p ts.length).length
    · rw [Rm h,if_pos (decide_eq_true h)];rfl
    · rw [U7 h,if_neg (by simpa using h)];rfl
theorem YL:0<(K8 ts p ts.length).length↔p∈bF ts:=by
  unfold K8
  rw [List.length_pos_iff_exists_mem,Mm]
  constructor
  · rintro ⟨t,ht⟩
    obtain ⟨h1,h2⟩:=List.mem_filter.1 ht
    obtain ⟨r,hr,h3⟩:=Ky.1 h2
    exact ⟨_,PF (List.mem_range.1 h1),r,hr,h3⟩
  · rintro ⟨t,ht,r,hr,h⟩
    obtain ⟨i,hi,rfl⟩:=LE ht
    exact ⟨i,List.mem_filter.2 ⟨List.mem_range.2 hi,Ky.2 ⟨r,hr,h⟩⟩⟩
theorem Zr (hn:BI N ts=true) (h:p∈bF ts):p<N:=by
  obtain ⟨t,ht,r,hr,rfl⟩:=Mm.1 h
  obtain ⟨i,hi,rfl⟩:=LE ht
  obtain ⟨g1,g2,g3⟩:=Cy (CW hn hi)
  unfold Bw;split
  · omega
  · split<;>omega
theorem Y7 (hn:BI N ts=true) (hN:N<=4611686018427387904):Td ts N=(CE ts (3*ts.length)).length:=by
  rw [Qi,show (CE ts (3*ts.length)).length=((CE ts (3*ts.length)).map (·.1)).length from (List.length_map _).symm]
  refine ((List.perm_ext_iff_of_nodup (List.nodup_range.filter _) (Si hn hN)).2 λq=>?_).length_eq
  rw [UK,List.mem_filter,List.mem_range,decide_eq_true_eq,YL]
  exact ⟨λh=>h.2,λh=>⟨Zr hn h,h⟩⟩
theorem Xa (hn:BI N ts=true) (hN:N<=4611686018427387904) {n:Nat} (h:n=Td ts N):((n:Nat):Int)-(Bd ts).length+ts.length=FR ts:=by
  unfold FR
  rw [h,Y7 hn hN]
end
end
section
set_option maxRecDepth 100000
set_option maxHeartbeats 1000000 in
theorem Mf {N:Nat} {ts ss:List T3} (x:RM N ts ss) (hnb:BI N ts=true) (hl:ts.length<=1000000) (hN:N<=4096) (w:World) {S:Nat->Prop} (hx:Ro S w x):Calls prog 26 #[(aG (Bt x))] w (A9 w (vI (FR ts))):=by
 have hel:=J2 ts
 have lx:=Dk (W:=w) hx
 refine An (args:=[(aG (Bt x))]) (L:=[AK x.a.p (x.cs),AK x.b.p (rowsL AZ ts),AK x.c.p (rowsL AZ ss)]) func26 O O (Ad O) (E3 hx BA) (AE.subF (sL [0] O) (q4 (Ca (cs:=Bt x) O λb1=>AI O (q6 (sL [1,2] O) (q4 (BF 0 C7 O (DS call39 (λw hw=>G0 x hnb hl Z w (Br hw 1 O lx)) O (AJ (Bj (c:=false) O O) O (AC.nil (OkQ.subF (sL [1,2,7] O) ?_))))))))))
 refine OkQ.then_ (AE.cond_false O (AE.skip (q2 (AI O (q6 (sL [1,2,3] O) (q4 (AI O (AC.nil (OkQ.then_ (AE.block ?_))))))))))
 refine AE.lp2 (tg λ(p:Nat) (n:Nat)=>p<=N/\n=Td ts p) (tg λ(p:Nat) (n:Nat)=>[(1,(pP b1 0)),(2,(vI 0)),(4,(vN p)),(3,(vN n))]) (tg λ(p:Nat) (n:Nat)=>[Af b1 38 (Bt x),AK x.a.p (x.cs),AK x.b.p (rowsL AZ ts),AK x.c.p (rowsL AZ ss)]) (tg λ(p:Nat) (n:Nat)=>N-p) 0 0 (⟨Nat.zero_le _,rfl⟩) (sF O) sr (λp n hJ=>?_)
 obtain ⟨hp,hn⟩:=hJ
 have hcl:=U3 (ts:=ts) p
 rw [<-hn] at hcl
 have hal:=RH (ts:=ts) p ts.length
 refine AE.seq (q4 (AM O (AJ (v:=(pP b1 0)) (AB O underlying38 O sizeOf35 O) O (BE 0 (Value.slice x.a.p N x.a.c) QA O (AJ (v:=(vN N)) (AF O underlying35) O (AJ (Ac (c:=(decide (p<N))) O O (CD (a:=p) (b:=N))) O (AC.nil (OkQ.subF (sL [1,2,4,3,12] O) (OkQ.then_ ?_)))))))))
 refine AE.cond O (λhc1=>?_) (λhc1=>?_)
 ·replace hc1:=of_decide_eq_true hc1
  refine AE.skip (q1 (AE.block (q4 (BF 0 C7 O (AM O (AC.callR (S:=S) (α:=RX (inL (K8 ts p ts.length)) (K8 ts p ts.length).length) (args:=[(aG (Bt x)),(vN p)]) call47 (λw hw=>PO x p hnb hl Z w (Br hw 1 O lx)) O O O λaq laq=>AJ (v:=(vN ((K8 ts p ts.length).length))) (AF O underlying86) O (AJ (CY (c:=(decide (0<((K8 ts p ts.length).length)))) O O (CD (a:=0) (b:=(K8 ts p ts.length).length))) O (AC.nil (OkQ.subF (sL [1,2,4,3,19] O) (OkQ.then_ ?_))))))))))
  refine AE.cond O (λhc2=>?_) (λhc2=>?_)
  ·replace hc2:=of_decide_eq_true hc2
   refine AE.region (AM O (AJ (AQ (c:=((n+1:Nat):Int)) O O (AN (a:=n) (b:=1) Z)) O (AI O (AC.nil (OkQ.subF (sL [1,2,4,3] O) (OkQ.in_normal (OkQ.then_ (AE.region (AM O (AJ (AQ (c:=((p+1:Nat):Int)) O O (AN (a:=p) (b:=1) Z)) O (AI O ?_)))))))))))
   exact AC.nil (OkQ.subF (sL [1,2,4,3] O) (OkQ.round2 (p+1) (n+1) (⟨Z,by rw [hn];exact (Rm hc2).symm⟩) Z (sF O) (sl sr)))
  ·replace hc2:=of_decide_eq_false hc2
   exact AE.skip (OkQ.in_normal (OkQ.then_ (AE.region (AM O (AJ (AQ (c:=((p+1:Nat):Int)) O O (AN (a:=p) (b:=1) Z)) O (AI O (AC.nil (OkQ.subF (sL [1,2,4,3] O) (OkQ.round2 (p+1) n (⟨Z,by rw [hn];exact (U7 hc2).symm⟩) Z (sF O) (sl sr))))))))))
 ·replace hc1:=of_decide_eq_false hc1
  refine AE.exit (OkQ.then_exit (OkQ.round2_exit (OkQ.in_exit (q1 (Ck [(0,true),(1,true),(5,true),(6,true),(7,true),(2,false),(3,true),(4,true),(8,true),(9,true)] sr (BT O (G6 0 C7 O (Ao (v:=(pP b1 1)) O (AB O underlying38 O sizeOf28 O) (Bk 0 (Value.slice x.b.p ts.length x.b.c) Bl O (Ao (v:=(vN ts.length)) O (AF O underlying28) (OkE.imp O ?_)))))))))))
  exact cX (S:=S) (cs:=rowsL B8 (Bd ts)) (k:=(Bd ts).length) (args:=[(aG (Bt x))]) call48 (λw hw=>TP x hnb hl hN w (Br hw 1 O lx)) O O O λeb leb=>OkE.back (sl sr) (Ao (v:=(vN ((Bd ts).length))) O (AF O underlying128) (Ao O (BU (c:=(((n:Nat):Int)-(Bd ts).length)) O O (by rw [Ay Z Z])) (Ao O (AQ (c:=(((n:Nat):Int)-(Bd ts).length+ts.length)) O O (by rw [Ay Z Z])) (pS' O (OkE.nil (OkQ.subF (sL [1,2,4,3] O) (OkQ.then_ (AE.ret (AV O (Ah (v:=(vI (((n:Nat):Int)-(Bd ts).length+ts.length))) O) (λw hw=>⟨by rw [Xa hnb Z (by rw [hn,show p=N by omega])],hw.out⟩))))))))))
end
end Go.Proofs.YtpgncndhhhllfaaGreat
