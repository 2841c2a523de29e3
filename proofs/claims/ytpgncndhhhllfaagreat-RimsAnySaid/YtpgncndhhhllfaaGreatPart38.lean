import Derived.Test.YtpgncndhhhllfaaGreatPart03
import Derived.Test.YtpgncndhhhllfaaGreatPart22
import Derived.Test.YtpgncndhhhllfaaGreatPart26
import Derived.Test.YtpgncndhhhllfaaGreatPart34
import Derived.Test.YtpgncndhhhllfaaGreatPart36
import Derived.Test.YtpgncndhhhllfaaGreatPart37
namespace Go.Proofs.YtpgncndhhhllfaaGreat
open Go Go.RowKit Go.Proofs.Tryz
set_option linter.unusedVariables false
set_option linter.unusedSimpArgs false
section
set_option maxRecDepth 100000
theorem Y_:ElemT prog 128 148 4 32:=⟨underlying128,Co (by kernel_rfl)⟩
theorem I0 (x0:E4):Instr.fill (λi=>some (i*4,4)) ((Array.range (1*4)).map ((Value.agg (B1 (⟨0,0,0,0⟩:E4)).toArray).cells[·%(Value.agg (B1 (⟨0,0,0,0⟩:E4)).toArray).cells.size]!)) [(0,.agg (B1 x0).toArray)]=some (B1 x0).toArray:=by kernel_rfl
set_option maxHeartbeats 2000000 in
theorem Rv {N:Nat} {ts ss:List T3} (x:RM N ts ss) (hnb:A_ N ts=true) (hl:ts.length<=1000000) (hN:N<=4096) (w:World) {S:Nat->Prop} (hx:Ro S w x):Calls prog 48 #[(aG (BN x))] w (Al (RX (rowsL B1 (Bv ts)) (Bv ts).length) S w):=by
 have lx:=CV (W:=w) hx
 refine Ag (args:=[(aG (BN x))]) (L:=[AJ x.a.p (x.cs),AJ x.b.p (rowsL Am ts),AJ x.c.p (x.ds)]) func48 O O (AV O) (C4 hx Ao) (AE.subF (sL [0] O) (q4 (B0 (cs:=BN x) O λb1=>AI O (q3 (sL [1,2] O) (AI O (AC.nilRow 148 4 (AC.nil (q1 (q4 (BC 1 CH O ?_))))))))))
 refine Cc call39 (λw hw=>Gc x hnb hl Z w (Bc hw 2 O lx)) O (AK (BF (c:=false) O O) O (AC.nil (OkQ.subF (sL [1,2,3,10] O) (OkQ.then_ (AE.cond_false O (AE.skip (q1 (q4 (AI O (AC.nil (OkQ.subF (sL [1,2,3,4] O) ?_)))))))))))
 refine OkQ.then_ (AE.block ?_)
 refine AE.lp4 (tg λ(ai:Nat) (p1:Option Addr) (c1:Nat) (ou:List E4)=>ai<=N/\OwnOk p1 ou.length c1/\ou.length<=ai*4096/\ou=X5 ts N ai) (tg λ(ai:Nat) (p1:Option Addr) (c1:Nat) (ou:List E4)=>[(1,(pP b1 0)),(2,(Value.slice none 0 0)),(4,(vN ai)),(3,(Value.slice p1 ou.length c1))]) (tg λ(ai:Nat) (p1:Option Addr) (c1:Nat) (ou:List E4)=>[rowW p1 148 4 ou.length c1 (rowsL B1 ou),Ah b1 38 (BN x),AJ x.a.p (x.cs),AJ x.b.p (rowsL Am ts),AJ x.c.p (x.ds)]) (tg λ(ai:Nat) (p1:Option Addr) (c1:Nat) (ou:List E4)=>N-ai) 0 none 0 ([]:List E4) (⟨Nat.zero_le _,OwnOk.none,by simp,rfl⟩) (sF O) sr (λai p1 c1 ou hJ=>?_)
 obtain ⟨hai,h1,hln,hou⟩:=hJ
 refine AE.seq (q4 (AM O (AK (v:=(pP b1 0)) (AB O underlying38 O sizeOf35 O) O (BL 1 (Value.slice x.a.p N x.a.c) N5 O (AK (v:=(vN N)) (AF O underlying35) O (AK (Ad (c:=(decide (ai<N))) O O (B7 (a:=ai) (b:=N))) O (AC.nil (OkQ.subF (sL [1,2,4,3,16] O) (OkQ.then_ ?_)))))))))
 refine AE.cond O (λhc1=>?_) (λhc1=>?_)
 ·replace hc1:=of_decide_eq_true hc1
  refine AE.skip (q1 (AE.block (q4 (AM O (AK (AY (c:=((ai+1:Nat):Int)) O O (AU (a:=ai) (b:=1) Z)) O (AI O (AC.nil (OkQ.subF (sL [1,2,4,3,5] O) (OkQ.then_ (AE.block ?_))))))))))
  refine AE.lp4 (tg λ(bi:Nat) (p2:Option Addr) (c2:Nat) (oq:List E4)=>bi<=N/\ai+1<=bi/\OwnOk p2 oq.length c2/\oq.length<=ai*4096+(bi-(ai+1))/\oq=X5 ts N ai++HR ts ai (bi-(ai+1))) (tg λ(bi:Nat) (p2:Option Addr) (c2:Nat) (oq:List E4)=>[(1,(pP b1 0)),(2,(Value.slice none 0 0)),(4,(vN ai)),(5,(vN bi)),(3,(Value.slice p2 oq.length c2))]) (tg λ(bi:Nat) (p2:Option Addr) (c2:Nat) (oq:List E4)=>[rowW p2 148 4 oq.length c2 (rowsL B1 oq),Ah b1 38 (BN x),AJ x.a.p (x.cs),AJ x.b.p (rowsL Am ts),AJ x.c.p (x.ds)]) (tg λ(bi:Nat) (p2:Option Addr) (c2:Nat) (oq:List E4)=>N-bi) (ai+1) p1 c1 ou (⟨Z,Nat.le_refl _,h1,Z,by rw [hou,Nat.sub_self];exact (List.append_nil _).symm⟩) (sF O) sr (λbi p2 c2 oq hJ=>?_)
  obtain ⟨hbi,hba,h2,hlq,hsq⟩:=hJ
  refine AE.seq (q4 (AM O (AK (v:=(pP b1 0)) (AB O underlying38 O sizeOf35 O) O (BL 1 (Value.slice x.a.p N x.a.c) N5 O (AK (v:=(vN N)) (AF O underlying35) O (AK (Ad (c:=(decide (bi<N))) O O (B7 (a:=bi) (b:=N))) O (AC.nil (OkQ.subF (sL [1,2,4,5,3,25] O) (OkQ.then_ ?_)))))))))
  refine AE.cond O (λhc2=>?_) (λhc2=>?_)
  ·replace hc2:=of_decide_eq_true hc2
   refine AE.skip (q1 (AE.block (q4 (AM O (AM O (AK (v:=(aG ([(vN ai),(vN bi),(vI (-1:Int)),(vI (-1:Int))]))) (Aa (zs:=B1 (⟨0,0,0,0⟩:E4)) (vs:=[(vN ai),(vN bi),(vI (-1:Int)),(vI (-1:Int))]) (pv:=[(0,(vN ai)),(1,(vN bi)),(2,(vI (-1:Int))),(3,(vI (-1:Int)))]) (places:=[(0,1),(1,1),(2,1),(3,1)]) zeroValue148 underlying148 (λw=>by simp [sizeOf3]) O O) O (al Zj O λb2=>BP O sizeOf148 O (q6 (sL [1,2,4,5,3,6] O) (q4 (AK (v:=(pP b1 1)) (AB O underlying38 O sizeOf28 O) O ?_))))))))))
   refine BL 2 (Value.slice x.b.p ts.length x.b.c) Bp O (AK (v:=(vN ts.length)) (AF O underlying28) O (AK (BO (c:=(((ts.length:Nat):Int)-1-((0:Nat):Int))) O O (by rw [BJ Z Z];omega)) O (AI O (AC.nil (OkQ.subF (sL [1,2,4,5,3,6,7] O) (OkQ.then_ (AE.block ?_)))))))
   refine AE.lp1 (tg λ(k:Nat)=>k<=ts.length) (tg λ(k:Nat)=>[(1,(pP b1 0)),(2,(Value.slice none 0 0)),(4,(vN ai)),(5,(vN bi)),(3,(Value.slice p2 oq.length c2)),(6,(pP b2 0)),(7,(vI (((ts.length:Nat):Int)-1-((k:Nat):Int))))]) (tg λ(k:Nat)=>[Ah b2 148 (B1 (⟨ai,bi,Cw ts ai bi k,Cw ts bi ai k⟩:E4)),rowW p2 148 4 oq.length c2 (rowsL B1 oq),Ah b1 38 (BN x),AJ x.a.p (x.cs),AJ x.b.p (rowsL Am ts),AJ x.c.p (x.ds)]) (tg λ(k:Nat)=>ts.length-k) 0 (Nat.zero_le _) (sF O) sr (λk hJ=>?_)
   have hk:=hJ
   refine AE.seq (q4 (AM O (AK (CI (c:=(decide ((0:Int)<=(((ts.length:Nat):Int)-1-((k:Nat):Int))))) O O O) O (AC.nil (OkQ.subF (sL [1,2,4,5,3,6,7,36] O) (OkQ.then_ ?_))))))
   refine AE.cond O (λhc3=>?_) (λhc3=>?_)
   ·replace hc3:=of_decide_eq_true hc3
    obtain ⟨u,hu⟩:∃u,u=ts.length-1-k:=⟨_,rfl⟩
    have hkl:k<ts.length:=by omega
    refine AE.retell (k:=7) (u:=(vN u)) O (by show Value.int _ _=Value.int _ _;congr 1;omega) (AE.skip (q1 (AE.block (AE.seq (q4 (AK (v:=(pP b1 1)) (AB O underlying38 O sizeOf28 O) O (BL 2 (Value.slice x.b.p ts.length x.b.c) Bp O (AM O (AK (v:=(pP (pB x.b.p) (pO x.b.p+u*3))) (AH (j:=u) O O x.b.ok underlying28 sizeOf68 O Z) O (AK (v:=(aG (Am (ts.getD u ((0,0,0):Tq3))))) (Ai (vs:=Am (ts.getD u ((0,0,0):Tq3))) (i:=4) O O (Ar.ne x.b.ok Z) DL (A8 Af _ _ _ Z) (Af _)) O (AM O ?_)))))))))))
    refine AM O (ck' call55 (Hu (ts.getD u ((0,0,0):Tq3)) ai bi) O (AC.nil (OkQ.subF (sL [1,2,4,5,3,6,7,46] O) (OkQ.then_ ?_))))
    refine AE.jn1 (tg λ(l1:Int)=>l1=Cw ts ai bi (k+1)) (tg λ(l1:Int)=>[(1,(pP b1 0)),(2,(Value.slice none 0 0)),(4,(vN ai)),(5,(vN bi)),(3,(Value.slice p2 oq.length c2)),(6,(pP b2 0)),(7,(vN u))]) (tg λ(l1:Int)=>[Ah b2 148 (B1 (⟨ai,bi,l1,Cw ts bi ai k⟩:E4)),rowW p2 148 4 oq.length c2 (rowsL B1 oq),Ah b1 38 (BN x),AJ x.a.p (x.cs),AJ x.b.p (rowsL Am ts),AJ x.c.p (x.ds)]) ?_ ?_
    ·skip
     refine AE.cond O (λhc4=>?_) (λhc4=>?_)
     ·skip
      exact AE.region (AM O (AK (v:=(pP b2 2)) (AB O underlying148 O sizeOf3 O) O (JZ 0 (off:=2) (vs:=[(vN u)]) (cs':=[(vN ((⟨ai,bi,Cw ts ai bi k,Cw ts bi ai k⟩:E4).a)),(vN ((⟨ai,bi,Cw ts ai bi k,Cw ts bi ai k⟩:E4).b)),(vN u),(vI ((⟨ai,bi,Cw ts ai bi k,Cw ts bi ai k⟩:E4).r))]) (AT O) O sizeOf3 O (AC.nil (OkQ.subF (sL [1,2,4,5,3,6,7] O) (OkQ.join1 ((u:Nat):Int) ((by rw [QI (by rw [<-hu];exact hc4),hu])) (sF O) sr))))))
     ·skip
      exact AE.skip (OkQ.join1 ((⟨ai,bi,Cw ts ai bi k,Cw ts bi ai k⟩:E4).l) ((UM (by rw [<-hu];exact λh9=>Bool.false_ne_true (hc4.symm.trans h9))).symm) (sF O) sr)
    ·intro l1 hJ
     have hl1:=hJ
     refine q2 (AK (v:=(pP b1 1)) (AB O underlying38 O sizeOf28 O) O (BL 2 (Value.slice x.b.p ts.length x.b.c) Bp O (AM O (AK (v:=(pP (pB x.b.p) (pO x.b.p+u*3))) (AH (j:=u) O O x.b.ok underlying28 sizeOf68 O Z) O (AK (v:=(aG (Am (ts.getD u ((0,0,0):Tq3))))) (Ai (vs:=Am (ts.getD u ((0,0,0):Tq3))) (i:=4) O O (Ar.ne x.b.ok Z) DL (A8 Af _ _ _ Z) (Af _)) O (AM O (AM O (ck' call55 (Hu (ts.getD u ((0,0,0):Tq3)) bi ai) O (AC.nil (OkQ.subF (sL [1,2,4,5,3,6,7,56] O) (OkQ.then_ ?_)))))))))))
     refine AE.jn1 (tg λ(r1:Int)=>r1=Cw ts bi ai (k+1)) (tg λ(r1:Int)=>[(1,(pP b1 0)),(2,(Value.slice none 0 0)),(4,(vN ai)),(5,(vN bi)),(3,(Value.slice p2 oq.length c2)),(6,(pP b2 0)),(7,(vN u))]) (tg λ(r1:Int)=>[Ah b2 148 (B1 (⟨ai,bi,l1,r1⟩:E4)),rowW p2 148 4 oq.length c2 (rowsL B1 oq),Ah b1 38 (BN x),AJ x.a.p (x.cs),AJ x.b.p (rowsL Am ts),AJ x.c.p (x.ds)]) ?_ ?_
     ·skip
      refine AE.cond O (λhc5=>?_) (λhc5=>?_)
      ·skip
       exact AE.region (AM O (AK (v:=(pP b2 3)) (AB O underlying148 O sizeOf3 O) O (JZ 0 (off:=3) (vs:=[(vN u)]) (cs':=[(vN ((⟨ai,bi,l1,Cw ts bi ai k⟩:E4).a)),(vN ((⟨ai,bi,l1,Cw ts bi ai k⟩:E4).b)),(vI ((⟨ai,bi,l1,Cw ts bi ai k⟩:E4).l)),(vN u)]) (AT O) O sizeOf3 O (AC.nil (OkQ.subF (sL [1,2,4,5,3,6,7] O) (OkQ.join1 ((u:Nat):Int) ((by rw [QI (by rw [<-hu];exact hc5),hu])) (sF O) sr))))))
      ·skip
       exact AE.skip (OkQ.join1 ((⟨ai,bi,l1,Cw ts bi ai k⟩:E4).r) ((UM (by rw [<-hu];exact λh9=>Bool.false_ne_true (hc5.symm.trans h9))).symm) (sF O) sr)
     ·intro r1 hJ
      have hr1:=hJ
      refine OkQ.in_normal (OkQ.then_ (AE.region (AM O (AK (BO (c:=(((ts.length:Nat):Int)-1-((k+1:Nat):Int))) O O (by rw [BJ Z Z];omega)) O (AI O (AC.nil (OkQ.subF (sL [1,2,4,5,3,6,7] O) ?_)))))))
      rw [show l1=Cw ts ai bi (k+1) from hl1,show r1=Cw ts bi ai (k+1) from hr1]
      exact OkQ.round1 (k+1) Z Z (sF O) sr
   ·replace hc3:=of_decide_eq_false hc3
    have hfe:(⟨ai,bi,Cw ts ai bi k,Cw ts bi ai k⟩:E4)=Sa ts ai bi:=Xr Z
    refine AE.exit (OkQ.then_exit (OkQ.round1_exit (OkQ.in_exit (q2 (AK (v:=(pP b2 2)) (AB O underlying148 O sizeOf3 O) O (BL 0 (vI ((⟨ai,bi,Cw ts ai bi k,Cw ts bi ai k⟩:E4).l)) BR O (AK (CI (c:=(decide ((0:Int)<=((⟨ai,bi,Cw ts ai bi k,Cw ts bi ai k⟩:E4).l)))) O O O) O (AM O ?_))))))))
    refine AC.mid (FM:=[(1,(pP b1 0)),(2,(Value.slice none 0 0)),(4,(vN ai)),(5,(vN bi)),(3,(Value.slice p2 oq.length c2)),(6,(pP b2 0)),(7,(vI (((ts.length:Nat):Int)-1-((k:Nat):Int)))),(59,(pP b2 2)),(60,(vI ((⟨ai,bi,Cw ts ai bi k,Cw ts bi ai k⟩:E4).l))),(61,(Value.bool (decide ((0:Int)<=((⟨ai,bi,Cw ts ai bi k,Cw ts bi ai k⟩:E4).l))))),(62,(Value.bool (decide ((0:Int)<=((⟨ai,bi,Cw ts ai bi k,Cw ts bi ai k⟩:E4).l))))),(66,(Value.bool ((decide ((0:Int)<=((⟨ai,bi,Cw ts ai bi k,Cw ts bi ai k⟩:E4).l)))||(decide ((0:Int)<=((⟨ai,bi,Cw ts ai bi k,Cw ts bi ai k⟩:E4).r))))))]) (LM:=[Ah b2 148 (B1 (⟨ai,bi,Cw ts ai bi k,Cw ts bi ai k⟩:E4)),rowW p2 148 4 oq.length c2 (rowsL B1 oq),Ah b1 38 (BN x),AJ x.a.p (x.cs),AJ x.b.p (rowsL Am ts),AJ x.c.p (x.ds)]) 4 ?_ ?_
    ·rcases Bool.eq_false_or_eq_true (decide ((0:Int)<=((⟨ai,bi,Cw ts ai bi k,Cw ts bi ai k⟩:E4).l))) with hg1|hg1
     ·skip
      refine AC.retell (k:=62) (u:=Value.bool true) O (by rw [hg1]) ?_
      have hg1':=hg1
      replace hg1':=of_decide_eq_true hg1'
      exact AC.skip (AD O) O (AV O) (AC.skip (AD O) O (AV O) (AC.skip (AD O) O (AV O) (AK (v:=(Value.bool true)) (AR O O) O (AC.nil (OkQ.mid (sS O (sS O (sS O (sS O (sS O (sS O (sS O (sS O (sS O (sS O (sS (by first|rfl|(rw [hg1];rfl)|rw [hg1]) (sS (by first|rfl|(rw [hg1];rfl)|rw [hg1]) (sN))))))))))))) (List.Sublist.refl _))))))
     ·skip
      refine AC.retell (k:=62) (u:=Value.bool false) O (by rw [hg1]) ?_
      have hg1':=hg1
      replace hg1':=of_decide_eq_false hg1'
      exact AC.step (v:=(pP b2 3)) (AA O) (AB O underlying148 O sizeOf3 O) O (AV O) (AC.step (v:=(vI ((⟨ai,bi,Cw ts ai bi k,Cw ts bi ai k⟩:E4).r))) (AA O) (AN (i:=0) (v:=(vI ((⟨ai,bi,Cw ts ai bi k,Cw ts bi ai k⟩:E4).r))) O O BR.a O) O (AV O) (AC.step (v:=(Value.bool (decide ((0:Int)<=((⟨ai,bi,Cw ts ai bi k,Cw ts bi ai k⟩:E4).r))))) (AA O) (CI (c:=(decide ((0:Int)<=((⟨ai,bi,Cw ts ai bi k,Cw ts bi ai k⟩:E4).r)))) O O O) O (AV O) (AK (v:=(Value.bool (decide ((0:Int)<=((⟨ai,bi,Cw ts ai bi k,Cw ts bi ai k⟩:E4).r))))) (AO O O) O (AC.nil (OkQ.mid (sS O (sS O (sS O (sS O (sS O (sS O (sS O (sS O (sS O (sS O (sS (by first|rfl|(rw [hg1];rfl)|rw [hg1]) (sS (by first|rfl|(rw [hg1];rfl)|rw [hg1]) (sN))))))))))))) (List.Sublist.refl _))))))
    refine AC.nil (OkQ.subF (sL [1,2,4,5,3,6,7,66] O) (OkQ.then_ ?_))
    refine AE.cond O (λhc6=>?_) (λhc6=>?_)
    ·simp only [Bool.and_eq_true,Bool.or_eq_true,Bool.and_eq_false_iff,Bool.or_eq_false_iff,Bool.not_eq_true',Bool.not_eq_false',decide_eq_true_eq,decide_eq_false_iff_not] at hc6
     refine AE.region (AM O (BC 0 ZK O (AC.openV (V:=λb3=>(Value.slice (some ⟨b3,0,none⟩) 1 1)) (T:=148) (cs:=B1 (⟨ai,bi,Cw ts ai bi k,Cw ts bi ai k⟩:E4)) (AT O) (Ap (z:=.agg (B1 (⟨0,0,0,0⟩:E4)).toArray) (cs:=B1 (⟨ai,bi,Cw ts ai bi k,Cw ts bi ai k⟩:E4)) (pv:=[(0,(aG (B1 (⟨ai,bi,Cw ts ai bi k,Cw ts bi ai k⟩:E4))))]) underlying128 sizeOf148 zeroValue148 (by decide) (by decide) O (I0 (⟨ai,bi,Cw ts ai bi k,Cw ts bi ai k⟩:E4))) O (AV O) λb3=>AC.append2 (j:=0) (cs2:=rowsL B1 (oq++[(⟨ai,bi,Cw ts ai bi k,Cw ts bi ai k⟩:E4)])) Y_ O h2 (A6 Dp _) O O O O (by decide) (Fl Z) Z (by rw [Bk];rfl) O λp_1 c_1 ho_1 hne_1=>AI O (AC.nil (OkQ.subF (sL [1,2,4,5,3,6,7] O) (OkQ.in_normal (OkQ.then_ (AE.region (AM O ?_)))))))))
     refine AK (AY (c:=((bi+1:Nat):Int)) O O (AU (a:=bi) (b:=1) Z)) O (AI O (AC.nil (OkQ.subF (sL [1,2,4,5,3,6,7] O) ?_)))
     rw [show oq.length+1=(oq++[(⟨ai,bi,Cw ts ai bi k,Cw ts bi ai k⟩:E4)]).length by simp]
     exact OkQ.round4 (bi+1) p_1 c_1 (oq++[(⟨ai,bi,Cw ts ai bi k,Cw ts bi ai k⟩:E4)]) (⟨Z,Z,(by simpa using ho_1),by rw [List.length_append];simp only [List.length_singleton];omega,(by rw [hsq,List.append_assoc];congr 1;rw [hfe];exact (Ta Z (by rw [<-hfe];exact hc6)).symm)⟩) Z (sF O) (sl (sl sr))
    ·simp only [Bool.and_eq_true,Bool.or_eq_true,Bool.and_eq_false_iff,Bool.or_eq_false_iff,Bool.not_eq_true',Bool.not_eq_false',decide_eq_true_eq,decide_eq_false_iff_not] at hc6
     exact AE.skip (OkQ.in_normal (OkQ.then_ (AE.region (AM O (AK (AY (c:=((bi+1:Nat):Int)) O O (AU (a:=bi) (b:=1) Z)) O (AI O (AC.nil (OkQ.subF (sL [1,2,4,5,3,6,7] O) (OkQ.round4 (bi+1) p2 c2 oq (⟨Z,Z,h2,Z,(by rw [hsq];congr 1;exact (Wr Z (by rw [<-hfe];dsimp only;omega)).symm)⟩) Z (sF O) (sl sr))))))))))
  ·replace hc2:=of_decide_eq_false hc2
   have hbn:bi=N:=by omega
   exact AE.exit (OkQ.then_exit (OkQ.round4_exit (OkQ.in_exit (OkQ.in_normal (OkQ.then_ (AE.region (AM O (AK (AY (c:=((ai+1:Nat):Int)) O O (AU (a:=ai) (b:=1) Z)) O (AI O (AC.nil (OkQ.subF (sL [1,2,4,5,3] O) (OkQ.round4 (ai+1) p2 c2 oq (⟨Z,h2,Z,by rw [hsq,show bi=N by omega];rfl⟩) Z (sF O) sr))))))))))))
 ·replace hc1:=of_decide_eq_false hc1
  exact AE.exit (OkQ.then_exit (OkQ.round4_exit (OkQ.in_exit (q2 (AM O (AI O (AC.nil (OkQ.subF (sL [1,2,4,3] O) (OkQ.then_ (AE.ret (AS O (AZ (v:=(Value.slice p1 ou.length c1)) O) (λw hw=>(by rw [show Bv ts=ou by rw [hou,show ai=N by omega];exact (YB hnb Z).symm];exact XA hw 0 O h1 (A6 Dp _) O)))))))))))))
end
section
def Zf (ts:List T3):List Nat:=ts.flatMap λt=>[t.1,t.2.1,t.2.2]
section
variable {ts:List T3} {l:List Int} {k q N n:Nat}
theorem OD {i:Nat} (h:i<ts.length):ts.getD i (0,0,0)∈ts:=by rw [List.getD,List.getElem?_eq_getElem h];exact List.getElem_mem h
theorem KN {t:T3} (h:t∈ts):∃i,i<ts.length/\ts.getD i (0,0,0)=t:=by
  obtain ⟨i,hi,e⟩:=List.getElem_of_mem h
  exact ⟨i,hi,by rw [List.getD,List.getElem?_eq_getElem hi];exact e⟩
theorem Mk {p:Nat}:p∈Zf ts↔∃t∈ts,∃r,r<3/\Bl t r=p:=by
  unfold Zf
  rw [List.mem_flatMap]
  constructor
  · rintro ⟨t,ht,hp⟩
    simp only [List.mem_cons,List.not_mem_nil,or_false] at hp
    refine ⟨t,ht,?_⟩
    rcases hp with rfl|rfl|rfl
    · exact ⟨0,by decide,rfl⟩
    · exact ⟨1,by decide,rfl⟩
    · exact ⟨2,by decide,rfl⟩
  · rintro ⟨t,ht,r,hr,rfl⟩
    refine ⟨t,ht,?_⟩
    have e:r=0\/r=1\/r=2:=by omega
    rcases e with rfl|rfl|rfl<;>simp [Bl]
theorem NK {p:Nat}:∀s,(Ac (B5 ts s) p).isSome=true↔∃u,u<s/\Wl ts u=p
  | 0=>⟨λh=>(by cases h),λ⟨u,h,_⟩=>absurd h (Nat.not_lt_zero _)⟩
  | s+1=>by
    show (Ac (A9 (B5 ts s) (Wl ts s) _) p).isSome=true↔_
    rw [CP]
    split
    · rename_i e
      exact ⟨λ_=>⟨s,Z,e.symm⟩,λ_=>rfl⟩
    · rename_i e
      rw [NK s]
      constructor
      · rintro ⟨u,h1,h2⟩;exact ⟨u,Z,h2⟩
      · rintro ⟨u,h1,h2⟩
        refine ⟨u,?_,h2⟩
        rcases Nat.lt_or_ge u s with h3|h3
        · exact h3
        · exact absurd (by rw [<-h2,show u=s by omega]) e
theorem VL {β:Type} {kvs:List (Nat×β)} {p:Nat}:p∈kvs.map (·.1)↔(Ac kvs p).isSome=true:=by
  induction kvs with
  | nil=>simp [Ac]
  | cons x r ih =>
    obtain ⟨a,b⟩:=x
    rw [List.map_cons,List.mem_cons,ih]
    have e:Ac ((a,b)::r) p=if p=a then some b else Ac r p:=rfl
    rw [e]
    by_cases h:p=a
    · simp [h]
    · simp [h]
theorem Tc {p:Nat}:p∈(B5 ts (3*ts.length)).map (·.1)↔p∈Zf ts:=by
  rw [VL,NK,Mk]
  constructor
  · rintro ⟨u,h1,h2⟩
    exact ⟨_,OD (show u/3<ts.length by omega),u%3,Nat.mod_lt _ (by decide),h2⟩
  · rintro ⟨t,ht,r,hr,rfl⟩
    obtain ⟨i,hi,rfl⟩:=KN ht
    refine ⟨3*i+r,Z,?_⟩
    unfold Wl
    rw [show (3*i+r)/3=i by omega,show (3*i+r)%3=r by omega]
theorem SC (hn:A_ N ts=true) (hN:N<=4611686018427387904):((B5 ts (3*ts.length)).map (·.1)).Nodup:=List.pairwise_map.2 ((Ej hn hN _ (Nat.le_refl _)).once.imp λ{a b} h e=>h e)
end
end
section
def SY (ts:List T3):Nat->Nat
  | 0=>0
  | p+1=>if 0<(Je ts p ts.length).length then SY ts p+1 else SY ts p
section
variable {ts:List T3} {N p:Nat}
theorem Pr (h:0<(Je ts p ts.length).length):SY ts (p+1)=SY ts p+1:=if_pos h
theorem TN (h:¬0<(Je ts p ts.length).length):SY ts (p+1)=SY ts p:=if_neg h
theorem Uw:∀p,SY ts p<=p
  | 0=>Nat.le_refl _
  | p+1=>by have:=Uw p;unfold SY;split<;>omega
theorem Qa:∀p,SY ts p=((List.range p).filter λq=>decide (0<(Je ts q ts.length).length)).length
  | 0=>rfl
  | p+1=>by
    rw [List.range_succ,List.filter_append,List.length_append,<-Qa p,List.filter_cons]
    by_cases h:0<(Je ts p ts.length).length
    · rw [Pr h,if_pos (decide_eq_true h)];rfl
    · rw [TN h,if_neg (by simpa using h)];rfl
theorem Vn:0<(Je ts p ts.length).length↔p∈Zf ts:=by
  unfold Je
  rw [List.length_pos_iff_exists_mem,Mk]
  constructor
  · rintro ⟨t,ht⟩
    obtain ⟨h1,h2⟩:=List.mem_filter.1 ht
    obtain ⟨r,hr,h3⟩:=J4.1 h2
    exact ⟨_,OD (List.mem_range.1 h1),r,hr,h3⟩
  · rintro ⟨t,ht,r,hr,h⟩
    obtain ⟨i,hi,rfl⟩:=KN ht
    exact ⟨i,List.mem_filter.2 ⟨List.mem_range.2 hi,J4.2 ⟨r,hr,h⟩⟩⟩
theorem YP (hn:A_ N ts=true) (h:p∈Zf ts):p<N:=by
  obtain ⟨t,ht,r,hr,rfl⟩:=Mk.1 h
  obtain ⟨i,hi,rfl⟩:=KN ht
  obtain ⟨g1,g2,g3⟩:=Cn (CL hn hi)
  unfold Bl;split
  · omega
  · split<;>omega
theorem Xv (hn:A_ N ts=true) (hN:N<=4611686018427387904):SY ts N=(B5 ts (3*ts.length)).length:=by
  rw [Qa,show (B5 ts (3*ts.length)).length=((B5 ts (3*ts.length)).map (·.1)).length from (List.length_map _).symm]
  refine ((List.perm_ext_iff_of_nodup (List.nodup_range.filter _) (SC hn hN)).2 λq=>?_).length_eq
  rw [Tc,List.mem_filter,List.mem_range,decide_eq_true_eq,Vn]
  exact ⟨λh=>h.2,λh=>⟨YP hn h,h⟩⟩
theorem WQ (hn:A_ N ts=true) (hN:N<=4611686018427387904) {n:Nat} (h:n=SY ts N):((n:Nat):Int)-(Bv ts).length+ts.length=EU ts:=by
  unfold EU
  rw [h,Xv hn hN]
end
end
section
set_option maxRecDepth 100000
set_option maxHeartbeats 1000000 in
theorem Rz {N:Nat} {ts ss:List T3} (x:RM N ts ss) (hnb:A_ N ts=true) (hl:ts.length<=1000000) (hN:N<=4096) (w:World) {S:Nat->Prop} (hx:Ro S w x):Calls prog 26 #[(aG (BN x))] w (Ak w (vI (EU ts))):=by
 have hel:=H9 ts
 have lx:=CV (W:=w) hx
 refine Ag (args:=[(aG (BN x))]) (L:=[AJ x.a.p (x.cs),AJ x.b.p (rowsL Am ts),AJ x.c.p (x.ds)]) func26 O O (AV O) (C4 hx Ao) (AE.subF (sL [0] O) (q4 (B0 (cs:=BN x) O λb1=>AI O (q6 (sL [1,2] O) (q4 (BC 0 CH O (Cc call39 (λw hw=>Gc x hnb hl Z w (Bc hw 1 O lx)) O (AK (BF (c:=false) O O) O (AC.nil (OkQ.subF (sL [1,2,7] O) ?_))))))))))
 refine OkQ.then_ (AE.cond_false O (AE.skip (q2 (AI O (q6 (sL [1,2,3] O) (q4 (AI O (AC.nil (OkQ.then_ (AE.block ?_))))))))))
 refine AE.lp2 (tg λ(p:Nat) (n:Nat)=>p<=N/\n=SY ts p) (tg λ(p:Nat) (n:Nat)=>[(1,(pP b1 0)),(2,(vI 0)),(4,(vN p)),(3,(vN n))]) (tg λ(p:Nat) (n:Nat)=>[Ah b1 38 (BN x),AJ x.a.p (x.cs),AJ x.b.p (rowsL Am ts),AJ x.c.p (x.ds)]) (tg λ(p:Nat) (n:Nat)=>N-p) 0 0 (⟨Nat.zero_le _,rfl⟩) (sF O) sr (λp n hJ=>?_)
 obtain ⟨hp,hn⟩:=hJ
 have hcl:=Uw (ts:=ts) p
 rw [<-hn] at hcl
 have hal:=QU (ts:=ts) p ts.length
 refine AE.seq (q4 (AM O (AK (v:=(pP b1 0)) (AB O underlying38 O sizeOf35 O) O (BL 0 (Value.slice x.a.p N x.a.c) N5 O (AK (v:=(vN N)) (AF O underlying35) O (AK (Ad (c:=(decide (p<N))) O O (B7 (a:=p) (b:=N))) O (AC.nil (OkQ.subF (sL [1,2,4,3,12] O) (OkQ.then_ ?_)))))))))
 refine AE.cond O (λhc1=>?_) (λhc1=>?_)
 ·replace hc1:=of_decide_eq_true hc1
  refine AE.skip (q1 (AE.block (q4 (BC 0 CH O (AM O (AC.callR (S:=S) (α:=RX (inL (Je ts p ts.length)) (Je ts p ts.length).length) (args:=[(aG (BN x)),(vN p)]) call47 (λw hw=>PQ x p hnb hl Z w (Bc hw 1 O lx)) O O O λaq laq=>AK (v:=(vN ((Je ts p ts.length).length))) (AF O underlying86) O (AK (CC (c:=(decide (0<((Je ts p ts.length).length)))) O O (B7 (a:=0) (b:=(Je ts p ts.length).length))) O (AC.nil (OkQ.subF (sL [1,2,4,3,19] O) (OkQ.then_ ?_))))))))))
  refine AE.cond O (λhc2=>?_) (λhc2=>?_)
  ·replace hc2:=of_decide_eq_true hc2
   refine AE.region (AM O (AK (AY (c:=((n+1:Nat):Int)) O O (AU (a:=n) (b:=1) Z)) O (AI O (AC.nil (OkQ.subF (sL [1,2,4,3] O) (OkQ.in_normal (OkQ.then_ (AE.region (AM O (AK (AY (c:=((p+1:Nat):Int)) O O (AU (a:=p) (b:=1) Z)) O (AI O ?_)))))))))))
   exact AC.nil (OkQ.subF (sL [1,2,4,3] O) (OkQ.round2 (p+1) (n+1) (⟨Z,by rw [hn];exact (Pr hc2).symm⟩) Z (sF O) (sl sr)))
  ·replace hc2:=of_decide_eq_false hc2
   exact AE.skip (OkQ.in_normal (OkQ.then_ (AE.region (AM O (AK (AY (c:=((p+1:Nat):Int)) O O (AU (a:=p) (b:=1) Z)) O (AI O (AC.nil (OkQ.subF (sL [1,2,4,3] O) (OkQ.round2 (p+1) n (⟨Z,by rw [hn];exact (TN hc2).symm⟩) Z (sF O) (sl sr))))))))))
 ·replace hc1:=of_decide_eq_false hc1
  refine AE.exit (OkQ.then_exit (OkQ.round2_exit (OkQ.in_exit (q1 (Cu [(0,true),(1,true),(5,true),(6,true),(7,true),(2,false),(3,true),(4,true),(8,true),(9,true)] sr (BU O (Gx 0 CH O (Av (v:=(pP b1 1)) O (AB O underlying38 O sizeOf28 O) (Bx 0 (Value.slice x.b.p ts.length x.b.c) Bp O (Av (v:=(vN ts.length)) O (AF O underlying28) (OkE.imp O ?_)))))))))))
  exact cX (S:=S) (cs:=rowsL B1 (Bv ts)) (k:=(Bv ts).length) (args:=[(aG (BN x))]) call48 (λw hw=>Rv x hnb hl hN w (Bc hw 1 O lx)) O O O λeb leb=>OkE.back (sl sr) (Av (v:=(vN ((Bv ts).length))) O (AF O underlying128) (Av O (BO (c:=(((n:Nat):Int)-(Bv ts).length)) O O (by rw [BJ Z Z])) (Av O (AY (c:=(((n:Nat):Int)-(Bv ts).length+ts.length)) O O (by rw [BJ Z Z])) (pS' O (OkE.nil (OkQ.subF (sL [1,2,4,3] O) (OkQ.then_ (AE.ret (AS O (AZ (v:=(vI (((n:Nat):Int)-(Bv ts).length+ts.length))) O) (λw hw=>⟨by rw [WQ hnb Z (by rw [hn,show p=N by omega])],hw.out⟩))))))))))
end
end Go.Proofs.YtpgncndhhhllfaaGreat
