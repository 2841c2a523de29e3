import Derived.Test.YtpgncndhhhllfaaGreatDoorPart33
namespace Go.Proofs.YtpgncndhhhllfaaGreatDoor
open Go Go.RowKit Go.Proofs.Tryz
set_option linter.unusedVariables false
set_option linter.unusedSimpArgs false
section
set_option maxRecDepth 100000
theorem dB:ElemT prog 89 92 4 32:=⟨underlying89,DA (by kernel_rfl)⟩
theorem Ko (x0:E4):Instr.fill (λi=>some (i*4,4)) ((Array.range (1*4)).map ((Value.agg (Bo (⟨0,0,0,0⟩:E4)).toArray).cells[·%(Value.agg (Bo (⟨0,0,0,0⟩:E4)).toArray).cells.size]!)) [(0,.agg (Bo x0).toArray)]=some (Bo x0).toArray:=by kernel_rfl
set_option maxHeartbeats 2000000 in
theorem SN {N:Nat} {ts ss:List T3} (x:RM N ts ss) (hnb:By N ts=true) (hl:ts.length<=1000000) (hN:N<=4096) (w:World) {S:Nat->Prop} (hx:Ro S w x):Calls prog 72 #[(aG (F1 x))] w (Aw (RX (rowsL Bo (BV ts)) (BV ts).length) S w):=by
 have lx:=Cl (W:=w) hx
 refine Ah (args:=[(aG (F1 x))]) (L:=[AQ x.a.p (x.cs),AQ x.b.p (rowsL Ai ts),AQ x.c.p (rowsL Ai ss)]) func72 O O (AT O) (Ed hx Ax) (AF.subF (sL [0] O) (q4 (BU (cs:=F1 x) O λb1=>asg' O (q3 (sL [1,2] O) ?_))))
 refine asg' O (AE.nilRow 92 4 (AE.nil (q1 (q4 (BD 1 EA O ?_)))))
 refine Cj call79 (λw hw=>J2 x hnb hl Z w (inS hw 2 O lx)) O (AH (BQ (c:=false) O O) O (AE.nil (AC.subF (sL [1,2,3,10] O) (AC.then_ (AF.cond_false O ?_)))))
 refine AF.skip (q1 (q4 (asg' O (AE.nil (AC.subF (sL [1,2,3,4] O) ?_)))))
 refine AC.then_ (AF.block ?_)
 refine AF.lp4 (tg λ(ai:Nat) (p1:Option Addr) (c1:Nat) (ou:List E4)=>ai<=N/\OwnOk p1 ou.length c1/\ou.length<=ai*4096/\ou=ZR ts N ai) (tg λ(ai:Nat) (p1:Option Addr) (c1:Nat) (ou:List E4)=>[(1,(pP b1 0)),(2,(Value.slice none 0 0)),(4,(vN ai)),(3,(Value.slice p1 ou.length c1))]) (tg λ(ai:Nat) (p1:Option Addr) (c1:Nat) (ou:List E4)=>[rowW p1 92 4 ou.length c1 (rowsL Bo ou),Ag b1 38 (F1 x),AQ x.a.p (x.cs),AQ x.b.p (rowsL Ai ts),AQ x.c.p (rowsL Ai ss)]) (tg λ(ai:Nat) (p1:Option Addr) (c1:Nat) (ou:List E4)=>N-ai) 0 none 0 ([]:List E4) (⟨Nat.zero_le _,OwnOk.none,by simp,rfl⟩) (sF O) sr (λai p1 c1 ou hJ=>?_)
 obtain ⟨hai,h1,hln,hou⟩:=hJ
 refine AF.seq (q4 (AM O (AH (v:=(pP b1 0)) (AA O underlying38 O sizeOf35 O) O (BA 1 (Value.slice x.a.p N x.a.c) OP O (AH (v:=(vN N)) (AG O underlying35) O ?_)))))
 refine AH (Ae (c:=(decide (ai<N))) O O (CL (a:=ai) (b:=N))) O (AE.nil (AC.subF (sL [1,2,4,3,16] O) (AC.then_ ?_)))
 refine AF.cond O (λhc1=>?_) (λhc1=>?_)
 ·replace hc1:=of_decide_eq_true hc1
  refine AF.skip (q1 (AF.block (q4 (AM O (AH (AW (c:=((ai+1:Nat):Int)) O O (AU (a:=ai) (b:=1) Z)) O ?_)))))
  refine asg' O (AE.nil (AC.subF (sL [1,2,4,3,5] O) (AC.then_ (AF.block ?_))))
  refine AF.lp4 (tg λ(bi:Nat) (p2:Option Addr) (c2:Nat) (oq:List E4)=>bi<=N/\ai+1<=bi/\OwnOk p2 oq.length c2/\oq.length<=ai*4096+(bi-(ai+1))/\oq=ZR ts N ai++IM ts ai (bi-(ai+1))) (tg λ(bi:Nat) (p2:Option Addr) (c2:Nat) (oq:List E4)=>[(1,(pP b1 0)),(2,(Value.slice none 0 0)),(4,(vN ai)),(5,(vN bi)),(3,(Value.slice p2 oq.length c2))]) (tg λ(bi:Nat) (p2:Option Addr) (c2:Nat) (oq:List E4)=>[rowW p2 92 4 oq.length c2 (rowsL Bo oq),Ag b1 38 (F1 x),AQ x.a.p (x.cs),AQ x.b.p (rowsL Ai ts),AQ x.c.p (rowsL Ai ss)]) (tg λ(bi:Nat) (p2:Option Addr) (c2:Nat) (oq:List E4)=>N-bi) (ai+1) p1 c1 ou (⟨Z,Nat.le_refl _,h1,Z,by rw [hou,Nat.sub_self];exact (List.append_nil _).symm⟩) (sF O) sr (λbi p2 c2 oq hJ=>?_)
  obtain ⟨hbi,hba,h2,hlq,hsq⟩:=hJ
  refine AF.seq (q4 (AM O (AH (v:=(pP b1 0)) (AA O underlying38 O sizeOf35 O) O (BA 1 (Value.slice x.a.p N x.a.c) OP O (AH (v:=(vN N)) (AG O underlying35) O ?_)))))
  refine AH (Ae (c:=(decide (bi<N))) O O (CL (a:=bi) (b:=N))) O (AE.nil (AC.subF (sL [1,2,4,5,3,25] O) (AC.then_ ?_)))
  refine AF.cond O (λhc2=>?_) (λhc2=>?_)
  ·replace hc2:=of_decide_eq_true hc2
   refine AF.skip (q1 (AF.block (q4 (AM O (AM O ?_)))))
   refine AH (v:=(aG ([(vN ai),(vN bi),(vI (-1:Int)),(vI (-1:Int))]))) (AV (zs:=Bo (⟨0,0,0,0⟩:E4)) (vs:=[(vN ai),(vN bi),(vI (-1:Int)),(vI (-1:Int))]) (pv:=[(0,(vN ai)),(1,(vN bi)),(2,(vI (-1:Int))),(3,(vI (-1:Int)))]) (places:=[(0,1),(1,1),(2,1),(3,1)]) zeroValue92 underlying92 (λw=>by simp [sizeOf3]) O O) O (al cW O λb2=>A8 O sizeOf92 O (q6 (sL [1,2,4,5,3,6] O) (q4 (AH (v:=(pP b1 1)) (AA O underlying38 O sizeOf23 O) O ?_))))
   refine BA 2 (Value.slice x.b.p ts.length x.b.c) CP O (AH (v:=(vN ts.length)) (AG O underlying23) O (AH (BW (c:=(((ts.length:Nat):Int)-1-((0:Nat):Int))) O O (by rw [A_ Z Z];omega)) O (asg' O (AE.nil (AC.subF (sL [1,2,4,5,3,6,7] O) ?_)))))
   refine AC.then_ (AF.block ?_)
   refine AF.lp1 (tg λ(k:Nat)=>k<=ts.length) (tg λ(k:Nat)=>[(1,(pP b1 0)),(2,(Value.slice none 0 0)),(4,(vN ai)),(5,(vN bi)),(3,(Value.slice p2 oq.length c2)),(6,(pP b2 0)),(7,(vI (((ts.length:Nat):Int)-1-((k:Nat):Int))))]) (tg λ(k:Nat)=>[Ag b2 92 (Bo (⟨ai,bi,DI ts ai bi k,DI ts bi ai k⟩:E4)),rowW p2 92 4 oq.length c2 (rowsL Bo oq),Ag b1 38 (F1 x),AQ x.a.p (x.cs),AQ x.b.p (rowsL Ai ts),AQ x.c.p (rowsL Ai ss)]) (tg λ(k:Nat)=>ts.length-k) 0 (Nat.zero_le _) (sF O) sr (λk hJ=>?_)
   have hk:=hJ
   refine AF.seq (q4 (AM O (AH (CU (c:=(decide ((0:Int)<=(((ts.length:Nat):Int)-1-((k:Nat):Int))))) O O O) O (AE.nil (AC.subF (sL [1,2,4,5,3,6,7,36] O) ?_)))))
   refine AC.then_ ?_
   refine AF.cond O (λhc3=>?_) (λhc3=>?_)
   ·replace hc3:=of_decide_eq_true hc3
    obtain ⟨u,hu⟩:∃u,u=ts.length-1-k:=⟨_,rfl⟩
    have hkl:k<ts.length:=by omega
    refine AF.retell (k:=7) (u:=(vN u)) O (by show Value.int _ _=Value.int _ _;congr 1;omega) (AF.skip (q1 (AF.block (AF.seq (q4 ?_)))))
    refine AH (v:=(pP b1 1)) (AA O underlying38 O sizeOf23 O) O (BA 2 (Value.slice x.b.p ts.length x.b.c) CP O (AM O (AH (v:=(pP (pB x.b.p) (pO x.b.p+u*3))) (AN (j:=u) O O x.b.ok underlying23 sizeOf53 O Z) O (AH (v:=(aG (Ai (ts.getD u ((0,0,0):Nat×Nat×Nat))))) (AZ (vs:=Ai (ts.getD u ((0,0,0):Nat×Nat×Nat))) (i:=4) O O (BF.ne x.b.ok Z) Gf (A7 Az _ _ _ Z) (Az _)) O (AM O ?_)))))
    refine AM O (ck' call131 (Jm (ts.getD u ((0,0,0):Nat×Nat×Nat)) ai bi) O (AE.nil (AC.subF (sL [1,2,4,5,3,6,7,46] O) (AC.then_ ?_))))
    refine AF.jn1 (tg λ(l1:Int)=>l1=DI ts ai bi (k+1)) (tg λ(l1:Int)=>[(1,(pP b1 0)),(2,(Value.slice none 0 0)),(4,(vN ai)),(5,(vN bi)),(3,(Value.slice p2 oq.length c2)),(6,(pP b2 0)),(7,(vN u))]) (tg λ(l1:Int)=>[Ag b2 92 (Bo (⟨ai,bi,l1,DI ts bi ai k⟩:E4)),rowW p2 92 4 oq.length c2 (rowsL Bo oq),Ag b1 38 (F1 x),AQ x.a.p (x.cs),AQ x.b.p (rowsL Ai ts),AQ x.c.p (rowsL Ai ss)]) ?_ ?_
    ·skip
     refine AF.cond O (λhc4=>?_) (λhc4=>?_)
     ·skip
      exact AF.region (AM O (AH (v:=(pP b2 2)) (AA O underlying92 O sizeOf3 O) O (Eg 0 (off:=2) (vs:=[(vN u)]) (cs':=[(vN ((⟨ai,bi,DI ts ai bi k,DI ts bi ai k⟩:E4).a)),(vN ((⟨ai,bi,DI ts ai bi k,DI ts bi ai k⟩:E4).b)),(vN u),(vI ((⟨ai,bi,DI ts ai bi k,DI ts bi ai k⟩:E4).r))]) (AS O) O sizeOf3 O (AE.nil (AC.subF (sL [1,2,4,5,3,6,7] O) (AC.join1 ((u:Nat):Int) ((by rw [Rl (by rw [<-hu];exact hc4),hu])) (sF O) sr))))))
     ·skip
      exact AF.skip (AC.join1 ((⟨ai,bi,DI ts ai bi k,DI ts bi ai k⟩:E4).l) ((VL (by rw [<-hu];exact λh9=>Bool.false_ne_true (hc4.symm.trans h9))).symm) (sF O) sr)
    ·intro l1 hJ
     have hl1:=hJ
     refine q2 (AH (v:=(pP b1 1)) (AA O underlying38 O sizeOf23 O) O (BA 2 (Value.slice x.b.p ts.length x.b.c) CP O (AM O (AH (v:=(pP (pB x.b.p) (pO x.b.p+u*3))) (AN (j:=u) O O x.b.ok underlying23 sizeOf53 O Z) O (AH (v:=(aG (Ai (ts.getD u ((0,0,0):Nat×Nat×Nat))))) (AZ (vs:=Ai (ts.getD u ((0,0,0):Nat×Nat×Nat))) (i:=4) O O (BF.ne x.b.ok Z) Gf (A7 Az _ _ _ Z) (Az _)) O ?_)))))
     refine AM O (AM O (ck' call131 (Jm (ts.getD u ((0,0,0):Nat×Nat×Nat)) bi ai) O (AE.nil (AC.subF (sL [1,2,4,5,3,6,7,56] O) (AC.then_ ?_)))))
     refine AF.jn1 (tg λ(r1:Int)=>r1=DI ts bi ai (k+1)) (tg λ(r1:Int)=>[(1,(pP b1 0)),(2,(Value.slice none 0 0)),(4,(vN ai)),(5,(vN bi)),(3,(Value.slice p2 oq.length c2)),(6,(pP b2 0)),(7,(vN u))]) (tg λ(r1:Int)=>[Ag b2 92 (Bo (⟨ai,bi,l1,r1⟩:E4)),rowW p2 92 4 oq.length c2 (rowsL Bo oq),Ag b1 38 (F1 x),AQ x.a.p (x.cs),AQ x.b.p (rowsL Ai ts),AQ x.c.p (rowsL Ai ss)]) ?_ ?_
     ·skip
      refine AF.cond O (λhc5=>?_) (λhc5=>?_)
      ·skip
       exact AF.region (AM O (AH (v:=(pP b2 3)) (AA O underlying92 O sizeOf3 O) O (Eg 0 (off:=3) (vs:=[(vN u)]) (cs':=[(vN ((⟨ai,bi,l1,DI ts bi ai k⟩:E4).a)),(vN ((⟨ai,bi,l1,DI ts bi ai k⟩:E4).b)),(vI ((⟨ai,bi,l1,DI ts bi ai k⟩:E4).l)),(vN u)]) (AS O) O sizeOf3 O (AE.nil (AC.subF (sL [1,2,4,5,3,6,7] O) (AC.join1 ((u:Nat):Int) ((by rw [Rl (by rw [<-hu];exact hc5),hu])) (sF O) sr))))))
      ·skip
       exact AF.skip (AC.join1 ((⟨ai,bi,l1,DI ts bi ai k⟩:E4).r) ((VL (by rw [<-hu];exact λh9=>Bool.false_ne_true (hc5.symm.trans h9))).symm) (sF O) sr)
     ·intro r1 hJ
      have hr1:=hJ
      refine AC.in_normal (AC.then_ (AF.region (AM O (AH (BW (c:=(((ts.length:Nat):Int)-1-((k+1:Nat):Int))) O O (by rw [A_ Z Z];omega)) O (asg' O ?_)))))
      refine AE.nil (AC.subF (sL [1,2,4,5,3,6,7] O) ?_)
      rw [show l1=DI ts ai bi (k+1) from hl1,show r1=DI ts bi ai (k+1) from hr1]
      exact AC.round1 (k+1) Z Z (sF O) sr
   ·replace hc3:=of_decide_eq_false hc3
    have hfe:(⟨ai,bi,DI ts ai bi k,DI ts bi ai k⟩:E4)=Td ts ai bi:=Zb Z
    refine AF.exit (AC.then_exit (AC.round1_exit (AC.in_exit (q2 (AH (v:=(pP b2 2)) (AA O underlying92 O sizeOf3 O) O ?_)))))
    refine BA 0 (vI ((⟨ai,bi,DI ts ai bi k,DI ts bi ai k⟩:E4).l)) Bj O (AH (CU (c:=(decide ((0:Int)<=((⟨ai,bi,DI ts ai bi k,DI ts bi ai k⟩:E4).l)))) O O O) O (AM O ?_))
    refine AE.mid (FM:=[(1,(pP b1 0)),(2,(Value.slice none 0 0)),(4,(vN ai)),(5,(vN bi)),(3,(Value.slice p2 oq.length c2)),(6,(pP b2 0)),(7,(vI (((ts.length:Nat):Int)-1-((k:Nat):Int)))),(59,(pP b2 2)),(60,(vI ((⟨ai,bi,DI ts ai bi k,DI ts bi ai k⟩:E4).l))),(61,(Value.bool (decide ((0:Int)<=((⟨ai,bi,DI ts ai bi k,DI ts bi ai k⟩:E4).l))))),(62,(Value.bool (decide ((0:Int)<=((⟨ai,bi,DI ts ai bi k,DI ts bi ai k⟩:E4).l))))),(66,(Value.bool ((decide ((0:Int)<=((⟨ai,bi,DI ts ai bi k,DI ts bi ai k⟩:E4).l)))||(decide ((0:Int)<=((⟨ai,bi,DI ts ai bi k,DI ts bi ai k⟩:E4).r))))))]) (LM:=[Ag b2 92 (Bo (⟨ai,bi,DI ts ai bi k,DI ts bi ai k⟩:E4)),rowW p2 92 4 oq.length c2 (rowsL Bo oq),Ag b1 38 (F1 x),AQ x.a.p (x.cs),AQ x.b.p (rowsL Ai ts),AQ x.c.p (rowsL Ai ss)]) 4 ?_ ?_
    ·rcases Bool.eq_false_or_eq_true (decide ((0:Int)<=((⟨ai,bi,DI ts ai bi k,DI ts bi ai k⟩:E4).l))) with hg1|hg1
     ·skip
      refine AE.retell (k:=62) (u:=Value.bool true) O (by rw [hg1]) ?_
      have hg1':=hg1
      replace hg1':=of_decide_eq_true hg1'
      exact AE.skip (AJ O) O (AT O) (AE.skip (AJ O) O (AT O) (AE.skip (AJ O) O (AT O) (AH (v:=(Value.bool true)) (Ac O O) O (AE.nil (AC.mid (sS O (sS O (sS O (sS O (sS O (sS O (sS O (sS O (sS O (sS O (sS (by first|rfl|(rw [hg1];rfl)|rw [hg1]) (sS (by first|rfl|(rw [hg1];rfl)|rw [hg1]) (sN))))))))))))) (List.Sublist.refl _))))))
     ·skip
      refine AE.retell (k:=62) (u:=Value.bool false) O (by rw [hg1]) ?_
      have hg1':=hg1
      replace hg1':=of_decide_eq_false hg1'
      exact AE.step (v:=(pP b2 3)) (AB O) (AA O underlying92 O sizeOf3 O) O (AT O) (AE.step (v:=(vI ((⟨ai,bi,DI ts ai bi k,DI ts bi ai k⟩:E4).r))) (AB O) (AK (i:=0) (v:=(vI ((⟨ai,bi,DI ts ai bi k,DI ts bi ai k⟩:E4).r))) O O Bj.a O) O (AT O) (AE.step (v:=(Value.bool (decide ((0:Int)<=((⟨ai,bi,DI ts ai bi k,DI ts bi ai k⟩:E4).r))))) (AB O) (CU (c:=(decide ((0:Int)<=((⟨ai,bi,DI ts ai bi k,DI ts bi ai k⟩:E4).r)))) O O O) O (AT O) (AH (v:=(Value.bool (decide ((0:Int)<=((⟨ai,bi,DI ts ai bi k,DI ts bi ai k⟩:E4).r))))) (AP O O) O (AE.nil (AC.mid (sS O (sS O (sS O (sS O (sS O (sS O (sS O (sS O (sS O (sS O (sS (by first|rfl|(rw [hg1];rfl)|rw [hg1]) (sS (by first|rfl|(rw [hg1];rfl)|rw [hg1]) (sN))))))))))))) (List.Sublist.refl _))))))
    refine AE.nil (AC.subF (sL [1,2,4,5,3,6,7,66] O) (AC.then_ ?_))
    refine AF.cond O (λhc6=>?_) (λhc6=>?_)
    ·simp only [Bool.and_eq_true,Bool.or_eq_true,Bool.and_eq_false_iff,Bool.or_eq_false_iff,Bool.not_eq_true',Bool.not_eq_false',decide_eq_true_eq,decide_eq_false_iff_not] at hc6
     refine AF.region (AM O (BD 0 dN O (AE.openV (V:=λb3=>(Value.slice (some ⟨b3,0,none⟩) 1 1)) (T:=92) (cs:=Bo (⟨ai,bi,DI ts ai bi k,DI ts bi ai k⟩:E4)) (AS O) (Av (z:=.agg (Bo (⟨0,0,0,0⟩:E4)).toArray) (cs:=Bo (⟨ai,bi,DI ts ai bi k,DI ts bi ai k⟩:E4)) (pv:=[(0,(aG (Bo (⟨ai,bi,DI ts ai bi k,DI ts bi ai k⟩:E4))))]) underlying89 sizeOf92 zeroValue92 (by decide) (by decide) O (Ko (⟨ai,bi,DI ts ai bi k,DI ts bi ai k⟩:E4))) O (AT O) λb3=>AE.append2 (j:=0) (cs2:=rowsL Bo (oq++[(⟨ai,bi,DI ts ai bi k,DI ts bi ai k⟩:E4)])) dB O h2 (Ak Bw _) O O O O (by decide) (Hx Z) Z (by rw [BP];rfl) O λp_1 c_1 ho_1 hne_1=>asg' O ?_)))
     refine AE.nil (AC.subF (sL [1,2,4,5,3,6,7] O) (AC.in_normal (AC.then_ (AF.region (AM O ?_)))))
     refine AH (AW (c:=((bi+1:Nat):Int)) O O (AU (a:=bi) (b:=1) Z)) O (asg' O (AE.nil (AC.subF (sL [1,2,4,5,3,6,7] O) ?_)))
     rw [show oq.length+1=(oq++[(⟨ai,bi,DI ts ai bi k,DI ts bi ai k⟩:E4)]).length by simp]
     exact AC.round4 (bi+1) p_1 c_1 (oq++[(⟨ai,bi,DI ts ai bi k,DI ts bi ai k⟩:E4)]) (⟨Z,Z,(by simpa using ho_1),by rw [List.length_append];simp only [List.length_singleton];omega,(by rw [hsq,List.append_assoc];congr 1;rw [hfe];exact (Tp Z (by rw [<-hfe];exact hc6)).symm)⟩) Z (sF O) (sl (sl sr))
    ·simp only [Bool.and_eq_true,Bool.or_eq_true,Bool.and_eq_false_iff,Bool.or_eq_false_iff,Bool.not_eq_true',Bool.not_eq_false',decide_eq_true_eq,decide_eq_false_iff_not] at hc6
     refine AF.skip (AC.in_normal (AC.then_ (AF.region (AM O (AH (AW (c:=((bi+1:Nat):Int)) O O (AU (a:=bi) (b:=1) Z)) O ?_)))))
     exact asg' O (AE.nil (AC.subF (sL [1,2,4,5,3,6,7] O) (AC.round4 (bi+1) p2 c2 oq (⟨Z,Z,h2,Z,(by rw [hsq];congr 1;exact (XC Z (by rw [<-hfe];dsimp only;omega)).symm)⟩) Z (sF O) (sl sr))))
  ·replace hc2:=of_decide_eq_false hc2
   have hbn:bi=N:=by omega
   refine AF.exit (AC.then_exit (AC.round4_exit (AC.in_exit (AC.in_normal (AC.then_ ?_)))))
   exact AF.region (AM O (AH (AW (c:=((ai+1:Nat):Int)) O O (AU (a:=ai) (b:=1) Z)) O (asg' O (AE.nil (AC.subF (sL [1,2,4,5,3] O) (AC.round4 (ai+1) p2 c2 oq (⟨Z,h2,Z,by rw [hsq,show bi=N by omega];rfl⟩) Z (sF O) sr))))))
 ·replace hc1:=of_decide_eq_false hc1
  refine AF.exit (AC.then_exit (AC.round4_exit (AC.in_exit (q2 (AM O ?_)))))
  exact asg' O (AE.nil (AC.subF (sL [1,2,4,3] O) (AC.then_ (AF.ret (AI O (AY (v:=(Value.slice p1 ou.length c1)) O) (λw hw=>(by rw [show BV ts=ou by rw [hou,show ai=N by omega];exact (Zx hnb Z).symm];exact YS hw 0 O h1 (Ak Bw _) O)))))))
end
end Go.Proofs.YtpgncndhhhllfaaGreatDoor
