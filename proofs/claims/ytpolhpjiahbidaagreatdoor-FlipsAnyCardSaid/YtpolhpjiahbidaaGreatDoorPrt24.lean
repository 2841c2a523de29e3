import Derived.Test.YtpolhpjiahbidaaGreatDoorPrt23
namespace Go.Proofs.YtpolhpjiahbidaaGreatDoor
open Go Go.RowKit Go.Proofs.Tryz
open Go.Value renaming slice→qz,bool→qa
set_option linter.unusedVariables false
set_option linter.unusedSimpArgs false
section
set_option maxRecDepth 100000
theorem Lz (x0:E4):Instr.fill (λi=>some (i*4,4)) ((Array.range (1*4)).map ((Value.agg (Ba jA).toArray).cells[·%(Value.agg (Ba jA).toArray).cells.size]!)) [(0,.agg (Ba x0).toArray)]=some (Ba x0).toArray:=by kernel_rfl
set_option maxHeartbeats 2000000 in
theorem Hm {N:Nat} {ts ss:List T3} (x:RM N ts ss) (hnb:Bn N ts=true) (hl:ts.length<=1000000) (hN:N<=4096) (w:World) {S:Nat->Prop} (hx:Ro S w x):Calls prog 46 #[(aG (GC x))] w (Ai (RX (rowsL Ba (BI ts)) (BI ts).length) S w):=by
 have lx:=Bq (W:=w) hx
 refine AR (args:=[(aG (GC x))]) (L:=[AC x.a.p (x.cs),AC x.b.p (rowsL Am ts),AC x.c.p (x.ds)]) func46 O O (leB O) (C7 hx Ae) (zM (sL [0] O) (q4 (BG (cs:=GC x) O λb1=>asg' O (q3 (sL [1,2] O) (asg' O (zx 50 4 (oNl' (q1 (q4 (An 1 C1 O ?_))))))))))
 refine Bx call45 (λw hw=>Zb x hnb hl Z w (inS hw 2 O lx)) O (st' (BB (c:=false) O O) O (oNl' (zF (sL [1,2,3,10] O) (zC (zX O (zJ (q1 (q4 (asg' O (oNl' (zF (sL [1,2,3,4] O) ?_)))))))))))
 refine zC (zN ?_)
 refine yb (tg λ(ai:Nat) (p1:Option Addr) (c1:Nat) (ou:List E4)=>ai<=N/\OwnOk p1 ou.length c1/\ou.length<=ai*4096/\ou=bD ts N ai) (tg λ(ai:Nat) (p1:Option Addr) (c1:Nat) (ou:List E4)=>[(1,(pP b1 0)),(2,jj),(4,(vN ai)),(3,(qz p1 ou.length c1))]) (tg λ(ai:Nat) (p1:Option Addr) (c1:Nat) (ou:List E4)=>[rowW p1 50 4 ou.length c1 (rowsL Ba ou),AU b1 39 (GC x),AC x.a.p (x.cs),AC x.b.p (rowsL Am ts),AC x.c.p (x.ds)]) (tg λ(ai:Nat) (p1:Option Addr) (c1:Nat) (ou:List E4)=>N-ai) 0 none 0 ([]:List E4) (⟨xu _,OwnOk.none,by simp,rfl⟩) (sF O) sr (λai p1 c1 ou hJ=>?_)
 obtain ⟨hai,h1,hln,hou⟩:=hJ
 refine zf (q4 (AJ O (st' (v:=(pP b1 0)) (AA O underlying39 O sizeOf36 O) O (A_ 1 (qz x.a.p N x.a.c) Fm O (st' (v:=(vN N)) (AD O underlying36) O (st' (AW (c:=(decide (ai<N))) O O (B_ (a:=ai) (b:=N))) O (oNl' (zF (sL [1,2,4,3,16] O) (zC ?_)))))))))
 refine zO O (λhc1=>?_) (λhc1=>?_)
 ·replace hc1:=xR hc1
  refine zJ (q1 (zN (q4 (AJ O (st' (AV (c:=((ai+1:Nat):Int)) O O (AY (a:=ai) (b:=1) Z)) O (asg' O (oNl' (zF (sL [1,2,4,3,5] O) (zC (zN ?_))))))))))
  refine yb (tg λ(bi:Nat) (p2:Option Addr) (c2:Nat) (oq:List E4)=>bi<=N/\ai+1<=bi/\OwnOk p2 oq.length c2/\oq.length<=ai*4096+(bi-(ai+1))/\oq=bD ts N ai++Iu ts ai (bi-(ai+1))) (tg λ(bi:Nat) (p2:Option Addr) (c2:Nat) (oq:List E4)=>[(1,(pP b1 0)),(2,jj),(4,(vN ai)),(5,(vN bi)),(3,(qz p2 oq.length c2))]) (tg λ(bi:Nat) (p2:Option Addr) (c2:Nat) (oq:List E4)=>[rowW p2 50 4 oq.length c2 (rowsL Ba oq),AU b1 39 (GC x),AC x.a.p (x.cs),AC x.b.p (rowsL Am ts),AC x.c.p (x.ds)]) (tg λ(bi:Nat) (p2:Option Addr) (c2:Nat) (oq:List E4)=>N-bi) (ai+1) p1 c1 ou (⟨Z,Nat.le_refl _,h1,Z,by rw [hou,Nat.sub_self];exact (List.append_nil _).symm⟩) (sF O) sr (λbi p2 c2 oq hJ=>?_)
  obtain ⟨hbi,hba,h2,hlq,hsq⟩:=hJ
  refine zf (q4 (AJ O (st' (v:=(pP b1 0)) (AA O underlying39 O sizeOf36 O) O (A_ 1 (qz x.a.p N x.a.c) Fm O (st' (v:=(vN N)) (AD O underlying36) O (st' (AW (c:=(decide (bi<N))) O O (B_ (a:=bi) (b:=N))) O (oNl' (zF (sL [1,2,4,5,3,25] O) (zC ?_)))))))))
  refine zO O (λhc2=>?_) (λhc2=>?_)
  ·replace hc2:=xR hc2
   refine zJ (q1 (zN (q4 (AJ O (AJ O (st' (v:=(aG ([(vN ai),(vN bi),(vI (-1:Int)),(vI (-1:Int))]))) (AO (zs:=Ba jA) (vs:=[(vN ai),(vN bi),(vI (-1:Int)),(vI (-1:Int))]) (pv:=[(0,(vN ai)),(1,(vN bi)),(2,(vI (-1:Int))),(3,(vI (-1:Int)))]) (places:=[(0,1),(1,1),(2,1),(3,1)]) zeroValue50 underlying50 (λw=>by simp [sizeOf3]) O O) O (al cj O λb2=>Aj O sizeOf50 O (q6 (sL [1,2,4,5,3,6] O) (q4 (st' (v:=(pP b1 1)) (AA O underlying39 O sizeOf23 O) O ?_))))))))))
   refine A_ 2 (qz x.b.p ts.length x.b.c) CQ O (st' (v:=(vN ts.length)) (AD O underlying23) O (st' (Bc (c:=(((ts.length:Nat):Int)-1-((0:Nat):Int))) O O (by rw [BZ Z Z];omega)) O (asg' O (oNl' (zF (sL [1,2,4,5,3,6,7] O) (zC (zN ?_)))))))
   refine zw (tg λ(k:Nat)=>k<=ts.length) (tg λ(k:Nat)=>[(1,(pP b1 0)),(2,jj),(4,(vN ai)),(5,(vN bi)),(3,(qz p2 oq.length c2)),(6,(pP b2 0)),(7,(vI (((ts.length:Nat):Int)-1-((k:Nat):Int))))]) (tg λ(k:Nat)=>[AU b2 50 (Ba (⟨ai,bi,DQ ts ai bi k,DQ ts bi ai k⟩:E4)),rowW p2 50 4 oq.length c2 (rowsL Ba oq),AU b1 39 (GC x),AC x.a.p (x.cs),AC x.b.p (rowsL Am ts),AC x.c.p (x.ds)]) (tg λ(k:Nat)=>ts.length-k) 0 (xu _) (sF O) sr (λk hJ=>?_)
   have hk:=hJ
   refine zf (q4 (AJ O (st' (CU (c:=(decide ((0:Int)<=(((ts.length:Nat):Int)-1-((k:Nat):Int))))) O O O) O (oNl' (zF (sL [1,2,4,5,3,6,7,36] O) (zC ?_))))))
   refine zO O (λhc3=>?_) (λhc3=>?_)
   ·replace hc3:=xR hc3
    obtain ⟨u,hu⟩:∃u,u=ts.length-1-k:=⟨_,rfl⟩
    have hkl:k<ts.length:=by omega
    refine yT (k:=7) (u:=(vN u)) O (by show Value.int _ _=Value.int _ _;congr 1;omega) (zJ (q1 (zN (zf (q4 (st' (v:=(pP b1 1)) (AA O underlying39 O sizeOf23 O) O (A_ 2 (qz x.b.p ts.length x.b.c) CQ O (AJ O (st' (v:=(pP (pB x.b.p) (pO x.b.p+u*3))) (AF (j:=u) O O x.b.ok underlying23 sizeOf105 O Z) O (st' (v:=(aG (Am (ts.getD u jJ)))) (AH (vs:=Am (ts.getD u jJ)) (i:=4) O O (Ao.ne x.b.ok Z) CY (AZ A8 _ _ _ Z) (A8 _)) O (AJ O ?_)))))))))))
    refine AJ O (ck' call111 (Sn (ts.getD u jJ) ai bi) O (oNl' (zF (sL [1,2,4,5,3,6,7,46] O) (zC ?_))))
    refine yQ (tg λ(l1:Int)=>l1=DQ ts ai bi (k+1)) (tg λ(l1:Int)=>[(1,(pP b1 0)),(2,jj),(4,(vN ai)),(5,(vN bi)),(3,(qz p2 oq.length c2)),(6,(pP b2 0)),(7,(vN u))]) (tg λ(l1:Int)=>[AU b2 50 (Ba (⟨ai,bi,l1,DQ ts bi ai k⟩:E4)),rowW p2 50 4 oq.length c2 (rowsL Ba oq),AU b1 39 (GC x),AC x.a.p (x.cs),AC x.b.p (rowsL Am ts),AC x.c.p (x.ds)]) ?_ ?_
    ·refine zO O (λhc4=>?_) (λhc4=>?_)
     ·exact zQ (AJ O (st' (v:=(pP b2 2)) (AA O underlying50 O sizeOf3 O) O (Ei 0 (off:=2) (vs:=[(vN u)]) (cs':=[(vN ((⟨ai,bi,DQ ts ai bi k,DQ ts bi ai k⟩:E4).a)),(vN ((⟨ai,bi,DQ ts ai bi k,DQ ts bi ai k⟩:E4).b)),(vN u),(vI ((⟨ai,bi,DQ ts ai bi k,DQ ts bi ai k⟩:E4).r))]) (AM O) O sizeOf3 O (oNl' (zF (sL [1,2,4,5,3,6,7] O) (zo ((u:Nat):Int) ((by rw [SY (by rw [<-hu];exact hc4),hu])) (sF O) sr))))))
     ·exact zJ (zo ((⟨ai,bi,DQ ts ai bi k,DQ ts bi ai k⟩:E4).l) ((WV (by rw [<-hu];exact λh9=>Bool.false_ne_true (hc4.symm.trans h9))).symm) (sF O) sr)
    ·intro l1 hJ
     have hl1:=hJ
     refine q2 (st' (v:=(pP b1 1)) (AA O underlying39 O sizeOf23 O) O (A_ 2 (qz x.b.p ts.length x.b.c) CQ O (AJ O (st' (v:=(pP (pB x.b.p) (pO x.b.p+u*3))) (AF (j:=u) O O x.b.ok underlying23 sizeOf105 O Z) O (st' (v:=(aG (Am (ts.getD u jJ)))) (AH (vs:=Am (ts.getD u jJ)) (i:=4) O O (Ao.ne x.b.ok Z) CY (AZ A8 _ _ _ Z) (A8 _)) O (AJ O (AJ O (ck' call111 (Sn (ts.getD u jJ) bi ai) O (oNl' (zF (sL [1,2,4,5,3,6,7,56] O) (zC ?_)))))))))))
     refine yQ (tg λ(r1:Int)=>r1=DQ ts bi ai (k+1)) (tg λ(r1:Int)=>[(1,(pP b1 0)),(2,jj),(4,(vN ai)),(5,(vN bi)),(3,(qz p2 oq.length c2)),(6,(pP b2 0)),(7,(vN u))]) (tg λ(r1:Int)=>[AU b2 50 (Ba (⟨ai,bi,l1,r1⟩:E4)),rowW p2 50 4 oq.length c2 (rowsL Ba oq),AU b1 39 (GC x),AC x.a.p (x.cs),AC x.b.p (rowsL Am ts),AC x.c.p (x.ds)]) ?_ ?_
     ·refine zO O (λhc5=>?_) (λhc5=>?_)
      ·exact zQ (AJ O (st' (v:=(pP b2 3)) (AA O underlying50 O sizeOf3 O) O (Ei 0 (off:=3) (vs:=[(vN u)]) (cs':=[(vN ((⟨ai,bi,l1,DQ ts bi ai k⟩:E4).a)),(vN ((⟨ai,bi,l1,DQ ts bi ai k⟩:E4).b)),(vI ((⟨ai,bi,l1,DQ ts bi ai k⟩:E4).l)),(vN u)]) (AM O) O sizeOf3 O (oNl' (zF (sL [1,2,4,5,3,6,7] O) (zo ((u:Nat):Int) ((by rw [SY (by rw [<-hu];exact hc5),hu])) (sF O) sr))))))
      ·exact zJ (zo ((⟨ai,bi,l1,DQ ts bi ai k⟩:E4).r) ((WV (by rw [<-hu];exact λh9=>Bool.false_ne_true (hc5.symm.trans h9))).symm) (sF O) sr)
     ·intro r1 hJ
      have hr1:=hJ
      refine zP (zC (zQ (AJ O (st' (Bc (c:=(((ts.length:Nat):Int)-1-((k+1:Nat):Int))) O O (by rw [BZ Z Z];omega)) O (asg' O (oNl' (zF (sL [1,2,4,5,3,6,7] O) ?_)))))))
      rw [show l1=DQ ts ai bi (k+1) from hl1,show r1=DQ ts bi ai (k+1) from hr1]
      exact zm (k+1) Z Z (sF O) sr
   ·replace hc3:=xQ hc3
    have hfe:(⟨ai,bi,DQ ts ai bi k,DQ ts bi ai k⟩:E4)=Uk ts ai bi:=bM Z
    refine zY (zR (zh (zV (q2 (st' (v:=(pP b2 2)) (AA O underlying50 O sizeOf3 O) O (A_ 0 (vI ((⟨ai,bi,DQ ts ai bi k,DQ ts bi ai k⟩:E4).l)) BN O (st' (CU (c:=(decide ((0:Int)<=((⟨ai,bi,DQ ts ai bi k,DQ ts bi ai k⟩:E4).l)))) O O O) O (AJ O ?_))))))))
    refine zg (FM:=[(1,(pP b1 0)),(2,jj),(4,(vN ai)),(5,(vN bi)),(3,(qz p2 oq.length c2)),(6,(pP b2 0)),(7,(vI (((ts.length:Nat):Int)-1-((k:Nat):Int)))),(59,(pP b2 2)),(60,(vI ((⟨ai,bi,DQ ts ai bi k,DQ ts bi ai k⟩:E4).l))),(61,(qa (decide ((0:Int)<=((⟨ai,bi,DQ ts ai bi k,DQ ts bi ai k⟩:E4).l))))),(62,(qa (decide ((0:Int)<=((⟨ai,bi,DQ ts ai bi k,DQ ts bi ai k⟩:E4).l))))),(66,(qa ((decide ((0:Int)<=((⟨ai,bi,DQ ts ai bi k,DQ ts bi ai k⟩:E4).l)))||(decide ((0:Int)<=((⟨ai,bi,DQ ts ai bi k,DQ ts bi ai k⟩:E4).r))))))]) (LM:=[AU b2 50 (Ba (⟨ai,bi,DQ ts ai bi k,DQ ts bi ai k⟩:E4)),rowW p2 50 4 oq.length c2 (rowsL Ba oq),AU b1 39 (GC x),AC x.a.p (x.cs),AC x.b.p (rowsL Am ts),AC x.c.p (x.ds)]) 4 ?_ ?_
    ·rcases xO (decide ((0:Int)<=((⟨ai,bi,DQ ts ai bi k,DQ ts bi ai k⟩:E4).l))) with hg1|hg1
     ·refine zK (k:=62) (u:=qa true) O (by rw [hg1]) ?_
      have hg1':=xR hg1
      exact Aw O (Aw O (Aw O (st' (v:=(qa true)) (ex_pick_true O O) O (oNl' (zS Bi (xP _))))))
     ·refine zK (k:=62) (u:=qa false) O (by rw [hg1]) ?_
      have hg1':=xQ hg1
      exact Au (v:=(pP b2 3)) O (AA O underlying50 O sizeOf3 O) (Au (v:=(vI ((⟨ai,bi,DQ ts ai bi k,DQ ts bi ai k⟩:E4).r))) O (AE (i:=0) (v:=(vI ((⟨ai,bi,DQ ts ai bi k,DQ ts bi ai k⟩:E4).r))) O O BN.a O) (Au (v:=(qa (decide ((0:Int)<=((⟨ai,bi,DQ ts ai bi k,DQ ts bi ai k⟩:E4).r))))) O (CU (c:=(decide ((0:Int)<=((⟨ai,bi,DQ ts ai bi k,DQ ts bi ai k⟩:E4).r)))) O O O) (st' (v:=(qa (decide ((0:Int)<=((⟨ai,bi,DQ ts ai bi k,DQ ts bi ai k⟩:E4).r))))) (AI O O) O (oNl' (zS Bi (xP _))))))
    refine oNl' (zF (sL [1,2,4,5,3,6,7,66] O) (zC ?_))
    refine zO O (λhc6=>?_) (λhc6=>?_)
    ·simp only [jK] at hc6
     refine zQ (AJ O (An 0 Zr O (zn (V:=λb3=>(qz (jk b3) 1 1)) (T:=50) (cs:=Ba (⟨ai,bi,DQ ts ai bi k,DQ ts bi ai k⟩:E4)) (AM O) (BH (z:=.agg (Ba jA).toArray) (cs:=Ba (⟨ai,bi,DQ ts ai bi k,DQ ts bi ai k⟩:E4)) (pv:=[(0,(aG (Ba (⟨ai,bi,DQ ts ai bi k,DQ ts bi ai k⟩:E4))))]) underlying47 sizeOf50 zeroValue50 jY jY O (Lz (⟨ai,bi,DQ ts ai bi k,DQ ts bi ai k⟩:E4))) O (leB O) λb3=>AQ.append2 (j:=0) (cs2:=rowsL Ba (oq++[(⟨ai,bi,DQ ts ai bi k,DQ ts bi ai k⟩:E4)])) eS O h2 (Al B6 _) O O O O jY (KU Z) Z (by rw [DE];rfl) O λp_1 c_1 ho_1 hne_1=>asg' O (oNl' (zF (sL [1,2,4,5,3,6,7] O) (zP (zC (zQ (AJ O ?_)))))))))
     refine st' (AV (c:=((bi+1:Nat):Int)) O O (AY (a:=bi) (b:=1) Z)) O (asg' O (oNl' (zF (sL [1,2,4,5,3,6,7] O) ?_)))
     rw [show oq.length+1=(oq++[(⟨ai,bi,DQ ts ai bi k,DQ ts bi ai k⟩:E4)]).length by simp]
     exact yO (bi+1) p_1 c_1 (oq++[(⟨ai,bi,DQ ts ai bi k,DQ ts bi ai k⟩:E4)]) (⟨Z,Z,(by simpa using ho_1),by rw [xw];simp only [List.length_singleton];omega,(by rw [hsq,List.append_assoc];congr 1;rw [hfe];exact (XM Z (by rw [<-hfe];exact hc6)).symm)⟩) Z (sF O) (sl (sl sr))
    ·simp only [jK] at hc6
     exact zJ (zP (zC (zQ (AJ O (st' (AV (c:=((bi+1:Nat):Int)) O O (AY (a:=bi) (b:=1) Z)) O (asg' O (oNl' (zF (sL [1,2,4,5,3,6,7] O) (yO (bi+1) p2 c2 oq (⟨Z,Z,h2,Z,(by rw [hsq];congr 1;exact (Zk Z (by rw [<-hfe];dsimp only;omega)).symm)⟩) Z (sF O) (sl sr))))))))))
  ·replace hc2:=xQ hc2
   have hbn:bi=N:=by omega
   exact zY (zR (yK (zV (zP (zC (zQ (AJ O (st' (AV (c:=((ai+1:Nat):Int)) O O (AY (a:=ai) (b:=1) Z)) O (asg' O (oNl' (zF (sL [1,2,4,5,3] O) (yO (ai+1) p2 c2 oq (⟨Z,h2,Z,by rw [hsq,show bi=N by omega];rfl⟩) Z (sF O) sr))))))))))))
 ·replace hc1:=xQ hc1
  exact zY (zR (yK (zV (q2 (AJ O (asg' O (oNl' (zF (sL [1,2,4,3] O) (zC (zH (ret_one O (rd_tmp (v:=(qz p1 ou.length c1)) O) (λw hw=>(by rw [show BI ts=ou by rw [hou,show ai=N by omega];exact (bE hnb Z).symm];exact fu hw 0 O h1 (Al B6 _) O)))))))))))))
end
section
set_option maxRecDepth 100000
end
section
section
variable {P:Program} {ops:Array Oper} {rest:List Oper} {Q:Exit->Act->World->Prop} {n:Nat} {F:List (Nat×Value)} {w0:BA} {L:List As} {d:Option Tmp} {op:Op} {t:TypeId} {p:String} {af:Array Edge} {g:Nat×Bool}
theorem y7 (hw:Wt ops n F ⟨d,op,t,p,af,some g⟩) (next:AQ P ops (⟨d,op,t,p,af,none⟩::rest) Q n F w0 L):AQ P ops (⟨d,op,t,p,af,some g⟩::rest) Q n F w0 L:=λa w ha hW=>by
  have h:=next a w ha hW
  unfold wpList at h ⊢
  rw [if_pos (hw a ha)]
  rw [if_pos (AM rfl a ha)] at h
  exact h
end
end
section
set_option maxRecDepth 100000
theorem IS {ps:List Pt} {ts:List T3} {ss:List Z3} (x:MN ps ts ss) (hp:ps.length<=1000000000) (ht:ts.length<=1000000000) (hs:ss.length<=1000000000) (w:World) {S:Nat->Prop} (hx:Ro S w x):Calls prog 35 #[(aG (Ca x))] w (DC (λa:aB ps ts ss=>aG (c9 a)) c_ S w):=by
 obtain ⟨y,hy,hro⟩:=PY x
 have k:=Ut y hp (by rw [xv];exact ht) hs w (hro hx)
 rw [hy] at k
 exact k.mono λe w' h=>h.toCpN
theorem W8 {ps:List Pt} {zt ss:List Z3} (x:Hy ps zt ss) (hp:x.rs.length<=1000000) (hl:zt.length<=1000000) (hs:ss.length<=1000000) (w:World) {S:Nat->Prop} (hx:Ro S w x):Calls prog 73 #[(aG (HN x))] w (DC (λa:dE x.rs zt ss=>aG (gT a)) gU S w):=by
 have lx:=Bq (W:=w) hx
 refine AR (args:=[(aG (HN x))]) (L:=(AC x.a.p (rowsL CW x.rs)::AC x.b.p (rowsL Af zt)::AC x.c.p (rowsL Af ss)::B5 x.rs)) func73 O O (leB O) (Xk hx) (zM (sL [0] O) (q4 (BG (cs:=HN x) O λb1=>al OJ O λb2=>q6 (sL [1,2] O) (CE [(0,true),(1,true),(3,true),(4,true),(6,true),(7,true),(2,false),(5,false),(8,false),(9,true),(10,false)] (sl sr) (Ag (v:=(pP b1 0)) O (AA O underlying39 O sizeOf36 O) (BC 0 (qz x.a.p x.rs.length x.a.c) Fm O (Ag (v:=(pP b1 1)) O (AA O underlying39 O sizeOf23 O) (BC 0 (qz x.b.p zt.length x.b.c) CQ O (Ag (v:=(pP b1 2)) O (AA O underlying39 O sizeOf37 O) ?_)))))))))
 refine BC 0 (qz x.c.p ss.length x.c.c) OI O (zL O (zx 121 6 (yL eP O OwnOk.none O (Ma (k:=3) O x.a.ok) (Al Bd _) (DJ Zm _) (KU Z) Z O λpps cps ops=>zG (sl (sl sr)) (zL O (zx 105 3 (yL Zs O OwnOk.none O (Ma (k:=5) O x.b.ok) (Al BF _) (DJ Gn _) (KU Z) Z O λptb ctb otb=>zG (sl (sl (sl sr))) (zL O (zx 119 3 (yL eQ O OwnOk.none O (Ma (k:=7) O x.c.ok) (Al BF _) (DJ Gn _) (KU Z) Z O λpsb csb osb=>?_)))))))))
 exact zG (sl (sl (sl (sl sr)))) (Ag (v:=(aG ([(qz pps x.rs.length cps),(qz ptb zt.length ctb),(qz psb ss.length csb)]))) O (AO (zs:=[jj,jj,jj]) (vs:=[(qz pps x.rs.length cps),(qz ptb zt.length ctb),(qz psb ss.length csb)]) (pv:=[(0,(qz pps x.rs.length cps)),(1,(qz ptb zt.length ctb)),(2,(qz psb ss.length csb))]) (places:=[(0,1),(1,1),(2,1)]) zeroValue39 underlying39 (λw=>by simp [sizeOf23,sizeOf36,sizeOf37]) O O) (zL O (Gt O sizeOf39 O (zG (sl (sl (sl (sl sr)))) (zT (zF (sL [2] O) (zC (zH (ret_one O (Ah (i:=3) (cs:=[(qz pps x.rs.length cps),(qz ptb zt.length ctb),(qz psb ss.length csb)]) O O isAgg39 sizeOf39 O) (λw hw=>(OE hw (dE.mk (OX.mk pps cps ops) (OX.mk ptb ctb otb) (OX.mk psb csb osb)) (sk (sk (sk (sl (sl (sl (sl (sl (List.nil_sublist _))))))))) (Ht.own O (Ht.own O (Ht.own O Ht.nil))) O)))))))))))
theorem T9 {ps:List Pt} {ts:List T3} {ss:List Z3} (x:I5 ps ts ss) (hp:x.rs.length<=1000000) (hl:ts.length<=1000000) (hs:ss.length<=1000000) (w:World) {S:Nat->Prop} (hx:Ro S w x):Calls prog 73 #[(aG (Dj x))] w (DC (λa:dD x.rs ts ss=>aG (fR a)) fS S w):=by
 obtain ⟨y,hy,hrs,hro⟩:=XL x
 have k:=W8 y (by rw [hrs];exact hp) (by rw [xv];exact hl) hs w (hro hx)
 rw [hy,hrs] at k
 exact k.mono λe w' h=>h.toCpQ
end
section
set_option maxRecDepth 100000
theorem Fb  :Instr.fill ([(0,1),(1,1),(2,1)].toArray[·]?) ([jj,jj,jj]).toArray []=some ([jj,jj,jj]).toArray:=by kernel_rfl
theorem Uu {ps:List Pt} {ts:List T3} {ss:List Z3} (x:MN ps ts ss) (u v:Int) (hnb:Bn ps.length ts=true) (htl:ts.length<=1000000) (hN:ps.length<=1000000) (hsl:ss.length<=1000000) (hno:FC ts u v<0) (w:World) {S:Nat->Prop} (hx:Ro S w x):Calls prog 28 #[(aG (Ca x)),(vI u),(vI v)] w (Ai (S7 [] [] [] 1) S w):=by
 have lx:=Bq (W:=w) hx
 refine AR (args:=[(aG (Ca x)),(vI u),(vI v)]) (L:=[AC x.a.p (rowsL Ad ps),AC x.b.p (rowsL Am ts),AC x.c.p (rowsL Af ss)]) func28 O O (leB O) (C7 hx Ae) (zM (sL [0,1,2] O) (q4 (BG (cs:=Ca x) O λb1=>al Hw O λb2=>asg' O (q3 (sL [1,2,3,6,7] O) (An 1 Bu O (AJ O (AJ O (Bx (args:=[(aG (Ca x)),(vI u),(vI v)]) (v:=(Value.tuple #[(aG (Ba (Dr ts u v))),(qa false)])) call79 (λw hw=>(by have h9:=IW x u v hnb htl hN w (inS hw 2 O lx);rw [xq (show ¬0<=FC ts u v by omega)] at h9;exact h9)) O (AJ O ?_)))))))))
 refine st' (AK (v:=(aG (Ba (Dr ts u v)))) O O) O (st' (AK (v:=(qa false)) O O) O (al Hx O λb3=>Aj O sizeOf49 O (asg' O (q6 (sL [3,6,7,8,9] O) (q4 (AJ O (st' (BB (c:=true) O O) O (oNl' (zF (sL [3,6,7,8,20] O) (zC ?_))))))))))
 exact zZ O (q4 (st' (v:=(aG ([jj,jj,jj]))) (AO (zs:=[jj,jj,jj]) (vs:=[jj,jj,jj]) (pv:=[]) (places:=[(0,1),(1,1),(2,1)]) zeroValue30 underlying30 (λw=>by simp [sizeOf23,sizeOf24,sizeOf28]) O (Fb )) O (CP O sizeOf30 O (asg' O (oNl' (zF (sL [3,6,7,8] O) (zC (zH (zI (BR O (Ah (i:=1) (cs:=[jj,jj,jj]) O O isAgg30 sizeOf30 O) (rd_tmp (v:=(vI 1)) O) (λw hw=>(OD hw 1 O))))))))))))
theorem Uv {ps:List Pt} {ts:List T3} {ss:List Z3} (x:MN ps ts ss) (u v:Int) (hnb:Bn ps.length ts=true) (htl:ts.length<=1000000) (hN:ps.length<=1000000) (hsl:ss.length<=1000000) (hed:0<=FC ts u v) (hbo:Cm (Dr ts u v)=false) (w:World) {S:Nat->Prop} (hx:Ro S w x):Calls prog 28 #[(aG (Ca x)),(vI u),(vI v)] w (Ai (S7 [] [] [] 7) S w):=by
 have lx:=Bq (W:=w) hx
 refine AR (args:=[(aG (Ca x)),(vI u),(vI v)]) (L:=[AC x.a.p (rowsL Ad ps),AC x.b.p (rowsL Am ts),AC x.c.p (rowsL Af ss)]) func28 O O (leB O) (C7 hx Ae) (zM (sL [0,1,2] O) (q4 (BG (cs:=Ca x) O λb1=>al Hw O λb2=>asg' O (q3 (sL [1,2,3,6,7] O) (An 1 Bu O (AJ O (AJ O (Bx (args:=[(aG (Ca x)),(vI u),(vI v)]) (v:=(Value.tuple #[(aG (Ba (Dr ts u v))),(qa true)])) call79 (λw hw=>(by have h9:=IW x u v hnb htl hN w (inS hw 2 O lx);rw [xr hed] at h9;exact h9)) O (AJ O ?_)))))))))
 refine st' (AK (v:=(aG (Ba (Dr ts u v)))) O O) O (st' (AK (v:=(qa true)) O O) O (al Hx O λb3=>Aj O sizeOf49 O (asg' O (q6 (sL [3,6,7,8,9] O) (q4 (AJ O (st' (BB (c:=false) O O) O (oNl' (zF (sL [3,6,7,8,20] O) (zC ?_))))))))))
 refine zX O (zJ (q2 (An 2 Bu O (yR (S:=S) (V:=λa:aB ps ts ss=>aG (c9 a)) (LW:=c_) (args:=[(aG (Ca x))]) call35 (λw hw=>IS x Z Z Z w (inS hw 3 O lx)) O λcp hcp=>Ei 5 (off:=0) (vs:=[(qz cp.a.p ps.length ps.length),(qz cp.b.p ts.length ts.length),(qz cp.c.p ss.length ss.length)]) (cs':=[(qz cp.a.p ps.length ps.length),(qz cp.b.p ts.length ts.length),(qz cp.c.p ss.length ss.length)]) (AM O) O sizeOf30 O (q6 (sL [3,6,7,8] O) (q4 (An 5 Bu O (yJ 2 O cp.a.ok (Al Az _) O O λhn_cp_a=>yJ 0 O cp.c.ok (Al BF _) O O λhn_cp_c=>An 3 IN O ?_))))))))
 refine Bx (args:=[(aG ([(qz cp.a.p ps.length ps.length),(qz cp.b.p ts.length ts.length),(qz cp.c.p ss.length ss.length)])),(aG (Ba (Dr ts u v)))]) (v:=(Value.tuple #[(aG (Jp (CB ts (Dr ts u v)))),(qa false)])) call80 (λw hw=>(by have h9:=Le (⟨⟨cp.a.p,ps.length,cp.a.ok.clip⟩,⟨cp.b.p,ts.length,cp.b.ok.clip⟩,⟨cp.c.p,ss.length,cp.c.ok.clip⟩⟩:MN ps ts ss) (Dr ts u v) (Ga hed) hnb hN w (Wa (Pm (inS (S:=S) hw 2 O (At.new hn_cp_a))) (RN hw 1 O cp.b.ok (Al A8 _) cp.b.ok.clip) (Pm (inS (S:=S) hw 0 O (At.new hn_cp_c))));rw [hbo] at h9;exact h9)) O (AJ O (st' (AK (v:=(aG (Jp (CB ts (Dr ts u v))))) O O) O (st' (AK (v:=(qa false)) O O) O (al Lt O λb4=>Aj O sizeOf157 O (asg' O (q3 (sL [3,6,7,8,10,11] O) (AJ O (st' (BB (c:=true) O O) O (AJ O (Aw O ?_))))))))))
 refine Aw O (Aw O (Aw O (st' (v:=(qa true)) (ex_pick_true O O) O (oNl' (zF (sL [3,6,7,8,10,37] O) (zC (zZ O (q4 (st' (v:=(aG ([jj,jj,jj]))) (AO (zs:=[jj,jj,jj]) (vs:=[jj,jj,jj]) (pv:=[]) (places:=[(0,1),(1,1),(2,1)]) zeroValue30 underlying30 (λw=>by simp [sizeOf23,sizeOf24,sizeOf28]) O (Fb )) O (Ei 5 (off:=0) (vs:=[jj,jj,jj]) (cs':=[jj,jj,jj]) (AM O) O sizeOf30 O (asg' O ?_)))))))))))
 exact oNl' (zF (sL [3,6,7,8,10] O) (zC (zH (zI (BR O (Ah (i:=5) (cs:=[jj,jj,jj]) O O isAgg30 sizeOf30 O) (rd_tmp (v:=(vI 7)) O) (λw hw=>(OD hw 7 O)))))))
theorem Uw {ps:List Pt} {ts:List T3} {ss:List Z3} (x:MN ps ts ss) (u v:Int) (hnb:Bn ps.length ts=true) (htl:ts.length<=1000000) (hN:ps.length<=1000000) (hsl:ss.length<=1000000) (hz:∀i,BV (BQ ps i)<=200000) (hed:0<=FC ts u v) (a b p q c d:Nat) (h2:Uf ps.length ts (Dr ts u v) p q c d) (hE:Dr ts u v=⟨a,b,(p:Int),(q:Int)⟩) (hB:F_ ps a b c d=false) (w:World) {S:Nat->Prop} (hx:Ro S w x):Calls prog 28 #[(aG (Ca x)),(vI u),(vI v)] w (Ai (S7 [] [] [] 7) S w):=by
 have h2a:a<ps.length:=by have h9:=h2.sc.a;rw [hE] at h9;exact h9
 have h2b:b<ps.length:=by have h9:=h2.sc.b;rw [hE] at h9;exact h9
 have h2c:=h2.sc.c
 have h2d:=h2.sd.c
 have lx:=Bq (W:=w) hx
 refine AR (args:=[(aG (Ca x)),(vI u),(vI v)]) (L:=[AC x.a.p (rowsL Ad ps),AC x.b.p (rowsL Am ts),AC x.c.p (rowsL Af ss)]) func28 O O (leB O) (C7 hx Ae) (zM (sL [0,1,2] O) (q4 (BG (cs:=Ca x) O λb1=>al Hw O λb2=>asg' O (q3 (sL [1,2,3,6,7] O) (An 1 Bu O (AJ O (AJ O (Bx (args:=[(aG (Ca x)),(vI u),(vI v)]) (v:=(Value.tuple #[(aG ([(vN a),(vN b),(vN p),(vN q)])),(qa true)])) call79 (λw hw=>(by have h9:=IW x u v hnb htl hN w (inS hw 2 O lx);rw [xr hed,hE] at h9;exact h9)) O (AJ O ?_)))))))))
 refine st' (AK (v:=(aG ([(vN a),(vN b),(vN p),(vN q)]))) O O) O (st' (AK (v:=(qa true)) O O) O (al Hx O λb3=>Aj O sizeOf49 O (asg' O (q6 (sL [3,6,7,8,9] O) (q4 (AJ O (st' (BB (c:=false) O O) O (oNl' (zF (sL [3,6,7,8,20] O) (zC ?_))))))))))
 refine zX O (zJ (q2 (An 2 Bu O (yR (S:=S) (V:=λa:aB ps ts ss=>aG (c9 a)) (LW:=c_) (args:=[(aG (Ca x))]) call35 (λw hw=>IS x Z Z Z w (inS hw 3 O lx)) O λcp hcp=>Ei 5 (off:=0) (vs:=[(qz cp.a.p ps.length ps.length),(qz cp.b.p ts.length ts.length),(qz cp.c.p ss.length ss.length)]) (cs':=[(qz cp.a.p ps.length ps.length),(qz cp.b.p ts.length ts.length),(qz cp.c.p ss.length ss.length)]) (AM O) O sizeOf30 O (q6 (sL [3,6,7,8] O) (q4 (An 5 Bu O (yJ 2 O cp.a.ok (Al Az _) O O λhn_cp_a=>yJ 0 O cp.c.ok (Al BF _) O O λhn_cp_c=>An 3 IN O ?_))))))))
 refine Bx (args:=[(aG ([(qz cp.a.p ps.length ps.length),(qz cp.b.p ts.length ts.length),(qz cp.c.p ss.length ss.length)])),(aG ([(vN a),(vN b),(vN p),(vN q)]))]) (v:=(Value.tuple #[(aG ([(vN a),(vN b),(vN p),(vN q),(vN c),(vN d)])),(qa true)])) call80 (λw hw=>(by have h9:=Le (⟨⟨cp.a.p,ps.length,cp.a.ok.clip⟩,⟨cp.b.p,ts.length,cp.b.ok.clip⟩,⟨cp.c.p,ss.length,cp.c.ok.clip⟩⟩:MN ps ts ss) (Dr ts u v) (Ga hed) hnb hN w (Wa (Pm (inS (S:=S) hw 2 O (At.new hn_cp_a))) (RN hw 1 O cp.b.ok (Al A8 _) cp.b.ok.clip) (Pm (inS (S:=S) hw 0 O (At.new hn_cp_c))));rw [(C5 h2).1,(C5 h2).2,hE] at h9;exact h9)) O (AJ O (st' (AK (v:=(aG ([(vN a),(vN b),(vN p),(vN q),(vN c),(vN d)]))) O O) O (st' (AK (v:=(qa true)) O O) O (al Lt O λb4=>Aj O sizeOf157 O (asg' O (q3 (sL [3,6,7,8,10,11] O) (AJ O (st' (BB (c:=false) O O) O (AJ O (Au (v:=(aG ([(vN a),(vN b),(vN p),(vN q),(vN c),(vN d)]))) O (Ac (i:=0) (vs:=[(vN a),(vN b),(vN p),(vN q),(vN c),(vN d)]) O O HQ.a HQ.s O O) ?_))))))))))
 refine Au (v:=(aG ([(qz cp.a.p ps.length ps.length),(qz cp.b.p ts.length ts.length),(qz cp.c.p ss.length ss.length)]))) O (Ac (i:=6) (vs:=[(qz cp.a.p ps.length ps.length),(qz cp.b.p ts.length ts.length),(qz cp.c.p ss.length ss.length)]) O O Bu.a Bu.s O O) (yq (v:=qa false) (α:=Unit) (K:=λ_=>True) (LO:=λ_=>[AU b4 157 ([(vN a),(vN b),(vN p),(vN q),(vN c),(vN d)]),AC cp.c.p (rowsL Af ss),rowW cp.b.p 105 3 ts.length cp.b.c (rowsL Am ts),AC cp.a.p (rowsL Ad ps),AU b3 49 ([(vN a),(vN b),(vN p),(vN q)]),AU b2 30 ([jj,jj,jj]),AU b1 30 ([(qz cp.a.p ps.length ps.length),(qz cp.b.p ts.length ts.length),(qz cp.c.p ss.length ss.length)]),AC x.a.p (rowsL Ad ps),AC x.b.p (rowsL Am ts),AC x.c.p (rowsL Af ss)]) (AN O) (ER (args:=[(aG ([(vN a),(vN b),(vN p),(vN q),(vN c),(vN d)])),(aG ([(qz cp.a.p ps.length ps.length),(qz cp.b.p ts.length ts.length),(qz cp.c.p ss.length ss.length)]))]) (caps:=[]) (all:=[(aG ([(vN a),(vN b),(vN p),(vN q),(vN c),(vN d)])),(aG ([(qz cp.a.p ps.length ps.length),(qz cp.b.p ts.length ts.length),(qz cp.c.p ss.length ss.length)]))]) O O O call84) (Dc [2,3,0,1,4,5,6,7,8,9] (show List.Perm [2,3,0,1,4,5,6,7,8,9] (List.range 10) by decide) O) (λw hw=>(Nv ps ts a b p q c d h2a h2b h2c h2d h2.pl h2.ql hN htl hz cp.a.p cp.b.p cp.c.p ps.length cp.b.c ts.length ss.length ss.length cp.b.ok cp.b.ok.clip cp.a.ok.clip w (LR:=[AU b4 157 ([(vN a),(vN b),(vN p),(vN q),(vN c),(vN d)]),AC cp.c.p (rowsL Af ss),AU b3 49 ([(vN a),(vN b),(vN p),(vN q)]),AU b2 30 ([jj,jj,jj]),AU b1 30 ([(qz cp.a.p ps.length ps.length),(qz cp.b.p ts.length ts.length),(qz cp.c.p ss.length ss.length)]),AC x.a.p (rowsL Ad ps),AC x.b.p (rowsL Am ts),AC x.c.p (rowsL Af ss)]) hw).mono λe w' ⟨h1,t,h3,h4⟩=>(by rw [KO hB] at h4;exact ⟨by rw [h1,hB],t,h3,h4.perm (Dc [2,3,0,1,4,5,6,7,8,9] (show List.Perm [2,3,0,1,4,5,6,7,8,9] (List.range 10) by decide) O)⟩)) (λd hd=>by cases hd<;>exact (leB O)) λ_ _=>Au (v:=(qa true)) O (BB (c:=true) O O) (st' (v:=(qa true)) (AI O O) O (oNl' (zF (sL [3,6,7,8,10,37] O) (zC (zZ O (q4 (st' (v:=(aG ([jj,jj,jj]))) (AO (zs:=[jj,jj,jj]) (vs:=[jj,jj,jj]) (pv:=[]) (places:=[(0,1),(1,1),(2,1)]) zeroValue30 underlying30 (λw=>by simp [sizeOf23,sizeOf24,sizeOf28]) O (Fb )) O (Ei 5 (off:=0) (vs:=[jj,jj,jj]) (cs':=[jj,jj,jj]) (AM O) O sizeOf30 O (asg' O ?_))))))))))
 exact oNl' (zF (sL [3,6,7,8,10] O) (zC (zH (zI (BR O (Ah (i:=5) (cs:=[jj,jj,jj]) O O isAgg30 sizeOf30 O) (rd_tmp (v:=(vI 7)) O) (λw hw=>(OD hw 7 O)))))))
theorem Ux {ps:List Pt} {ts:List T3} {ss:List Z3} (x:MN ps ts ss) (u v:Int) (hnb:Bn ps.length ts=true) (htl:ts.length<=1000000) (hN:ps.length<=1000000) (hsl:ss.length<=1000000) (hz:∀i,BV (BQ ps i)<=200000) (hed:0<=FC ts u v) (a b p q c d:Nat) (h2:Uf ps.length ts (Dr ts u v) p q c d) (hE:Dr ts u v=⟨a,b,(p:Int),(q:Int)⟩) (hB:F_ ps a b c d=true) (w:World) {S:Nat->Prop} (hx:Ro S w x):Calls prog 28 #[(aG (Ca x)),(vI u),(vI v)] w (Ai (S7 ps (Ia ts a b p q c d) ss 0) S w):=by
 have h2a:a<ps.length:=by have h9:=h2.sc.a;rw [hE] at h9;exact h9
 have h2b:b<ps.length:=by have h9:=h2.sc.b;rw [hE] at h9;exact h9
 have h2c:=h2.sc.c
 have h2d:=h2.sd.c
 have lx:=Bq (W:=w) hx
 refine AR (args:=[(aG (Ca x)),(vI u),(vI v)]) (L:=[AC x.a.p (rowsL Ad ps),AC x.b.p (rowsL Am ts),AC x.c.p (rowsL Af ss)]) func28 O O (leB O) (C7 hx Ae) (zM (sL [0,1,2] O) (q4 (BG (cs:=Ca x) O λb1=>al Hw O λb2=>asg' O (q3 (sL [1,2,3,6,7] O) (An 1 Bu O (AJ O (AJ O (Bx (args:=[(aG (Ca x)),(vI u),(vI v)]) (v:=(Value.tuple #[(aG ([(vN a),(vN b),(vN p),(vN q)])),(qa true)])) call79 (λw hw=>(by have h9:=IW x u v hnb htl hN w (inS hw 2 O lx);rw [xr hed,hE] at h9;exact h9)) O (AJ O ?_)))))))))
 refine st' (AK (v:=(aG ([(vN a),(vN b),(vN p),(vN q)]))) O O) O (st' (AK (v:=(qa true)) O O) O (al Hx O λb3=>Aj O sizeOf49 O (asg' O (q6 (sL [3,6,7,8,9] O) (q4 (AJ O (st' (BB (c:=false) O O) O (oNl' (zF (sL [3,6,7,8,20] O) (zC ?_))))))))))
 refine zX O (zJ (q2 (An 2 Bu O (yR (S:=S) (V:=λa:aB ps ts ss=>aG (c9 a)) (LW:=c_) (args:=[(aG (Ca x))]) call35 (λw hw=>IS x Z Z Z w (inS hw 3 O lx)) O λcp hcp=>Ei 5 (off:=0) (vs:=[(qz cp.a.p ps.length ps.length),(qz cp.b.p ts.length ts.length),(qz cp.c.p ss.length ss.length)]) (cs':=[(qz cp.a.p ps.length ps.length),(qz cp.b.p ts.length ts.length),(qz cp.c.p ss.length ss.length)]) (AM O) O sizeOf30 O (q6 (sL [3,6,7,8] O) (q4 (An 5 Bu O (yJ 2 O cp.a.ok (Al Az _) O O λhn_cp_a=>yJ 0 O cp.c.ok (Al BF _) O O λhn_cp_c=>An 3 IN O ?_))))))))
 refine Bx (args:=[(aG ([(qz cp.a.p ps.length ps.length),(qz cp.b.p ts.length ts.length),(qz cp.c.p ss.length ss.length)])),(aG ([(vN a),(vN b),(vN p),(vN q)]))]) (v:=(Value.tuple #[(aG ([(vN a),(vN b),(vN p),(vN q),(vN c),(vN d)])),(qa true)])) call80 (λw hw=>(by have h9:=Le (⟨⟨cp.a.p,ps.length,cp.a.ok.clip⟩,⟨cp.b.p,ts.length,cp.b.ok.clip⟩,⟨cp.c.p,ss.length,cp.c.ok.clip⟩⟩:MN ps ts ss) (Dr ts u v) (Ga hed) hnb hN w (Wa (Pm (inS (S:=S) hw 2 O (At.new hn_cp_a))) (RN hw 1 O cp.b.ok (Al A8 _) cp.b.ok.clip) (Pm (inS (S:=S) hw 0 O (At.new hn_cp_c))));rw [(C5 h2).1,(C5 h2).2,hE] at h9;exact h9)) O (AJ O (st' (AK (v:=(aG ([(vN a),(vN b),(vN p),(vN q),(vN c),(vN d)]))) O O) O (st' (AK (v:=(qa true)) O O) O (al Lt O λb4=>Aj O sizeOf157 O (asg' O (q3 (sL [3,6,7,8,10,11] O) (AJ O (st' (BB (c:=false) O O) O (AJ O (Au (v:=(aG ([(vN a),(vN b),(vN p),(vN q),(vN c),(vN d)]))) O (Ac (i:=0) (vs:=[(vN a),(vN b),(vN p),(vN q),(vN c),(vN d)]) O O HQ.a HQ.s O O) ?_))))))))))
 refine Au (v:=(aG ([(qz cp.a.p ps.length ps.length),(qz cp.b.p ts.length ts.length),(qz cp.c.p ss.length ss.length)]))) O (Ac (i:=6) (vs:=[(qz cp.a.p ps.length ps.length),(qz cp.b.p ts.length ts.length),(qz cp.c.p ss.length ss.length)]) O O Bu.a Bu.s O O) (yq (v:=qa true) (α:=Unit) (K:=λ_=>True) (LO:=λ_=>[AU b4 157 ([(vN a),(vN b),(vN p),(vN q),(vN c),(vN d)]),AC cp.c.p (rowsL Af ss),rowW cp.b.p 105 3 ts.length cp.b.c (rowsL Am (Ia ts a b p q c d)),AC cp.a.p (rowsL Ad ps),AU b3 49 ([(vN a),(vN b),(vN p),(vN q)]),AU b2 30 ([jj,jj,jj]),AU b1 30 ([(qz cp.a.p ps.length ps.length),(qz cp.b.p ts.length ts.length),(qz cp.c.p ss.length ss.length)]),AC x.a.p (rowsL Ad ps),AC x.b.p (rowsL Am ts),AC x.c.p (rowsL Af ss)]) (AN O) (ER (args:=[(aG ([(vN a),(vN b),(vN p),(vN q),(vN c),(vN d)])),(aG ([(qz cp.a.p ps.length ps.length),(qz cp.b.p ts.length ts.length),(qz cp.c.p ss.length ss.length)]))]) (caps:=[]) (all:=[(aG ([(vN a),(vN b),(vN p),(vN q),(vN c),(vN d)])),(aG ([(qz cp.a.p ps.length ps.length),(qz cp.b.p ts.length ts.length),(qz cp.c.p ss.length ss.length)]))]) O O O call84) (Dc [2,3,0,1,4,5,6,7,8,9] (show List.Perm [2,3,0,1,4,5,6,7,8,9] (List.range 10) by decide) O) (λw hw=>(Nv ps ts a b p q c d h2a h2b h2c h2d h2.pl h2.ql hN htl hz cp.a.p cp.b.p cp.c.p ps.length cp.b.c ts.length ss.length ss.length cp.b.ok cp.b.ok.clip cp.a.ok.clip w (LR:=[AU b4 157 ([(vN a),(vN b),(vN p),(vN q),(vN c),(vN d)]),AC cp.c.p (rowsL Af ss),AU b3 49 ([(vN a),(vN b),(vN p),(vN q)]),AU b2 30 ([jj,jj,jj]),AU b1 30 ([(qz cp.a.p ps.length ps.length),(qz cp.b.p ts.length ts.length),(qz cp.c.p ss.length ss.length)]),AC x.a.p (rowsL Ad ps),AC x.b.p (rowsL Am ts),AC x.c.p (rowsL Af ss)]) hw).mono λe w' ⟨h1,t,h3,h4⟩=>(by rw [PI hB] at h4;exact ⟨by rw [h1,hB],t,h3,h4.perm (Dc [2,3,0,1,4,5,6,7,8,9] (show List.Perm [2,3,0,1,4,5,6,7,8,9] (List.range 10) by decide) O)⟩)) (λd hd=>by cases hd<;>exact (leB O)) λ_ _=>Au (v:=(qa false)) O (BB (c:=false) O O) (st' (v:=(qa false)) (AI O O) O (oNl' (zF (sL [3,6,7,8,10,37] O) (zC (zX O (zJ (q2 (An 6 Bu O (yJ 2 O cp.b.ok (by rw [Al A8,G6]) O O λhn_cp_b=>?_))))))))))
 exact Ei 5 (off:=0) (vs:=[(qz cp.a.p ps.length ps.length),(qz cp.b.p ts.length ts.length),(qz cp.c.p ss.length ss.length)]) (cs':=[(qz cp.a.p ps.length ps.length),(qz cp.b.p ts.length ts.length),(qz cp.c.p ss.length ss.length)]) (AM O) O sizeOf30 O (asg' O (oNl' (zF (sL [3,6,7,8,10] O) (zC (zH (BR O (Ah (i:=5) (cs:=[(qz cp.a.p ps.length ps.length),(qz cp.b.p ts.length ts.length),(qz cp.c.p ss.length ss.length)]) O O isAgg30 sizeOf30 O) (rd_tmp (v:=(vI 0)) O) (λw hw=>(DR hw (a:=(⟨(⟨⟨cp.a.p,ps.length,cp.a.ok.clip⟩,⟨cp.b.p,ts.length,(G6 (ts:=ts) (a:=a) (b:=b) (p:=p) (q:=q) (c:=c) (d:=d)).symm▸cp.b.ok.clip⟩,⟨cp.c.p,ss.length,cp.c.ok.clip⟩⟩:MN ps (Ia ts a b p q c d) ss)⟩:S7 ps (Ia ts a b p q c d) ss 0)) (WF hw [3,2,1] O (At.mn (At.new hn_cp_a) (At.new hn_cp_b) (At.new hn_cp_c))) (by show _=Value.tuple #[aG [.slice cp.a.p ps.length ps.length,.slice cp.b.p (Ia ts a b p q c d).length ts.length,.slice cp.c.p ss.length ss.length],vN 0];rw [G6];rfl)))))))))
theorem Rx {ps:List Pt} {ts:List T3} {ss:List Z3} (x:MN ps ts ss) (u v:Int) (hnb:Bn ps.length ts=true) (htl:ts.length<=1000000) (hN:ps.length<=1000000) (hsl:ss.length<=1000000) (hz:∀i,BV (BQ ps i)<=200000) (w:World) {S:Nat->Prop} (hx:Ro S w x):Calls prog 28 #[(aG (Ca x)),(vI u),(vI v)] w (Ai (S7 (Uh ps ts u v) (Uj ps ts u v) (Ui ps ts ss u v) (Ug ps ts u v)) S w):=by
 rcases (by omega:FC ts u v<0\/0<=FC ts u v) with h|h
 ·have h1:=PC (ps:=ps) h
  rw [(EX (ss:=ss) h1.1).1,(EX (ss:=ss) h1.1).2.1,(EX (ss:=ss) h1.1).2.2,h1.2]
  exact Uu x u v hnb htl hN hsl h w hx
 ·by_cases hb:Cm (Dr ts u v)=true
  ·obtain ⟨g1,g2⟩:=EA.1 hb
   obtain ⟨p,q,c,d,h2⟩:=JZ hnb Z (Ga h) g1 g2
   have e1:=SO h h2
   cases hB:F_ ps (Dr ts u v).a (Dr ts u v).b c d with
   | false =>
    rw [hB] at e1
    rw [(EX (ss:=ss) e1.1).1,(EX (ss:=ss) e1.1).2.1,(EX (ss:=ss) e1.1).2.2,Nu h,e1.1]
    exact Uw x u v hnb htl hN hsl hz h _ _ p q c d h2 h2.mk4 hB w hx
   | true =>
    rw [hB] at e1
    rw [(JF (ss:=ss) e1.1).1,(JF (ss:=ss) e1.1).2.1,(JF (ss:=ss) e1.1).2.2,Nu h,e1.1,e1.2]
    exact Ux x u v hnb htl hN hsl hz h _ _ p q c d h2 h2.mk4 hB w hx
  ·rw [Bool.not_eq_true] at hb
   have h1:=SN (ps:=ps) h hb
   rw [(EX (ss:=ss) h1.1).1,(EX (ss:=ss) h1.1).2.1,(EX (ss:=ss) h1.1).2.2,h1.2]
   exact Uv x u v hnb htl hN hsl h hb w hx
end
section
def Jt (p:Pt):Rat:=Av (p-(⟨0,0⟩:Pt)) (p-(⟨0,0⟩:Pt))
def aW (ps:List Pt) (t:T3):Rat:=Jt (BQ ps t.1)+Jt (BQ ps t.2.1)+Jt (BQ ps t.2.2)
def N3 (ps:List Pt) (t:T3):Rat:=Rh ps t*aW ps t
def Hv (ps:List Pt) (ts:List T3):Nat->Rat
  | 0=>0
  | i+1=>Hv ps ts i+N3 ps (ts.getD i (0,0,0))
def HA (ps:List Pt) (ts:List T3):Rat:=Hv ps ts ts.length*(((1:Int):Rat)/((3:Int):Rat))
theorem JY {p:Pt} (h:BV p<=1000):Sz (Jt p)<=4100:=by
  have h1:=B0 p (⟨0,0⟩:Pt)
  have h2:=D6 (p-(⟨0,0⟩:Pt)) (p-(⟨0,0⟩:Pt))
  have h3:BV (⟨0,0⟩:Pt)<=10:=by decide +kernel
  unfold Jt;omega
section
variable {ps:List Pt} (hz:∀k,BV (BQ ps k)<=1000)
include hz
theorem Xf (t:T3):Sz (aW ps t)<=12302:=by
  have h1:=JY (hz t.1)
  have h2:=JY (hz t.2.1)
  have h3:=JY (hz t.2.2)
  have h4:=Cb (Jt (BQ ps t.1)) (Jt (BQ ps t.2.1))
  have h5:=Cb (Jt (BQ ps t.1)+Jt (BQ ps t.2.1)) (Jt (BQ ps t.2.2))
  unfold aW;omega
theorem SW (t:T3):Sz (N3 ps t)<=20311:=by
  have h1:=Sw hz t
  have h2:=Xf hz t
  have h3:=Bo (Rh ps t) (aW ps t)
  unfold N3;omega
theorem If (ts:List T3):∀i,Sz (Hv ps ts i)<=2+i*20312
  | 0=>by show Sz (0:Rat)<=2+0*20312;decide +kernel
  | i+1=>by
    have h:=If ts i
    have h1:=SW hz (ts.getD i (0,0,0))
    have h4:=Cb (Hv ps ts i) (N3 ps (ts.getD i (0,0,0)))
    show Sz (Hv ps ts i+N3 ps (ts.getD i (0,0,0)))<=_
    omega
theorem ZA (ts:List T3):Sz (HA ps ts)<=10+ts.length*20312:=by
  have h:=If hz ts ts.length
  have h1:=Bo (Hv ps ts ts.length) (((1:Int):Rat)/((3:Int):Rat))
  have h2:Sz (((1:Int):Rat)/((3:Int):Rat))<=8:=by decide +kernel
  unfold HA;omega
end
theorem Wn {ps:List Pt} {ts:List T3} (h:ID ps ts=false):Fl ps ts=ts:=by
  unfold ID at h
  unfold Fl
  split
  · rfl
  · rename_i h1
    rw [if_neg h1] at h
    exact KO h
structure dG (ps:List Pt) (ts:List T3) (ss:List Z3) (n e:Nat) where
  x:MN ps ts ss
instance {ps:List Pt} {ts:List T3} {ss:List Z3} {n e:Nat}:Cl (dG ps ts ss n e):=⟨λr=>.tuple #[aG (Ca r.x),vN n,vN e],λr=>[r.x.a.row,r.x.b.row,r.x.c.row],λr y hy=>Wb hy⟩
theorem Sc {ps:List Pt} {ts ss:List T3} (x:MX ps ts ss):∃y:MN ps ts (ss.map CH),Ca y=E9 x/\∀{S:Nat->Prop} {w:World},Ro S w x->Ro S w y:=by
  obtain ⟨a,b,⟨cp,cc,cok⟩⟩:=x
  have hk:ss.length=(ss.map CH).length:=(xv _).symm
  refine ⟨⟨a,b,⟨cp,cc,hk▸cok⟩⟩,?_,λ{S w} h y hy=>?_⟩
  · show [a.val,b.val,qz cp (ss.map CH).length cc]=[a.val,b.val,qz cp ss.length cc]
    rw [xv]
  · have hy:y∈[a.row,b.row,AC cp (rowsL Af (ss.map CH))]:=hy
    rw [<-C6] at hy
    exact h y hy
def CD:List Pt:=[⟨0,0⟩,⟨2,-1⟩,⟨4,0⟩,⟨2,1⟩]
def Do:List T3:=[(0,1,2),(0,2,3)]
def DP:List T3:=[(1,2,3),(0,1,3)]
def Y4:List T3:=[(0,1,0),(0,3,0),(1,2,0),(2,3,0)]
def G9:List Z3:=Y4.map CH
theorem N1 (i:Nat):BV (BQ CD i)<=1000:=cd (by decide +kernel) (by decide +kernel) i
theorem Id (i:Nat):BV (BQ CD i)<=200000:=xx (N1 i) jY
theorem bS:∀i,i<Do.length->∀k,k<i->(!Er (Bt CD (Do.getD i (0,0,0))) (Bt CD (Do.getD k (0,0,0)))&&!Er (Bt CD (Do.getD k (0,0,0))) (Bt CD (Do.getD i (0,0,0))))=false:=by decide +kernel
theorem bT:∀i,i<Do.length->∀p,p<CD.length->Gd (Do.getD i (0,0,0)) p=false->Rk CD (BQ CD p) (Do.getD i (0,0,0))=0:=by decide +kernel
theorem Y5:NU CD Do Y4:=by
  refine ⟨by decide,by decide,by decide,by decide,N1,by decide +kernel,by decide +kernel,by decide +kernel,λp hp=>?_,by decide +kernel,λi k hi hk=>bS i hi k hk,λi p hi hp=>bT i hi p hp,by decide +kernel,by decide +kernel⟩
  have hp:p<4:=hp
  have e:p=0\/p=1\/p=2\/p=3:=by omega
  rcases e with rfl|rfl|rfl|rfl
  · exact ⟨0,by decide,by decide +kernel⟩
  · exact ⟨0,by decide,by decide +kernel⟩
  · exact ⟨0,by decide,by decide +kernel⟩
  · exact ⟨1,by decide,by decide +kernel⟩
theorem LP:Bn CD.length Do=true:=by decide +kernel
theorem WP:Bn CD.length DP=true:=by decide +kernel
theorem WO:Y9 CD Do 2 0=false/\Y_ Do 2 0=0:=by decide +kernel
theorem bW:Uh CD Do 0 2=CD/\Uj CD Do 0 2=DP/\Ui CD Do G9 0 2=G9/\Ug CD Do 0 2=0:=by decide +kernel
theorem bU:Uh CD Do 0 1=[]/\Uj CD Do 0 1=[]/\Ui CD Do G9 0 1=[]/\Ug CD Do 0 1=7:=by decide +kernel
theorem bV:Uh CD Do 1 3=[]/\Uj CD Do 1 3=[]/\Ui CD Do G9 1 3=[]/\Ug CD Do 1 3=1:=by decide +kernel
theorem Qv:ID CD Do=true/\Fl CD Do=DP/\ID CD DP=false:=by decide +kernel
theorem Qt:HA CD Do=28:=by decide +kernel
theorem Qu:HA CD DP=24:=by decide +kernel
theorem bn {ps:List Pt} {ts ss:List T3} (x:MX ps ts ss):∃y:MN ps ts (ss.map CH),Ca y=E9 x/\(∀{S:Nat->Prop} {w:World},Ro S w x->Ro S w y)/\∀{S:Nat->Prop} {w:World},Ro S w y->Ro S w x:=by
  obtain ⟨a,b,⟨cp,cc,cok⟩⟩:=x
  have hk:ss.length=(ss.map CH).length:=(xv _).symm
  refine ⟨⟨a,b,⟨cp,cc,hk▸cok⟩⟩,?_,λ{S w} h y hy=>?_,λ{S w} h y hy=>?_⟩
  · show [a.val,b.val,qz cp (ss.map CH).length cc]=[a.val,b.val,qz cp ss.length cc]
    rw [xv]
  · have hy:y∈[a.row,b.row,AC cp (rowsL Af (ss.map CH))]:=hy
    rw [<-C6] at hy
    exact h y hy
  · have hy:y∈[a.row,b.row,AC cp (rowsL Am ss)]:=hy
    rw [C6 ss] at hy
    exact h y hy
end
section
set_option maxRecDepth 100000
theorem OZ {ps:List Pt} {ts:List T3} {ss:List Z3} (x:MN ps ts ss) (t:Nat) (ht:t<ts.length) (hk:MV ps.length (ts.getD t (0,0,0))=true) (w:World) {S:Nat->Prop} (hx:Ro S w x):Calls prog 88 #[(aG (Ca x)),(vN t)] w (AX w (Value.tuple #[(aG (Ad (BQ ps (ts.getD t (0,0,0)).1))),(aG (Ad (BQ ps (ts.getD t (0,0,0)).2.1))),(aG (Ad (BQ ps (ts.getD t (0,0,0)).2.2)))])):=by
 obtain ⟨k1,k2,k3⟩:=DZ hk
 have lx:=Bq (W:=w) hx
 refine AR (args:=[(aG (Ca x)),(vN t)]) (L:=[AC x.a.p (rowsL Ad ps),AC x.b.p (rowsL Am ts),AC x.c.p (rowsL Af ss)]) func88 O O (leB O) (C7 hx Ae) (zM (sL [0,1] O) (q4 (BG (cs:=Ca x) O λb1=>al Fh O λb2=>al Fh O λb3=>al Fh O λb4=>q6 (sL [1,2,4,5,6] O) (q4 (AJ O (st' (AW (c:=false) O O jX) O (AJ O ?_)))))))
 refine EV O (Au (v:=(pP b1 1)) O (AA O underlying30 O sizeOf23 O) (Au (v:=(qz x.b.p ts.length x.b.c)) O (AE (i:=3) (v:=(qz x.b.p ts.length x.b.c)) O O CQ.a O) (Au (v:=(vN ts.length)) O (AD O underlying23) (Au (v:=(qa false)) O (CU (c:=false) O O (by simp;omega)) (st' (v:=(qa false)) (AI O O) O (oNl' (zF (sL [1,2,4,5,6,17] O) (zC (zX O (zJ (q1 ?_)))))))))))
 refine CE (Dm 8++[(8,false),(9,false),(10,true)]) sr (Ag (v:=(pP b1 1)) O (AA O underlying30 O sizeOf23 O) (BC 3 (qz x.b.p ts.length x.b.c) CQ O (Bl O (Ag (v:=(pP (pB x.b.p) (pO x.b.p+t*3))) O (AF (j:=t) O O x.b.ok underlying23 sizeOf105 O Z) (Ag (v:=(aG (Am (ts.getD t jJ)))) O (AH (vs:=Am (ts.getD t jJ)) (i:=5) O O (Ao.ne x.b.ok Z) CY (AZ A8 _ _ _ Z) (A8 _)) (Ag (v:=(pP b1 0)) O (AA O underlying30 O sizeOf28 O) (BC 3 (qz x.a.p ps.length x.a.c) DS O (Ag (v:=(vN ps.length)) O (AD O underlying28) (zL O (al Gu O λb5=>zG (sl sr) ?_))))))))))
 refine zL O (Aj O sizeOf105 O (zG (sl sr) (pS' O (zT (zF (sL [1,2,4,5,6,7,8] O) (q1 (q4 (st' (v:=(pP b5 0)) (AB (j:=0) O O underlying105 sizeOf3 O jY O) O (A_ 0 (vN ((ts.getD t jJ).1)) BN O (AJ O (Bx (args:=[(vN ((ts.getD t jJ).1)),(vN ps.length)]) (v:=(qa true)) call148 (λw hw=>(by have h9:=Dd ((ts.getD t jJ).1) ps.length w;rw [xr Z] at h9;exact h9)) O ?_)))))))))))
 refine st' (BB (c:=false) O O) O (AJ O (Au (v:=(pP b5 1)) O (AB (j:=1) O O underlying105 sizeOf3 O jY O) (Au (v:=(vN ((ts.getD t jJ).2.1))) O (AE (i:=0) (v:=(vN ((ts.getD t jJ).2.1))) O O BN.a O) (EV O (zj (v:=(qa true)) (AN O) (Ak (args:=[(vN ((ts.getD t jJ).2.1)),(vN ps.length)]) O O call148) (λw hw=>(by have h9:=Dd ((ts.getD t jJ).2.1) ps.length w;rw [xr Z] at h9;exact h9)) O (leB O) (Au (v:=(qa false)) O (BB (c:=false) O O) (st' (v:=(qa false)) (AI O O) O (AJ O (Au (v:=(pP b5 2)) O (AB (j:=2) O O underlying105 sizeOf3 O jY O) (Au (v:=(vN ((ts.getD t jJ).2.2))) O (AE (i:=0) (v:=(vN ((ts.getD t jJ).2.2))) O O BN.a O) (EV O ?_)))))))))))
 refine zj (v:=(qa true)) (AN O) (Ak (args:=[(vN ((ts.getD t jJ).2.2)),(vN ps.length)]) O O call148) (λw hw=>(by have h9:=Dd ((ts.getD t jJ).2.2) ps.length w;rw [xr Z] at h9;exact h9)) O (leB O) (Au (v:=(qa false)) O (BB (c:=false) O O) (st' (v:=(qa false)) (AI O O) O (oNl' (zF (sL [1,2,4,5,6,7,47] O) (zC (zX O (zJ (q1 (CE (Dm 18++[(18,false),(19,false),(20,false)]) (sk (sl (sl (sl sr)))) (Ag (v:=(pP b1 0)) O (AA O underlying30 O sizeOf28 O) (BC 1 (qz x.a.p ps.length x.a.c) DS O ?_)))))))))))
 refine Ag (v:=(pP b5 0)) O (AB (j:=0) O O underlying105 sizeOf3 O jY O) (BC 0 (vN ((ts.getD t jJ).1)) BN O (Ag (v:=(pP (pB x.a.p) (pO x.a.p+((ts.getD t jJ).1)*10))) O (AF (j:=(ts.getD t jJ).1) O O x.a.ok underlying28 sizeOf99 O Z) (Ag (v:=(aG (Ad (ps.getD ((ts.getD t jJ).1) (⟨0,0⟩:Pt))))) O (AH (vs:=Ad (ps.getD ((ts.getD t jJ).1) (⟨0,0⟩:Pt))) (i:=2) O O (Ao.ne x.a.ok Z) BD (AZ Az _ _ _ Z) (Az _)) (Ag (v:=(pP b1 0)) O (AA O underlying30 O sizeOf28 O) (BC 1 (qz x.a.p ps.length x.a.c) DS O (Ag (v:=(pP b5 1)) O (AB (j:=1) O O underlying105 sizeOf3 O jY O) (BC 0 (vN ((ts.getD t jJ).2.1)) BN O (Ag (v:=(pP (pB x.a.p) (pO x.a.p+((ts.getD t jJ).2.1)*10))) O (AF (j:=(ts.getD t jJ).2.1) O O x.a.ok underlying28 sizeOf99 O Z) (Ag (v:=(aG (Ad (ps.getD ((ts.getD t jJ).2.1) (⟨0,0⟩:Pt))))) O (AH (vs:=Ad (ps.getD ((ts.getD t jJ).2.1) (⟨0,0⟩:Pt))) (i:=2) O O (Ao.ne x.a.ok Z) BD (AZ Az _ _ _ Z) (Az _)) (Ag (v:=(pP b1 0)) O (AA O underlying30 O sizeOf28 O) (BC 1 (qz x.a.p ps.length x.a.c) DS O ?_)))))))))))
 refine Ag (v:=(pP b5 2)) O (AB (j:=2) O O underlying105 sizeOf3 O jY O) (BC 0 (vN ((ts.getD t jJ).2.2)) BN O (Ag (v:=(pP (pB x.a.p) (pO x.a.p+((ts.getD t jJ).2.2)*10))) O (AF (j:=(ts.getD t jJ).2.2) O O x.a.ok underlying28 sizeOf99 O Z) (Ag (v:=(aG (Ad (ps.getD ((ts.getD t jJ).2.2) (⟨0,0⟩:Pt))))) O (AH (vs:=Ad (ps.getD ((ts.getD t jJ).2.2) (⟨0,0⟩:Pt))) (i:=2) O O (Ao.ne x.a.ok Z) BD (AZ Az _ _ _ Z) (Az _)) (zL O (Gt O sizeOf99 O (zG (sk (sl (sl (sl sr)))) (zL O (E_ O sizeOf99 O (zG (sk (sl (sl (sl sr)))) (zL O (CP O sizeOf99 O ?_)))))))))))
 exact zG (sk (sl (sl (sl sr)))) (zT (zF (sL [1,2,4,5,6,7] O) (zC (zH (FL O (Ah (i:=3) (cs:=Ad (ps.getD ((ts.getD t jJ).1) (⟨0,0⟩:Pt))) O O isAgg99 sizeOf99 O) (Ah (i:=2) (cs:=Ad (ps.getD ((ts.getD t jJ).2.1) (⟨0,0⟩:Pt))) O O isAgg99 sizeOf99 O) (Ah (i:=1) (cs:=Ad (ps.getD ((ts.getD t jJ).2.2) (⟨0,0⟩:Pt))) O O isAgg99 sizeOf99 O) (λw hw=>⟨rfl,hw.out⟩))))))
theorem K4  :Instr.fill ([(0,3),(3,2)].toArray[·]?) (AG (0:Rat)).toArray []=some (AG (0:Rat)).toArray:=by kernel_rfl
theorem K5  :Instr.fill ([(0,5),(5,5)].toArray[·]?) (Ad (⟨0,0⟩:Pt)).toArray []=some (Ad (⟨0,0⟩:Pt)).toArray:=by kernel_rfl
set_option maxHeartbeats 1000000 in
theorem NY {ps:List Pt} {ts:List T3} {ss:List Z3} (x:MN ps ts ss) (htl:ts.length<=8192) (hN:ps.length<=1000000) (hz:∀k,BV (BQ ps k)<=1000) (hnb:Bn ps.length ts=true) (w:World) {S:Nat->Prop} (hx:Ro S w x):Calls prog 31 #[(aG (Ca x))] w (AX w (aG (AG (HA ps ts)))):=by
 have lx:=Bq (W:=w) hx
 refine AR (args:=[(aG (Ca x))]) (L:=[AC x.a.p (rowsL Ad ps),AC x.b.p (rowsL Am ts),AC x.c.p (rowsL Af ss)]) func31 O O (leB O) (C7 hx Ae) (zM (sL [0] O) (q4 (BG (cs:=Ca x) O λb1=>al Dg O λb2=>q3 (sL [1,2] O) (st' (v:=(aG (AG (0:Rat)))) (AO (zs:=AG (0:Rat)) (vs:=AG (0:Rat)) (pv:=[]) (places:=[(0,3),(3,2)]) zeroValue77 underlying77 (λw=>by simp [sizeOf71,sizeOf75]) O (K4 )) O (st' (v:=(aG (Ad (⟨0,0⟩:Pt)))) (AO (zs:=Ad (⟨0,0⟩:Pt)) (vs:=Ad (⟨0,0⟩:Pt)) (pv:=[]) (places:=[(0,5),(5,5)]) zeroValue99 underlying99 (λw=>by simp [sizeOf77]) O (K5 )) O (al Dg O λb3=>al Fh O λb4=>CP O sizeOf77 O (Aj O sizeOf99 O ?_)))))))
 refine q6 (sL [1,2,3,4] O) (q4 (An 3 Bu O (Bx (args:=[(aG (Ca x))]) (v:=(qa true)) call43 (λw hw=>(by obtain ⟨y2,hy2,hro⟩:=PY x;have h9:=Kf y2.rq (by rw [xv];omega) w (br (hro (inS hw 4 O lx)));rw [JP,hnb,show IK y2.rq=Ca x from hy2] at h9;exact h9)) O (st' (BB (c:=false) O O) O (oNl' (zF (sL [1,2,3,4,16] O) (zC (zX O (zJ (q1 (q4 ?_)))))))))))
 refine st' (v:=(pP b1 1)) (AA O underlying30 O sizeOf23 O) O (A_ 3 (qz x.b.p ts.length x.b.c) CQ O (st' (v:=(vN ts.length)) (AD O underlying23) O (AJ O (oNl' (zF (sL [1,2,3,4,20,21] O) (zC (zN ?_)))))))
 refine zw (tg λ(i:Nat)=>i<=ts.length) (tg λ(i:Nat)=>[(1,(pP b1 0)),(2,(pP b2 0)),(3,(pP b3 0)),(4,(pP b4 0)),(20,(vN ts.length)),(21,(vN i))]) (tg λ(i:Nat)=>[AU b4 99 (Ad (⟨0,0⟩:Pt)),AU b3 77 (AG (Hv ps ts i)),AU b2 77 (AG (0:Rat)),AU b1 30 (Ca x),AC x.a.p (rowsL Ad ps),AC x.b.p (rowsL Am ts),AC x.c.p (rowsL Af ss)]) (tg λ(i:Nat)=>ts.length-i) 0 (xu _) (sF O) sr (λi hJ=>?_)
 have hi:=hJ
 refine q4 (st' (AW (c:=(decide (i<ts.length))) O O (B_ (a:=i) (b:=ts.length))) O (oNl' (q1 ?_)))
 refine zO O (λhc1=>?_) (λhc1=>?_)
 ·replace hc1:=xR hc1
  have hi2:=hc1
  have z0:BV (⟨0,0⟩:Pt)<=10:=by decide +kernel
  have z1:=hz (ts.getD i (0,0,0)).1
  have z2:=hz (ts.getD i (0,0,0)).2.1
  have z3:=hz (ts.getD i (0,0,0)).2.2
  have y1:=JY (hz (ts.getD i (0,0,0)).1)
  have y2:=JY (hz (ts.getD i (0,0,0)).2.1)
  have y3:=JY (hz (ts.getD i (0,0,0)).2.2)
  have ya:=Sw hz (ts.getD i (0,0,0))
  have yt:=Xf hz (ts.getD i (0,0,0))
  have yl:=SW hz (ts.getD i (0,0,0))
  have ys:=If hz ts i
  refine zJ (q1 (zN (q4 (AJ O (asg' O (q3 (sL [1,2,3,4,20,21,5] O) (An 3 Bu O (AJ O (Bx call88 (λw hw=>OZ x i hi2 (Cs hnb hi2) w (inS hw 4 O lx)) O (AJ O (st' (AK (v:=(aG (Ad (BQ ps (ts.getD i (0,0,0)).1)))) O O) O ?_)))))))))))
  refine st' (AK (v:=(aG (Ad (BQ ps (ts.getD i (0,0,0)).2.1)))) O O) O (st' (AK (v:=(aG (Ad (BQ ps (ts.getD i (0,0,0)).2.2)))) O O) O (al Fh O λb5=>al Fh O λb6=>al Fh O λb7=>E_ O sizeOf99 O (CP O sizeOf99 O (Aj O sizeOf99 O (q6 (sL [1,2,3,4,20,21,6,7,8] O) (rN [(0,true),(1,true),(3,true),(4,true),(6,true),(7,true),(2,false),(5,false),(8,false),(9,false),(10,false)] [⟨11,9,77,AG (0:Rat)⟩] [(12,false)] sr jV (λ_ _ d _ _ h=>by cases d<;>exact h) (EP O O Dg O (Fk)) O (DN 3 BD O (DN 2 BD O ?_))))))))
  refine DN 3 BD O (DN 1 BD O (DN 3 BD O (DN 0 BD O (zi O λEF EL=>ck' call71 (IG (⟨0,0⟩:Pt) (BQ ps (ts.getD i (0,0,0)).1) Z) O (zl sr O (zi O λEF EL=>ck' call71 (IG (⟨0,0⟩:Pt) (BQ ps (ts.getD i (0,0,0)).2.1) Z) O (zl sr O (zi O λEF EL=>ck' call71 (IG (⟨0,0⟩:Pt) (BQ ps (ts.getD i (0,0,0)).2.2) Z) O ?_))))))))
  refine zl sr O (zi O λEF EL=>zn (V:=λb8=>(qz (jk b8) 3 3)) (T:=77) (cs:=Fd [Jt (BQ ps (ts.getD i (0,0,0)).1),Jt (BQ ps (ts.getD i (0,0,0)).2.1),Jt (BQ ps (ts.getD i (0,0,0)).2.2)]) (AM O) (BH (z:=.agg (AG (0:Rat)).toArray) (cs:=Fd [Jt (BQ ps (ts.getD i (0,0,0)).1),Jt (BQ ps (ts.getD i (0,0,0)).2.1),Jt (BQ ps (ts.getD i (0,0,0)).2.2)]) (pv:=[(0,(aG (AG (Jt (BQ ps (ts.getD i (0,0,0)).1))))),(1,(aG (AG (Jt (BQ ps (ts.getD i (0,0,0)).2.1))))),(2,(aG (AG (Jt (BQ ps (ts.getD i (0,0,0)).2.2)))))]) underlying219 sizeOf77 zeroValue77 jY jY O (SK (Jt (BQ ps (ts.getD i (0,0,0)).1)) (Jt (BQ ps (ts.getD i (0,0,0)).2.1)) (Jt (BQ ps (ts.getD i (0,0,0)).2.2)))) O (leB O) λb8=>y6 (sl sr) O (zi O λEF EL=>Bx call89 (λw hw=>Rz (Jt (BQ ps (ts.getD i (0,0,0)).1)) (Jt (BQ ps (ts.getD i (0,0,0)).2.1)) (Jt (BQ ps (ts.getD i (0,0,0)).2.2)) _ _ Z w (hw.get (i:=0) O)) O (zl (sl sr) O (yI λb9=>zL O (Aj O sizeOf77 O (zG (sl (sl sr)) (zT ?_)))))))
  refine zF (sL [1,2,3,4,20,21,6,7,8,9] O) (zC (rC [(0,true),(1,true),(2,true),(3,true),(5,true),(4,false),(6,false),(7,false)] 8 [] sr (sk (sk (sk (sk (sk (sk (sl sr))))))) jV (λ_ _ d _ _ h=>by cases d<;>exact h) (vE (v:=(aG (AG (Hv ps ts i)))) O (Ac (i:=6) (vs:=AG (Hv ps ts i)) O O Bj.a Bj.s O O) O (vE (v:=(aG (Ad (BQ ps (ts.getD i (0,0,0)).1)))) O (Ac (i:=4) (vs:=Ad (BQ ps (ts.getD i (0,0,0)).1)) O O BD.a BD.s O O) O (vE (v:=(aG (Ad (BQ ps (ts.getD i (0,0,0)).2.1)))) O (Ac (i:=3) (vs:=Ad (BQ ps (ts.getD i (0,0,0)).2.1)) O O BD.a BD.s O O) O (vE (v:=(aG (Ad (BQ ps (ts.getD i (0,0,0)).2.2)))) O (Ac (i:=2) (vs:=Ad (BQ ps (ts.getD i (0,0,0)).2.2)) O O BD.a BD.s O O) O (vE (v:=(aG (AG (aW ps (ts.getD i (0,0,0)))))) O (Ac (i:=0) (vs:=AG (aW ps (ts.getD i (0,0,0)))) O O Bj.a Bj.s O O) O (yC O (ck' call92 (YG (BQ ps (ts.getD i (0,0,0)).1) (BQ ps (ts.getD i (0,0,0)).2.1) (BQ ps (ts.getD i (0,0,0)).2.2) Z) O (z7 sr (yC O ?_)))))))))))
  refine ck' call91 (EN (Rh ps (ts.getD i (0,0,0))) (aW ps (ts.getD i (0,0,0))) Z) O (z7 sr (yC O (ck' call90 (KL (Hv ps ts i) (N3 ps (ts.getD i (0,0,0))) Z) O (z7 sr (yU O (Ei 6 (off:=0) (vs:=AG (Hv ps ts (i+1))) (cs':=AG (Hv ps ts (i+1))) (AM O) O sizeOf77 O (zG (sk (sk (sk (sk (sk (sk (sl sr))))))) (zT (zF (sL [1,2,3,4,20,21,6,7,8,9] O) (zP (zC ?_)))))))))))
  exact zQ (st' (AV (c:=((i+1:Nat):Int)) O O (AY (a:=i) (b:=1) Z)) O (AJ O (oNl' (zF (sL [1,2,3,4,20,21,6,7,8,9] O) (zm (i+1) Z Z (sF O) (sl (sl (sl (sl (sl sr))))))))))
 ·replace hc1:=xQ hc1
  have hie:i=ts.length:=by omega
  have ys:=If hz ts ts.length
  have y3:Sz (((1:Int):Rat)/((3:Int):Rat))<=8:=by decide +kernel
  rw [hie]
  refine zY (zR (zh (zV (q2 (ck' call93 (Qo (1:Int) (3:Int) Z Z Z Z Z) O (AJ O (st' (AK (v:=(aG (AG (((1:Int):Rat)/((3:Int):Rat))))) O O) O (st' (AK (v:=(vI 0)) O O) O (al Dg O λb5=>Aj O sizeOf77 O (asg' O ?_))))))))))
  exact q3 (sL [1,2,3,4,20,21,10] O) (An 2 Bj O (An 0 Bj O (ck' call91 (EN (Hv ps ts ts.length) (((1:Int):Rat)/((3:Int):Rat)) Z) O (Gt O sizeOf77 O (oNl' (zF (sL [1,2,3,4,20,21,10] O) (zC (zH (ret_one O (Ah (i:=3) (cs:=AG (HA ps ts)) O O isAgg77 sizeOf77 O) (λw hw=>⟨rfl,hw.out⟩))))))))))
end
section
def gg (m:MQ):List P2:=(aX m (I9 m).length).1
def iN (m:MQ):List T3:=(aX m (I9 m).length).2
def iH (m:MQ):List Pt:=fq m (gK m (gg m)) (gg m).length
structure aD (ps:List Pt) (ts ss:List T3) where
  rs:List RP
  e:rs.map (·.p)=ps
  a:RX (rowsL CW rs) rs.length
  b:RX (rowsL Am ts) ts.length
  c:RX (rowsL Am ss) ss.length
def aD.rm {ps:List Pt} {ts ss:List T3} (x:aD ps ts ss):RM x.rs.length ts ss:=⟨rowsL CW x.rs,rowsL Am ss,x.a,x.b,x.c⟩
def fw {ps:List Pt} {ts ss:List T3} (x:aD ps ts ss):List Value:=GC x.rm
theorem cH {ps:List Pt} {ts ss:List T3} {x:aD ps ts ss} {y:As} (hy:y∈[x.a.row,x.b.row,x.c.row]++B5 x.rs):y.ro=true:=by
  rcases List.mem_append.1 hy with hy|hy
  · simp only [xy,List.not_mem_nil,or_false] at hy
    rcases hy with rfl|rfl|rfl<;>rfl
  · exact OF hy
instance {ps:List Pt} {ts ss:List T3}:Cl (aD ps ts ss):=⟨λx=>aG (fw x),λx=>[x.a.row,x.b.row,x.c.row]++B5 x.rs,λx y hy=>cH hy⟩
theorem aD.len {ps:List Pt} {ts ss:List T3} (x:aD ps ts ss):x.rs.length=ps.length:=by
  have h:=congrArg List.length x.e
  rwa [xv] at h
section
variable {S:Nat->Prop} {w W:World} {w0:BA} {L A:List As} {ps:List Pt} {ts ss:List T3} {rs:List RP}
end
structure gm (m:MQ) where
  ss:List T3
  o:aD (iH m) (iN m) ss
instance {m:MQ}:Cl (gm m):=⟨λx=>Cl.val x.o,λx=>Cl.rows x.o,λx y hy=>Cl.ro x.o y hy⟩
end
section
structure S3 (u v q:Rat) where
  b:Nat
  f:FX u
  g:FX v
  h:FX q
@[reducible] def S3.p {u v q:Rat} (a:S3 u v q):Option Addr:=some ⟨a.b,0,none⟩
def iL {u v q:Rat} (a:S3 u v q):List Value:=fxL a.f++fxL a.g++fxL a.h
theorem S3.ok {u v q:Rat} (a:S3 u v q):Ao a.p 3 3:=⟨(λe=>by cases e),(λc e=>by injection e with e;rw [<-e]),Nat.le_refl _⟩
def ez {u v q:Rat} (a:S3 u v q):List As:=[AC a.p (iL a),BM a.f.z.n,BM a.f.m,BM a.g.z.n,BM a.g.m,BM a.h.z.n,BM a.h.m]
theorem XT {u v q:Rat} (a:S3 u v q):∀y∈ez a,y.ro=true:=λy hy=>by
  simp only [ez,xy,List.not_mem_nil,or_false] at hy
  rcases hy with rfl|rfl|rfl|rfl|rfl|rfl|rfl<;>rfl
instance {u v q:Rat}:Cl (S3 u v q):=⟨λa=>.slice a.p 3 3,ez,XT⟩
structure gr (u v q:Rat) where
  s:S3 u v q
instance {u v q:Rat}:Cl (gr u v q):=⟨λa=>.tuple #[.slice a.s.p 3 3,vI 0],λa=>ez a.s,λa=>XT a.s⟩
section
variable {S:Nat->Prop} {w W:World} {w0:BA} {L:List As} {u v q:Rat}
end
section
variable {P:Program} {ops:Array Oper} {rest:List Oper} {Q:Exit->Act->World->Prop} {n d:Nat} {F:List (Nat×Value)} {w0:BA} {S:Nat->Prop} {L:List As} {t:TypeId} {p:String} {af:Array Edge} {y:Operand} {f:FuncId} {xs:List Operand} {args:List Value} {ts:Array TypeId}
end
end
section
set_option maxRecDepth 100000
def D_ (a b c:Pt):Rat:=Aa a b c/((2:Int):Rat)
theorem QP:Sz ((2:Int):Rat)<=2:=H4 jY jY
theorem Og (a b c:Pt):Sz (D_ a b c)<=4*BV a+2*BV b+2*BV c+7:=by
 have h1:=EM a b c
 have h2:=FB (Aa a b c) ((2:Int):Rat)
 have h3:=QP
 exact xx h2 Z
theorem NH {x y z:Pt} (a:PX x) (b:PX y) (d:PX z) (hs:BV x+BV y+BV z<=65536) (w:World) {S:Nat->Prop} (ha:Ro S w a) (hb:Ro S w b) (hd:Ro S w d)  :Calls prog 99 #[(aG (BU a)),(aG (BU b)),(aG (BU d))] w (Ai (FX (D_ x y z)) S w):=by
 have s2:=QP
 have la:=Bq (W:=w) ha
 have lb:=Bq (W:=w) hb
 have ld:=Bq (W:=w) hd
 refine AR (args:=[(aG (BU a)),(aG (BU b)),(aG (BU d))]) (L:=[BM a.x.z.n,BM a.x.m,BM a.y.z.n,BM a.y.m,BM b.x.z.n,BM b.x.m,BM b.y.z.n,BM b.y.m,BM d.x.z.n,BM d.x.m,BM d.y.z.n,BM d.y.m]) func99 O O (leB O) (Kb ha (Kb hb (Kb hd Ae))) (zM (sL [0,1,2] O) (q4 (BG (cs:=BU a) O λb1=>BG (cs:=BU b) O λb2=>BG (cs:=BU d) O λb3=>al Fo O λb4=>q6 (sL [3,4,5,6] O) (CE [(0,true),(1,true),(3,true),(4,true),(2,false),(5,false),(6,false),(7,false),(8,false),(9,false)] (sl sr) (C3 1 BK O (C3 2 BK O (C3 0 BK O ?_)))))))
 refine C3 2 BK O (zL O ?_)
 have hz1:=B0 y x
 refine cP (S:=S) (x:=(y-x)) (args:=[(aG (BU b)),(aG (BU a))]) call116 (λw hw=>E2 b a Z w (inS hw 8 O lb) (inS hw 4 O la)) O O O λg1 lg1=>zG (sl (sl (sl (sl (sl sr))))) (zL O ?_)
 have hz2:=B0 z x
 refine cP (S:=S) (x:=(z-x)) (args:=[(aG (BU d)),(aG (BU a))]) call116 (λw hw=>E2 d a Z w (inS hw 16 O ld) (inS hw 8 O la)) O O O λg2 lg2=>zG (sl (sl (sl (sl (sl (sl (sl (sl (sl sr))))))))) (zL O ?_)
 have hz3:=Dp (y-x) (z-x)
 refine cF (S:=S) (x:=(Ar (y-x) (z-x))) (args:=[(aG (BU g1)),(aG (BU g2))]) call144 (λw hw=>IJ g1 g2 Z w (inS hw 4 O lg1) (inS hw 0 O lg2)) O O O λg3 lg3=>zG (sl (sl (sl (sl (sl (sl (sl (sl (sl (sl (sl sr))))))))))) (zL O (cF (S:=S) (x:=(((2:Int):Int):Rat)) (args:=[(vI 2)]) call94 (λw hw=>D1 (2:Int) Z Z w) O O O λg4 lg4=>zG (sl (sl (sl (sl (sl (sl (sl (sl (sl (sl (sl (sl (sl sr))))))))))))) (zL O ?_)))
 have hz4:=FB (Ar (y-x) (z-x)) (((2:Int):Int):Rat)
 exact cF (S:=S) (x:=((Ar (y-x) (z-x))/(((2:Int):Int):Rat))) (args:=[(aG (fxL g3)),(aG (fxL g4))]) call97 (λw hw=>Hk g3 g4 (by (try simp only [BO]);omega) w (inS hw 2 O lg3) (inS hw 0 O lg4)) O O O λg5 lg5=>zG (sl (sl (sl (sl (sl (sl (sl (sl (sl (sl (sl (sl (sl (sl (sl sr))))))))))))))) (zL O (Ei 14 (off:=0) (vs:=fxL g5) (cs':=fxL g5) (AM O) O sizeOf83 O (zG (sl (sl (sl (sl (sl (sl (sl (sl (sl (sl (sl (sl (sl (sl (sl sr))))))))))))))) (zT (zF (sL [6] O) (zC (zH (ret_one O (Ah (i:=14) (cs:=fxL g5) O O isAgg83 sizeOf83 O) (λw hw=>DR (a:=(g5:FX (D_ x y z))) hw (inS hw 0 O lg5) O)))))))))
end
theorem VN (ps:List Pt) (t:T3):D_ (BQ ps t.1) (BQ ps t.2.1) (BQ ps t.2.2)=Rh ps t:=by
  unfold D_ Rh
  grind
theorem OkC.permR {P:Program} {c:Code} {Q:Exit->Act->World->Prop} {n:Nat} {F:List (Nat×Value)} {w0:BA} {L L2:List As} (hp:L.Perm L2) (next:OkC P c Q n F w0 L2):OkC P c Q n F w0 L:=λa w ha hW=>next a w ha (hW.perm hp)
structure FS where
  q:Rat
  f:FX q
end Go.Proofs.YtpolhpjiahbidaaGreatDoor
