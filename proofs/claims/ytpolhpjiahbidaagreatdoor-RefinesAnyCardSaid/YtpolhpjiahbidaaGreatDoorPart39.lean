import Derived.Test.YtpolhpjiahbidaaGreatDoorPart05
import Derived.Test.YtpolhpjiahbidaaGreatDoorPart17
import Derived.Test.YtpolhpjiahbidaaGreatDoorPart30
import Derived.Test.YtpolhpjiahbidaaGreatDoorPart33
import Derived.Test.YtpolhpjiahbidaaGreatDoorPart34
import Derived.Test.YtpolhpjiahbidaaGreatDoorPart35
import Derived.Test.YtpolhpjiahbidaaGreatDoorPart38
namespace Go.Proofs.YtpolhpjiahbidaaGreatDoor
open Go Go.RowKit Go.Proofs.Tryz
set_option linter.unusedVariables false
set_option linter.unusedSimpArgs false
section
set_option maxRecDepth 100000
theorem ZF:ElemT prog 37 119 3 24:=⟨underlying37,DM (by kernel_rfl)⟩
theorem Is (x0:Tq3):Instr.fill (λi=>some (i*3,3)) ((Array.range (1*3)).map ((Value.agg (Ad ((0,0,0):Tq3)).toArray).cells[·%(Value.agg (Ad ((0,0,0):Tq3)).toArray).cells.size]!)) [(0,.agg (Ad x0).toArray)]=some (Ad x0).toArray:=by kernel_rfl
set_option maxHeartbeats 2000000 in
theorem Sl {N:Nat} {ts ss:List T3} (x:RM N ts ss) (hnb:Bn N ts=true) (hl:ts.length<=1000000) (hN:N<=4096) (w:World) {S:Nat->Prop} (hx:Ro S w x):Calls prog 59 #[(aG (FE x))] w (DT (UE (T:=119) (z:=3) (cs:=rowsL Ad (Bl ts)) (n:=(Bl ts).length)) (Nq (T:=119) (z:=3) (cs:=rowsL Ad (Bl ts)) (n:=(Bl ts).length)) S w):=by
 have lx:=CI (W:=w) hx
 refine AY (args:=[(aG (FE x))]) (L:=[AE x.a.p (x.cs),AE x.b.p (rowsL Ad ts),AE x.c.p (x.ds)]) func59 O O (AI O) (D9 hx Aj) (OkC.subF (sL [0] O) (q4 (Be (cs:=FE x) O λb1=>asg' O (q3 (sL [1,2] O) (asg' O (OkL.nilRow 119 3 (OkL.nil (q1 (q4 (BH 1 DA O ?_))))))))))
 refine Ce call45 (λw hw=>QE x hnb hl Z w (inS hw 2 O lx)) O (AH (BU (c:=false) O O) O (OkL.nil (OkQ.subF (sL [1,2,3,10] O) (OkQ.then_ (OkC.cond_false O (OkC.skip (q1 (q4 (asg' O (OkL.nil (OkQ.subF (sL [1,2,3,4] O) ?_)))))))))))
 refine OkQ.then_ (OkC.block ?_)
 refine OkC.lp4 (tg λ(ai:Nat) (p1:Option Addr) (c1:Nat) (ou:List T3)=>ai<=N/\OwnOk p1 ou.length c1/\ou.length<=ai*4096/\ou=Oy ts N ai) (tg λ(ai:Nat) (p1:Option Addr) (c1:Nat) (ou:List T3)=>[(1,(pP b1 0)),(2,(Value.slice none 0 0)),(4,(vN ai)),(3,(Value.slice p1 ou.length c1))]) (tg λ(ai:Nat) (p1:Option Addr) (c1:Nat) (ou:List T3)=>[rowW p1 119 3 ou.length c1 (rowsL Ad ou),AU b1 39 (FE x),AE x.a.p (x.cs),AE x.b.p (rowsL Ad ts),AE x.c.p (x.ds)]) (tg λ(ai:Nat) (p1:Option Addr) (c1:Nat) (ou:List T3)=>N-ai) 0 none 0 ([]:List T3) (⟨Nat.zero_le _,OwnOk.none,by simp,rfl⟩) (sF O) sr (λai p1 c1 ou hJ=>?_)
 obtain ⟨hai,h1,hln,hou⟩:=hJ
 refine OkC.seq (q4 (AM O (AH (v:=(pP b1 0)) (AA O underlying39 O sizeOf36 O) O (Au 1 (Value.slice x.a.p N x.a.c) Fj O (AH (v:=(vN N)) (AD O underlying36) O (AH (Ae (c:=(decide (ai<N))) O O (CB (a:=ai) (b:=N))) O (OkL.nil (OkQ.subF (sL [1,2,4,3,16] O) (OkQ.then_ ?_)))))))))
 refine OkC.cond O (λhc1=>?_) (λhc1=>?_)
 ·replace hc1:=of_decide_eq_true hc1
  refine OkC.skip (q1 (OkC.block (q4 (AM O (AH (AX (c:=((ai+1:Nat):Int)) O O (AR (a:=ai) (b:=1) Z)) O (asg' O (OkL.nil (OkQ.subF (sL [1,2,4,3,5] O) (OkQ.then_ (OkC.block ?_))))))))))
  refine OkC.lp4 (tg λ(bi:Nat) (p2:Option Addr) (c2:Nat) (oq:List T3)=>bi<=N/\ai+1<=bi/\OwnOk p2 oq.length c2/\oq.length<=ai*4096+(bi-(ai+1))/\oq=Oy ts N ai++Hd ts ai (bi-(ai+1))) (tg λ(bi:Nat) (p2:Option Addr) (c2:Nat) (oq:List T3)=>[(1,(pP b1 0)),(2,(Value.slice none 0 0)),(4,(vN ai)),(5,(vN bi)),(3,(Value.slice p2 oq.length c2))]) (tg λ(bi:Nat) (p2:Option Addr) (c2:Nat) (oq:List T3)=>[rowW p2 119 3 oq.length c2 (rowsL Ad oq),AU b1 39 (FE x),AE x.a.p (x.cs),AE x.b.p (rowsL Ad ts),AE x.c.p (x.ds)]) (tg λ(bi:Nat) (p2:Option Addr) (c2:Nat) (oq:List T3)=>N-bi) (ai+1) p1 c1 ou (⟨Z,Nat.le_refl _,h1,Z,by rw [hou,Nat.sub_self];exact (List.append_nil _).symm⟩) (sF O) sr (λbi p2 c2 oq hJ=>?_)
  obtain ⟨hbi,hba,h2,hlq,hsq⟩:=hJ
  refine OkC.seq (q4 (AM O (AH (v:=(pP b1 0)) (AA O underlying39 O sizeOf36 O) O (Au 1 (Value.slice x.a.p N x.a.c) Fj O (AH (v:=(vN N)) (AD O underlying36) O (AH (Ae (c:=(decide (bi<N))) O O (CB (a:=bi) (b:=N))) O (OkL.nil (OkQ.subF (sL [1,2,4,5,3,25] O) (OkQ.then_ ?_)))))))))
  refine OkC.cond O (λhc2=>?_) (λhc2=>?_)
  ·replace hc2:=of_decide_eq_true hc2
   refine OkC.skip (q1 (OkC.block (q4 (asg' O (OkL.nil (q1 (q4 (asg' O (OkL.nil (OkQ.then_ (OkC.block ?_)))))))))))
   refine OkC.lp2 (tg λ(ti:Nat) (cn:Nat)=>ti<=ts.length/\cn<=ti/\cn=Hx ts ai bi ti) (tg λ(ti:Nat) (cn:Nat)=>[(1,(pP b1 0)),(2,(Value.slice none 0 0)),(4,(vN ai)),(5,(vN bi)),(3,(Value.slice p2 oq.length c2)),(7,(vN ti)),(6,(vN cn))]) (tg λ(ti:Nat) (cn:Nat)=>[rowW p2 119 3 oq.length c2 (rowsL Ad oq),AU b1 39 (FE x),AE x.a.p (x.cs),AE x.b.p (rowsL Ad ts),AE x.c.p (x.ds)]) (tg λ(ti:Nat) (cn:Nat)=>ts.length-ti) 0 0 (⟨Nat.zero_le _,Nat.le_refl _,rfl⟩) (sF O) sr (λti cn hJ=>?_)
   obtain ⟨hti,hcn,hcw⟩:=hJ
   refine OkC.seq (q4 (AM O (AH (v:=(pP b1 1)) (AA O underlying39 O sizeOf23 O) O (Au 1 (Value.slice x.b.p ts.length x.b.c) CU O (AH (v:=(vN ts.length)) (AD O underlying23) O (AH (Ae (c:=(decide (ti<ts.length))) O O (CB (a:=ti) (b:=ts.length))) O (OkL.nil (OkQ.subF (sL [1,2,4,5,3,7,6,32] O) (OkQ.then_ ?_)))))))))
   refine OkC.cond O (λhc3=>?_) (λhc3=>?_)
   ·replace hc3:=of_decide_eq_true hc3
    refine OkC.skip (q1 (OkC.block (q4 (AH (v:=(pP b1 1)) (AA O underlying39 O sizeOf23 O) O (Au 1 (Value.slice x.b.p ts.length x.b.c) CU O (AM O (AH (v:=(pP (pB x.b.p) (pO x.b.p+ti*3))) (AL (j:=ti) O O x.b.ok underlying23 sizeOf105 O Z) O (AH (v:=(aG (Ad (ts.getD ti ((0,0,0):Tq3))))) (AT (vs:=Ad (ts.getD ti ((0,0,0):Tq3))) (i:=3) O O (Av.ne x.b.ok Z) ET (Am Az _ _ _ Z) (Az _)) O (AM O (AM O (ck' call111 (I_ (ts.getD ti ((0,0,0):Tq3)) ai bi) O ?_)))))))))))
    refine AM O ?_
    refine OkL.mid (FM:=[(1,(pP b1 0)),(2,(Value.slice none 0 0)),(4,(vN ai)),(5,(vN bi)),(3,(Value.slice p2 oq.length c2)),(7,(vN ti)),(6,(vN cn)),(35,(pP b1 1)),(36,(Value.slice x.b.p ts.length x.b.c)),(37,(vN ti)),(38,(pP (pB x.b.p) (pO x.b.p+ti*3))),(39,(aG (Ad (ts.getD ti ((0,0,0):Tq3))))),(40,(vN ai)),(41,(vN bi)),(42,(Value.bool (Da (ts.getD ti ((0,0,0):Tq3)) ai bi))),(43,(Value.bool (Da (ts.getD ti ((0,0,0):Tq3)) ai bi))),(52,(Value.bool ((Da (ts.getD ti ((0,0,0):Tq3)) ai bi)||(Da (ts.getD ti ((0,0,0):Tq3)) bi ai))))]) (LM:=[rowW p2 119 3 oq.length c2 (rowsL Ad oq),AU b1 39 (FE x),AE x.a.p (x.cs),AE x.b.p (rowsL Ad ts),AE x.c.p (x.ds)]) 9 ?_ ?_
    ·rcases Bool.eq_false_or_eq_true (Da (ts.getD ti ((0,0,0):Tq3)) ai bi) with hg1|hg1
     ·skip
      refine OkL.retell (k:=43) (u:=Value.bool true) O (by rw [hg1]) ?_
      have hg1':=hg1
      skip
      exact OkL.skip (AC O) O (AI O) (OkL.skip (AC O) O (AI O) (OkL.skip (AC O) O (AI O) (OkL.skip (AC O) O (AI O) (OkL.skip (AC O) O (AI O) (OkL.skip (AC O) O (AI O) (OkL.skip (AC O) O (AI O) (OkL.skip (AC O) O (AI O) (AH (v:=(Value.bool true)) (AO O O) O (OkL.nil (OkQ.mid (sS O (sS O (sS O (sS O (sS O (sS O (sS O (sS O (sS O (sS O (sS O (sS O (sS O (sS O (sS O (sS (by first|rfl|(rw [hg1];rfl)|rw [hg1]) (sS (by first|rfl|(rw [hg1];rfl)|rw [hg1]) (sN)))))))))))))))))) (List.Sublist.refl _)))))))))))
     ·skip
      refine OkL.retell (k:=43) (u:=Value.bool false) O (by rw [hg1]) ?_
      have hg1':=hg1
      skip
      exact OkL.step (v:=(pP b1 1)) (AB O) (AA O underlying39 O sizeOf23 O) O (AI O) (OkL.step (v:=(Value.slice x.b.p ts.length x.b.c)) (AB O) (AF (i:=1) (v:=(Value.slice x.b.p ts.length x.b.c)) O O CU.a O) O (AI O) (OkL.step (v:=(vN ti)) (AB O) (Ai O) O (AI O) (OkL.step (v:=(pP (pB x.b.p) (pO x.b.p+ti*3))) (AB O) (AL (j:=ti) O O x.b.ok underlying23 sizeOf105 O Z) O (AI O) (OkL.step (v:=(aG (Ad (ts.getD ti ((0,0,0):Tq3))))) (AB O) (AT (vs:=Ad (ts.getD ti ((0,0,0):Tq3))) (i:=3) O O (Av.ne x.b.ok Z) ET (Am Az _ _ _ Z) (Az _)) O (AI O) (OkL.step (v:=(vN bi)) (AB O) (Ai O) O (AI O) (OkL.step (v:=(vN ai)) (AB O) (Ai O) O (AI O) (OkL.call (v:=(Value.bool (Da (ts.getD ti ((0,0,0):Tq3)) bi ai))) (AB O) (Ap (args:=[(aG (Ad (ts.getD ti ((0,0,0):Tq3)))),(vN bi),(vN ai)]) O O call111) (λw hw=>I_ (ts.getD ti ((0,0,0):Tq3)) bi ai w) O (AI O) (AH (v:=(Value.bool (Da (ts.getD ti ((0,0,0):Tq3)) bi ai))) (AJ O O) O (OkL.nil (OkQ.mid (sS O (sS O (sS O (sS O (sS O (sS O (sS O (sS O (sS O (sS O (sS O (sS O (sS O (sS O (sS O (sS (by first|rfl|(rw [hg1];rfl)|rw [hg1]) (sS (by first|rfl|(rw [hg1];rfl)|rw [hg1]) (sN)))))))))))))))))) (List.Sublist.refl _)))))))))))
    refine OkL.nil (OkQ.subF (sL [1,2,4,5,3,7,6,52] O) (OkQ.then_ ?_))
    refine OkC.cond O (λhc4=>?_) (λhc4=>?_)
    ·simp only [Bool.and_eq_true,Bool.or_eq_true,Bool.and_eq_false_iff,Bool.or_eq_false_iff,Bool.not_eq_true',Bool.not_eq_false',decide_eq_true_eq,decide_eq_false_iff_not] at hc4
     refine OkC.region (AM O (AH (AX (c:=((cn+1:Nat):Int)) O O (AR (a:=cn) (b:=1) Z)) O (asg' O (OkL.nil (OkQ.subF (sL [1,2,4,5,3,7,6] O) (OkQ.in_normal (OkQ.then_ (OkC.region (AM O (AH (AX (c:=((ti+1:Nat):Int)) O O (AR (a:=ti) (b:=1) Z)) O (asg' O ?_)))))))))))
     exact OkL.nil (OkQ.subF (sL [1,2,4,5,3,7,6] O) (OkQ.round2 (ti+1) (cn+1) (⟨Z,Z,by rw [hcw];exact (S7 (by first|exact hc4|simpa [XI] using hc4)).symm⟩) Z (sF O) sr))
    ·simp only [Bool.and_eq_true,Bool.or_eq_true,Bool.and_eq_false_iff,Bool.or_eq_false_iff,Bool.not_eq_true',Bool.not_eq_false',decide_eq_true_eq,decide_eq_false_iff_not] at hc4
     exact OkC.skip (OkQ.in_normal (OkQ.then_ (OkC.region (AM O (AH (AX (c:=((ti+1:Nat):Int)) O O (AR (a:=ti) (b:=1) Z)) O (asg' O (OkL.nil (OkQ.subF (sL [1,2,4,5,3,7,6] O) (OkQ.round2 (ti+1) cn (⟨Z,Z,by rw [hcw];exact (V5 (by first|exact hc4|simpa [XI] using hc4)).symm⟩) Z (sF O) sr)))))))))
   ·replace hc3:=of_decide_eq_false hc3
    have htn:ti=ts.length:=by omega
    subst htn
    refine OkC.exit (OkQ.then_exit (OkQ.round2_exit (OkQ.in_exit (q2 (AM O (AH (BG (c:=(decide (cn=1))) O O (K7 (a:=cn) (b:=1))) O (OkL.nil (OkQ.subF (sL [1,2,4,5,3,7,6,56] O) (OkQ.then_ ?_)))))))))
    refine OkC.cond O (λhc5=>?_) (λhc5=>?_)
    ·replace hc5:=of_decide_eq_true hc5
     refine OkC.region (AM O (AM O (AM O (AH (v:=(aG ([(vN ai),(vN bi),(vI 0)]))) (AQ (zs:=Ad ((0,0,0):Tq3)) (vs:=[(vN ai),(vN bi),(vI 0)]) (pv:=[(0,(vN ai)),(1,(vN bi))]) (places:=[(0,1),(1,1),(2,1)]) zeroValue119 underlying119 (λw=>by simp [sizeOf3]) O O) O (OkL.openV (V:=λb2=>(Value.slice (some ⟨b2,0,none⟩) 1 1)) (T:=119) (cs:=Ad ((ai,bi,0):T3)) (AP O) (Ao (z:=.agg (Ad ((0,0,0):Tq3)).toArray) (cs:=Ad ((ai,bi,0):T3)) (pv:=[(0,(aG ([(vN ai),(vN bi),(vI 0)])))]) underlying37 sizeOf119 zeroValue119 (by decide) (by decide) O (Is ((ai,bi,0):T3))) O (AI O) λb2=>OkL.append1 (j:=0) (cs2:=rowsL Ad (oq++[((ai,bi,0):T3)])) ZF O h2 (Aa Az _) O O O O (by decide) (G0 Z) Z (by rw [BT];rfl) O λp_1 c_1 ho_1 hne_1=>asg' O (OkL.nil (OkQ.subF (sL [1,2,4,5,3,7,6] O) (OkQ.in_normal (OkQ.then_ ?_)))))))))
     refine OkC.region (AM O (AH (AX (c:=((bi+1:Nat):Int)) O O (AR (a:=bi) (b:=1) Z)) O (asg' O (OkL.nil (OkQ.subF (sL [1,2,4,5,3,7,6] O) ?_)))))
     rw [show oq.length+1=(oq++[((ai,bi,0):T3)]).length by simp]
     exact OkQ.round4 (bi+1) p_1 c_1 (oq++[((ai,bi,0):T3)]) (⟨Z,Z,(by simpa using ho_1),by rw [List.length_append];simp only [List.length_singleton];omega,(by rw [hsq,List.append_assoc];congr 1;exact (Tj Z (by rw [<-hcw];exact hc5)).symm)⟩) Z (sF O) (sl sr)
    ·replace hc5:=of_decide_eq_false hc5
     exact OkC.skip (OkQ.in_normal (OkQ.then_ (OkC.region (AM O (AH (AX (c:=((bi+1:Nat):Int)) O O (AR (a:=bi) (b:=1) Z)) O (asg' O (OkL.nil (OkQ.subF (sL [1,2,4,5,3,7,6] O) (OkQ.round4 (bi+1) p2 c2 oq (⟨Z,Z,h2,Z,(by rw [hsq];congr 1;exact (WB Z (by rw [<-hcw];exact hc5)).symm)⟩) Z (sF O) sr)))))))))
  ·replace hc2:=of_decide_eq_false hc2
   have hbn:bi=N:=by omega
   exact OkC.exit (OkQ.then_exit (OkQ.round4_exit (OkQ.in_exit (OkQ.in_normal (OkQ.then_ (OkC.region (AM O (AH (AX (c:=((ai+1:Nat):Int)) O O (AR (a:=ai) (b:=1) Z)) O (asg' O (OkL.nil (OkQ.subF (sL [1,2,4,5,3] O) (OkQ.round4 (ai+1) p2 c2 oq (⟨Z,h2,Z,by rw [hsq,show bi=N by omega];rfl⟩) Z (sF O) sr))))))))))))
 ·replace hc1:=of_decide_eq_false hc1
  exact OkC.exit (OkQ.then_exit (OkQ.round4_exit (OkQ.in_exit (q2 (AM O (asg' O (OkL.nil (OkQ.subF (sL [1,2,4,3] O) (OkQ.then_ (OkC.ret (ret_one O (rd_tmp (v:=(Value.slice p1 ou.length c1)) O) (λw hw=>(by rw [show Bl ts=ou by rw [hou,show ai=N by omega];exact (QT hnb Z).symm];exact Km hw (OX.mk p1 c1 h1) (sk (sl (sl (sl (sl sr))))) (HN.own O HN.nil) O)))))))))))))
end
section
set_option maxRecDepth 100000
theorem Ve (x y:Pt):x+Bd (y-x) ((((1:Int):Int):Rat)/(((2:Int):Int):Rat))=Bd (x+y) (1/2):=by
 have h:((((1:Int):Int):Rat)/(((2:Int):Int):Rat))=1/2:=rfl
 rw [h]
 obtain ⟨a,b⟩:=x
 obtain ⟨c,d⟩:=y
 refine Pt.ext ?_ ?_
 ·show a+(c-a)*(1/2)=(a+c)*(1/2);grind
 ·show b+(d-b)*(1/2)=(b+d)*(1/2);grind
theorem TX (x y:Pt):Ds (Bd (x+y) (1/2))<=Ds x+Ds y+8:=by
 have h1:=Fc (x+y) (1/2)
 have h2:=Hl x y
 have h3:Sz (1/2:Rat)<=4:=by decide +kernel
 omega
theorem Ti {x y:Pt} (a:PX x) (b:PX y) (hs:Ds x+Ds y<=4096) (w:World) {S:Nat->Prop} (ha:Ro S w a) (hb:Ro S w b)  :Calls prog 58 #[(aG (EP a)),(aG (EP b))] w (Af (PX (Bd (x+y) (1/2))) S w):=by
 have hsz:Sz ((((1:Int):Int):Rat)/(((2:Int):Int):Rat))<=4:=by decide +kernel
 have la:=CI (W:=w) ha
 have lb:=CI (W:=w) hb
 refine AY (args:=[(aG (EP a)),(aG (EP b))]) (L:=[B1 a.x.z.n,B1 a.x.m,B1 a.y.z.n,B1 a.y.m,B1 b.x.z.n,B1 b.x.m,B1 b.y.z.n,B1 b.y.m]) func58 O O (AI O) (W_ ha (W_ hb Aj)) (OkC.subF (sL [0,1] O) (q4 (Be (cs:=EP a) O λb1=>Be (cs:=EP b) O λb2=>al Nr O λb3=>q6 (sL [2,3,4] O) (Cd [(0,true),(1,true),(2,true),(3,false),(4,false),(5,false),(6,false),(7,false)] (sl sr) (Ev 1 Ll O (Ev 0 Ll O (Ev 1 Ll O (OkE.imp O ?_))))))))
 have hz1:=V2 y x
 refine cP (S:=S) (x:=(y-x)) (args:=[(aG (EP b)),(aG (EP a))]) call116 (λw hw=>S6 b a Z w (inS hw 7 O lb) (inS hw 3 O la)) O O O λg1 lg1=>OkE.back (sl (sl (sl (sl (sl sr))))) (OkE.imp O (cF (S:=S) (x:=((((1:Int):Int):Rat)/(((2:Int):Int):Rat))) (args:=[(vI 1),(vI 2)]) call117 (λw hw=>S8 (1:Int) (2:Int) Z Z Z Z w) O O O λg2 lg2=>OkE.back (sl (sl (sl (sl (sl (sl (sl sr))))))) (OkE.imp O ?_)))
 have hz2:=Fc (y-x) ((((1:Int):Int):Rat)/(((2:Int):Int):Rat))
 refine cP (S:=S) (x:=(Bd (y-x) ((((1:Int):Int):Rat)/(((2:Int):Int):Rat)))) (args:=[(aG (EP g1)),(aG (fxL g2))]) call115 (λw hw=>PC g1 g2 Z w (inS hw 2 O lg1) (inS hw 0 O lg2)) O O O λg3 lg3=>OkE.back (sl (sl (sl (sl (sl (sl (sl (sl (sl (sl (sl sr))))))))))) (OkE.imp O ?_)
 have hz3:=Hl x (Bd (y-x) ((((1:Int):Int):Rat)/(((2:Int):Int):Rat)))
 exact cP (S:=S) (x:=(Bd (x+y) (1/2))) (args:=[(aG (EP a)),(aG (EP g3))]) call114 (λw hw=>(Af.cast (T:=λi=>PX i) (Ve x y) (UJ a g3 Z w (inS hw 13 O la) (inS hw 0 O lg3)))) O O O λg4 lg4=>OkE.back (sl (sl (sl (sl (sl (sl (sl (sl (sl (sl (sl (sl (sl (sl (sl sr))))))))))))))) (OkE.imp O (FG 14 (off:=0) (vs:=EP g4) (cs':=EP g4) (AP O) O sizeOf121 O (OkE.back (sl (sl (sl (sl (sl (sl (sl (sl (sl (sl (sl (sl (sl (sl (sl sr))))))))))))))) (OkE.nil (OkQ.subF (sL [4] O) (OkQ.then_ (OkC.ret (ret_one O (Ak (i:=14) (cs:=EP g4) O O isAgg121 sizeOf121 O) (λw hw=>D0 (a:=(g4:PX (Bd (x+y) (1/2)))) hw (inS hw 0 O lg4) O)))))))))
theorem JJ {N M K:Nat} (x:RU N M K) (p:Int) (w:World) {S:Nat->Prop} (hx:Ro S w x):Calls prog 57 #[(aG (Kf x)),(vI p)] w (Ah w (Value.bool (Ar N p))):=by
 have lx:=CI (W:=w) hx
 refine AY (args:=[(aG (Kf x)),(vI p)]) (L:=[AE x.a.p (x.cs),AE x.b.p (x.es),AE x.c.p (x.ds)]) func57 O O (AI O) (D9 hx Aj) (OkC.subF (sL [0,1] O) (q4 (Be (cs:=Kf x) O λb1=>asg' O (q3 (sL [1,2,4] O) (AM O (AH (Bx (c:=(decide ((0:Int)<=p))) O O O) O (AM O ?_)))))))
 refine OkL.mid (FM:=[(1,(vI p)),(2,(pP b1 0)),(4,(Value.bool false)),(5,(vI p)),(6,(Value.bool (decide ((0:Int)<=p)))),(7,(Value.bool (decide ((0:Int)<=p)))),(13,(Value.bool ((decide ((0:Int)<=p))&&(decide (p<((N:Nat):Int))))))]) (LM:=[AU b1 39 (Kf x),AE x.a.p (x.cs),AE x.b.p (x.es),AE x.c.p (x.ds)]) 6 ?_ ?_
 ·rcases Bool.eq_false_or_eq_true (decide ((0:Int)<=p)) with hg1|hg1
  ·skip
   refine OkL.retell (k:=7) (u:=Value.bool true) O (by rw [hg1]) ?_
   have hg1':=hg1
   replace hg1':=of_decide_eq_true hg1'
   exact OkL.step (v:=(vI p)) (AB O) (Ai O) O (AI O) (OkL.step (v:=(pP b1 0)) (AB O) (AA O underlying39 O sizeOf36 O) O (AI O) (OkL.step (v:=(Value.slice x.a.p N x.a.c)) (AB O) (AF (i:=0) (v:=(Value.slice x.a.p N x.a.c)) O O Fj.a O) O (AI O) (OkL.step (v:=(vN N)) (AB O) (AD O underlying36) O (AI O) (OkL.step (v:=(Value.bool (decide (p<((N:Nat):Int))))) (AB O) (Ae (c:=(decide (p<((N:Nat):Int)))) O O O) O (AI O) (AH (v:=(Value.bool (decide (p<((N:Nat):Int))))) (AO O O) O (OkL.nil (OkQ.mid (sS O (sS O (sS O (sS O (sS O (sS (by first|rfl|(rw [hg1];rfl)|rw [hg1]) (sS (by first|rfl|(rw [hg1];rfl)|rw [hg1]) (sN)))))))) (List.Sublist.refl _))))))))
  ·skip
   refine OkL.retell (k:=7) (u:=Value.bool false) O (by rw [hg1]) ?_
   have hg1':=hg1
   replace hg1':=of_decide_eq_false hg1'
   exact OkL.skip (AC O) O (AI O) (OkL.skip (AC O) O (AI O) (OkL.skip (AC O) O (AI O) (OkL.skip (AC O) O (AI O) (OkL.skip (AC O) O (AI O) (AH (v:=(Value.bool false)) (AJ O O) O (OkL.nil (OkQ.mid (sS O (sS O (sS O (sS O (sS O (sS (by first|rfl|(rw [hg1];rfl)|rw [hg1]) (sS (by first|rfl|(rw [hg1];rfl)|rw [hg1]) (sN)))))))) (List.Sublist.refl _))))))))
 exact asg' O (OkL.nil (OkQ.subF (sL [4] O) (OkQ.then_ (OkC.ret (ret_one O (rd_tmp (v:=(Value.bool ((decide ((0:Int)<=p))&&(decide (p<((N:Nat):Int)))))) O) (λw hw=>⟨by unfold Ar;first|rfl|simp,hw.out⟩))))))
theorem Ur {N M K:Nat} (x:RU N M K) (hu:∀(S:Nat->Prop) (w:World),Ro S w x->Calls prog 45 #[(aG (Kf x))] w (Ah w (Value.bool false))) (w:World) {S:Nat->Prop} (hx:Ro S w x):Calls prog 59 #[(aG (Kf x))] w (DT (UE (T:=119) (z:=3) (cs:=rowsL Ac ([]:List Z3)) (n:=0)) (Nq (T:=119) (z:=3) (cs:=rowsL Ac ([]:List Z3)) (n:=0)) S w):=by
 have lx:=CI (W:=w) hx
 refine AY (args:=[(aG (Kf x))]) (L:=[AE x.a.p (x.cs),AE x.b.p (x.es),AE x.c.p (x.ds)]) func59 O O (AI O) (D9 hx Aj) (OkC.subF (sL [0] O) (q4 (Be (cs:=Kf x) O λb1=>asg' O (q3 (sL [1,2] O) (asg' O (OkL.nilRow 119 3 (OkL.nil (q1 (q4 (BH 1 DA O ?_))))))))))
 refine Ce call45 (λw hw=>hu _ w (inS hw 2 O lx)) O (AH (BU (c:=true) O O) O (OkL.nil (OkQ.subF (sL [1,2,3,10] O) (OkQ.then_ (OkC.cond_true O (q4 (AM O (asg' O (OkL.nil (OkQ.subF (sL [1,2,3] O) (OkQ.then_ ?_)))))))))))
 exact OkC.ret (OkQ.then_ret (ret_one O (rd_tmp (v:=(Value.slice none 0 0)) O) (λw hw=>(Km hw (OX.mk none 0 OwnOk.none) (sk (sl (sl (sl (sl sr))))) (HN.own O HN.nil) O))))
theorem Tf {N K:Nat} {us:List Z3} (x:RQ N K us) (hl:us.length<=1000000) (hN:N<=4096) (w:World) {S:Nat->Prop} (hx:Ro S w x):Calls prog 59 #[(aG (G6 x))] w (DT (UE (T:=119) (z:=3) (cs:=rowsL Ac ((BB N us).map CQ)) (n:=(BB N us).length)) (Nq (T:=119) (z:=3) (cs:=rowsL Ac ((BB N us).map CQ)) (n:=(BB N us).length)) S w):=by
 cases h:DL N us with
 | true =>
  obtain ⟨y,h1,h2,h3⟩:=Xk x h
  have k:=Sl y h1 (by rw [List.length_map];exact hl) hN w (h3 hx)
  rw [h2] at k
  unfold BB
  rw [if_pos h,<-DY]
  exact k
 | false =>
  have k:=Ur x.ru (λS w hh=>by have h9:=Ka x hl w (S:=S) (λy hy=>hh y hy);rw [h] at h9;exact h9) w (Sj hx)
  unfold BB
  rw [h]
  exact k
set_option maxHeartbeats 1000000 in
theorem KK {N M:Nat} {ss:List Z3} (x:W5 N M ss) (a b:Int) (hl:ss.length<=1000000) (w:World) {S:Nat->Prop} (hx:Ro S w x):Calls prog 60 #[(aG (Mq x)),(vI a),(vI b)] w (Ah w (vI (DD N a b ss))):=by
 have lx:=CI (W:=w) hx
 refine AY (args:=[(aG (Mq x)),(vI a),(vI b)]) (L:=[AE x.a.p (x.cs),AE x.b.p (x.es),AE x.c.p (rowsL Ac ss)]) func60 O O (AI O) (D9 hx Aj) (OkC.subF (sL [0,1,2] O) (q4 (Be (cs:=Mq x) O λb1=>asg' O (q6 (sL [1,2,3,6] O) (q4 (asg' O (OkL.nil (OkQ.then_ (OkC.block ?_)))))))))
 refine OkC.lp1 (tg λ(i:Nat)=>i<=ss.length/\DD N a b ss=DD N a b (ss.drop i)) (tg λ(i:Nat)=>[(1,(vI a)),(2,(vI b)),(3,(pP b1 0)),(7,(vN i))]) (tg λ(i:Nat)=>[AU b1 39 (Mq x),AE x.a.p (x.cs),AE x.b.p (x.es),AE x.c.p (rowsL Ac ss)]) (tg λ(i:Nat)=>ss.length-i) 0 (⟨Nat.zero_le _,rfl⟩) (sF O) sr (λi hJ=>?_)
 obtain ⟨hi,he⟩:=hJ
 refine OkC.seq (q4 (AM O (AH (v:=(pP b1 2)) (AA O underlying39 O sizeOf37 O) O (Au 0 (Value.slice x.c.p ss.length x.c.c) Gt O (AH (v:=(vN ss.length)) (AD O underlying37) O (AH (Ae (c:=(decide (i<ss.length))) O O (CB (a:=i) (b:=ss.length))) O (OkL.nil (OkQ.subF (sL [1,2,3,7,13] O) (OkQ.then_ ?_)))))))))
 refine OkC.cond O (λhc0=>?_) (λhc0=>?_)
 ·replace hc0:=of_decide_eq_true hc0
  obtain ⟨T,hT⟩:∃q,q=ss.getD i (0,0,0):=⟨_,rfl⟩
  refine OkC.skip (q1 (OkC.block (q4 (AH (v:=(pP b1 2)) (AA O underlying39 O sizeOf37 O) O (Au 0 (Value.slice x.c.p ss.length x.c.c) Gt O (AM O (AH (v:=(pP (pB x.c.p) (pO x.c.p+i*3))) (AL (j:=i) O O x.c.ok underlying37 sizeOf119 O Z) O (AH (v:=(aG (Ac (ss.getD i ((0,0,0):Z3))))) (AT (vs:=Ac (ss.getD i ((0,0,0):Z3))) (i:=3) O O (Av.ne x.c.ok Z) Yo (Am Ay _ _ _ Z) (Ay _)) O (OkL.retell (k:=20) (u:=(aG (Ac T))) O (by rw [hT]) (al Yn O λb2=>Ax O sizeOf119 O ?_))))))))))
  refine q3 (sL [1,2,3,7,8] O) (BH 1 DA O (AM O (Ce call57 (λw hw=>JJ x.ru a w (ZA (inS hw 2 O lx))) O (AM O ?_))))
  refine OkL.mid (FM:=[(1,(vI a)),(2,(vI b)),(3,(pP b1 0)),(7,(vN i)),(8,(pP b2 0)),(21,(aG (Mq x))),(22,(vI a)),(23,(Value.bool (Ar N a))),(24,(Value.bool (Ar N a))),(28,(Value.bool ((Ar N a)&&(Ar N b))))]) (LM:=[AU b2 119 (Ac T),AU b1 39 (Mq x),AE x.a.p (x.cs),AE x.b.p (x.es),AE x.c.p (rowsL Ac ss)]) 4 ?_ ?_
  ·rcases Bool.eq_false_or_eq_true (Ar N a) with hg1|hg1
   ·skip
    refine OkL.retell (k:=24) (u:=Value.bool true) O (by rw [hg1]) ?_
    have hg1':=hg1
    skip
    exact OkL.step (v:=(aG (Mq x))) (AB O) (A6 (i:=1) (vs:=Mq x) O O DA.a DA.s O O) O (AI O) (OkL.step (v:=(vI b)) (AB O) (Ai O) O (AI O) (OkL.call (v:=(Value.bool (Ar N b))) (AB O) (Ap (args:=[(aG (Mq x)),(vI b)]) O O call57) (λw hw=>JJ x.ru b w (ZA (inS hw 2 O lx))) O (AI O) (AH (v:=(Value.bool (Ar N b))) (AO O O) O (OkL.nil (OkQ.mid (sS O (sS O (sS O (sS O (sS O (sS O (sS O (sS O (sS (by first|rfl|(rw [hg1];rfl)|rw [hg1]) (sS (by first|rfl|(rw [hg1];rfl)|rw [hg1]) (sN))))))))))) (List.Sublist.refl _))))))
   ·skip
    refine OkL.retell (k:=24) (u:=Value.bool false) O (by rw [hg1]) ?_
    have hg1':=hg1
    skip
    exact OkL.skip (AC O) O (AI O) (OkL.skip (AC O) O (AI O) (OkL.skip (AC O) O (AI O) (AH (v:=(Value.bool false)) (AJ O O) O (OkL.nil (OkQ.mid (sS O (sS O (sS O (sS O (sS O (sS O (sS O (sS O (sS (by first|rfl|(rw [hg1];rfl)|rw [hg1]) (sS (by first|rfl|(rw [hg1];rfl)|rw [hg1]) (sN))))))))))) (List.Sublist.refl _))))))
  refine AM O ?_
  refine OkL.mid (FM:=[(1,(vI a)),(2,(vI b)),(3,(pP b1 0)),(7,(vN i)),(8,(pP b2 0)),(21,(aG (Mq x))),(22,(vI a)),(23,(Value.bool (Ar N a))),(24,(Value.bool (Ar N a))),(28,(Value.bool ((Ar N a)&&(Ar N b)))),(29,(Value.bool ((Ar N a)&&(Ar N b)))),(52,(Value.bool (((Ar N a)&&(Ar N b))&&(((decide (T.1=a))&&(decide (T.2.1=b)))||((decide (T.1=b))&&(decide (T.2.1=a)))))))]) (LM:=[AU b2 119 (Ac T),AU b1 39 (Mq x),AE x.a.p (x.cs),AE x.b.p (x.es),AE x.c.p (rowsL Ac ss)]) 23 ?_ ?_
  ·rcases Bool.eq_false_or_eq_true ((Ar N a)&&(Ar N b)) with hg2|hg2
   ·skip
    refine OkL.retell (k:=29) (u:=Value.bool true) O (by rw [hg2]) ?_
    have hg2':=hg2
    simp only [Bool.and_eq_true,Bool.or_eq_true,Bool.and_eq_false_iff,Bool.or_eq_false_iff,Bool.not_eq_true',Bool.not_eq_false',decide_eq_true_eq,decide_eq_false_iff_not] at hg2'
    refine OkL.step (v:=(pP b2 0)) (AB O) (AA O underlying119 O sizeOf3 O) O (AI O) (OkL.step (v:=(vI T.1)) (AB O) (AF (i:=0) (v:=(vI T.1)) O O BL.a O) O (AI O) (OkL.step (v:=(vI a)) (AB O) (Ai O) O (AI O) (OkL.step (v:=(Value.bool (decide (T.1=a)))) (AB O) (BG (c:=(decide (T.1=a))) O O O) O (AI O) (OkL.step (v:=(Value.bool (decide (T.1=a)))) (AB O) (Ai O) O (AI O) ?_))))
    refine OkL.mid (FM:=[(1,(vI a)),(2,(vI b)),(3,(pP b1 0)),(7,(vN i)),(8,(pP b2 0)),(21,(aG (Mq x))),(22,(vI a)),(23,(Value.bool (Ar N a))),(24,(Value.bool (Ar N a))),(28,(Value.bool ((Ar N a)&&(Ar N b)))),(29,(Value.bool true)),(30,(pP b2 0)),(31,(vI T.1)),(32,(vI a)),(33,(Value.bool (decide (T.1=a)))),(34,(Value.bool (decide (T.1=a)))),(39,(Value.bool ((decide (T.1=a))&&(decide (T.2.1=b)))))]) (LM:=[AU b2 119 (Ac T),AU b1 39 (Mq x),AE x.a.p (x.cs),AE x.b.p (x.es),AE x.c.p (rowsL Ac ss)]) 5 ?_ ?_
    ·rcases Bool.eq_false_or_eq_true (decide (T.1=a)) with hg3|hg3
     ·skip
      refine OkL.retell (k:=34) (u:=Value.bool true) O (by rw [hg3]) ?_
      have hg3':=hg3
      replace hg3':=of_decide_eq_true hg3'
      exact OkL.step (v:=(pP b2 1)) (AB O) (AA O underlying119 O sizeOf3 O) O (AI O) (OkL.step (v:=(vI T.2.1)) (AB O) (AF (i:=0) (v:=(vI T.2.1)) O O BL.a O) O (AI O) (OkL.step (v:=(vI b)) (AB O) (Ai O) O (AI O) (OkL.step (v:=(Value.bool (decide (T.2.1=b)))) (AB O) (BG (c:=(decide (T.2.1=b))) O O O) O (AI O) (OkL.step (v:=(Value.bool (decide (T.2.1=b)))) (AB O) (AO O O) O (AI O) (OkL.nil (OkQ.mid (sS O (sS O (sS O (sS O (sS O (sS O (sS O (sS O (sS O (sS O (sS O (sS O (sS O (sS O (sS O (sS (by first|rfl|(rw [hg3];rfl)|rw [hg3]) (sS (by first|rfl|(rw [hg3];rfl)|rw [hg3]) (sN)))))))))))))))))) (List.Sublist.refl _)))))))
     ·skip
      refine OkL.retell (k:=34) (u:=Value.bool false) O (by rw [hg3]) ?_
      have hg3':=hg3
      replace hg3':=of_decide_eq_false hg3'
      exact OkL.skip (AC O) O (AI O) (OkL.skip (AC O) O (AI O) (OkL.skip (AC O) O (AI O) (OkL.skip (AC O) O (AI O) (OkL.step (v:=(Value.bool false)) (AB O) (AJ O O) O (AI O) (OkL.nil (OkQ.mid (sS O (sS O (sS O (sS O (sS O (sS O (sS O (sS O (sS O (sS O (sS O (sS O (sS O (sS O (sS O (sS (by first|rfl|(rw [hg3];rfl)|rw [hg3]) (sS (by first|rfl|(rw [hg3];rfl)|rw [hg3]) (sN)))))))))))))))))) (List.Sublist.refl _)))))))
    refine OkL.step (v:=(Value.bool ((decide (T.1=a))&&(decide (T.2.1=b))))) (AB O) (Ai O) O (AI O) ?_
    refine OkL.mid (FM:=[(1,(vI a)),(2,(vI b)),(3,(pP b1 0)),(7,(vN i)),(8,(pP b2 0)),(21,(aG (Mq x))),(22,(vI a)),(23,(Value.bool (Ar N a))),(24,(Value.bool (Ar N a))),(28,(Value.bool ((Ar N a)&&(Ar N b)))),(29,(Value.bool true)),(30,(pP b2 0)),(31,(vI T.1)),(32,(vI a)),(33,(Value.bool (decide (T.1=a)))),(34,(Value.bool (decide (T.1=a)))),(39,(Value.bool ((decide (T.1=a))&&(decide (T.2.1=b))))),(40,(Value.bool ((decide (T.1=a))&&(decide (T.2.1=b))))),(51,(Value.bool (((decide (T.1=a))&&(decide (T.2.1=b)))||((decide (T.1=b))&&(decide (T.2.1=a))))))]) (LM:=[AU b2 119 (Ac T),AU b1 39 (Mq x),AE x.a.p (x.cs),AE x.b.p (x.es),AE x.c.p (rowsL Ac ss)]) 11 ?_ ?_
    ·rcases Bool.eq_false_or_eq_true ((decide (T.1=a))&&(decide (T.2.1=b))) with hg4|hg4
     ·skip
      refine OkL.retell (k:=40) (u:=Value.bool true) O (by rw [hg4]) ?_
      have hg4':=hg4
      simp only [Bool.and_eq_true,Bool.or_eq_true,Bool.and_eq_false_iff,Bool.or_eq_false_iff,Bool.not_eq_true',Bool.not_eq_false',decide_eq_true_eq,decide_eq_false_iff_not] at hg4'
      exact OkL.skip (AC O) O (AI O) (OkL.skip (AC O) O (AI O) (OkL.skip (AC O) O (AI O) (OkL.skip (AC O) O (AI O) (OkL.skip (AC O) O (AI O) (OkL.skip (BP O O O) O (AI O) (OkL.skip (BP O O O) O (AI O) (OkL.skip (BP O O O) O (AI O) (OkL.skip (BP O O O) O (AI O) (OkL.skip (AC O) O (AI O) (OkL.step (v:=(Value.bool true)) (AB O) (AO O O) O (AI O) (OkL.nil (OkQ.mid (sS O (sS O (sS O (sS O (sS O (sS O (sS O (sS O (sS O (sS O (sS O (sS O (sS O (sS O (sS O (sS O (sS O (sS (by first|rfl|(rw [hg4];rfl)|rw [hg4]) (sS (by first|rfl|(rw [hg4];rfl)|rw [hg4]) (sN)))))))))))))))))))) (List.Sublist.refl _)))))))))))))
     ·skip
      refine OkL.retell (k:=40) (u:=Value.bool false) O (by rw [hg4]) ?_
      have hg4':=hg4
      simp only [Bool.and_eq_true,Bool.or_eq_true,Bool.and_eq_false_iff,Bool.or_eq_false_iff,Bool.not_eq_true',Bool.not_eq_false',decide_eq_true_eq,decide_eq_false_iff_not] at hg4'
      refine OkL.step (v:=(pP b2 0)) (AB O) (AA O underlying119 O sizeOf3 O) O (AI O) (OkL.step (v:=(vI T.1)) (AB O) (AF (i:=0) (v:=(vI T.1)) O O BL.a O) O (AI O) (OkL.step (v:=(vI b)) (AB O) (Ai O) O (AI O) (OkL.step (v:=(Value.bool (decide (T.1=b)))) (AB O) (BG (c:=(decide (T.1=b))) O O O) O (AI O) (OkL.step (v:=(Value.bool (decide (T.1=b)))) (AB O) (Ai O) O (AI O) ?_))))
      refine OkL.mid (FM:=[(1,(vI a)),(2,(vI b)),(3,(pP b1 0)),(7,(vN i)),(8,(pP b2 0)),(21,(aG (Mq x))),(22,(vI a)),(23,(Value.bool (Ar N a))),(24,(Value.bool (Ar N a))),(28,(Value.bool ((Ar N a)&&(Ar N b)))),(29,(Value.bool true)),(30,(pP b2 0)),(31,(vI T.1)),(32,(vI a)),(33,(Value.bool (decide (T.1=a)))),(34,(Value.bool (decide (T.1=a)))),(39,(Value.bool ((decide (T.1=a))&&(decide (T.2.1=b))))),(40,(Value.bool false)),(41,(pP b2 0)),(42,(vI T.1)),(43,(vI b)),(44,(Value.bool (decide (T.1=b)))),(45,(Value.bool (decide (T.1=b)))),(50,(Value.bool ((decide (T.1=b))&&(decide (T.2.1=a)))))]) (LM:=[AU b2 119 (Ac T),AU b1 39 (Mq x),AE x.a.p (x.cs),AE x.b.p (x.es),AE x.c.p (rowsL Ac ss)]) 5 ?_ ?_
      ·rcases Bool.eq_false_or_eq_true (decide (T.1=b)) with hg5|hg5
       ·skip
        refine OkL.retell (k:=45) (u:=Value.bool true) O (by rw [hg5]) ?_
        have hg5':=hg5
        replace hg5':=of_decide_eq_true hg5'
        exact OkL.step (v:=(pP b2 1)) (AB O) (AA O underlying119 O sizeOf3 O) O (AI O) (OkL.step (v:=(vI T.2.1)) (AB O) (AF (i:=0) (v:=(vI T.2.1)) O O BL.a O) O (AI O) (OkL.step (v:=(vI a)) (AB O) (Ai O) O (AI O) (OkL.step (v:=(Value.bool (decide (T.2.1=a)))) (AB O) (BG (c:=(decide (T.2.1=a))) O O O) O (AI O) (OkL.step (v:=(Value.bool (decide (T.2.1=a)))) (AB O) (AO O O) O (AI O) (OkL.nil (OkQ.mid (sS O (sS O (sS O (sS O (sS O (sS O (sS O (sS O (sS O (sS O (sS O (sS O (sS O (sS O (sS O (sS O (sS O (sS O (sS O (sS O (sS O (sS O (sS (by first|rfl|(rw [hg5];rfl)|rw [hg5]) (sS (by first|rfl|(rw [hg5];rfl)|rw [hg5]) (sN))))))))))))))))))))))))) (List.Sublist.refl _)))))))
       ·skip
        refine OkL.retell (k:=45) (u:=Value.bool false) O (by rw [hg5]) ?_
        have hg5':=hg5
        replace hg5':=of_decide_eq_false hg5'
        exact OkL.skip (AC O) O (AI O) (OkL.skip (AC O) O (AI O) (OkL.skip (AC O) O (AI O) (OkL.skip (AC O) O (AI O) (OkL.step (v:=(Value.bool false)) (AB O) (AJ O O) O (AI O) (OkL.nil (OkQ.mid (sS O (sS O (sS O (sS O (sS O (sS O (sS O (sS O (sS O (sS O (sS O (sS O (sS O (sS O (sS O (sS O (sS O (sS O (sS O (sS O (sS O (sS O (sS (by first|rfl|(rw [hg5];rfl)|rw [hg5]) (sS (by first|rfl|(rw [hg5];rfl)|rw [hg5]) (sN))))))))))))))))))))))))) (List.Sublist.refl _)))))))
      exact OkL.step (v:=(Value.bool ((decide (T.1=b))&&(decide (T.2.1=a))))) (AB O) (AJ O O) O (AI O) (OkL.nil (OkQ.mid (sS O (sS O (sS O (sS O (sS O (sS O (sS O (sS O (sS O (sS O (sS O (sS O (sS O (sS O (sS O (sS O (sS O (sS (by first|rfl|(rw [hg4];rfl)|rw [hg4]) (sS (by first|rfl|(rw [hg4];rfl)|rw [hg4]) (sN)))))))))))))))))))) (List.Sublist.refl _)))
    exact AH (v:=(Value.bool (((decide (T.1=a))&&(decide (T.2.1=b)))||((decide (T.1=b))&&(decide (T.2.1=a)))))) (AO O O) O (OkL.nil (OkQ.mid (sS O (sS O (sS O (sS O (sS O (sS O (sS O (sS O (sS O (sS O (sS (by first|rfl|(rw [hg2];rfl)|rw [hg2]) (sS (by first|rfl|(rw [hg2];rfl)|rw [hg2]) (sN))))))))))))) (List.Sublist.refl _)))
   ·skip
    refine OkL.retell (k:=29) (u:=Value.bool false) O (by rw [hg2]) ?_
    have hg2':=hg2
    simp only [Bool.and_eq_true,Bool.or_eq_true,Bool.and_eq_false_iff,Bool.or_eq_false_iff,Bool.not_eq_true',Bool.not_eq_false',decide_eq_true_eq,decide_eq_false_iff_not] at hg2'
    refine OkL.skip (AC O) O (AI O) (OkL.skip (AC O) O (AI O) (OkL.skip (AC O) O (AI O) (OkL.skip (AC O) O (AI O) (OkL.skip (AC O) O (AI O) (OkL.skip (BP O O O) O (AI O) (OkL.skip (BP O O O) O (AI O) (OkL.skip (BP O O O) O (AI O) (OkL.skip (BP O O O) O (AI O) (OkL.skip (AC O) O (AI O) (OkL.skip (AC O) O (AI O) (OkL.skip (BP O O O) O (AI O) ?_)))))))))))
    exact OkL.skip (BP O O O) O (AI O) (OkL.skip (BP O O O) O (AI O) (OkL.skip (BP O O O) O (AI O) (OkL.skip (BP O O O) O (AI O) (OkL.skip (BP O O O) O (AI O) (OkL.skip (BP O O O) O (AI O) (OkL.skip (BP O O O) O (AI O) (OkL.skip (BP O O O) O (AI O) (OkL.skip (BP O O O) O (AI O) (OkL.skip (AC O) O (AI O) (AH (v:=(Value.bool false)) (AJ O O) O (OkL.nil (OkQ.mid (sS O (sS O (sS O (sS O (sS O (sS O (sS O (sS O (sS O (sS O (sS (by first|rfl|(rw [hg2];rfl)|rw [hg2]) (sS (by first|rfl|(rw [hg2];rfl)|rw [hg2]) (sN))))))))))))) (List.Sublist.refl _)))))))))))))
  refine OkL.nil (OkQ.subF (sL [1,2,3,7,8,52] O) (OkQ.then_ ?_))
  refine OkC.cond O (λhc1=>?_) (λhc1=>?_)
  ·simp only [Bool.and_eq_true,Bool.or_eq_true,Bool.and_eq_false_iff,Bool.or_eq_false_iff,Bool.not_eq_true',Bool.not_eq_false',decide_eq_true_eq,decide_eq_false_iff_not] at hc1
   have hfin:=he.trans (Ud Z hT (by grind))
   refine q4 (AH (v:=(pP b2 2)) (AA O underlying119 O sizeOf3 O) O (Au 0 (vI T.2.2) BL O (asg' O (OkL.nil (OkQ.subF (sL [1,2,3,7,8,6] O) (OkQ.then_ (OkC.ret (OkQ.in_ret (OkQ.then_ret (OkQ.round1_ret (OkQ.in_ret ?_)))))))))))
   exact OkQ.then_ret (ret_one O (rd_tmp (v:=(vI T.2.2)) O) (λw hw=>⟨by rw [hfin]<;>rfl,hw.out⟩))
  ·simp only [Bool.and_eq_true,Bool.or_eq_true,Bool.and_eq_false_iff,Bool.or_eq_false_iff,Bool.not_eq_true',Bool.not_eq_false',decide_eq_true_eq,decide_eq_false_iff_not] at hc1
   exact OkC.skip (OkQ.in_normal (OkQ.then_ (OkC.region (AM O (AH (AX (c:=((i+1:Nat):Int)) O O (AR (a:=i) (b:=1) Z)) O (asg' O (OkL.nil (OkQ.subF (sL [1,2,3,7,8] O) (OkQ.round1 (i+1) (⟨Z,he.trans (V1 Z hT (by grind))⟩) Z (sF O) (sl sr))))))))))
 ·replace hc0:=of_decide_eq_false hc0
  have hfin:DD N a b ss=0:=by rw [he,List.drop_of_length_le Z];rfl
  exact OkC.exit (OkQ.then_exit (OkQ.round1_exit (OkQ.in_exit (q2 (asg' O (OkL.nil (OkQ.then_ (OkC.ret (ret_one O (rd_tmp (v:=(vI 0)) O) (λw hw=>⟨by rw [hfin]<;>rfl,hw.out⟩))))))))))
end
section
set_option maxRecDepth 100000
end
end Go.Proofs.YtpolhpjiahbidaaGreatDoor
