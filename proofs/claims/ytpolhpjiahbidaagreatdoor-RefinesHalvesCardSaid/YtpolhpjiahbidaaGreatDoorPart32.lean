import Derived.Test.YtpolhpjiahbidaaGreatDoorPart21
import Derived.Test.YtpolhpjiahbidaaGreatDoorPart22
import Derived.Test.YtpolhpjiahbidaaGreatDoorPart23
import Derived.Test.YtpolhpjiahbidaaGreatDoorPart27
import Derived.Test.YtpolhpjiahbidaaGreatDoorPart29
import Derived.Test.YtpolhpjiahbidaaGreatDoorPart31
namespace Go.Proofs.YtpolhpjiahbidaaGreatDoor
open Go Go.RowKit Go.Proofs.Tryz
set_option linter.unusedVariables false
set_option linter.unusedSimpArgs false
section
set_option maxRecDepth 100000
theorem X0:ElemT Tryz.prog 37 119 3 24:=⟨Tryz.underlying37,Da (by kernel_rfl)⟩
theorem IZ (x0:Nat×Nat×Nat):Instr.fill (λi=>some (i*3,3)) ((Array.range (1*3)).map ((Value.agg (Aq ((0,0,0):Nat×Nat×Nat)).toArray).cells[·%(Value.agg (Aq ((0,0,0):Nat×Nat×Nat)).toArray).cells.size]!)) [(0,.agg (Aq x0).toArray)]=some (Aq x0).toArray:=by kernel_rfl
set_option maxHeartbeats 2000000 in
theorem Sl {N:Nat} {ts ss:List T3} (x:RM N ts ss) (hnb:B8 N ts=true) (hl:ts.length<=1000000) (hN:N<=4096) (w:World) {S:Nat->Prop} (hx:Ro S w x):Calls Tryz.prog 59 #[(aG (Gc x))] w (DJ (Tx (T:=119) (z:=3) (cs:=rowsL Aq (Bl ts)) (n:=(Bl ts).length)) (NC (T:=119) (z:=3) (cs:=rowsL Aq (Bl ts)) (n:=(Bl ts).length)) S w):=by
 have lx:=CU (W:=w) hx
 refine Aa (args:=[(aG (Gc x))]) (L:=[AF x.a.p (x.cs),AF x.b.p (rowsL Aq ts),AF x.c.p (x.ds)]) Tryz.func59 rfl rfl (AK rfl) (Ee hx Al) (OkC.subF (sL [0] rfl) (q4 (Bg (cs:=Gc x) rfl λb1=>asg' rfl (q3 (sL [1,2] rfl) (asg' rfl (OkL.nilRow 119 3 (OkL.nil (q1 (q4 (BU 1 D_ rfl ?_))))))))))
 refine Cq Tryz.call45 (λw hw=>Vu x hnb hl (by omega) w (inS hw 2 rfl lx)) rfl (AG (Be (c:=false) rfl rfl) rfl (OkL.nil (OkQ.subF (sL [1,2,3,10] rfl) (OkQ.then_ (OkC.cond_false rfl (OkC.skip (q1 (q4 (asg' rfl (OkL.nil (OkQ.subF (sL [1,2,3,4] rfl) ?_)))))))))))
 refine OkQ.then_ (OkC.block ?_)
 refine OkC.lp4 (tg λ(ai:Nat) (p1:Option Addr) (c1:Nat) (ou:List T3)=>ai<=N/\OwnOk p1 ou.length c1/\ou.length<=ai*4096/\ou=Nx ts N ai) (tg λ(ai:Nat) (p1:Option Addr) (c1:Nat) (ou:List T3)=>[(1,(pP b1 0)),(2,(Value.slice none 0 0)),(4,(vN ai)),(3,(Value.slice p1 ou.length c1))]) (tg λ(ai:Nat) (p1:Option Addr) (c1:Nat) (ou:List T3)=>[rowW p1 119 3 ou.length c1 (rowsL Aq ou),AX b1 39 (Gc x),AF x.a.p (x.cs),AF x.b.p (rowsL Aq ts),AF x.c.p (x.ds)]) (tg λ(ai:Nat) (p1:Option Addr) (c1:Nat) (ou:List T3)=>N-ai) 0 none 0 ([]:List T3) (⟨Nat.zero_le _,OwnOk.none,by simp,rfl⟩) (sF rfl) sr (λai p1 c1 ou hJ=>?_)
 obtain ⟨hai,h1,hln,hou⟩:=hJ
 refine OkC.seq (q4 (AO rfl (AG (v:=(pP b1 0)) (AA rfl Tryz.underlying39 rfl Tryz.sizeOf36 rfl) rfl (Aw 1 (Value.slice x.a.p N x.a.c) G1 rfl (AG (v:=(vN N)) (AD rfl Tryz.underlying36) rfl (AG (Af (c:=(decide (ai<N))) rfl rfl (B9 (a:=ai) (b:=N))) rfl (OkL.nil (OkQ.subF (sL [1,2,4,3,16] rfl) (OkQ.then_ ?_)))))))))
 refine OkC.cond rfl (λhc1=>?_) (λhc1=>?_)
 ·replace hc1:=of_decide_eq_true hc1
  refine OkC.skip (q1 (OkC.block (q4 (AO rfl (AG (AY (c:=((ai+1:Nat):Int)) rfl rfl (AT (a:=ai) (b:=1) (by omega))) rfl (asg' rfl (OkL.nil (OkQ.subF (sL [1,2,4,3,5] rfl) (OkQ.then_ (OkC.block ?_))))))))))
  refine OkC.lp4 (tg λ(bi:Nat) (p2:Option Addr) (c2:Nat) (oq:List T3)=>bi<=N/\ai+1<=bi/\OwnOk p2 oq.length c2/\oq.length<=ai*4096+(bi-(ai+1))/\oq=Nx ts N ai++HF ts ai (bi-(ai+1))) (tg λ(bi:Nat) (p2:Option Addr) (c2:Nat) (oq:List T3)=>[(1,(pP b1 0)),(2,(Value.slice none 0 0)),(4,(vN ai)),(5,(vN bi)),(3,(Value.slice p2 oq.length c2))]) (tg λ(bi:Nat) (p2:Option Addr) (c2:Nat) (oq:List T3)=>[rowW p2 119 3 oq.length c2 (rowsL Aq oq),AX b1 39 (Gc x),AF x.a.p (x.cs),AF x.b.p (rowsL Aq ts),AF x.c.p (x.ds)]) (tg λ(bi:Nat) (p2:Option Addr) (c2:Nat) (oq:List T3)=>N-bi) (ai+1) p1 c1 ou (⟨by omega,Nat.le_refl _,h1,by omega,by rw [hou,Nat.sub_self];exact (List.append_nil _).symm⟩) (sF rfl) sr (λbi p2 c2 oq hJ=>?_)
  obtain ⟨hbi,hba,h2,hlq,hsq⟩:=hJ
  refine OkC.seq (q4 (AO rfl (AG (v:=(pP b1 0)) (AA rfl Tryz.underlying39 rfl Tryz.sizeOf36 rfl) rfl (Aw 1 (Value.slice x.a.p N x.a.c) G1 rfl (AG (v:=(vN N)) (AD rfl Tryz.underlying36) rfl (AG (Af (c:=(decide (bi<N))) rfl rfl (B9 (a:=bi) (b:=N))) rfl (OkL.nil (OkQ.subF (sL [1,2,4,5,3,25] rfl) (OkQ.then_ ?_)))))))))
  refine OkC.cond rfl (λhc2=>?_) (λhc2=>?_)
  ·replace hc2:=of_decide_eq_true hc2
   refine OkC.skip (q1 (OkC.block (q4 (asg' rfl (OkL.nil (q1 (q4 (asg' rfl (OkL.nil (OkQ.then_ (OkC.block ?_)))))))))))
   refine OkC.lp2 (tg λ(ti:Nat) (cn:Nat)=>ti<=ts.length/\cn<=ti/\cn=HN ts ai bi ti) (tg λ(ti:Nat) (cn:Nat)=>[(1,(pP b1 0)),(2,(Value.slice none 0 0)),(4,(vN ai)),(5,(vN bi)),(3,(Value.slice p2 oq.length c2)),(7,(vN ti)),(6,(vN cn))]) (tg λ(ti:Nat) (cn:Nat)=>[rowW p2 119 3 oq.length c2 (rowsL Aq oq),AX b1 39 (Gc x),AF x.a.p (x.cs),AF x.b.p (rowsL Aq ts),AF x.c.p (x.ds)]) (tg λ(ti:Nat) (cn:Nat)=>ts.length-ti) 0 0 (⟨Nat.zero_le _,Nat.le_refl _,rfl⟩) (sF rfl) sr (λti cn hJ=>?_)
   obtain ⟨hti,hcn,hcw⟩:=hJ
   refine OkC.seq (q4 (AO rfl (AG (v:=(pP b1 1)) (AA rfl Tryz.underlying39 rfl Tryz.sizeOf23 rfl) rfl (Aw 1 (Value.slice x.b.p ts.length x.b.c) Ds rfl (AG (v:=(vN ts.length)) (AD rfl Tryz.underlying23) rfl (AG (Af (c:=(decide (ti<ts.length))) rfl rfl (B9 (a:=ti) (b:=ts.length))) rfl (OkL.nil (OkQ.subF (sL [1,2,4,5,3,7,6,32] rfl) (OkQ.then_ ?_)))))))))
   refine OkC.cond rfl (λhc3=>?_) (λhc3=>?_)
   ·replace hc3:=of_decide_eq_true hc3
    refine OkC.skip (q1 (OkC.block (q4 (AG (v:=(pP b1 1)) (AA rfl Tryz.underlying39 rfl Tryz.sizeOf23 rfl) rfl (Aw 1 (Value.slice x.b.p ts.length x.b.c) Ds rfl (AO rfl (AG (v:=(pP (pB x.b.p) (pO x.b.p+ti*3))) (AI (j:=ti) rfl rfl x.b.ok Tryz.underlying23 Tryz.sizeOf105 rfl (by omega)) rfl (AG (v:=(aG (Aq (ts.getD ti ((0,0,0):Nat×Nat×Nat))))) (AU (vs:=Aq (ts.getD ti ((0,0,0):Nat×Nat×Nat))) (i:=3) rfl rfl (Ak.ne x.b.ok (by omega)) FC (An BF _ _ _ (by omega)) (BF _)) rfl (AO rfl (AO rfl (ck' Tryz.call111 (Pg (ts.getD ti ((0,0,0):Nat×Nat×Nat)) ai bi) rfl ?_)))))))))))
    refine AO rfl ?_
    refine OkL.mid (FM:=[(1,(pP b1 0)),(2,(Value.slice none 0 0)),(4,(vN ai)),(5,(vN bi)),(3,(Value.slice p2 oq.length c2)),(7,(vN ti)),(6,(vN cn)),(35,(pP b1 1)),(36,(Value.slice x.b.p ts.length x.b.c)),(37,(vN ti)),(38,(pP (pB x.b.p) (pO x.b.p+ti*3))),(39,(aG (Aq (ts.getD ti ((0,0,0):Nat×Nat×Nat))))),(40,(vN ai)),(41,(vN bi)),(42,(Value.bool (Ic (ts.getD ti ((0,0,0):Nat×Nat×Nat)) ai bi))),(43,(Value.bool (Ic (ts.getD ti ((0,0,0):Nat×Nat×Nat)) ai bi))),(52,(Value.bool ((Ic (ts.getD ti ((0,0,0):Nat×Nat×Nat)) ai bi)||(Ic (ts.getD ti ((0,0,0):Nat×Nat×Nat)) bi ai))))]) (LM:=[rowW p2 119 3 oq.length c2 (rowsL Aq oq),AX b1 39 (Gc x),AF x.a.p (x.cs),AF x.b.p (rowsL Aq ts),AF x.c.p (x.ds)]) 9 ?_ ?_
    ·rcases Bool.eq_false_or_eq_true (Ic (ts.getD ti ((0,0,0):Nat×Nat×Nat)) ai bi) with hg1|hg1
     ·skip
      refine OkL.retell (k:=43) (u:=Value.bool true) rfl (by rw [hg1]) ?_
      have hg1':=hg1
      skip
      exact OkL.skip (AC rfl) rfl (AK rfl) (OkL.skip (AC rfl) rfl (AK rfl) (OkL.skip (AC rfl) rfl (AK rfl) (OkL.skip (AC rfl) rfl (AK rfl) (OkL.skip (AC rfl) rfl (AK rfl) (OkL.skip (AC rfl) rfl (AK rfl) (OkL.skip (AC rfl) rfl (AK rfl) (OkL.skip (AC rfl) rfl (AK rfl) (AG (v:=(Value.bool true)) (AN rfl rfl) rfl (OkL.nil (OkQ.mid (sS rfl (sS rfl (sS rfl (sS rfl (sS rfl (sS rfl (sS rfl (sS rfl (sS rfl (sS rfl (sS rfl (sS rfl (sS rfl (sS rfl (sS rfl (sS (by first|rfl|(rw [hg1];rfl)|rw [hg1]) (sS (by first|rfl|(rw [hg1];rfl)|rw [hg1]) (sN)))))))))))))))))) (List.Sublist.refl _)))))))))))
     ·skip
      refine OkL.retell (k:=43) (u:=Value.bool false) rfl (by rw [hg1]) ?_
      have hg1':=hg1
      skip
      exact OkL.step (v:=(pP b1 1)) (AB rfl) (AA rfl Tryz.underlying39 rfl Tryz.sizeOf23 rfl) rfl (AK rfl) (OkL.step (v:=(Value.slice x.b.p ts.length x.b.c)) (AB rfl) (AE (i:=1) (v:=(Value.slice x.b.p ts.length x.b.c)) rfl rfl Ds.a rfl) rfl (AK rfl) (OkL.step (v:=(vN ti)) (AB rfl) (Ac rfl) rfl (AK rfl) (OkL.step (v:=(pP (pB x.b.p) (pO x.b.p+ti*3))) (AB rfl) (AI (j:=ti) rfl rfl x.b.ok Tryz.underlying23 Tryz.sizeOf105 rfl (by omega)) rfl (AK rfl) (OkL.step (v:=(aG (Aq (ts.getD ti ((0,0,0):Nat×Nat×Nat))))) (AB rfl) (AU (vs:=Aq (ts.getD ti ((0,0,0):Nat×Nat×Nat))) (i:=3) rfl rfl (Ak.ne x.b.ok (by omega)) FC (An BF _ _ _ (by omega)) (BF _)) rfl (AK rfl) (OkL.step (v:=(vN bi)) (AB rfl) (Ac rfl) rfl (AK rfl) (OkL.step (v:=(vN ai)) (AB rfl) (Ac rfl) rfl (AK rfl) (OkL.call (v:=(Value.bool (Ic (ts.getD ti ((0,0,0):Nat×Nat×Nat)) bi ai))) (AB rfl) (Ap (args:=[(aG (Aq (ts.getD ti ((0,0,0):Nat×Nat×Nat)))),(vN bi),(vN ai)]) rfl rfl Tryz.call111) (λw hw=>Pg (ts.getD ti ((0,0,0):Nat×Nat×Nat)) bi ai w) rfl (AK rfl) (AG (v:=(Value.bool (Ic (ts.getD ti ((0,0,0):Nat×Nat×Nat)) bi ai))) (AJ rfl rfl) rfl (OkL.nil (OkQ.mid (sS rfl (sS rfl (sS rfl (sS rfl (sS rfl (sS rfl (sS rfl (sS rfl (sS rfl (sS rfl (sS rfl (sS rfl (sS rfl (sS rfl (sS rfl (sS (by first|rfl|(rw [hg1];rfl)|rw [hg1]) (sS (by first|rfl|(rw [hg1];rfl)|rw [hg1]) (sN)))))))))))))))))) (List.Sublist.refl _)))))))))))
    refine OkL.nil (OkQ.subF (sL [1,2,4,5,3,7,6,52] rfl) (OkQ.then_ ?_))
    refine OkC.cond rfl (λhc4=>?_) (λhc4=>?_)
    ·simp only [Bool.and_eq_true,Bool.or_eq_true,Bool.and_eq_false_iff,Bool.or_eq_false_iff,Bool.not_eq_true',Bool.not_eq_false',decide_eq_true_eq,decide_eq_false_iff_not] at hc4
     refine OkC.region (AO rfl (AG (AY (c:=((cn+1:Nat):Int)) rfl rfl (AT (a:=cn) (b:=1) (by omega))) rfl (asg' rfl (OkL.nil (OkQ.subF (sL [1,2,4,5,3,7,6] rfl) (OkQ.in_normal (OkQ.then_ (OkC.region (AO rfl (AG (AY (c:=((ti+1:Nat):Int)) rfl rfl (AT (a:=ti) (b:=1) (by omega))) rfl (asg' rfl ?_)))))))))))
     exact OkL.nil (OkQ.subF (sL [1,2,4,5,3,7,6] rfl) (OkQ.round2 (ti+1) (cn+1) (⟨by omega,by omega,by rw [hcw];exact (TP (by first|exact hc4|simpa [Vz] using hc4)).symm⟩) (by omega) (sF rfl) sr))
    ·simp only [Bool.and_eq_true,Bool.or_eq_true,Bool.and_eq_false_iff,Bool.or_eq_false_iff,Bool.not_eq_true',Bool.not_eq_false',decide_eq_true_eq,decide_eq_false_iff_not] at hc4
     exact OkC.skip (OkQ.in_normal (OkQ.then_ (OkC.region (AO rfl (AG (AY (c:=((ti+1:Nat):Int)) rfl rfl (AT (a:=ti) (b:=1) (by omega))) rfl (asg' rfl (OkL.nil (OkQ.subF (sL [1,2,4,5,3,7,6] rfl) (OkQ.round2 (ti+1) cn (⟨by omega,by omega,by rw [hcw];exact (Vo (by first|exact hc4|simpa [Vz] using hc4)).symm⟩) (by omega) (sF rfl) sr)))))))))
   ·replace hc3:=of_decide_eq_false hc3
    have htn:ti=ts.length:=by omega
    subst htn
    refine OkC.exit (OkQ.then_exit (OkQ.round2_exit (OkQ.in_exit (q2 (AO rfl (AG (BE (c:=(decide (cn=1))) rfl rfl (L5 (a:=cn) (b:=1))) rfl (OkL.nil (OkQ.subF (sL [1,2,4,5,3,7,6,56] rfl) (OkQ.then_ ?_)))))))))
    refine OkC.cond rfl (λhc5=>?_) (λhc5=>?_)
    ·replace hc5:=of_decide_eq_true hc5
     refine OkC.region (AO rfl (AO rfl (AO rfl (AG (v:=(aG ([(vN ai),(vN bi),(vI 0)]))) (AR (zs:=Aq ((0,0,0):Nat×Nat×Nat)) (vs:=[(vN ai),(vN bi),(vI 0)]) (pv:=[(0,(vN ai)),(1,(vN bi))]) (places:=[(0,1),(1,1),(2,1)]) Tryz.zeroValue119 Tryz.underlying119 (λw=>by simp [Tryz.sizeOf3]) rfl rfl) rfl (OkL.openV (V:=λb2=>(Value.slice (some ⟨b2,0,none⟩) 1 1)) (T:=119) (cs:=Aq ((ai,bi,0):T3)) (AP rfl) (Av (z:=.agg (Aq ((0,0,0):Nat×Nat×Nat)).toArray) (cs:=Aq ((ai,bi,0):T3)) (pv:=[(0,(aG ([(vN ai),(vN bi),(vI 0)])))]) Tryz.underlying37 Tryz.sizeOf119 Tryz.zeroValue119 (by decide) (by decide) rfl (IZ ((ai,bi,0):T3))) rfl (AK rfl) λb2=>OkL.append1 (j:=0) (cs2:=rowsL Aq (oq++[((ai,bi,0):T3)])) X0 rfl h2 (Ab BF _) rfl rfl rfl rfl (by decide) (HL (by omega)) (by omega) (by rw [Ba];rfl) rfl λp_1 c_1 ho_1 hne_1=>asg' rfl (OkL.nil (OkQ.subF (sL [1,2,4,5,3,7,6] rfl) (OkQ.in_normal (OkQ.then_ ?_)))))))))
     refine OkC.region (AO rfl (AG (AY (c:=((bi+1:Nat):Int)) rfl rfl (AT (a:=bi) (b:=1) (by omega))) rfl (asg' rfl (OkL.nil (OkQ.subF (sL [1,2,4,5,3,7,6] rfl) ?_)))))
     rw [show oq.length+1=(oq++[((ai,bi,0):T3)]).length by simp]
     exact OkQ.round4 (bi+1) p_1 c_1 (oq++[((ai,bi,0):T3)]) (⟨by omega,by omega,(by simpa using ho_1),by rw [List.length_append];simp only [List.length_singleton];omega,(by rw [hsq,List.append_assoc];congr 1;exact (Rc (by omega) (by rw [<-hcw];exact hc5)).symm)⟩) (by omega) (sF rfl) (sl sr)
    ·replace hc5:=of_decide_eq_false hc5
     exact OkC.skip (OkQ.in_normal (OkQ.then_ (OkC.region (AO rfl (AG (AY (c:=((bi+1:Nat):Int)) rfl rfl (AT (a:=bi) (b:=1) (by omega))) rfl (asg' rfl (OkL.nil (OkQ.subF (sL [1,2,4,5,3,7,6] rfl) (OkQ.round4 (bi+1) p2 c2 oq (⟨by omega,by omega,h2,by omega,(by rw [hsq];congr 1;exact (UN (by omega) (by rw [<-hcw];exact hc5)).symm)⟩) (by omega) (sF rfl) sr)))))))))
  ·replace hc2:=of_decide_eq_false hc2
   have hbn:bi=N:=by omega
   exact OkC.exit (OkQ.then_exit (OkQ.round4_exit (OkQ.in_exit (OkQ.in_normal (OkQ.then_ (OkC.region (AO rfl (AG (AY (c:=((ai+1:Nat):Int)) rfl rfl (AT (a:=ai) (b:=1) (by omega))) rfl (asg' rfl (OkL.nil (OkQ.subF (sL [1,2,4,5,3] rfl) (OkQ.round4 (ai+1) p2 c2 oq (⟨by omega,h2,by omega,by rw [hsq,show bi=N by omega];rfl⟩) (by omega) (sF rfl) sr))))))))))))
 ·replace hc1:=of_decide_eq_false hc1
  exact OkC.exit (OkQ.then_exit (OkQ.round4_exit (OkQ.in_exit (q2 (AO rfl (asg' rfl (OkL.nil (OkQ.subF (sL [1,2,4,3] rfl) (OkQ.then_ (OkC.ret (ret_one rfl (rd_tmp (v:=(Value.slice p1 ou.length c1)) rfl) (λw hw=>(by rw [show Bl ts=ou by rw [hou,show ai=N by omega];exact (PZ hnb (by omega)).symm];exact J7 hw (OX.mk p1 c1 h1) (sk (sl (sl (sl (sl sr))))) (G0.own rfl G0.nil) rfl)))))))))))))
end
theorem I6 {α:Type} {enc:α->List Value} {z:Nat} (h:∀x,(enc x).length=z) (d:α) (xs:List α) (j r k:Nat) (hj:j<xs.length) (hr:r+k<=z) {vs:List Value} (hv:((enc (xs.getD j d)).drop r).take k=vs):((rowsL enc xs).drop (j*z+r)).take k=vs:=by
  have h1:=An h d xs j hj
  rw [<-hv,<-h1,List.drop_take,List.take_take,List.drop_drop,Nat.min_eq_left (by omega)]
section
abbrev Z3:=Int×Int×Int
def Ad (t:Z3):List Value:=[vI t.1,vI t.2.1,vI t.2.2]
theorem Au (t:Z3):(Ad t).length=3:=rfl
theorem HG (t:Z3):((Ad t).all λu=>u.oneCell')=true:=rfl
structure MZ (ps:List Pt) (ts ss:List Z3) where
  a:RX (rowsL BC ps) ps.length
  b:RX (rowsL Ad ts) ts.length
  c:RX (rowsL Ad ss) ss.length
def Fr {ps:List Pt} {ts ss:List Z3} (x:MZ ps ts ss):List Value:=[x.a.val,x.b.val,x.c.val]
theorem Rp {ps:List Pt} {ts ss:List Z3} {x:MZ ps ts ss} {y:As} (hy:y∈[x.a.row,x.b.row,x.c.row]):y.ro=true:=by
  simp only [List.mem_cons,List.not_mem_nil,or_false] at hy
  rcases hy with rfl|rfl|rfl<;>rfl
instance {ps:List Pt} {ts ss:List Z3}:Ci (MZ ps ts ss):=⟨λx=>aG (Fr x),λx=>[x.a.row,x.b.row,x.c.row],λx y hy=>Rp hy⟩
structure RW where
  ds:List PD
  ts:List Z3
  ss:List Z3
  a:RX (rowsL E2 ds) ds.length
  b:RX (rowsL Ad ts) ts.length
  c:RX (rowsL Ad ss) ss.length
  hd:∀d∈ds,d.ok
def E3 (x:RW):List Value:=[x.a.val,x.b.val,x.c.val]
theorem Xk {x:RW} {y:As} (hy:y∈[x.a.row,x.b.row,x.c.row]):y.ro=true:=by
  simp only [List.mem_cons,List.not_mem_nil,or_false] at hy
  rcases hy with rfl|rfl|rfl<;>rfl
instance:Ci RW:=⟨λx=>aG (E3 x),λx=>[x.a.row,x.b.row,x.c.row],λx y hy=>Xk hy⟩
def RW.ps (x:RW):List Pt:=x.ds.map Fx
theorem Fa (d:PD):(E2 d).length=4:=rfl
def Dv:PD:=⟨⟨0,0⟩,⟨0,0⟩⟩
section
variable {S:Nat->Prop} {w:World} {ps:List Pt} {ts ss:List Z3} {x:MZ ps ts ss} {r:RW}
theorem YX (h:Ro S w x):Ro S w x.a:=λy hy=>by rcases List.mem_singleton.1 hy with rfl;exact h _ List.mem_cons_self
end
structure RP where
  p:Pt
  x:PX p
def Jt:RP:=⟨⟨0,0⟩,⟨FX.zero,FX.zero⟩⟩
@[reducible] def Cs (r:RP):List Value:=D7 r.x
theorem DS (r:RP):(Cs r).length=6:=rfl
theorem VD (r:RP):((Cs r).all λu=>u.oneCell')=true:=rfl
def Db (rs:List RP):List As:=rs.flatMap λr=>Ci.rows r.x
theorem OV {rs:List RP} {y:As} (h:y∈Db rs):y.ro=true:=by
  obtain ⟨r,_,h⟩:=List.mem_flatMap.1 h
  exact Ci.ro r.x y h
theorem MR (rs:List RP) (r:RP):Db (rs++[r])=Db rs++Ci.rows r.x:=by simp [Db]
theorem TU (r:RP) (A:List As) (rs:List RP):(Ci.rows r.x++(A++Db rs)).Perm (A++Db (rs++[r])):=by
  rw [MR,<-List.append_assoc A]
  exact List.perm_append_comm
theorem Rs (A T L:List As):(A++(T++L)).Perm (A++(L++T)):=(List.Perm.refl A).append List.perm_append_comm
structure In (ps:List Pt) (ts ss:List Z3) where
  rs:List RP
  e:rs.map (·.p)=ps
  a:RX (rowsL Cs rs) rs.length
  b:RX (rowsL Ad ts) ts.length
  c:RX (rowsL Ad ss) ss.length
def E1 {ps:List Pt} {ts ss:List Z3} (x:In ps ts ss):List Value:=[x.a.val,x.b.val,x.c.val]
theorem Vy {ps:List Pt} {ts ss:List Z3} {x:In ps ts ss} {y:As} (hy:y∈[x.a.row,x.b.row,x.c.row]++Db x.rs):y.ro=true:=by
  rcases List.mem_append.1 hy with hy|hy
  · simp only [List.mem_cons,List.not_mem_nil,or_false] at hy
    rcases hy with rfl|rfl|rfl<;>rfl
  · exact OV hy
instance {ps:List Pt} {ts ss:List Z3}:Ci (In ps ts ss):=⟨λx=>aG (E1 x),λx=>[x.a.row,x.b.row,x.c.row]++Db x.rs,λx y hy=>Vy hy⟩
theorem In.at {ps:List Pt} {ts ss:List Z3} (x:In ps ts ss) {i:Nat} (h:i<x.rs.length):(x.rs.getD i Jt).p=ps.getD i ⟨0,0⟩:=by
  have h1:(x.rs.map (·.p)).getD i ⟨0,0⟩=ps.getD i ⟨0,0⟩:=congrArg (λl=>l.getD i ⟨0,0⟩) x.e
  rw [<-h1]
  simp [h]
theorem In.len {ps:List Pt} {ts ss:List Z3} (x:In ps ts ss):x.rs.length=ps.length:=by
  have h:=congrArg List.length x.e
  rwa [List.length_map] at h
section
variable {P:Program} {ops:Array Oper} {rest:List Oper} {Q:Exit->Act->World->Prop} {n:Nat} {F:List (Nat×Value)} {w0:A_} {S:Nat->Prop} {L L2 A:List As} {w W:World} {rs:List RP} {i:Nat} {ps:List Pt} {ts ss:List Z3}
theorem OkL.permR (hp:L.Perm L2) (next:OkL P ops rest Q n F w0 L2):OkL P ops rest Q n F w0 L:=λa w ha hW=>next a w ha (hW.perm hp)
theorem WG (hw:BB w0 w L) (hs:∀y∈Db rs,y∈L) (hi:i<rs.length) (ha:∀y∈Db rs,∀b,y.foot=some b->Nw w0 S b):Ro (SL w0 S L) w (rs.getD i Jt).x:=λy hy=>by
  have hm:y∈Db rs:=List.mem_flatMap.2 ⟨rs[i],List.getElem_mem hi,by rw [List.getD,List.getElem?_eq_getElem hi] at hy;exact hy⟩
  exact ⟨λb e=>(hw.2.1 y (hs y hm) b e).2,λb e=>⟨⟨y,hs y hm,OV hm,e⟩,ha y hm b e⟩⟩
theorem At.snoc {r:RP} (h:∀y∈Db rs,∀b,y.foot=some b->Nw w0 S b) (k:At w0 S r.x):∀y∈Db (rs++[r]),∀b,y.foot=some b->Nw w0 S b:=λy hy=>by
  rw [MR] at hy
  rcases List.mem_append.1 hy with hy|hy
  · exact h y hy
  · exact k y hy
theorem At.rpt {x:In ps ts ss} (h:At w0 S x):∀y∈Db x.rs,∀b,y.foot=some b->Nw w0 S b:=λy hy=>h y (List.mem_append_right [x.a.row,x.b.row,x.c.row] hy)
theorem S4 (hw:BB ⟨W,none⟩ w (A++Db rs)) (i j k:Nat) {p1 p2 p3:Option Addr} {T1 T2 T3 n1 n2 n3 c1 c2 c3:Nat} (h1:A[i]?=some (rowW p1 T1 6 n1 c1 (rowsL Cs rs))) (h2:A[j]?=some (rowW p2 T2 3 n2 c2 (rowsL Ad ts))) (h3:A[k]?=some (rowW p3 T3 3 n3 c3 (rowsL Ad ss)))
    (o1:OwnOk p1 n1 c1) (o2:OwnOk p2 n2 c2) (o3:OwnOk p3 n3 c3) (e1:n1=rs.length) (e2:n2=ts.length) (e3:n3=ss.length) (he:rs.map (·.p)=ps) (hat:∀y∈Db rs,∀b,y.foot=some b->Nw ⟨W,none⟩ S b)
    {v:Value} (hv:v=aG [.slice p1 n1 c1,.slice p2 n2 c2,.slice p3 n3 c3]):Ah (In ps ts ss) S W (.returned v) w:=by
  subst e1;subst e2;subst e3
  have up:∀{i:Nat} {x:As},A[i]?=some x->(A++Db rs)[i]?=some x:=λ{i x} h=>by rw [List.getElem?_append_left (List.getElem?_eq_some_iff.1 h).1];exact h
  refine ⟨⟨rs,he,⟨p1,c1,o1.row⟩,⟨p2,c2,o2.row⟩,⟨p3,c3,o3.row⟩⟩,by rw [hv];rfl,hw.out,λy hy=>?_⟩
  have hy:y∈[AF p1 (rowsL Cs rs),AF p2 (rowsL Ad ts),AF p3 (rowsL Ad ss)]++Db rs:=hy
  rcases List.mem_append.1 hy with hy|hy
  · simp only [List.mem_cons,List.not_mem_nil,or_false] at hy
    rcases hy with rfl|rfl|rfl
    · exact DC hw i (up h1) o1 (Ab DS _)
    · exact DC hw j (up h2) o2 (Ab Au _)
    · exact DC hw k (up h3) o3 (Ab Au _)
  · exact ⟨λb e=>(hw.2.1 _ (List.mem_append_right _ hy) b e).2,hat y hy⟩
theorem X8 (hw:BB ⟨W,none⟩ w L) (i j k:Nat) {p1 p2 p3:Option Addr} {T1 T2 T3 n1 n2 n3 c1 c2 c3:Nat} (h1:L[i]?=some (rowW p1 T1 10 n1 c1 (rowsL BC ps))) (h2:L[j]?=some (rowW p2 T2 3 n2 c2 (rowsL Ad ts))) (h3:L[k]?=some (rowW p3 T3 3 n3 c3 (rowsL Ad ss)))
    (o1:OwnOk p1 n1 c1) (o2:OwnOk p2 n2 c2) (o3:OwnOk p3 n3 c3) (e1:n1=ps.length) (e2:n2=ts.length) (e3:n3=ss.length)
    {v:Value} (hv:v=aG [.slice p1 n1 c1,.slice p2 n2 c2,.slice p3 n3 c3]):Ah (MZ ps ts ss) S W (.returned v) w:=by
  subst e1;subst e2;subst e3
  refine ⟨⟨⟨p1,c1,o1.row⟩,⟨p2,c2,o2.row⟩,⟨p3,c3,o3.row⟩⟩,by rw [hv];rfl,hw.out,λy hy=>?_⟩
  have hy:y∈[AF p1 (rowsL BC ps),AF p2 (rowsL Ad ts),AF p3 (rowsL Ad ss)]:=hy
  simp only [List.mem_cons,List.not_mem_nil,or_false] at hy
  rcases hy with rfl|rfl|rfl
  · exact DC hw i h1 o1 (Ab Bk _)
  · exact DC hw j h2 o2 (Ab Au _)
  · exact DC hw k h3 o3 (Ab Au _)
end
theorem Wv (a b:Z3):((a.1 == b.1)&&((a.2.1 == b.2.1)&&((a.2.2 == b.2.2)&&true)))=decide (a=b):=by
  obtain ⟨a1,a2,a3⟩:=a
  obtain ⟨b1,b2,b3⟩:=b
  rw [Bool.eq_iff_iff]
  simp
theorem WU (D:Nat) (a b:Z3):ER Tryz.prog (D+2) 105 (.agg (Ad a).toArray) (.agg (Ad b).toArray) (decide (a=b)):=by
  rw [<-Wv]
  exact ER.array Tryz.underlying105 NT Kz (O5.one Tryz.isAgg3 rfl rfl (ER.int Tryz.underlying3) (O5.one Tryz.isAgg3 rfl rfl (ER.int Tryz.underlying3) (O5.one Tryz.isAgg3 rfl rfl (ER.int Tryz.underlying3) O5.nil)))
theorem I3 {α:Type} {d:α} {xs ys:List α} (hl:xs.length=ys.length) (h:∀i,i<xs.length->xs.getD i d=ys.getD i d):xs=ys:=by
  refine List.ext_getElem hl λi h1 h2=>?_
  have:=h i h1
  rwa [List.getD,List.getD,List.getElem?_eq_getElem h1,List.getElem?_eq_getElem h2] at this
theorem HE {α:Type} {d:α} {xs ys:List α} {i:Nat} (h:xs.getD i d≠ys.getD i d):xs≠ys:=λe=>h (by rw [e])
theorem Mv (r:RW) {i:Nat} (h:i<r.ds.length):r.ps.getD i ⟨0,0⟩=Fx (r.ds.getD i Dv):=by
  unfold RW.ps
  simp [h]
theorem RW.pl (r:RW):r.ps.length=r.ds.length:=by unfold RW.ps;rw [List.length_map]
theorem RW.ok (r:RW) {i:Nat} (h:i<r.ds.length):(r.ds.getD i Dv).ok:=by
  rw [List.getD,List.getElem?_eq_getElem h]
  exact r.hd _ (List.getElem_mem h)
theorem RW.sz (r:RW) (i:Nat) (h:i<r.ps.length):D9 (r.ps.getD i ⟨0,0⟩)<=4:=by
  rw [r.pl] at h
  rw [Mv r h]
  exact RL (r.ok h)
structure Zl (ps:List Pt) (ts ss:List Z3) where
  a:OX 99 10 (rowsL BC ps) ps.length
  b:OX 105 3 (rowsL Ad ts) ts.length
  c:OX 110 3 (rowsL Ad ss) ss.length
@[reducible] def Zu {ps:List Pt} {ts ss:List Z3} (x:Zl ps ts ss):List As:=[rowW x.c.p 110 3 ss.length x.c.c (rowsL Ad ss),rowW x.b.p 105 3 ts.length x.b.c (rowsL Ad ts),rowW x.a.p 99 10 ps.length x.a.c (rowsL BC ps)]
section
variable {S:Nat->Prop} {w:World} {w0:A_} {L:List As} {ps:List Pt} {ts ss:List Z3}
theorem ZG {α:Type} [Ci α] {a:α} (h:Ro S w a):∀y∈Ci.rows a,y.ro=true/\Holds w y:=λy k=>⟨Ci.ro a y k,(h y k).1⟩
abbrev UD (_:Nat):Prop:=True
theorem Yb {α:Type} [Ci α] {a:α} (h:Ro S w a):Ro UD w a:=h.mono λ_ _=>trivial
theorem Vw (hw:BB w0 w L) (i:Nat) {p:Option Addr} {T:TypeId} {z n n' c c':Nat} {cs:List Value} {ok:Ak p n' c'} (hi:L[i]?=some (rowW p T z n c cs)) (ho:OwnOk p n c) (hl:cs.length=n*z):Ro UD w (⟨p,c',ok⟩:RX cs n'):=λy hy=>by
  rcases List.mem_singleton.1 hy with rfl
  refine ⟨λd e=>?_,λ_ _=>trivial⟩
  obtain ⟨_,o,ho2,hp⟩:=hw.2.1 _ (List.mem_of_getElem? hi) d e
  exact ⟨o,ho2,CD ho hl hp⟩
theorem QE {x:In ps ts ss} (hw:BB w0 w L) (i:Nat) (hi:(L.drop i).take 3=[x.a.row,x.b.row,x.c.row]) (hs:∀y∈Db x.rs,y∈L):Ro UD w x:=λy hy=>by
  have hy:y∈[x.a.row,x.b.row,x.c.row]++Db x.rs:=hy
  have hm:y∈L:=by
    rcases List.mem_append.1 hy with hy|hy
    · exact List.mem_of_mem_drop (List.mem_of_mem_take (hi▸hy))
    · exact hs y hy
  exact ⟨λb e=>(hw.2.1 y hm b e).2,λ_ _=>trivial⟩
end
theorem MO (r:RW) {i:Nat} (h:i<r.ds.length):r.ps.take (i+1)=r.ps.take i++[Fx (r.ds.getD i Dv)]:=by
  rw [<-Mv r h,List.take_add_one,List.getD,List.getElem?_eq_getElem (by rw [r.pl];exact h)]
  rfl
end
section
def Ao (n:Nat) (p:Int):Bool:=decide (0<=p)&&decide (p<(n:Int))
def NZ (n:Nat) (t:Z3):Bool:=Ao n t.1&&Ao n t.2.1&&Ao n t.2.2&&!decide (t.1=t.2.1)&&!decide (t.2.1=t.2.2)&&!decide (t.2.2=t.1)
def Fd (n:Nat) (ts:List Z3):Bool:=ts.all (NZ n)
def idxZ (n:Nat):List Z3->Nat->Int
  | [],_ => -1
  | t::r,i=>if NZ n t=true then idxZ n r (i+1) else (i:Int)
theorem P7 {n:Nat} {ts:List Z3} {j:Nat} (hj:j<ts.length) (h:NZ n (ts.getD j (0,0,0))=true):idxZ n (ts.drop j) j=idxZ n (ts.drop (j+1)) (j+1):=by
  rw [Dq (d:=(0,0,0)) hj];exact if_pos h
theorem T8 {n:Nat} {ts:List Z3} {j:Nat} (hj:j<ts.length) (h:NZ n (ts.getD j (0,0,0))=false):idxZ n (ts.drop j) j=(j:Int):=by
  rw [Dq (d:=(0,0,0)) hj];exact if_neg (by rw [h];exact Bool.false_ne_true)
theorem S8 {n:Nat} {ts:List Z3} {j:Nat} (hj:¬j<ts.length):idxZ n (ts.drop j) j = -1:=by
  rw [List.drop_of_length_le (by omega)];rfl
theorem Kr (n:Nat):∀(ts:List Z3) (i:Nat),decide (0<=idxZ n ts i)=!Fd n ts
  | [],i=>rfl
  | t::r,i=>by
    unfold idxZ Fd
    rw [List.all_cons]
    cases h:NZ n t with
    | true=>rw [if_pos rfl,Bool.true_and];exact Kr n r (i+1)
    | false=>rw [if_neg Bool.false_ne_true,Bool.false_and];simp
theorem TR {n:Nat} {ts:List Z3} (h:∀j,j<ts.length->NZ n (ts.getD j (0,0,0))=true):Fd n ts=true:=List.all_eq_true.2 λt ht=>by
  obtain ⟨j,hj,rfl⟩:=List.getElem_of_mem ht
  have:=h j hj
  rwa [List.getD,List.getElem?_eq_getElem hj] at this
theorem Ub {n:Nat} {ts:List Z3} {j:Nat} (hj:j<ts.length) (h:NZ n (ts.getD j (0,0,0))=false):Fd n ts=false:=by
  cases e:Fd n ts with
  | false=>rfl
  | true =>
    have h1:=List.all_eq_true.1 e _ (List.getElem_mem hj)
    rw [List.getD,List.getElem?_eq_getElem hj] at h
    have h:NZ n ts[j]=false:=h
    rw [h] at h1;cases h1
def FF (t:Z3):Nat×Nat×Nat:=(t.1.toNat,t.2.1.toNat,t.2.2.toNat)
theorem PC {n:Nat} {t:Z3} (h:NZ n t=true):L3 n (FF t)=true/\Ad t=Aq (FF t):=by
  obtain ⟨a,b,c⟩:=t
  unfold NZ Ao at h
  simp only [Bool.and_eq_true,Bool.not_eq_true',decide_eq_true_eq,decide_eq_false_iff_not] at h
  obtain ⟨⟨⟨⟨⟨⟨h1,h2⟩,h3,h4⟩,h5,h6⟩,h7⟩,h8⟩,h9⟩:=h
  refine ⟨?_,?_⟩
  · unfold L3 FF
    simp only [Bool.and_eq_true,Bool.not_eq_true',decide_eq_true_eq,decide_eq_false_iff_not]
    refine ⟨⟨⟨⟨⟨?_,?_⟩,?_⟩,?_⟩,?_⟩,?_⟩<;>omega
  · show [vI a,vI b,vI c]=[vN a.toNat,vN b.toNat,vN c.toNat]
    rw [show vN a.toNat=vI a from congrArg vI (Int.toNat_of_nonneg h1),show vN b.toNat=vI b from congrArg vI (Int.toNat_of_nonneg h3),show vN c.toNat=vI c from congrArg vI (Int.toNat_of_nonneg h5)]
theorem HX {n:Nat} {zs:List Z3} (h:Fd n zs=true):B8 n (zs.map FF)=true/\rowsL Ad zs=rowsL Aq (zs.map FF):=by
  unfold Fd B8 rowsL at *
  rw [List.all_eq_true] at h
  refine ⟨List.all_eq_true.2 λt ht=>?_,?_⟩
  · obtain ⟨z,hz,rfl⟩:=List.mem_map.1 ht
    exact (PC (h z hz)).1
  · rw [List.flatMap_map]
    induction zs with
    | nil=>rfl
    | cons z r ih=>rw [List.flatMap_cons,List.flatMap_cons,(PC (h z List.mem_cons_self)).2,ih λx hx=>h x (List.mem_cons_of_mem _ hx)]
structure RQ (N K:Nat) (zs:List Z3) where
  cs:List Value
  ds:List Value
  a:RX cs N
  b:RX (rowsL Ad zs) zs.length
  c:RX ds K
def Ht {N K:Nat} {zs:List Z3} (x:RQ N K zs):List Value:=[x.a.val,x.b.val,x.c.val]
theorem XX {N K:Nat} {zs:List Z3} {x:RQ N K zs} {y:As} (hy:y∈[x.a.row,x.b.row,x.c.row]):y.ro=true:=by
  simp only [List.mem_cons,List.not_mem_nil,or_false] at hy
  rcases hy with rfl|rfl|rfl<;>rfl
instance {N K:Nat} {zs:List Z3}:Ci (RQ N K zs):=⟨λx=>aG (Ht x),λx=>[x.a.row,x.b.row,x.c.row],λx y hy=>XX hy⟩
section
variable {S:Nat->Prop} {w:World} {N K:Nat} {zs ss:List Z3} {ps:List Pt}
def RQ.ru (x:RQ N K zs):RU N zs.length K:=⟨x.cs,rowsL Ad zs,x.ds,x.a,x.b,x.c⟩
theorem WP {x:RQ N K zs} (h:Ro S w x):Ro S w x.ru:=λy hy=>h y hy
def In.rq (x:In ps zs ss):RQ x.rs.length ss.length zs:=⟨rowsL Cs x.rs,rowsL Ad ss,x.a,x.b,x.c⟩
theorem X6 {x:In ps zs ss} (h:Ro S w x):Ro S w x.rq:=λy hy=>h y (List.mem_append_left _ hy)
theorem Wy (x:RQ N K zs) (h:Fd N zs=true):∃y:RM N (zs.map FF) (List.replicate K (0,0,0)),B8 N (zs.map FF)=true/\Gc y=Ht x/\∀{S:Nat->Prop} {w:World},Ro S w x->Ro S w y:=by
  obtain ⟨cs,ds,a,b,c⟩:=x
  obtain ⟨h1,h2⟩:=HX h
  have hl:zs.length=(zs.map FF).length:=(List.length_map _).symm
  have hk:K=(List.replicate K ((0,0,0):Nat×Nat×Nat)).length:=(List.length_replicate).symm
  obtain ⟨bp,bc,bok⟩:=b
  obtain ⟨cp,cc,cok⟩:=c
  refine ⟨⟨cs,ds,a,⟨bp,bc,hl▸bok⟩,⟨cp,cc,hk▸cok⟩⟩,h1,?_,λ{S w} hx y hy=>?_⟩
  · show [a.val,.slice bp (zs.map FF).length bc,.slice cp (List.replicate K ((0,0,0):Nat×Nat×Nat)).length cc]=[a.val,.slice bp zs.length bc,.slice cp K cc]
    rw [<-hl,<-hk]
  · have hy:y∈[a.row,AF bp (rowsL Aq (zs.map FF)),AF cp ds]:=hy
    rw [<-h2] at hy
    exact hx y hy
end
end
end Go.Proofs.YtpolhpjiahbidaaGreatDoor
