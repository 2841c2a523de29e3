import Derived.Test.YtpolhpjiahbidaaGreatDoorPart05
import Derived.Test.YtpolhpjiahbidaaGreatDoorPart24
import Derived.Test.YtpolhpjiahbidaaGreatDoorPart25
import Derived.Test.YtpolhpjiahbidaaGreatDoorPart27
namespace Go.Proofs.YtpolhpjiahbidaaGreatDoor
open Go Go.RowKit Go.Proofs.Tryz
set_option linter.unusedVariables false
set_option linter.unusedSimpArgs false
section
set_option maxRecDepth 100000
theorem YH:ElemT Tryz.prog 46 49 4 32:=⟨Tryz.underlying46,Da (by kernel_rfl)⟩
theorem GS:LF Tryz.prog 240 FG Li where
 law:=.of_law (deep_law_laid TE (m:=2) (by decide) (by decide +kernel) (by kernel_rfl) (by kernel_rfl))
 key:=λa h=>Kp Tryz.underlying240 ⟨rfl,rfl⟩ ⟨rfl,rfl⟩ (by decide +kernel) Tryz.underlying3 (by kernel_rfl) (by kernel_rfl) (by kernel_rfl) (by decide +kernel) (Hk h.1) (Hk h.2)
 inj:=λa b h=>J3 h
theorem Tl (p:Option Addr) (n cp:Nat) (h:n<=cp) (w:World)  :Calls Tryz.prog 119 #[(Value.slice p n cp)] w (Ai w (Value.slice p n n)):=by
 refine AZ (args:=[(Value.slice p n cp)]) Tryz.func119 rfl rfl (AK rfl) (OkC.subF (sL [0] rfl) (q4 (asg' rfl (OkL.nil (q2 (AO rfl (AO rfl (AG (v:=(vN n)) (AD rfl Tryz.underlying46) rfl (AO rfl (AG (v:=(vN n)) (AD rfl Tryz.underlying46) rfl (AG (v:=(Value.slice p n n)) (Dr (m:=n) rfl rfl rfl Tryz.underlying46 Tryz.sizeOf49 (by omega)) rfl ?_)))))))))))
 exact asg' rfl (OkL.nil (OkQ.subF (sL [2] rfl) (OkQ.then_ (OkC.ret (ret_one rfl (rd_tmp (v:=(Value.slice p n n)) rfl) (λw hw=>⟨rfl,hw.out⟩))))))
theorem JD (x0:E4):Instr.fill (λi=>some (i*4,4)) ((Array.range (1*4)).map ((Value.agg (Bx (⟨0,0,0,0⟩:E4)).toArray).cells[·%(Value.agg (Bx (⟨0,0,0,0⟩:E4)).toArray).cells.size]!)) [(0,.agg (Bx x0).toArray)]=some (Bx x0).toArray:=by kernel_rfl
set_option maxHeartbeats 4000000 in
theorem K3 (ts:List (Nat×Nat×Nat)) (x:RX (rowsL Aq ts) ts.length) (N:Nat) (hn:B8 N ts=true) (hN:N<=4611686018427387904) (hl:ts.length<=1000000000) (w:World) {S:Nat->Prop} (hx:Ro S w x):Calls Tryz.prog 101 #[(Value.slice x.p ts.length x.c)] w (Ah (CX (rowsL Bx (BS ts)) (BS ts).length) S w):=by
 have lx:=CU (W:=w) hx
 refine Aa (args:=[(Value.slice x.p ts.length x.c)]) (L:=[AF x.p (rowsL Aq ts)]) Tryz.func101 rfl rfl (AK rfl) (Ee hx Al) (OkC.subF (sL [0] rfl) (q4 (asg' rfl (OkL.nil (q2 (OkL.makeMap FG Lx (AP rfl) rfl λb1=>asg' rfl (q6 (sL [0,2,3] rfl) (q4 (AO rfl (AG (v:=(vN ts.length)) (AD rfl Tryz.underlying23) rfl ?_))))))))))
 refine AO rfl (OkL.nil (OkQ.subF (sL [2,3,16,17,18] rfl) (OkQ.then_ (OkC.block ?_))))
 refine OkC.lp1 (tg λ(t:Nat)=>t<=ts.length) (tg λ(t:Nat)=>[(2,(Value.slice none 0 0)),(3,(Value.map (some b1))),(16,(Value.slice x.p ts.length x.c)),(17,(vN ts.length)),(18,(vN t))]) (tg λ(t:Nat)=>[CE b1 FG Lx (CJ ts (3*t+0)),AF x.p (rowsL Aq ts)]) (tg λ(t:Nat)=>ts.length-t) 0 (Nat.zero_le _) (sF rfl) sr (λt hJ=>?_)
 have ht:=hJ
 refine q4 (AG (Af (c:=(decide (t<ts.length))) rfl rfl (B9 (a:=t) (b:=ts.length))) rfl (OkL.nil (q1 ?_)))
 refine OkC.cond rfl (λhc0=>?_) (λhc0=>?_)
 ·replace hc0:=of_decide_eq_true hc0
  obtain ⟨T,hT⟩:∃q,q=ts.getD t (0,0,0):=⟨_,rfl⟩
  obtain ⟨g1,g2,g3⟩:=FB (ED hn hc0)
  rw [<-hT] at g1 g2 g3
  refine OkC.skip (q1 (OkC.block (q4 (AO rfl (AG (v:=(pP (pB x.p) (pO x.p+t*3))) (AI (j:=t) rfl rfl x.ok Tryz.underlying23 Tryz.sizeOf105 rfl (by omega)) rfl (AG (v:=(aG (Aq (ts.getD t ((0,0,0):Nat×Nat×Nat))))) (AU (vs:=Aq (ts.getD t ((0,0,0):Nat×Nat×Nat))) (i:=1) rfl rfl (Ak.ne x.ok (by omega)) FC (An BF _ _ _ (by omega)) (BF _)) rfl (OkL.retell (k:=22) (u:=(aG (Aq T))) rfl (by rw [hT]) (al NR rfl λb2=>asg' rfl (Ay rfl Tryz.sizeOf105 rfl (q3 (sL [2,3,16,17,18,5,4] rfl) ?_))))))))))
  refine AO rfl (OkL.nil (OkQ.then_ (OkC.block (OkC.unroll 4 (Nc.step (q4 (AG (Af (c:=true) rfl rfl (by decide)) rfl (OkL.nil (q1 (OkC.cond_true rfl (OkC.skip ?_)))))))))))
  refine q1 (OkC.block (q4 (AO rfl (asg' rfl (q6 (sL [2,3,16,17,18,5,4,23,6] rfl) (CV [(0,true),(1,true),(2,true),(3,true),(4,true),(5,true),(6,true),(7,true),(8,true),(9,true)] sr (BN rfl (Ag (v:=(pP b2 0)) rfl (AH (j:=0) rfl rfl Tryz.underlying105 Tryz.sizeOf3 rfl (by decide) rfl) (BQ 0 (vN T.1) BH rfl (BN rfl (Ag rfl (AY (c:=(1:Int)) rfl rfl (by decide)) ?_)))))))))))
  refine Ag rfl (De (c:=(1:Int)) rfl rfl (by decide) (by decide)) (Ag (v:=(pP b2 1)) rfl (AH (j:=1) rfl rfl Tryz.underlying105 Tryz.sizeOf3 rfl (by decide) rfl) (BQ 0 (vN T.2.1) BH rfl (pS' rfl (pS' rfl (OkE.nil (OkQ.subF (sL [2,3,16,17,18,5,4,23,7,8] rfl) (q2 (AO rfl (AO rfl (AG (DI (c:=((min T.1 T.2.1:Nat):Int)) rfl rfl (by split<;>omega)) rfl (AO rfl ?_)))))))))))
  refine AO rfl (AG (DH (c:=((max T.1 T.2.1:Nat):Int)) rfl rfl (by split<;>omega)) rfl (AG (v:=(aG ([(vN (min T.1 T.2.1)),(vN (max T.1 T.2.1))]))) (AR (zs:=Ef ((0,0):P2)) (vs:=[(vN (min T.1 T.2.1)),(vN (max T.1 T.2.1))]) (pv:=[(0,(vN (min T.1 T.2.1))),(1,(vN (max T.1 T.2.1)))]) (places:=[(0,1),(1,1)]) Tryz.zeroValue240 Tryz.underlying240 (λw=>by simp [Tryz.sizeOf3]) rfl rfl) rfl (al TK rfl λb3=>Ay rfl Tryz.sizeOf240 rfl (q3 (sL [2,3,16,17,18,5,4,23,7,8,9] rfl) (AO rfl (BU 0 Kl rfl (AG (v:=(Value.tuple #[(aG (Bx ((Az (CJ ts (3*t+0)) ((min T.1 T.2.1,max T.1 T.2.1):P2)).getD (⟨0,0,0,0⟩:E4)))),(Value.bool ((Az (CJ ts (3*t+0)) ((min T.1 T.2.1,max T.1 T.2.1):P2)).isSome))])) (CR GS 2 (eV:=Lx) (kvs:=CJ ts (3*t+0)) (x:=((min T.1 T.2.1,max T.1 T.2.1):P2)) (z0:=(⟨0,0,0,0⟩:E4)) (co:=true) rfl rfl Tryz.underlying239 Tryz.zeroValue49 rfl (Eu hn hN _ (by omega)) (BV (by omega) (by omega))) rfl (AO rfl (AG (AV (v:=(aG (Bx ((Az (CJ ts (3*t+0)) ((min T.1 T.2.1,max T.1 T.2.1):P2)).getD (⟨0,0,0,0⟩:E4))))) rfl rfl) rfl (AG (AV (v:=(Value.bool ((Az (CJ ts (3*t+0)) ((min T.1 T.2.1,max T.1 T.2.1):P2)).isSome))) rfl rfl) rfl ?_))))))))))
  refine al MK rfl λb4=>Ay rfl Tryz.sizeOf49 rfl (asg' rfl (q6 (sL [2,3,16,17,18,5,4,23,7,8,9,10,11] rfl) (q4 (AO rfl (AG (Be (c:=(!((Az (CJ ts (3*t+0)) ((min T.1 T.2.1,max T.1 T.2.1):P2)).isSome))) rfl rfl) rfl (OkL.nil (OkQ.subF (sL [2,3,16,17,18,5,4,23,7,8,9,10,48] rfl) (OkQ.then_ ?_))))))))
  refine OkC.jn1 (tg λ(e00:E4)=>e00=(Az (CJ ts (3*t+0)) (min T.1 T.2.1,max T.1 T.2.1)).getD (H4 (min T.1 T.2.1,max T.1 T.2.1))) (tg λ(e00:E4)=>[(2,(Value.slice none 0 0)),(3,(Value.map (some b1))),(16,(Value.slice x.p ts.length x.c)),(17,(vN ts.length)),(18,(vN t)),(5,(pP b2 0)),(4,(vN t)),(23,(vI 0)),(7,(vN T.1)),(8,(vN T.2.1)),(9,(pP b3 0)),(10,(pP b4 0))]) (tg λ(e00:E4)=>[AX b4 49 (Bx e00),AX b3 240 ([(vN (min T.1 T.2.1)),(vN (max T.1 T.2.1))]),AX b2 105 (Aq T),CE b1 FG Lx (CJ ts (3*t+0)),AF x.p (rowsL Aq ts)]) ?_ ?_
  ·skip
   refine OkC.cond rfl (λhc2=>?_) (λhc2=>?_)
   ·simp only [Bool.and_eq_true,Bool.or_eq_true,Bool.and_eq_false_iff,Bool.or_eq_false_iff,Bool.not_eq_true',Bool.not_eq_false',decide_eq_true_eq,decide_eq_false_iff_not] at hc2
    exact OkC.region (AG (v:=(pP b3 0)) (AA rfl Tryz.underlying240 rfl Tryz.sizeOf3 rfl) rfl (Aw 1 (vN (min T.1 T.2.1)) BH rfl (AG (v:=(pP b3 1)) (AA rfl Tryz.underlying240 rfl Tryz.sizeOf3 rfl) rfl (Aw 1 (vN (max T.1 T.2.1)) BH rfl (AG (v:=(aG ([(vN (min T.1 T.2.1)),(vN (max T.1 T.2.1)),(vI (-1:Int)),(vI (-1:Int))]))) (AR (zs:=Bx (⟨0,0,0,0⟩:E4)) (vs:=[(vN (min T.1 T.2.1)),(vN (max T.1 T.2.1)),(vI (-1:Int)),(vI (-1:Int))]) (pv:=[(0,(vN (min T.1 T.2.1))),(1,(vN (max T.1 T.2.1))),(2,(vI (-1:Int))),(3,(vI (-1:Int)))]) (places:=[(0,1),(1,1),(2,1),(3,1)]) Tryz.zeroValue49 Tryz.underlying49 (λw=>by simp [Tryz.sizeOf3]) rfl rfl) rfl (Ay rfl Tryz.sizeOf49 rfl (OkL.nil (OkQ.subF (sL [2,3,16,17,18,5,4,23,7,8,9,10] rfl) (OkQ.join1 (⟨min T.1 T.2.1,max T.1 T.2.1,-1,-1⟩:E4) ((JH (k:=(min T.1 T.2.1,max T.1 T.2.1)) (by simpa using hc2))) (sF rfl) sr)))))))))
   ·simp only [Bool.and_eq_true,Bool.or_eq_true,Bool.and_eq_false_iff,Bool.or_eq_false_iff,Bool.not_eq_true',Bool.not_eq_false',decide_eq_true_eq,decide_eq_false_iff_not] at hc2
    exact OkC.skip (OkQ.join1 ((Az (CJ ts (3*t+0)) ((min T.1 T.2.1,max T.1 T.2.1):P2)).getD (⟨0,0,0,0⟩:E4)) ((JB (by simpa using hc2))) (sF rfl) sr)
  ·intro e00 hJ
   have he0:=hJ
   refine q1 ?_
   refine OkC.jn1 (tg λ(e20:E4)=>e20=Ev e00 t T.1 T.2.1) (tg λ(e20:E4)=>[(2,(Value.slice none 0 0)),(3,(Value.map (some b1))),(16,(Value.slice x.p ts.length x.c)),(17,(vN ts.length)),(18,(vN t)),(5,(pP b2 0)),(4,(vN t)),(23,(vI 0)),(9,(pP b3 0)),(10,(pP b4 0))]) (tg λ(e20:E4)=>[AX b4 49 (Bx e20),AX b3 240 ([(vN (min T.1 T.2.1)),(vN (max T.1 T.2.1))]),AX b2 105 (Aq T),CE b1 FG Lx (CJ ts (3*t+0)),AF x.p (rowsL Aq ts)]) ?_ ?_
   ·skip
    refine OkC.block (q4 (AO rfl (AO rfl (AG (Af (c:=(decide (T.1<T.2.1))) rfl rfl (B9 (a:=T.1) (b:=T.2.1))) rfl (AO rfl ?_)))))
    refine OkL.mid (FM:=[(2,(Value.slice none 0 0)),(3,(Value.map (some b1))),(16,(Value.slice x.p ts.length x.c)),(17,(vN ts.length)),(18,(vN t)),(5,(pP b2 0)),(4,(vN t)),(23,(vI 0)),(7,(vN T.1)),(8,(vN T.2.1)),(9,(pP b3 0)),(10,(pP b4 0)),(55,(vN T.1)),(56,(vN T.2.1)),(57,(Value.bool (decide (T.1<T.2.1)))),(58,(Value.bool (decide (T.1<T.2.1)))),(62,(Value.bool ((decide (T.1<T.2.1))&&(decide (e00.l=(-1:Int))))))]) (LM:=[AX b4 49 (Bx e00),AX b3 240 ([(vN (min T.1 T.2.1)),(vN (max T.1 T.2.1))]),AX b2 105 (Aq T),CE b1 FG Lx (CJ ts (3*t+0)),AF x.p (rowsL Aq ts)]) 4 ?_ ?_
    ·rcases Bool.eq_false_or_eq_true (decide (T.1<T.2.1)) with hg1|hg1
     ·skip
      refine OkL.retell (k:=58) (u:=Value.bool true) rfl (by rw [hg1]) ?_
      have hg1':=hg1
      replace hg1':=of_decide_eq_true hg1'
      exact OkL.step (v:=(pP b4 2)) (AB rfl) (AA rfl Tryz.underlying49 rfl Tryz.sizeOf3 rfl) rfl (AK rfl) (OkL.step (v:=(vI e00.l)) (AB rfl) (AE (i:=0) (v:=(vI e00.l)) rfl rfl BH.a rfl) rfl (AK rfl) (OkL.step (v:=(Value.bool (decide (e00.l=(-1:Int))))) (AB rfl) (BE (c:=(decide (e00.l=(-1:Int)))) rfl rfl rfl) rfl (AK rfl) (AG (v:=(Value.bool (decide (e00.l=(-1:Int))))) (AN rfl rfl) rfl (OkL.nil (OkQ.mid (sS rfl (sS rfl (sS rfl (sS rfl (sS rfl (sS rfl (sS rfl (sS rfl (sS rfl (sS rfl (sS rfl (sS rfl (sS rfl (sS rfl (sS rfl (sS (by first|rfl|(rw [hg1];rfl)|rw [hg1]) (sS (by first|rfl|(rw [hg1];rfl)|rw [hg1]) (sN)))))))))))))))))) (List.Sublist.refl _))))))
     ·skip
      refine OkL.retell (k:=58) (u:=Value.bool false) rfl (by rw [hg1]) ?_
      have hg1':=hg1
      replace hg1':=of_decide_eq_false hg1'
      exact OkL.skip (AC rfl) rfl (AK rfl) (OkL.skip (AC rfl) rfl (AK rfl) (OkL.skip (AC rfl) rfl (AK rfl) (AG (v:=(Value.bool false)) (AJ rfl rfl) rfl (OkL.nil (OkQ.mid (sS rfl (sS rfl (sS rfl (sS rfl (sS rfl (sS rfl (sS rfl (sS rfl (sS rfl (sS rfl (sS rfl (sS rfl (sS rfl (sS rfl (sS rfl (sS (by first|rfl|(rw [hg1];rfl)|rw [hg1]) (sS (by first|rfl|(rw [hg1];rfl)|rw [hg1]) (sN)))))))))))))))))) (List.Sublist.refl _))))))
    refine asg' rfl (OkL.nil (OkQ.subF (sL [2,3,16,17,18,5,4,23,7,8,9,10,54] rfl) (OkQ.then_ ?_)))
    refine OkC.cond rfl (λhc3=>?_) (λhc3=>?_)
    ·simp only [Bool.and_eq_true,Bool.or_eq_true,Bool.and_eq_false_iff,Bool.or_eq_false_iff,Bool.not_eq_true',Bool.not_eq_false',decide_eq_true_eq,decide_eq_false_iff_not] at hc3
     exact OkC.region (AO rfl (AG (v:=(pP b4 2)) (AA rfl Tryz.underlying49 rfl Tryz.sizeOf3 rfl) rfl (FZ 0 (off:=2) (vs:=[(vN t)]) (cs':=[(vN e00.a),(vN e00.b),(vN t),(vI e00.r)]) (AP rfl) rfl Tryz.sizeOf3 rfl (OkL.nil (OkQ.subF (sL [2,3,16,17,18,5,4,23,7,8,9,10] rfl) (OkQ.in_normal (OkQ.join1 (⟨e00.a,e00.b,((t:Nat):Int),e00.r⟩:E4) ((by unfold Ev;rw [if_pos (by omega)])) (sF rfl) sr)))))))
    ·simp only [Bool.and_eq_true,Bool.or_eq_true,Bool.and_eq_false_iff,Bool.or_eq_false_iff,Bool.not_eq_true',Bool.not_eq_false',decide_eq_true_eq,decide_eq_false_iff_not] at hc3
     refine q4 (AO rfl (AO rfl (AG (B6 (c:=(decide (T.2.1<T.1))) rfl rfl (B9 (a:=T.2.1) (b:=T.1))) rfl (AO rfl ?_))))
     refine OkL.mid (FM:=[(2,(Value.slice none 0 0)),(3,(Value.map (some b1))),(16,(Value.slice x.p ts.length x.c)),(17,(vN ts.length)),(18,(vN t)),(5,(pP b2 0)),(4,(vN t)),(23,(vI 0)),(7,(vN T.1)),(8,(vN T.2.1)),(9,(pP b3 0)),(10,(pP b4 0)),(66,(vN T.1)),(67,(vN T.2.1)),(68,(Value.bool (decide (T.2.1<T.1)))),(69,(Value.bool (decide (T.2.1<T.1)))),(73,(Value.bool ((decide (T.2.1<T.1))&&(decide (e00.r=(-1:Int))))))]) (LM:=[AX b4 49 (Bx e00),AX b3 240 ([(vN (min T.1 T.2.1)),(vN (max T.1 T.2.1))]),AX b2 105 (Aq T),CE b1 FG Lx (CJ ts (3*t+0)),AF x.p (rowsL Aq ts)]) 4 ?_ ?_
     ·rcases Bool.eq_false_or_eq_true (decide (T.2.1<T.1)) with hg2|hg2
      ·skip
       refine OkL.retell (k:=69) (u:=Value.bool true) rfl (by rw [hg2]) ?_
       have hg2':=hg2
       replace hg2':=of_decide_eq_true hg2'
       exact OkL.step (v:=(pP b4 3)) (AB rfl) (AA rfl Tryz.underlying49 rfl Tryz.sizeOf3 rfl) rfl (AK rfl) (OkL.step (v:=(vI e00.r)) (AB rfl) (AE (i:=0) (v:=(vI e00.r)) rfl rfl BH.a rfl) rfl (AK rfl) (OkL.step (v:=(Value.bool (decide (e00.r=(-1:Int))))) (AB rfl) (BE (c:=(decide (e00.r=(-1:Int)))) rfl rfl rfl) rfl (AK rfl) (AG (v:=(Value.bool (decide (e00.r=(-1:Int))))) (AN rfl rfl) rfl (OkL.nil (OkQ.mid (sS rfl (sS rfl (sS rfl (sS rfl (sS rfl (sS rfl (sS rfl (sS rfl (sS rfl (sS rfl (sS rfl (sS rfl (sS rfl (sS rfl (sS rfl (sS (by first|rfl|(rw [hg2];rfl)|rw [hg2]) (sS (by first|rfl|(rw [hg2];rfl)|rw [hg2]) (sN)))))))))))))))))) (List.Sublist.refl _))))))
      ·skip
       refine OkL.retell (k:=69) (u:=Value.bool false) rfl (by rw [hg2]) ?_
       have hg2':=hg2
       replace hg2':=of_decide_eq_false hg2'
       exact OkL.skip (AC rfl) rfl (AK rfl) (OkL.skip (AC rfl) rfl (AK rfl) (OkL.skip (AC rfl) rfl (AK rfl) (AG (v:=(Value.bool false)) (AJ rfl rfl) rfl (OkL.nil (OkQ.mid (sS rfl (sS rfl (sS rfl (sS rfl (sS rfl (sS rfl (sS rfl (sS rfl (sS rfl (sS rfl (sS rfl (sS rfl (sS rfl (sS rfl (sS rfl (sS (by first|rfl|(rw [hg2];rfl)|rw [hg2]) (sS (by first|rfl|(rw [hg2];rfl)|rw [hg2]) (sN)))))))))))))))))) (List.Sublist.refl _))))))
     refine asg' rfl (OkL.nil (OkQ.subF (sL [2,3,16,17,18,5,4,23,7,8,9,10,65] rfl) (OkQ.then_ ?_)))
     refine OkC.cond rfl (λhc4=>?_) (λhc4=>?_)
     ·simp only [Bool.and_eq_true,Bool.or_eq_true,Bool.and_eq_false_iff,Bool.or_eq_false_iff,Bool.not_eq_true',Bool.not_eq_false',decide_eq_true_eq,decide_eq_false_iff_not] at hc4
      exact OkC.region (AO rfl (AG (v:=(pP b4 3)) (AA rfl Tryz.underlying49 rfl Tryz.sizeOf3 rfl) rfl (FZ 0 (off:=3) (vs:=[(vN t)]) (cs':=[(vN e00.a),(vN e00.b),(vI e00.l),(vN t)]) (AP rfl) rfl Tryz.sizeOf3 rfl (OkL.nil (OkQ.subF (sL [2,3,16,17,18,5,4,23,7,8,9,10] rfl) (OkQ.in_normal (OkQ.join1 (⟨e00.a,e00.b,e00.l,((t:Nat):Int)⟩:E4) ((by unfold Ev;rw [if_neg (by omega),if_pos (by omega)])) (sF rfl) sr)))))))
     ·simp only [Bool.and_eq_true,Bool.or_eq_true,Bool.and_eq_false_iff,Bool.or_eq_false_iff,Bool.not_eq_true',Bool.not_eq_false',decide_eq_true_eq,decide_eq_false_iff_not] at hc4
      exact OkC.skip (OkQ.in_normal (OkQ.join1 e00 ((by unfold Ev;rw [if_neg (by omega),if_neg (by omega)])) (sF rfl) sr))
   ·intro e20 hJ
    have hu0:=hJ
    refine OkQ.then_ (OkC.region (AO rfl (BU 1 Kl rfl (BU 0 MI rfl (OkL.mapUpdate GS 3 (kvs:=CJ ts (3*t+0)) (x:=((min T.1 T.2.1,max T.1 T.2.1):P2)) (y:=e20) (AP rfl) rfl rfl rfl Tryz.underlying239 rfl (Eu hn hN _ (by omega)) (BV (by omega) (by omega)) ?_)))))
    rw [show BL (CJ ts (3*t+0)) ((min T.1 T.2.1,max T.1 T.2.1):P2) e20=CJ ts (3*t+1) from by rw [hu0,he0,hT];exact (Jy (ts:=ts) (t:=t) (i:=0) (by omega)).symm]
    refine OkL.nil (OkQ.subF (sL [2,3,16,17,18,5,4,23,9,10] rfl) (OkQ.in_normal (OkQ.then_ (OkC.region (AG (AY (c:=(1:Int)) rfl rfl (by decide)) rfl (AO rfl (OkL.nil (OkQ.subF (sL [2,3,16,17,18,5,4,23,9,10] rfl) (OkQ.again (Nc.step (q4 ?_)))))))))))
    refine AG (Af (c:=true) rfl rfl (by decide)) rfl (OkL.nil (q1 (OkC.cond_true rfl (OkC.skip (q1 (OkC.block (q4 (AO rfl (asg' rfl (q6 (sL [2,3,16,17,18,5,4,23,9,10,6] rfl) (CV [(0,true),(1,true),(2,true),(3,true),(4,true),(5,true),(6,true),(7,true),(8,true),(9,true)] sr ?_)))))))))))
    refine BN rfl (Ag (v:=(pP b2 1)) rfl (AH (j:=1) rfl rfl Tryz.underlying105 Tryz.sizeOf3 rfl (by decide) rfl) (BQ 2 (vN T.2.1) BH rfl (BN rfl (Ag rfl (AY (c:=(2:Int)) rfl rfl (by decide)) (Ag rfl (De (c:=(2:Int)) rfl rfl (by decide) (by decide)) (Ag (v:=(pP b2 2)) rfl (AH (j:=2) rfl rfl Tryz.underlying105 Tryz.sizeOf3 rfl (by decide) rfl) (BQ 2 (vN T.2.2) BH rfl (pS' rfl (pS' rfl (OkE.nil (OkQ.subF (sL [2,3,16,17,18,5,4,23,9,10,7,8] rfl) ?_)))))))))))
    refine q2 (AO rfl (AO rfl (AG (DI (c:=((min T.2.1 T.2.2:Nat):Int)) rfl rfl (by split<;>omega)) rfl (AO rfl (AO rfl (AG (DH (c:=((max T.2.1 T.2.2:Nat):Int)) rfl rfl (by split<;>omega)) rfl (AG (v:=(aG ([(vN (min T.2.1 T.2.2)),(vN (max T.2.1 T.2.2))]))) (AR (zs:=Ef ((0,0):P2)) (vs:=[(vN (min T.2.1 T.2.2)),(vN (max T.2.1 T.2.2))]) (pv:=[(0,(vN (min T.2.1 T.2.2))),(1,(vN (max T.2.1 T.2.2)))]) (places:=[(0,1),(1,1)]) Tryz.zeroValue240 Tryz.underlying240 (λw=>by simp [Tryz.sizeOf3]) rfl rfl) rfl (al TK rfl λb5=>Ay rfl Tryz.sizeOf240 rfl (q3 (sL [2,3,16,17,18,5,4,23,9,10,7,8] rfl) (AO rfl ?_))))))))))
    refine BU 0 Kl rfl (AG (v:=(Value.tuple #[(aG (Bx ((Az (CJ ts (3*t+1)) ((min T.2.1 T.2.2,max T.2.1 T.2.2):P2)).getD (⟨0,0,0,0⟩:E4)))),(Value.bool ((Az (CJ ts (3*t+1)) ((min T.2.1 T.2.2,max T.2.1 T.2.2):P2)).isSome))])) (CR GS 4 (eV:=Lx) (kvs:=CJ ts (3*t+1)) (x:=((min T.2.1 T.2.2,max T.2.1 T.2.2):P2)) (z0:=(⟨0,0,0,0⟩:E4)) (co:=true) rfl rfl Tryz.underlying239 Tryz.zeroValue49 rfl (Eu hn hN _ (by omega)) (BV (by omega) (by omega))) rfl (AO rfl (AG (AV (v:=(aG (Bx ((Az (CJ ts (3*t+1)) ((min T.2.1 T.2.2,max T.2.1 T.2.2):P2)).getD (⟨0,0,0,0⟩:E4))))) rfl rfl) rfl (AG (AV (v:=(Value.bool ((Az (CJ ts (3*t+1)) ((min T.2.1 T.2.2,max T.2.1 T.2.2):P2)).isSome))) rfl rfl) rfl (al MK rfl λb6=>Ay rfl Tryz.sizeOf49 rfl (asg' rfl (q6 (sL [2,3,16,17,18,5,4,23,9,10,7,8,11] rfl) (q4 (AO rfl (AG (Be (c:=(!((Az (CJ ts (3*t+1)) ((min T.2.1 T.2.2,max T.2.1 T.2.2):P2)).isSome))) rfl rfl) rfl ?_))))))))))
    refine OkL.nil (OkQ.subF (sL [2,3,16,17,18,5,4,23,9,10,7,8,48] rfl) (OkQ.then_ ?_))
    refine OkC.jn1 (tg λ(e01:E4)=>e01=(Az (CJ ts (3*t+1)) (min T.2.1 T.2.2,max T.2.1 T.2.2)).getD (H4 (min T.2.1 T.2.2,max T.2.1 T.2.2))) (tg λ(e01:E4)=>[(2,(Value.slice none 0 0)),(3,(Value.map (some b1))),(16,(Value.slice x.p ts.length x.c)),(17,(vN ts.length)),(18,(vN t)),(5,(pP b2 0)),(4,(vN t)),(23,(vI 1)),(9,(pP b5 0)),(10,(pP b6 0)),(7,(vN T.2.1)),(8,(vN T.2.2))]) (tg λ(e01:E4)=>[AX b6 49 (Bx e01),AX b5 240 ([(vN (min T.2.1 T.2.2)),(vN (max T.2.1 T.2.2))]),AX b4 49 (Bx e20),AX b3 240 ([(vN (min T.1 T.2.1)),(vN (max T.1 T.2.1))]),AX b2 105 (Aq T),CE b1 FG Lx (CJ ts (3*t+1)),AF x.p (rowsL Aq ts)]) ?_ ?_
    ·skip
     refine OkC.cond rfl (λhc2=>?_) (λhc2=>?_)
     ·simp only [Bool.and_eq_true,Bool.or_eq_true,Bool.and_eq_false_iff,Bool.or_eq_false_iff,Bool.not_eq_true',Bool.not_eq_false',decide_eq_true_eq,decide_eq_false_iff_not] at hc2
      exact OkC.region (AG (v:=(pP b5 0)) (AA rfl Tryz.underlying240 rfl Tryz.sizeOf3 rfl) rfl (Aw 1 (vN (min T.2.1 T.2.2)) BH rfl (AG (v:=(pP b5 1)) (AA rfl Tryz.underlying240 rfl Tryz.sizeOf3 rfl) rfl (Aw 1 (vN (max T.2.1 T.2.2)) BH rfl (AG (v:=(aG ([(vN (min T.2.1 T.2.2)),(vN (max T.2.1 T.2.2)),(vI (-1:Int)),(vI (-1:Int))]))) (AR (zs:=Bx (⟨0,0,0,0⟩:E4)) (vs:=[(vN (min T.2.1 T.2.2)),(vN (max T.2.1 T.2.2)),(vI (-1:Int)),(vI (-1:Int))]) (pv:=[(0,(vN (min T.2.1 T.2.2))),(1,(vN (max T.2.1 T.2.2))),(2,(vI (-1:Int))),(3,(vI (-1:Int)))]) (places:=[(0,1),(1,1),(2,1),(3,1)]) Tryz.zeroValue49 Tryz.underlying49 (λw=>by simp [Tryz.sizeOf3]) rfl rfl) rfl (Ay rfl Tryz.sizeOf49 rfl (OkL.nil (OkQ.subF (sL [2,3,16,17,18,5,4,23,9,10,7,8] rfl) (OkQ.join1 (⟨min T.2.1 T.2.2,max T.2.1 T.2.2,-1,-1⟩:E4) ((JH (k:=(min T.2.1 T.2.2,max T.2.1 T.2.2)) (by simpa using hc2))) (sF rfl) sr)))))))))
     ·simp only [Bool.and_eq_true,Bool.or_eq_true,Bool.and_eq_false_iff,Bool.or_eq_false_iff,Bool.not_eq_true',Bool.not_eq_false',decide_eq_true_eq,decide_eq_false_iff_not] at hc2
      exact OkC.skip (OkQ.join1 ((Az (CJ ts (3*t+1)) ((min T.2.1 T.2.2,max T.2.1 T.2.2):P2)).getD (⟨0,0,0,0⟩:E4)) ((JB (by simpa using hc2))) (sF rfl) sr)
    ·intro e01 hJ
     have he1:=hJ
     refine q1 ?_
     refine OkC.jn1 (tg λ(e21:E4)=>e21=Ev e01 t T.2.1 T.2.2) (tg λ(e21:E4)=>[(2,(Value.slice none 0 0)),(3,(Value.map (some b1))),(16,(Value.slice x.p ts.length x.c)),(17,(vN ts.length)),(18,(vN t)),(5,(pP b2 0)),(4,(vN t)),(23,(vI 1)),(9,(pP b5 0)),(10,(pP b6 0))]) (tg λ(e21:E4)=>[AX b6 49 (Bx e21),AX b5 240 ([(vN (min T.2.1 T.2.2)),(vN (max T.2.1 T.2.2))]),AX b4 49 (Bx e20),AX b3 240 ([(vN (min T.1 T.2.1)),(vN (max T.1 T.2.1))]),AX b2 105 (Aq T),CE b1 FG Lx (CJ ts (3*t+1)),AF x.p (rowsL Aq ts)]) ?_ ?_
     ·skip
      refine OkC.block (q4 (AO rfl (AO rfl (AG (Af (c:=(decide (T.2.1<T.2.2))) rfl rfl (B9 (a:=T.2.1) (b:=T.2.2))) rfl (AO rfl ?_)))))
      refine OkL.mid (FM:=[(2,(Value.slice none 0 0)),(3,(Value.map (some b1))),(16,(Value.slice x.p ts.length x.c)),(17,(vN ts.length)),(18,(vN t)),(5,(pP b2 0)),(4,(vN t)),(23,(vI 1)),(9,(pP b5 0)),(10,(pP b6 0)),(7,(vN T.2.1)),(8,(vN T.2.2)),(55,(vN T.2.1)),(56,(vN T.2.2)),(57,(Value.bool (decide (T.2.1<T.2.2)))),(58,(Value.bool (decide (T.2.1<T.2.2)))),(62,(Value.bool ((decide (T.2.1<T.2.2))&&(decide (e01.l=(-1:Int))))))]) (LM:=[AX b6 49 (Bx e01),AX b5 240 ([(vN (min T.2.1 T.2.2)),(vN (max T.2.1 T.2.2))]),AX b4 49 (Bx e20),AX b3 240 ([(vN (min T.1 T.2.1)),(vN (max T.1 T.2.1))]),AX b2 105 (Aq T),CE b1 FG Lx (CJ ts (3*t+1)),AF x.p (rowsL Aq ts)]) 4 ?_ ?_
      ·rcases Bool.eq_false_or_eq_true (decide (T.2.1<T.2.2)) with hg3|hg3
       ·skip
        refine OkL.retell (k:=58) (u:=Value.bool true) rfl (by rw [hg3]) ?_
        have hg3':=hg3
        replace hg3':=of_decide_eq_true hg3'
        exact OkL.step (v:=(pP b6 2)) (AB rfl) (AA rfl Tryz.underlying49 rfl Tryz.sizeOf3 rfl) rfl (AK rfl) (OkL.step (v:=(vI e01.l)) (AB rfl) (AE (i:=0) (v:=(vI e01.l)) rfl rfl BH.a rfl) rfl (AK rfl) (OkL.step (v:=(Value.bool (decide (e01.l=(-1:Int))))) (AB rfl) (BE (c:=(decide (e01.l=(-1:Int)))) rfl rfl rfl) rfl (AK rfl) (AG (v:=(Value.bool (decide (e01.l=(-1:Int))))) (AN rfl rfl) rfl (OkL.nil (OkQ.mid (sS rfl (sS rfl (sS rfl (sS rfl (sS rfl (sS rfl (sS rfl (sS rfl (sS rfl (sS rfl (sS rfl (sS rfl (sS rfl (sS rfl (sS rfl (sS (by first|rfl|(rw [hg3];rfl)|rw [hg3]) (sS (by first|rfl|(rw [hg3];rfl)|rw [hg3]) (sN)))))))))))))))))) (List.Sublist.refl _))))))
       ·skip
        refine OkL.retell (k:=58) (u:=Value.bool false) rfl (by rw [hg3]) ?_
        have hg3':=hg3
        replace hg3':=of_decide_eq_false hg3'
        exact OkL.skip (AC rfl) rfl (AK rfl) (OkL.skip (AC rfl) rfl (AK rfl) (OkL.skip (AC rfl) rfl (AK rfl) (AG (v:=(Value.bool false)) (AJ rfl rfl) rfl (OkL.nil (OkQ.mid (sS rfl (sS rfl (sS rfl (sS rfl (sS rfl (sS rfl (sS rfl (sS rfl (sS rfl (sS rfl (sS rfl (sS rfl (sS rfl (sS rfl (sS rfl (sS (by first|rfl|(rw [hg3];rfl)|rw [hg3]) (sS (by first|rfl|(rw [hg3];rfl)|rw [hg3]) (sN)))))))))))))))))) (List.Sublist.refl _))))))
      refine asg' rfl (OkL.nil (OkQ.subF (sL [2,3,16,17,18,5,4,23,9,10,7,8,54] rfl) (OkQ.then_ ?_)))
      refine OkC.cond rfl (λhc3=>?_) (λhc3=>?_)
      ·simp only [Bool.and_eq_true,Bool.or_eq_true,Bool.and_eq_false_iff,Bool.or_eq_false_iff,Bool.not_eq_true',Bool.not_eq_false',decide_eq_true_eq,decide_eq_false_iff_not] at hc3
       exact OkC.region (AO rfl (AG (v:=(pP b6 2)) (AA rfl Tryz.underlying49 rfl Tryz.sizeOf3 rfl) rfl (FZ 0 (off:=2) (vs:=[(vN t)]) (cs':=[(vN e01.a),(vN e01.b),(vN t),(vI e01.r)]) (AP rfl) rfl Tryz.sizeOf3 rfl (OkL.nil (OkQ.subF (sL [2,3,16,17,18,5,4,23,9,10,7,8] rfl) (OkQ.in_normal (OkQ.join1 (⟨e01.a,e01.b,((t:Nat):Int),e01.r⟩:E4) ((by unfold Ev;rw [if_pos (by omega)])) (sF rfl) sr)))))))
      ·simp only [Bool.and_eq_true,Bool.or_eq_true,Bool.and_eq_false_iff,Bool.or_eq_false_iff,Bool.not_eq_true',Bool.not_eq_false',decide_eq_true_eq,decide_eq_false_iff_not] at hc3
       refine q4 (AO rfl (AO rfl (AG (B6 (c:=(decide (T.2.2<T.2.1))) rfl rfl (B9 (a:=T.2.2) (b:=T.2.1))) rfl (AO rfl ?_))))
       refine OkL.mid (FM:=[(2,(Value.slice none 0 0)),(3,(Value.map (some b1))),(16,(Value.slice x.p ts.length x.c)),(17,(vN ts.length)),(18,(vN t)),(5,(pP b2 0)),(4,(vN t)),(23,(vI 1)),(9,(pP b5 0)),(10,(pP b6 0)),(7,(vN T.2.1)),(8,(vN T.2.2)),(66,(vN T.2.1)),(67,(vN T.2.2)),(68,(Value.bool (decide (T.2.2<T.2.1)))),(69,(Value.bool (decide (T.2.2<T.2.1)))),(73,(Value.bool ((decide (T.2.2<T.2.1))&&(decide (e01.r=(-1:Int))))))]) (LM:=[AX b6 49 (Bx e01),AX b5 240 ([(vN (min T.2.1 T.2.2)),(vN (max T.2.1 T.2.2))]),AX b4 49 (Bx e20),AX b3 240 ([(vN (min T.1 T.2.1)),(vN (max T.1 T.2.1))]),AX b2 105 (Aq T),CE b1 FG Lx (CJ ts (3*t+1)),AF x.p (rowsL Aq ts)]) 4 ?_ ?_
       ·rcases Bool.eq_false_or_eq_true (decide (T.2.2<T.2.1)) with hg4|hg4
        ·skip
         refine OkL.retell (k:=69) (u:=Value.bool true) rfl (by rw [hg4]) ?_
         have hg4':=hg4
         replace hg4':=of_decide_eq_true hg4'
         exact OkL.step (v:=(pP b6 3)) (AB rfl) (AA rfl Tryz.underlying49 rfl Tryz.sizeOf3 rfl) rfl (AK rfl) (OkL.step (v:=(vI e01.r)) (AB rfl) (AE (i:=0) (v:=(vI e01.r)) rfl rfl BH.a rfl) rfl (AK rfl) (OkL.step (v:=(Value.bool (decide (e01.r=(-1:Int))))) (AB rfl) (BE (c:=(decide (e01.r=(-1:Int)))) rfl rfl rfl) rfl (AK rfl) (AG (v:=(Value.bool (decide (e01.r=(-1:Int))))) (AN rfl rfl) rfl (OkL.nil (OkQ.mid (sS rfl (sS rfl (sS rfl (sS rfl (sS rfl (sS rfl (sS rfl (sS rfl (sS rfl (sS rfl (sS rfl (sS rfl (sS rfl (sS rfl (sS rfl (sS (by first|rfl|(rw [hg4];rfl)|rw [hg4]) (sS (by first|rfl|(rw [hg4];rfl)|rw [hg4]) (sN)))))))))))))))))) (List.Sublist.refl _))))))
        ·skip
         refine OkL.retell (k:=69) (u:=Value.bool false) rfl (by rw [hg4]) ?_
         have hg4':=hg4
         replace hg4':=of_decide_eq_false hg4'
         exact OkL.skip (AC rfl) rfl (AK rfl) (OkL.skip (AC rfl) rfl (AK rfl) (OkL.skip (AC rfl) rfl (AK rfl) (AG (v:=(Value.bool false)) (AJ rfl rfl) rfl (OkL.nil (OkQ.mid (sS rfl (sS rfl (sS rfl (sS rfl (sS rfl (sS rfl (sS rfl (sS rfl (sS rfl (sS rfl (sS rfl (sS rfl (sS rfl (sS rfl (sS rfl (sS (by first|rfl|(rw [hg4];rfl)|rw [hg4]) (sS (by first|rfl|(rw [hg4];rfl)|rw [hg4]) (sN)))))))))))))))))) (List.Sublist.refl _))))))
       refine asg' rfl (OkL.nil (OkQ.subF (sL [2,3,16,17,18,5,4,23,9,10,7,8,65] rfl) (OkQ.then_ ?_)))
       refine OkC.cond rfl (λhc4=>?_) (λhc4=>?_)
       ·simp only [Bool.and_eq_true,Bool.or_eq_true,Bool.and_eq_false_iff,Bool.or_eq_false_iff,Bool.not_eq_true',Bool.not_eq_false',decide_eq_true_eq,decide_eq_false_iff_not] at hc4
        exact OkC.region (AO rfl (AG (v:=(pP b6 3)) (AA rfl Tryz.underlying49 rfl Tryz.sizeOf3 rfl) rfl (FZ 0 (off:=3) (vs:=[(vN t)]) (cs':=[(vN e01.a),(vN e01.b),(vI e01.l),(vN t)]) (AP rfl) rfl Tryz.sizeOf3 rfl (OkL.nil (OkQ.subF (sL [2,3,16,17,18,5,4,23,9,10,7,8] rfl) (OkQ.in_normal (OkQ.join1 (⟨e01.a,e01.b,e01.l,((t:Nat):Int)⟩:E4) ((by unfold Ev;rw [if_neg (by omega),if_pos (by omega)])) (sF rfl) sr)))))))
       ·simp only [Bool.and_eq_true,Bool.or_eq_true,Bool.and_eq_false_iff,Bool.or_eq_false_iff,Bool.not_eq_true',Bool.not_eq_false',decide_eq_true_eq,decide_eq_false_iff_not] at hc4
        exact OkC.skip (OkQ.in_normal (OkQ.join1 e01 ((by unfold Ev;rw [if_neg (by omega),if_neg (by omega)])) (sF rfl) sr))
     ·intro e21 hJ
      have hu1:=hJ
      refine OkQ.then_ (OkC.region (AO rfl (BU 1 Kl rfl (BU 0 MI rfl (OkL.mapUpdate GS 5 (kvs:=CJ ts (3*t+1)) (x:=((min T.2.1 T.2.2,max T.2.1 T.2.2):P2)) (y:=e21) (AP rfl) rfl rfl rfl Tryz.underlying239 rfl (Eu hn hN _ (by omega)) (BV (by omega) (by omega)) ?_)))))
      rw [show BL (CJ ts (3*t+1)) ((min T.2.1 T.2.2,max T.2.1 T.2.2):P2) e21=CJ ts (3*t+2) from by rw [hu1,he1,hT];exact (Jy (ts:=ts) (t:=t) (i:=1) (by omega)).symm]
      refine OkL.nil (OkQ.subF (sL [2,3,16,17,18,5,4,23,9,10] rfl) (OkQ.in_normal (OkQ.then_ (OkC.region (AG (AY (c:=(2:Int)) rfl rfl (by decide)) rfl (AO rfl (OkL.nil (OkQ.subF (sL [2,3,16,17,18,5,4,23,9,10] rfl) (OkQ.again (Nc.step (q4 ?_)))))))))))
      refine AG (Af (c:=true) rfl rfl (by decide)) rfl (OkL.nil (q1 (OkC.cond_true rfl (OkC.skip (q1 (OkC.block (q4 (AO rfl (asg' rfl (q6 (sL [2,3,16,17,18,5,4,23,9,10,6] rfl) (CV [(0,true),(1,true),(2,true),(3,true),(4,true),(5,true),(6,true),(7,true),(8,true),(9,true)] sr ?_)))))))))))
      refine BN rfl (Ag (v:=(pP b2 2)) rfl (AH (j:=2) rfl rfl Tryz.underlying105 Tryz.sizeOf3 rfl (by decide) rfl) (BQ 4 (vN T.2.2) BH rfl (BN rfl (Ag rfl (AY (c:=(3:Int)) rfl rfl (by decide)) (Ag rfl (De (c:=(0:Int)) rfl rfl (by decide) (by decide)) (Ag (v:=(pP b2 0)) rfl (AH (j:=0) rfl rfl Tryz.underlying105 Tryz.sizeOf3 rfl (by decide) rfl) (BQ 4 (vN T.1) BH rfl (pS' rfl (pS' rfl (OkE.nil (OkQ.subF (sL [2,3,16,17,18,5,4,23,9,10,7,8] rfl) ?_)))))))))))
      refine q2 (AO rfl (AO rfl (AG (DI (c:=((min T.2.2 T.1:Nat):Int)) rfl rfl (by split<;>omega)) rfl (AO rfl (AO rfl (AG (DH (c:=((max T.2.2 T.1:Nat):Int)) rfl rfl (by split<;>omega)) rfl (AG (v:=(aG ([(vN (min T.2.2 T.1)),(vN (max T.2.2 T.1))]))) (AR (zs:=Ef ((0,0):P2)) (vs:=[(vN (min T.2.2 T.1)),(vN (max T.2.2 T.1))]) (pv:=[(0,(vN (min T.2.2 T.1))),(1,(vN (max T.2.2 T.1)))]) (places:=[(0,1),(1,1)]) Tryz.zeroValue240 Tryz.underlying240 (λw=>by simp [Tryz.sizeOf3]) rfl rfl) rfl (al TK rfl λb7=>Ay rfl Tryz.sizeOf240 rfl (q3 (sL [2,3,16,17,18,5,4,23,9,10,7,8] rfl) (AO rfl ?_))))))))))
      refine BU 0 Kl rfl (AG (v:=(Value.tuple #[(aG (Bx ((Az (CJ ts (3*t+2)) ((min T.2.2 T.1,max T.2.2 T.1):P2)).getD (⟨0,0,0,0⟩:E4)))),(Value.bool ((Az (CJ ts (3*t+2)) ((min T.2.2 T.1,max T.2.2 T.1):P2)).isSome))])) (CR GS 6 (eV:=Lx) (kvs:=CJ ts (3*t+2)) (x:=((min T.2.2 T.1,max T.2.2 T.1):P2)) (z0:=(⟨0,0,0,0⟩:E4)) (co:=true) rfl rfl Tryz.underlying239 Tryz.zeroValue49 rfl (Eu hn hN _ (by omega)) (BV (by omega) (by omega))) rfl (AO rfl (AG (AV (v:=(aG (Bx ((Az (CJ ts (3*t+2)) ((min T.2.2 T.1,max T.2.2 T.1):P2)).getD (⟨0,0,0,0⟩:E4))))) rfl rfl) rfl (AG (AV (v:=(Value.bool ((Az (CJ ts (3*t+2)) ((min T.2.2 T.1,max T.2.2 T.1):P2)).isSome))) rfl rfl) rfl (al MK rfl λb8=>Ay rfl Tryz.sizeOf49 rfl (asg' rfl (q6 (sL [2,3,16,17,18,5,4,23,9,10,7,8,11] rfl) (q4 (AO rfl (AG (Be (c:=(!((Az (CJ ts (3*t+2)) ((min T.2.2 T.1,max T.2.2 T.1):P2)).isSome))) rfl rfl) rfl ?_))))))))))
      refine OkL.nil (OkQ.subF (sL [2,3,16,17,18,5,4,23,9,10,7,8,48] rfl) (OkQ.then_ ?_))
      refine OkC.jn1 (tg λ(e02:E4)=>e02=(Az (CJ ts (3*t+2)) (min T.2.2 T.1,max T.2.2 T.1)).getD (H4 (min T.2.2 T.1,max T.2.2 T.1))) (tg λ(e02:E4)=>[(2,(Value.slice none 0 0)),(3,(Value.map (some b1))),(16,(Value.slice x.p ts.length x.c)),(17,(vN ts.length)),(18,(vN t)),(5,(pP b2 0)),(4,(vN t)),(23,(vI 2)),(9,(pP b7 0)),(10,(pP b8 0)),(7,(vN T.2.2)),(8,(vN T.1))]) (tg λ(e02:E4)=>[AX b8 49 (Bx e02),AX b7 240 ([(vN (min T.2.2 T.1)),(vN (max T.2.2 T.1))]),AX b6 49 (Bx e21),AX b5 240 ([(vN (min T.2.1 T.2.2)),(vN (max T.2.1 T.2.2))]),AX b4 49 (Bx e20),AX b3 240 ([(vN (min T.1 T.2.1)),(vN (max T.1 T.2.1))]),AX b2 105 (Aq T),CE b1 FG Lx (CJ ts (3*t+2)),AF x.p (rowsL Aq ts)]) ?_ ?_
      ·skip
       refine OkC.cond rfl (λhc2=>?_) (λhc2=>?_)
       ·simp only [Bool.and_eq_true,Bool.or_eq_true,Bool.and_eq_false_iff,Bool.or_eq_false_iff,Bool.not_eq_true',Bool.not_eq_false',decide_eq_true_eq,decide_eq_false_iff_not] at hc2
        exact OkC.region (AG (v:=(pP b7 0)) (AA rfl Tryz.underlying240 rfl Tryz.sizeOf3 rfl) rfl (Aw 1 (vN (min T.2.2 T.1)) BH rfl (AG (v:=(pP b7 1)) (AA rfl Tryz.underlying240 rfl Tryz.sizeOf3 rfl) rfl (Aw 1 (vN (max T.2.2 T.1)) BH rfl (AG (v:=(aG ([(vN (min T.2.2 T.1)),(vN (max T.2.2 T.1)),(vI (-1:Int)),(vI (-1:Int))]))) (AR (zs:=Bx (⟨0,0,0,0⟩:E4)) (vs:=[(vN (min T.2.2 T.1)),(vN (max T.2.2 T.1)),(vI (-1:Int)),(vI (-1:Int))]) (pv:=[(0,(vN (min T.2.2 T.1))),(1,(vN (max T.2.2 T.1))),(2,(vI (-1:Int))),(3,(vI (-1:Int)))]) (places:=[(0,1),(1,1),(2,1),(3,1)]) Tryz.zeroValue49 Tryz.underlying49 (λw=>by simp [Tryz.sizeOf3]) rfl rfl) rfl (Ay rfl Tryz.sizeOf49 rfl (OkL.nil (OkQ.subF (sL [2,3,16,17,18,5,4,23,9,10,7,8] rfl) (OkQ.join1 (⟨min T.2.2 T.1,max T.2.2 T.1,-1,-1⟩:E4) ((JH (k:=(min T.2.2 T.1,max T.2.2 T.1)) (by simpa using hc2))) (sF rfl) sr)))))))))
       ·simp only [Bool.and_eq_true,Bool.or_eq_true,Bool.and_eq_false_iff,Bool.or_eq_false_iff,Bool.not_eq_true',Bool.not_eq_false',decide_eq_true_eq,decide_eq_false_iff_not] at hc2
        exact OkC.skip (OkQ.join1 ((Az (CJ ts (3*t+2)) ((min T.2.2 T.1,max T.2.2 T.1):P2)).getD (⟨0,0,0,0⟩:E4)) ((JB (by simpa using hc2))) (sF rfl) sr)
      ·intro e02 hJ
       have he2:=hJ
       refine q1 ?_
       refine OkC.jn1 (tg λ(e22:E4)=>e22=Ev e02 t T.2.2 T.1) (tg λ(e22:E4)=>[(2,(Value.slice none 0 0)),(3,(Value.map (some b1))),(16,(Value.slice x.p ts.length x.c)),(17,(vN ts.length)),(18,(vN t)),(5,(pP b2 0)),(4,(vN t)),(23,(vI 2)),(9,(pP b7 0)),(10,(pP b8 0))]) (tg λ(e22:E4)=>[AX b8 49 (Bx e22),AX b7 240 ([(vN (min T.2.2 T.1)),(vN (max T.2.2 T.1))]),AX b6 49 (Bx e21),AX b5 240 ([(vN (min T.2.1 T.2.2)),(vN (max T.2.1 T.2.2))]),AX b4 49 (Bx e20),AX b3 240 ([(vN (min T.1 T.2.1)),(vN (max T.1 T.2.1))]),AX b2 105 (Aq T),CE b1 FG Lx (CJ ts (3*t+2)),AF x.p (rowsL Aq ts)]) ?_ ?_
       ·skip
        refine OkC.block (q4 (AO rfl (AO rfl (AG (Af (c:=(decide (T.2.2<T.1))) rfl rfl (B9 (a:=T.2.2) (b:=T.1))) rfl (AO rfl ?_)))))
        refine OkL.mid (FM:=[(2,(Value.slice none 0 0)),(3,(Value.map (some b1))),(16,(Value.slice x.p ts.length x.c)),(17,(vN ts.length)),(18,(vN t)),(5,(pP b2 0)),(4,(vN t)),(23,(vI 2)),(9,(pP b7 0)),(10,(pP b8 0)),(7,(vN T.2.2)),(8,(vN T.1)),(55,(vN T.2.2)),(56,(vN T.1)),(57,(Value.bool (decide (T.2.2<T.1)))),(58,(Value.bool (decide (T.2.2<T.1)))),(62,(Value.bool ((decide (T.2.2<T.1))&&(decide (e02.l=(-1:Int))))))]) (LM:=[AX b8 49 (Bx e02),AX b7 240 ([(vN (min T.2.2 T.1)),(vN (max T.2.2 T.1))]),AX b6 49 (Bx e21),AX b5 240 ([(vN (min T.2.1 T.2.2)),(vN (max T.2.1 T.2.2))]),AX b4 49 (Bx e20),AX b3 240 ([(vN (min T.1 T.2.1)),(vN (max T.1 T.2.1))]),AX b2 105 (Aq T),CE b1 FG Lx (CJ ts (3*t+2)),AF x.p (rowsL Aq ts)]) 4 ?_ ?_
        ·rcases Bool.eq_false_or_eq_true (decide (T.2.2<T.1)) with hg5|hg5
         ·skip
          refine OkL.retell (k:=58) (u:=Value.bool true) rfl (by rw [hg5]) ?_
          have hg5':=hg5
          replace hg5':=of_decide_eq_true hg5'
          exact OkL.step (v:=(pP b8 2)) (AB rfl) (AA rfl Tryz.underlying49 rfl Tryz.sizeOf3 rfl) rfl (AK rfl) (OkL.step (v:=(vI e02.l)) (AB rfl) (AE (i:=0) (v:=(vI e02.l)) rfl rfl BH.a rfl) rfl (AK rfl) (OkL.step (v:=(Value.bool (decide (e02.l=(-1:Int))))) (AB rfl) (BE (c:=(decide (e02.l=(-1:Int)))) rfl rfl rfl) rfl (AK rfl) (AG (v:=(Value.bool (decide (e02.l=(-1:Int))))) (AN rfl rfl) rfl (OkL.nil (OkQ.mid (sS rfl (sS rfl (sS rfl (sS rfl (sS rfl (sS rfl (sS rfl (sS rfl (sS rfl (sS rfl (sS rfl (sS rfl (sS rfl (sS rfl (sS rfl (sS (by first|rfl|(rw [hg5];rfl)|rw [hg5]) (sS (by first|rfl|(rw [hg5];rfl)|rw [hg5]) (sN)))))))))))))))))) (List.Sublist.refl _))))))
         ·skip
          refine OkL.retell (k:=58) (u:=Value.bool false) rfl (by rw [hg5]) ?_
          have hg5':=hg5
          replace hg5':=of_decide_eq_false hg5'
          exact OkL.skip (AC rfl) rfl (AK rfl) (OkL.skip (AC rfl) rfl (AK rfl) (OkL.skip (AC rfl) rfl (AK rfl) (AG (v:=(Value.bool false)) (AJ rfl rfl) rfl (OkL.nil (OkQ.mid (sS rfl (sS rfl (sS rfl (sS rfl (sS rfl (sS rfl (sS rfl (sS rfl (sS rfl (sS rfl (sS rfl (sS rfl (sS rfl (sS rfl (sS rfl (sS (by first|rfl|(rw [hg5];rfl)|rw [hg5]) (sS (by first|rfl|(rw [hg5];rfl)|rw [hg5]) (sN)))))))))))))))))) (List.Sublist.refl _))))))
        refine asg' rfl (OkL.nil (OkQ.subF (sL [2,3,16,17,18,5,4,23,9,10,7,8,54] rfl) (OkQ.then_ ?_)))
        refine OkC.cond rfl (λhc3=>?_) (λhc3=>?_)
        ·simp only [Bool.and_eq_true,Bool.or_eq_true,Bool.and_eq_false_iff,Bool.or_eq_false_iff,Bool.not_eq_true',Bool.not_eq_false',decide_eq_true_eq,decide_eq_false_iff_not] at hc3
         exact OkC.region (AO rfl (AG (v:=(pP b8 2)) (AA rfl Tryz.underlying49 rfl Tryz.sizeOf3 rfl) rfl (FZ 0 (off:=2) (vs:=[(vN t)]) (cs':=[(vN e02.a),(vN e02.b),(vN t),(vI e02.r)]) (AP rfl) rfl Tryz.sizeOf3 rfl (OkL.nil (OkQ.subF (sL [2,3,16,17,18,5,4,23,9,10,7,8] rfl) (OkQ.in_normal (OkQ.join1 (⟨e02.a,e02.b,((t:Nat):Int),e02.r⟩:E4) ((by unfold Ev;rw [if_pos (by omega)])) (sF rfl) sr)))))))
        ·simp only [Bool.and_eq_true,Bool.or_eq_true,Bool.and_eq_false_iff,Bool.or_eq_false_iff,Bool.not_eq_true',Bool.not_eq_false',decide_eq_true_eq,decide_eq_false_iff_not] at hc3
         refine q4 (AO rfl (AO rfl (AG (B6 (c:=(decide (T.1<T.2.2))) rfl rfl (B9 (a:=T.1) (b:=T.2.2))) rfl (AO rfl ?_))))
         refine OkL.mid (FM:=[(2,(Value.slice none 0 0)),(3,(Value.map (some b1))),(16,(Value.slice x.p ts.length x.c)),(17,(vN ts.length)),(18,(vN t)),(5,(pP b2 0)),(4,(vN t)),(23,(vI 2)),(9,(pP b7 0)),(10,(pP b8 0)),(7,(vN T.2.2)),(8,(vN T.1)),(66,(vN T.2.2)),(67,(vN T.1)),(68,(Value.bool (decide (T.1<T.2.2)))),(69,(Value.bool (decide (T.1<T.2.2)))),(73,(Value.bool ((decide (T.1<T.2.2))&&(decide (e02.r=(-1:Int))))))]) (LM:=[AX b8 49 (Bx e02),AX b7 240 ([(vN (min T.2.2 T.1)),(vN (max T.2.2 T.1))]),AX b6 49 (Bx e21),AX b5 240 ([(vN (min T.2.1 T.2.2)),(vN (max T.2.1 T.2.2))]),AX b4 49 (Bx e20),AX b3 240 ([(vN (min T.1 T.2.1)),(vN (max T.1 T.2.1))]),AX b2 105 (Aq T),CE b1 FG Lx (CJ ts (3*t+2)),AF x.p (rowsL Aq ts)]) 4 ?_ ?_
         ·rcases Bool.eq_false_or_eq_true (decide (T.1<T.2.2)) with hg6|hg6
          ·skip
           refine OkL.retell (k:=69) (u:=Value.bool true) rfl (by rw [hg6]) ?_
           have hg6':=hg6
           replace hg6':=of_decide_eq_true hg6'
           exact OkL.step (v:=(pP b8 3)) (AB rfl) (AA rfl Tryz.underlying49 rfl Tryz.sizeOf3 rfl) rfl (AK rfl) (OkL.step (v:=(vI e02.r)) (AB rfl) (AE (i:=0) (v:=(vI e02.r)) rfl rfl BH.a rfl) rfl (AK rfl) (OkL.step (v:=(Value.bool (decide (e02.r=(-1:Int))))) (AB rfl) (BE (c:=(decide (e02.r=(-1:Int)))) rfl rfl rfl) rfl (AK rfl) (AG (v:=(Value.bool (decide (e02.r=(-1:Int))))) (AN rfl rfl) rfl (OkL.nil (OkQ.mid (sS rfl (sS rfl (sS rfl (sS rfl (sS rfl (sS rfl (sS rfl (sS rfl (sS rfl (sS rfl (sS rfl (sS rfl (sS rfl (sS rfl (sS rfl (sS (by first|rfl|(rw [hg6];rfl)|rw [hg6]) (sS (by first|rfl|(rw [hg6];rfl)|rw [hg6]) (sN)))))))))))))))))) (List.Sublist.refl _))))))
          ·skip
           refine OkL.retell (k:=69) (u:=Value.bool false) rfl (by rw [hg6]) ?_
           have hg6':=hg6
           replace hg6':=of_decide_eq_false hg6'
           exact OkL.skip (AC rfl) rfl (AK rfl) (OkL.skip (AC rfl) rfl (AK rfl) (OkL.skip (AC rfl) rfl (AK rfl) (AG (v:=(Value.bool false)) (AJ rfl rfl) rfl (OkL.nil (OkQ.mid (sS rfl (sS rfl (sS rfl (sS rfl (sS rfl (sS rfl (sS rfl (sS rfl (sS rfl (sS rfl (sS rfl (sS rfl (sS rfl (sS rfl (sS rfl (sS (by first|rfl|(rw [hg6];rfl)|rw [hg6]) (sS (by first|rfl|(rw [hg6];rfl)|rw [hg6]) (sN)))))))))))))))))) (List.Sublist.refl _))))))
         refine asg' rfl (OkL.nil (OkQ.subF (sL [2,3,16,17,18,5,4,23,9,10,7,8,65] rfl) (OkQ.then_ ?_)))
         refine OkC.cond rfl (λhc4=>?_) (λhc4=>?_)
         ·simp only [Bool.and_eq_true,Bool.or_eq_true,Bool.and_eq_false_iff,Bool.or_eq_false_iff,Bool.not_eq_true',Bool.not_eq_false',decide_eq_true_eq,decide_eq_false_iff_not] at hc4
          exact OkC.region (AO rfl (AG (v:=(pP b8 3)) (AA rfl Tryz.underlying49 rfl Tryz.sizeOf3 rfl) rfl (FZ 0 (off:=3) (vs:=[(vN t)]) (cs':=[(vN e02.a),(vN e02.b),(vI e02.l),(vN t)]) (AP rfl) rfl Tryz.sizeOf3 rfl (OkL.nil (OkQ.subF (sL [2,3,16,17,18,5,4,23,9,10,7,8] rfl) (OkQ.in_normal (OkQ.join1 (⟨e02.a,e02.b,e02.l,((t:Nat):Int)⟩:E4) ((by unfold Ev;rw [if_neg (by omega),if_pos (by omega)])) (sF rfl) sr)))))))
         ·simp only [Bool.and_eq_true,Bool.or_eq_true,Bool.and_eq_false_iff,Bool.or_eq_false_iff,Bool.not_eq_true',Bool.not_eq_false',decide_eq_true_eq,decide_eq_false_iff_not] at hc4
          exact OkC.skip (OkQ.in_normal (OkQ.join1 e02 ((by unfold Ev;rw [if_neg (by omega),if_neg (by omega)])) (sF rfl) sr))
       ·intro e22 hJ
        have hu2:=hJ
        refine OkQ.then_ (OkC.region (AO rfl (BU 1 Kl rfl (BU 0 MI rfl (OkL.mapUpdate GS 7 (kvs:=CJ ts (3*t+2)) (x:=((min T.2.2 T.1,max T.2.2 T.1):P2)) (y:=e22) (AP rfl) rfl rfl rfl Tryz.underlying239 rfl (Eu hn hN _ (by omega)) (BV (by omega) (by omega)) ?_)))))
        rw [show BL (CJ ts (3*t+2)) ((min T.2.2 T.1,max T.2.2 T.1):P2) e22=CJ ts (3*t+3) from by rw [hu2,he2,hT];exact (Jy (ts:=ts) (t:=t) (i:=2) (by omega)).symm]
        refine OkL.nil (OkQ.subF (sL [2,3,16,17,18,5,4,23,9,10] rfl) (OkQ.in_normal (OkQ.then_ (OkC.region (AG (AY (c:=(3:Int)) rfl rfl (by decide)) rfl (AO rfl (OkL.nil (OkQ.subF (sL [2,3,16,17,18,5,4,23,9,10] rfl) (OkQ.again (Nc.step (q4 ?_)))))))))))
        refine AG (Af (c:=false) rfl rfl (by decide)) rfl (OkL.nil (q1 (OkC.cond_false rfl (OkC.exit (OkQ.then_exit (OkQ.then_exit (OkQ.in_exit (OkQ.in_normal (OkQ.then_ (OkC.region (AG (AY (c:=((t+1:Nat):Int)) rfl rfl (AT (a:=t) (b:=1) (by omega))) rfl ?_)))))))))))
        refine AO rfl (OkL.nil (OkQ.subF (sL [2,3,16,17,18,5,4,23,9,10] rfl) ?_))
        rw [show 3*t+3=3*(t+1)+0 by omega]
        exact OkQ.round1 (t+1) (by omega) (by omega) (sF rfl) (sl (sl (sl (sl (sl (sl (sl sr)))))))
 ·replace hc0:=of_decide_eq_false hc0
  have htl:t=ts.length:=by omega
  have hel:=HU (ts:=ts) (3*ts.length)
  refine OkC.exit (OkQ.then_exit (OkQ.round1_exit (OkQ.in_exit (q2 (AO rfl ?_)))))
  rw [show CJ ts (3*t+0)=(CJ ts (3*ts.length)) by rw [htl,Nat.add_zero]]
  refine st (v:=(vN ((CJ ts (3*ts.length)).length))) (OS 0 (kvs:=(CJ ts (3*ts.length))) rfl Tryz.underlying239 rfl) (AK rfl) (OkL.make0 YH rfl rfl (by omega) rfl rfl λbo hbo=>asg' rfl (q6 (sL [2,3,16,17,18,12] rfl) (q4 (AO rfl (OkL.range 1 (kvs:=(CJ ts (3*ts.length))) (AP rfl) rfl Tryz.underlying239 rfl rfl λb2=>OkL.nil (OkQ.subF (sL [2,3,16,17,18,12,85] rfl) (OkQ.then_ (OkC.block ?_))))))))
  refine OkC.lp4 (tg λ(seen:List Nat) (out:List E4) (p1:Option Addr) (c1:Nat)=>seen.Nodup/\(∀x∈seen,x<(CJ ts (3*ts.length)).length)/\out=seen.map (Su (CJ ts (3*ts.length)))/\OwnOk p1 out.length c1/\p1≠none) (tg λ(seen:List Nat) (out:List E4) (p1:Option Addr) (c1:Nat)=>[(2,(Value.slice none 0 0)),(85,(Value.pointer (some ⟨b2,0,none⟩))),(12,(Value.slice p1 out.length c1))]) (tg λ(seen:List Nat) (out:List E4) (p1:Option Addr) (c1:Nat)=>[X4 b2 b1 (CJ ts (3*ts.length)).length seen,rowW p1 49 4 out.length c1 (rowsL Bx out),CE b1 FG Lx (CJ ts (3*ts.length)),AF x.p (rowsL Aq ts)]) (tg λ(seen:List Nat) (out:List E4) (p1:Option Addr) (c1:Nat)=>(CJ ts (3*ts.length)).length-seen.length) ([]:List Nat) ([]:List E4) (some ⟨bo,0,none⟩) ((CJ ts (3*ts.length)).length) (⟨List.nodup_nil,(λx hx=>by cases hx),rfl,hbo,by simp⟩) (sF rfl) sr (λseen out p1 c1 hJ=>?_)
  obtain ⟨hnd,hlt,hou,ho,hpn⟩:=hJ
  refine q4 ?_
  refine OkL.next 2 0 (kvs:=(CJ ts (3*ts.length))) (seen:=seen) (AP rfl) rfl rfl rfl rfl (λhall=>?_) (λqn kq ve hq hns=>?_)
  ·skip
   refine AG (AV (v:=(Value.bool false)) rfl rfl) rfl (q6 (sL [2,85,12,87] rfl) (OkC.cond_false rfl (OkC.exit (OkQ.then_exit (OkQ.round4_exit (OkQ.in_exit (q2 (AO rfl ?_))))))))
   have hpm:out.Perm ((CJ ts (3*ts.length)).map (·.2)):=by rw [hou];exact Tm hnd hlt hall
   have hol:out.length=(BS ts).length:=by rw [HO];simpa using hpm.length_eq
   have hlo:out.length<=3*ts.length:=by rw [hol,HO];exact hel
   exact OkL.callS 1 (xs:=out) (ys:=BS ts) (v:=(Value.tuple #[])) (AP rfl) (Ap (args:=[(Value.slice p1 out.length c1),(Value.func (.func 168) #[] #[])]) rfl rfl Tryz.call167) rfl (λw hw=>TQ out _ _ _ 49 ho hpn rfl (by omega) w (hw.holds (i:=1) rfl)) (λzs h1 h2=>Wr hn hN h1 h2 hpm) (λd hd=>by cases hd<;>exact (AK rfl)) (q3 (sL [2,85,12] rfl) (AO rfl (ck' Tryz.call119 (Tl p1 _ c1 ho.le) rfl (asg' rfl (OkL.nil (OkQ.subF (sL [2,85,12] rfl) (OkQ.then_ (OkC.ret (ret_one rfl (rd_tmp (v:=(Value.slice p1 out.length out.length)) rfl) (λw hw=>(by rw [<-hol];exact XU hw 1 rfl ho (by rw [Ab DB,hol]) rfl)))))))))))
  ·skip
   refine AG (AV (v:=(Value.bool true)) rfl rfl) rfl (q6 (sL [2,85,12,87] rfl) (OkC.cond_true rfl (OkC.skip (OkQ.then_ (OkC.block (q4 ?_))))))
   have hlo:out.length<=3*ts.length:=by rw [hou,List.length_map];exact Nat.le_trans (JM hnd hlt) hel
   refine AG (v:=(Value.tuple #[(aG (Ef kq)),(aG (Bx ve))])) (Td 2 0 (enc:=FG) (eV:=Lx) (kvs:=(CJ ts (3*ts.length))) (seen:=seen) (q:=qn) rfl rfl rfl hq) rfl (AG (AV (v:=(aG (Bx ve))) rfl rfl) rfl (al MK rfl λb3=>Ay rfl Tryz.sizeOf49 rfl (OkL.nil (OkQ.subF (sL [2,85,12,14] rfl) (OkQ.then_ (OkC.region (AO rfl (BU 0 MI rfl (OkL.openV (V:=λb4=>(Value.slice (some ⟨b4,0,none⟩) 1 1)) (T:=49) (cs:=Bx ve) (AP rfl) (Av (z:=.agg (Bx (⟨0,0,0,0⟩:E4)).toArray) (cs:=Bx ve) (pv:=[(0,(aG (Bx ve)))]) Tryz.underlying46 Tryz.sizeOf49 Tryz.zeroValue49 (by decide) (by decide) rfl (JD ve)) rfl (AK rfl) λb4=>OkL.appendAt 3 (j:=0) (cs2:=rowsL Bx (out++[ve])) YH rfl ho (Ab DB _) rfl rfl rfl rfl rfl (by decide) (HL (by omega)) (by omega) (by rw [Ba];rfl) rfl λp_1 c_1 ho_1 hne_1=>?_)))))))))
   refine asg' rfl (OkL.nil (OkQ.subF (sL [2,85,12,14] rfl) (OkQ.in_normal ?_)))
   have hnext:seen.length<(CJ ts (3*ts.length)).length:=by have h9:=JM (l:=seen++[qn]) (n:=(CJ ts (3*ts.length)).length) (List.nodup_append.2 ⟨hnd,List.nodup_cons.2 ⟨List.not_mem_nil,List.nodup_nil⟩,λa ha b hb e=>by rw [List.mem_singleton.1 hb] at e;exact hns (e▸ha)⟩) (λx hx=>by rcases List.mem_append.1 hx with h|h;exact hlt x h;rw [List.mem_singleton.1 h];exact (List.getElem?_eq_some_iff.1 hq).1);rw [List.length_append,List.length_singleton] at h9;omega
   rw [show out.length+1=(out++[ve]).length by simp]
   exact OkQ.round4 (seen++[qn]) (out++[ve]) p_1 c_1 (⟨List.nodup_append.2 ⟨hnd,List.nodup_cons.2 ⟨List.not_mem_nil,List.nodup_nil⟩,λa ha b hb e=>by rw [List.mem_singleton.1 hb] at e;exact hns (e▸ha)⟩,λx hx=>by rcases List.mem_append.1 hx with h|h;exact hlt x h;rw [List.mem_singleton.1 h];exact (List.getElem?_eq_some_iff.1 hq).1,by rw [List.map_append,hou];simp [Uz hq],(by simpa using ho_1),hne_1⟩) (by have h8:=hnext;rw [List.length_append,List.length_singleton];omega) (sF rfl) (sl (sl sr))
theorem Rk (ts:List (Nat×Nat×Nat)) (x:RX (rowsL Aq ts) ts.length) (N:Nat) (hn:B8 N ts=true) (hN:N<=4611686018427387904) (hl:ts.length<=1000000000) (w:World) {S:Nat->Prop} (hx:Ro S w x):Calls Tryz.prog 101 #[(Value.slice x.p ts.length x.c)] w (Ah (RX (rowsL Bx (BS ts)) (BS ts).length) S w):=(K3 ts x N hn hN hl w hx).mono λe w1 h=>h.ofCX
end
end Go.Proofs.YtpolhpjiahbidaaGreatDoor
