import Derived.Test.YtpolhpjiahbidaaGreatDoorPart05
import Derived.Test.YtpolhpjiahbidaaGreatDoorPart19
import Derived.Test.YtpolhpjiahbidaaGreatDoorPart20
import Derived.Test.YtpolhpjiahbidaaGreatDoorPart22
namespace Go.Proofs.YtpolhpjiahbidaaGreatDoor
open Go Go.RowKit Go.Proofs.Tryz
set_option linter.unusedVariables false
set_option linter.unusedSimpArgs false
section
set_option maxRecDepth 100000
theorem Ye:ElemT prog 46 49 4 32:=⟨underlying46,DM (by kernel_rfl)⟩
theorem Ge:MI prog 240 E3 Ml where
 law:=.of_law (deep_law_laid TW (m:=2) (by decide) (by decide +kernel) (by kernel_rfl) (by kernel_rfl))
 key:=λa h=>LH underlying240 ⟨rfl,rfl⟩ ⟨rfl,rfl⟩ (by decide +kernel) underlying3 (by kernel_rfl) (by kernel_rfl) (by kernel_rfl) (by decide +kernel) (H_ h.1) (H_ h.2)
 inj:=λa b h=>Jd h
theorem Se (p:Option Addr) (n cp:Nat) (h:n<=cp) (w:World)  :Calls prog 119 #[(Value.slice p n cp)] w (Ah w (Value.slice p n n)):=by
 refine Ab (args:=[(Value.slice p n cp)]) func119 O O (AI O) (OkC.subF (sL [0] O) (q4 (asg' O (OkL.nil (q2 (AM O (AM O (AH (v:=(vN n)) (AD O underlying46) O (AM O (AH (v:=(vN n)) (AD O underlying46) O (AH (v:=(Value.slice p n n)) (D6 (m:=n) O O O underlying46 sizeOf49 Z) O ?_)))))))))))
 exact asg' O (OkL.nil (OkQ.subF (sL [2] O) (OkQ.then_ (OkC.ret (ret_one O (rd_tmp (v:=(Value.slice p n n)) O) (λw hw=>⟨rfl,hw.out⟩))))))
theorem Jw (x0:E4):Instr.fill (λi=>some (i*4,4)) ((Array.range (1*4)).map ((Value.agg (BY (⟨0,0,0,0⟩:E4)).toArray).cells[·%(Value.agg (BY (⟨0,0,0,0⟩:E4)).toArray).cells.size]!)) [(0,.agg (BY x0).toArray)]=some (BY x0).toArray:=by kernel_rfl
set_option maxHeartbeats 4000000 in
theorem Lf (ts:List (Tq3)) (x:RX (rowsL Ad ts) ts.length) (N:Nat) (hn:Bn N ts=true) (hN:N<=4611686018427387904) (hl:ts.length<=1000000000) (w:World) {S:Nat->Prop} (hx:Ro S w x):Calls prog 101 #[(Value.slice x.p ts.length x.c)] w (Af (CX (rowsL BY (An ts)) (An ts).length) S w):=by
 have lx:=CI (W:=w) hx
 refine AY (args:=[(Value.slice x.p ts.length x.c)]) (L:=[AE x.p (rowsL Ad ts)]) func101 O O (AI O) (D9 hx Aj) (OkC.subF (sL [0] O) (q4 (asg' O (OkL.nil (q2 (OkL.makeMap E3 Ly (AP O) O λb1=>asg' O (q6 (sL [0,2,3] O) (q4 (AM O (AH (v:=(vN ts.length)) (AD O underlying23) O ?_))))))))))
 refine AM O (OkL.nil (OkQ.subF (sL [2,3,16,17,18] O) (OkQ.then_ (OkC.block ?_))))
 refine OkC.lp1 (tg λ(t:Nat)=>t<=ts.length) (tg λ(t:Nat)=>[(2,(Value.slice none 0 0)),(3,(Value.map (some b1))),(16,(Value.slice x.p ts.length x.c)),(17,(vN ts.length)),(18,(vN t))]) (tg λ(t:Nat)=>[CE b1 E3 Ly (CO ts (3*t+0)),AE x.p (rowsL Ad ts)]) (tg λ(t:Nat)=>ts.length-t) 0 (Nat.zero_le _) (sF O) sr (λt hJ=>?_)
 have ht:=hJ
 refine q4 (AH (Ae (c:=(decide (t<ts.length))) O O (CB (a:=t) (b:=ts.length))) O (OkL.nil (q1 ?_)))
 refine OkC.cond O (λhc0=>?_) (λhc0=>?_)
 ·replace hc0:=of_decide_eq_true hc0
  obtain ⟨T,hT⟩:∃q,q=ts.getD t (0,0,0):=⟨_,rfl⟩
  obtain ⟨g1,g2,g3⟩:=EH (Dh hn hc0)
  rw [<-hT] at g1 g2 g3
  refine OkC.skip (q1 (OkC.block (q4 (AM O (AH (v:=(pP (pB x.p) (pO x.p+t*3))) (AL (j:=t) O O x.ok underlying23 sizeOf105 O Z) O (AH (v:=(aG (Ad (ts.getD t ((0,0,0):Tq3))))) (AT (vs:=Ad (ts.getD t ((0,0,0):Tq3))) (i:=1) O O (Av.ne x.ok Z) ET (Am Az _ _ _ Z) (Az _)) O (OkL.retell (k:=22) (u:=(aG (Ad T))) O (by rw [hT]) (al LC O λb2=>asg' O (Ax O sizeOf105 O (q3 (sL [2,3,16,17,18,5,4] O) ?_))))))))))
  refine AM O (OkL.nil (OkQ.then_ (OkC.block (OkC.unroll 4 (PU.step (q4 (AH (Ae (c:=true) O O (by decide)) O (OkL.nil (q1 (OkC.cond_true O (OkC.skip ?_)))))))))))
  refine q1 (OkC.block (q4 (AM O (asg' O (q6 (sL [2,3,16,17,18,5,4,23,6] O) (Cd [(0,true),(1,true),(2,true),(3,true),(4,true),(5,true),(6,true),(7,true),(8,true),(9,true)] sr (BV O (Al (v:=(pP b2 0)) O (AG (j:=0) O O underlying105 sizeOf3 O (by decide) O) (BM 0 (vN T.1) BL O (BV O (Al O (AX (c:=(1:Int)) O O (by decide)) ?_)))))))))))
  refine Al O (Dy (c:=(1:Int)) O O (by decide) (by decide)) (Al (v:=(pP b2 1)) O (AG (j:=1) O O underlying105 sizeOf3 O (by decide) O) (BM 0 (vN T.2.1) BL O (pS' O (pS' O (OkE.nil (OkQ.subF (sL [2,3,16,17,18,5,4,23,7,8] O) (q2 (AM O (AM O (AH (FQ (c:=((min T.1 T.2.1:Nat):Int)) O O (by split<;>omega)) O (AM O ?_)))))))))))
  refine AM O (AH (EQ (c:=((max T.1 T.2.1:Nat):Int)) O O (by split<;>omega)) O (AH (v:=(aG ([(vN (min T.1 T.2.1)),(vN (max T.1 T.2.1))]))) (AQ (zs:=Ew ((0,0):P2)) (vs:=[(vN (min T.1 T.2.1)),(vN (max T.1 T.2.1))]) (pv:=[(0,(vN (min T.1 T.2.1))),(1,(vN (max T.1 T.2.1)))]) (places:=[(0,1),(1,1)]) zeroValue240 underlying240 (λw=>by simp [sizeOf3]) O O) O (al Tb O λb3=>Ax O sizeOf240 O (q3 (sL [2,3,16,17,18,5,4,23,7,8,9] O) (AM O (BH 0 K_ O (AH (v:=(Value.tuple #[(aG (BY ((A7 (CO ts (3*t+0)) ((min T.1 T.2.1,max T.1 T.2.1):P2)).getD (⟨0,0,0,0⟩:E4)))),(Value.bool ((A7 (CO ts (3*t+0)) ((min T.1 T.2.1,max T.1 T.2.1):P2)).isSome))])) (Bu Ge 2 (eV:=Ly) (kvs:=CO ts (3*t+0)) (x:=((min T.1 T.2.1,max T.1 T.2.1):P2)) (z0:=(⟨0,0,0,0⟩:E4)) (co:=true) O O underlying239 zeroValue49 O (FH hn hN _ Z) (BQ Z Z)) O (AM O (AH (AV (v:=(aG (BY ((A7 (CO ts (3*t+0)) ((min T.1 T.2.1,max T.1 T.2.1):P2)).getD (⟨0,0,0,0⟩:E4))))) O O) O (AH (AV (v:=(Value.bool ((A7 (CO ts (3*t+0)) ((min T.1 T.2.1,max T.1 T.2.1):P2)).isSome))) O O) O ?_))))))))))
  refine al L0 O λb4=>Ax O sizeOf49 O (asg' O (q6 (sL [2,3,16,17,18,5,4,23,7,8,9,10,11] O) (q4 (AM O (AH (BU (c:=(!((A7 (CO ts (3*t+0)) ((min T.1 T.2.1,max T.1 T.2.1):P2)).isSome))) O O) O (OkL.nil (OkQ.subF (sL [2,3,16,17,18,5,4,23,7,8,9,10,48] O) (OkQ.then_ ?_))))))))
  refine OkC.jn1 (tg λ(e00:E4)=>e00=(A7 (CO ts (3*t+0)) (min T.1 T.2.1,max T.1 T.2.1)).getD (IC (min T.1 T.2.1,max T.1 T.2.1))) (tg λ(e00:E4)=>[(2,(Value.slice none 0 0)),(3,(Value.map (some b1))),(16,(Value.slice x.p ts.length x.c)),(17,(vN ts.length)),(18,(vN t)),(5,(pP b2 0)),(4,(vN t)),(23,(vI 0)),(7,(vN T.1)),(8,(vN T.2.1)),(9,(pP b3 0)),(10,(pP b4 0))]) (tg λ(e00:E4)=>[AU b4 49 (BY e00),AU b3 240 ([(vN (min T.1 T.2.1)),(vN (max T.1 T.2.1))]),AU b2 105 (Ad T),CE b1 E3 Ly (CO ts (3*t+0)),AE x.p (rowsL Ad ts)]) ?_ ?_
  ·skip
   refine OkC.cond O (λhc2=>?_) (λhc2=>?_)
   ·simp only [Bool.and_eq_true,Bool.or_eq_true,Bool.and_eq_false_iff,Bool.or_eq_false_iff,Bool.not_eq_true',Bool.not_eq_false',decide_eq_true_eq,decide_eq_false_iff_not] at hc2
    exact OkC.region (AH (v:=(pP b3 0)) (AA O underlying240 O sizeOf3 O) O (Au 1 (vN (min T.1 T.2.1)) BL O (AH (v:=(pP b3 1)) (AA O underlying240 O sizeOf3 O) O (Au 1 (vN (max T.1 T.2.1)) BL O (AH (v:=(aG ([(vN (min T.1 T.2.1)),(vN (max T.1 T.2.1)),(vI (-1:Int)),(vI (-1:Int))]))) (AQ (zs:=BY (⟨0,0,0,0⟩:E4)) (vs:=[(vN (min T.1 T.2.1)),(vN (max T.1 T.2.1)),(vI (-1:Int)),(vI (-1:Int))]) (pv:=[(0,(vN (min T.1 T.2.1))),(1,(vN (max T.1 T.2.1))),(2,(vI (-1:Int))),(3,(vI (-1:Int)))]) (places:=[(0,1),(1,1),(2,1),(3,1)]) zeroValue49 underlying49 (λw=>by simp [sizeOf3]) O O) O (Ax O sizeOf49 O (OkL.nil (OkQ.subF (sL [2,3,16,17,18,5,4,23,7,8,9,10] O) (OkQ.join1 (⟨min T.1 T.2.1,max T.1 T.2.1,-1,-1⟩:E4) ((KO (k:=(min T.1 T.2.1,max T.1 T.2.1)) (by simpa using hc2))) (sF O) sr)))))))))
   ·simp only [Bool.and_eq_true,Bool.or_eq_true,Bool.and_eq_false_iff,Bool.or_eq_false_iff,Bool.not_eq_true',Bool.not_eq_false',decide_eq_true_eq,decide_eq_false_iff_not] at hc2
    exact OkC.skip (OkQ.join1 ((A7 (CO ts (3*t+0)) ((min T.1 T.2.1,max T.1 T.2.1):P2)).getD (⟨0,0,0,0⟩:E4)) ((Ji (by simpa using hc2))) (sF O) sr)
  ·intro e00 hJ
   have he0:=hJ
   refine q1 ?_
   refine OkC.jn1 (tg λ(e20:E4)=>e20=FL e00 t T.1 T.2.1) (tg λ(e20:E4)=>[(2,(Value.slice none 0 0)),(3,(Value.map (some b1))),(16,(Value.slice x.p ts.length x.c)),(17,(vN ts.length)),(18,(vN t)),(5,(pP b2 0)),(4,(vN t)),(23,(vI 0)),(9,(pP b3 0)),(10,(pP b4 0))]) (tg λ(e20:E4)=>[AU b4 49 (BY e20),AU b3 240 ([(vN (min T.1 T.2.1)),(vN (max T.1 T.2.1))]),AU b2 105 (Ad T),CE b1 E3 Ly (CO ts (3*t+0)),AE x.p (rowsL Ad ts)]) ?_ ?_
   ·skip
    refine OkC.block (q4 (AM O (AM O (AH (Ae (c:=(decide (T.1<T.2.1))) O O (CB (a:=T.1) (b:=T.2.1))) O (AM O ?_)))))
    refine OkL.mid (FM:=[(2,(Value.slice none 0 0)),(3,(Value.map (some b1))),(16,(Value.slice x.p ts.length x.c)),(17,(vN ts.length)),(18,(vN t)),(5,(pP b2 0)),(4,(vN t)),(23,(vI 0)),(7,(vN T.1)),(8,(vN T.2.1)),(9,(pP b3 0)),(10,(pP b4 0)),(55,(vN T.1)),(56,(vN T.2.1)),(57,(Value.bool (decide (T.1<T.2.1)))),(58,(Value.bool (decide (T.1<T.2.1)))),(62,(Value.bool ((decide (T.1<T.2.1))&&(decide (e00.l=(-1:Int))))))]) (LM:=[AU b4 49 (BY e00),AU b3 240 ([(vN (min T.1 T.2.1)),(vN (max T.1 T.2.1))]),AU b2 105 (Ad T),CE b1 E3 Ly (CO ts (3*t+0)),AE x.p (rowsL Ad ts)]) 4 ?_ ?_
    ·rcases Bool.eq_false_or_eq_true (decide (T.1<T.2.1)) with hg1|hg1
     ·skip
      refine OkL.retell (k:=58) (u:=Value.bool true) O (by rw [hg1]) ?_
      have hg1':=hg1
      replace hg1':=of_decide_eq_true hg1'
      exact OkL.step (v:=(pP b4 2)) (AB O) (AA O underlying49 O sizeOf3 O) O (AI O) (OkL.step (v:=(vI e00.l)) (AB O) (AF (i:=0) (v:=(vI e00.l)) O O BL.a O) O (AI O) (OkL.step (v:=(Value.bool (decide (e00.l=(-1:Int))))) (AB O) (BG (c:=(decide (e00.l=(-1:Int)))) O O O) O (AI O) (AH (v:=(Value.bool (decide (e00.l=(-1:Int))))) (AO O O) O (OkL.nil (OkQ.mid (sS O (sS O (sS O (sS O (sS O (sS O (sS O (sS O (sS O (sS O (sS O (sS O (sS O (sS O (sS O (sS (by first|rfl|(rw [hg1];rfl)|rw [hg1]) (sS (by first|rfl|(rw [hg1];rfl)|rw [hg1]) (sN)))))))))))))))))) (List.Sublist.refl _))))))
     ·skip
      refine OkL.retell (k:=58) (u:=Value.bool false) O (by rw [hg1]) ?_
      have hg1':=hg1
      replace hg1':=of_decide_eq_false hg1'
      exact OkL.skip (AC O) O (AI O) (OkL.skip (AC O) O (AI O) (OkL.skip (AC O) O (AI O) (AH (v:=(Value.bool false)) (AJ O O) O (OkL.nil (OkQ.mid (sS O (sS O (sS O (sS O (sS O (sS O (sS O (sS O (sS O (sS O (sS O (sS O (sS O (sS O (sS O (sS (by first|rfl|(rw [hg1];rfl)|rw [hg1]) (sS (by first|rfl|(rw [hg1];rfl)|rw [hg1]) (sN)))))))))))))))))) (List.Sublist.refl _))))))
    refine asg' O (OkL.nil (OkQ.subF (sL [2,3,16,17,18,5,4,23,7,8,9,10,54] O) (OkQ.then_ ?_)))
    refine OkC.cond O (λhc3=>?_) (λhc3=>?_)
    ·simp only [Bool.and_eq_true,Bool.or_eq_true,Bool.and_eq_false_iff,Bool.or_eq_false_iff,Bool.not_eq_true',Bool.not_eq_false',decide_eq_true_eq,decide_eq_false_iff_not] at hc3
     exact OkC.region (AM O (AH (v:=(pP b4 2)) (AA O underlying49 O sizeOf3 O) O (FG 0 (off:=2) (vs:=[(vN t)]) (cs':=[(vN e00.a),(vN e00.b),(vN t),(vI e00.r)]) (AP O) O sizeOf3 O (OkL.nil (OkQ.subF (sL [2,3,16,17,18,5,4,23,7,8,9,10] O) (OkQ.in_normal (OkQ.join1 (⟨e00.a,e00.b,((t:Nat):Int),e00.r⟩:E4) ((by unfold FL;rw [if_pos Z])) (sF O) sr)))))))
    ·simp only [Bool.and_eq_true,Bool.or_eq_true,Bool.and_eq_false_iff,Bool.or_eq_false_iff,Bool.not_eq_true',Bool.not_eq_false',decide_eq_true_eq,decide_eq_false_iff_not] at hc3
     refine q4 (AM O (AM O (AH (Bs (c:=(decide (T.2.1<T.1))) O O (CB (a:=T.2.1) (b:=T.1))) O (AM O ?_))))
     refine OkL.mid (FM:=[(2,(Value.slice none 0 0)),(3,(Value.map (some b1))),(16,(Value.slice x.p ts.length x.c)),(17,(vN ts.length)),(18,(vN t)),(5,(pP b2 0)),(4,(vN t)),(23,(vI 0)),(7,(vN T.1)),(8,(vN T.2.1)),(9,(pP b3 0)),(10,(pP b4 0)),(66,(vN T.1)),(67,(vN T.2.1)),(68,(Value.bool (decide (T.2.1<T.1)))),(69,(Value.bool (decide (T.2.1<T.1)))),(73,(Value.bool ((decide (T.2.1<T.1))&&(decide (e00.r=(-1:Int))))))]) (LM:=[AU b4 49 (BY e00),AU b3 240 ([(vN (min T.1 T.2.1)),(vN (max T.1 T.2.1))]),AU b2 105 (Ad T),CE b1 E3 Ly (CO ts (3*t+0)),AE x.p (rowsL Ad ts)]) 4 ?_ ?_
     ·rcases Bool.eq_false_or_eq_true (decide (T.2.1<T.1)) with hg2|hg2
      ·skip
       refine OkL.retell (k:=69) (u:=Value.bool true) O (by rw [hg2]) ?_
       have hg2':=hg2
       replace hg2':=of_decide_eq_true hg2'
       exact OkL.step (v:=(pP b4 3)) (AB O) (AA O underlying49 O sizeOf3 O) O (AI O) (OkL.step (v:=(vI e00.r)) (AB O) (AF (i:=0) (v:=(vI e00.r)) O O BL.a O) O (AI O) (OkL.step (v:=(Value.bool (decide (e00.r=(-1:Int))))) (AB O) (BG (c:=(decide (e00.r=(-1:Int)))) O O O) O (AI O) (AH (v:=(Value.bool (decide (e00.r=(-1:Int))))) (AO O O) O (OkL.nil (OkQ.mid (sS O (sS O (sS O (sS O (sS O (sS O (sS O (sS O (sS O (sS O (sS O (sS O (sS O (sS O (sS O (sS (by first|rfl|(rw [hg2];rfl)|rw [hg2]) (sS (by first|rfl|(rw [hg2];rfl)|rw [hg2]) (sN)))))))))))))))))) (List.Sublist.refl _))))))
      ·skip
       refine OkL.retell (k:=69) (u:=Value.bool false) O (by rw [hg2]) ?_
       have hg2':=hg2
       replace hg2':=of_decide_eq_false hg2'
       exact OkL.skip (AC O) O (AI O) (OkL.skip (AC O) O (AI O) (OkL.skip (AC O) O (AI O) (AH (v:=(Value.bool false)) (AJ O O) O (OkL.nil (OkQ.mid (sS O (sS O (sS O (sS O (sS O (sS O (sS O (sS O (sS O (sS O (sS O (sS O (sS O (sS O (sS O (sS (by first|rfl|(rw [hg2];rfl)|rw [hg2]) (sS (by first|rfl|(rw [hg2];rfl)|rw [hg2]) (sN)))))))))))))))))) (List.Sublist.refl _))))))
     refine asg' O (OkL.nil (OkQ.subF (sL [2,3,16,17,18,5,4,23,7,8,9,10,65] O) (OkQ.then_ ?_)))
     refine OkC.cond O (λhc4=>?_) (λhc4=>?_)
     ·simp only [Bool.and_eq_true,Bool.or_eq_true,Bool.and_eq_false_iff,Bool.or_eq_false_iff,Bool.not_eq_true',Bool.not_eq_false',decide_eq_true_eq,decide_eq_false_iff_not] at hc4
      exact OkC.region (AM O (AH (v:=(pP b4 3)) (AA O underlying49 O sizeOf3 O) O (FG 0 (off:=3) (vs:=[(vN t)]) (cs':=[(vN e00.a),(vN e00.b),(vI e00.l),(vN t)]) (AP O) O sizeOf3 O (OkL.nil (OkQ.subF (sL [2,3,16,17,18,5,4,23,7,8,9,10] O) (OkQ.in_normal (OkQ.join1 (⟨e00.a,e00.b,e00.l,((t:Nat):Int)⟩:E4) ((by unfold FL;rw [if_neg Z,if_pos Z])) (sF O) sr)))))))
     ·simp only [Bool.and_eq_true,Bool.or_eq_true,Bool.and_eq_false_iff,Bool.or_eq_false_iff,Bool.not_eq_true',Bool.not_eq_false',decide_eq_true_eq,decide_eq_false_iff_not] at hc4
      exact OkC.skip (OkQ.in_normal (OkQ.join1 e00 ((by unfold FL;rw [if_neg Z,if_neg Z])) (sF O) sr))
   ·intro e20 hJ
    have hu0:=hJ
    refine OkQ.then_ (OkC.region (AM O (BH 1 K_ O (BH 0 MP O (OkL.mapUpdate Ge 3 (kvs:=CO ts (3*t+0)) (x:=((min T.1 T.2.1,max T.1 T.2.1):P2)) (y:=e20) (AP O) O O O underlying239 O (FH hn hN _ Z) (BQ Z Z) ?_)))))
    rw [show BN (CO ts (3*t+0)) ((min T.1 T.2.1,max T.1 T.2.1):P2) e20=CO ts (3*t+1) from by rw [hu0,he0,hT];exact (Jl (ts:=ts) (t:=t) (i:=0) Z).symm]
    refine OkL.nil (OkQ.subF (sL [2,3,16,17,18,5,4,23,9,10] O) (OkQ.in_normal (OkQ.then_ (OkC.region (AH (AX (c:=(1:Int)) O O (by decide)) O (AM O (OkL.nil (OkQ.subF (sL [2,3,16,17,18,5,4,23,9,10] O) (OkQ.again (PU.step (q4 ?_)))))))))))
    refine AH (Ae (c:=true) O O (by decide)) O (OkL.nil (q1 (OkC.cond_true O (OkC.skip (q1 (OkC.block (q4 (AM O (asg' O (q6 (sL [2,3,16,17,18,5,4,23,9,10,6] O) (Cd [(0,true),(1,true),(2,true),(3,true),(4,true),(5,true),(6,true),(7,true),(8,true),(9,true)] sr ?_)))))))))))
    refine BV O (Al (v:=(pP b2 1)) O (AG (j:=1) O O underlying105 sizeOf3 O (by decide) O) (BM 2 (vN T.2.1) BL O (BV O (Al O (AX (c:=(2:Int)) O O (by decide)) (Al O (Dy (c:=(2:Int)) O O (by decide) (by decide)) (Al (v:=(pP b2 2)) O (AG (j:=2) O O underlying105 sizeOf3 O (by decide) O) (BM 2 (vN T.2.2) BL O (pS' O (pS' O (OkE.nil (OkQ.subF (sL [2,3,16,17,18,5,4,23,9,10,7,8] O) ?_)))))))))))
    refine q2 (AM O (AM O (AH (FQ (c:=((min T.2.1 T.2.2:Nat):Int)) O O (by split<;>omega)) O (AM O (AM O (AH (EQ (c:=((max T.2.1 T.2.2:Nat):Int)) O O (by split<;>omega)) O (AH (v:=(aG ([(vN (min T.2.1 T.2.2)),(vN (max T.2.1 T.2.2))]))) (AQ (zs:=Ew ((0,0):P2)) (vs:=[(vN (min T.2.1 T.2.2)),(vN (max T.2.1 T.2.2))]) (pv:=[(0,(vN (min T.2.1 T.2.2))),(1,(vN (max T.2.1 T.2.2)))]) (places:=[(0,1),(1,1)]) zeroValue240 underlying240 (λw=>by simp [sizeOf3]) O O) O (al Tb O λb5=>Ax O sizeOf240 O (q3 (sL [2,3,16,17,18,5,4,23,9,10,7,8] O) (AM O ?_))))))))))
    refine BH 0 K_ O (AH (v:=(Value.tuple #[(aG (BY ((A7 (CO ts (3*t+1)) ((min T.2.1 T.2.2,max T.2.1 T.2.2):P2)).getD (⟨0,0,0,0⟩:E4)))),(Value.bool ((A7 (CO ts (3*t+1)) ((min T.2.1 T.2.2,max T.2.1 T.2.2):P2)).isSome))])) (Bu Ge 4 (eV:=Ly) (kvs:=CO ts (3*t+1)) (x:=((min T.2.1 T.2.2,max T.2.1 T.2.2):P2)) (z0:=(⟨0,0,0,0⟩:E4)) (co:=true) O O underlying239 zeroValue49 O (FH hn hN _ Z) (BQ Z Z)) O (AM O (AH (AV (v:=(aG (BY ((A7 (CO ts (3*t+1)) ((min T.2.1 T.2.2,max T.2.1 T.2.2):P2)).getD (⟨0,0,0,0⟩:E4))))) O O) O (AH (AV (v:=(Value.bool ((A7 (CO ts (3*t+1)) ((min T.2.1 T.2.2,max T.2.1 T.2.2):P2)).isSome))) O O) O (al L0 O λb6=>Ax O sizeOf49 O (asg' O (q6 (sL [2,3,16,17,18,5,4,23,9,10,7,8,11] O) (q4 (AM O (AH (BU (c:=(!((A7 (CO ts (3*t+1)) ((min T.2.1 T.2.2,max T.2.1 T.2.2):P2)).isSome))) O O) O ?_))))))))))
    refine OkL.nil (OkQ.subF (sL [2,3,16,17,18,5,4,23,9,10,7,8,48] O) (OkQ.then_ ?_))
    refine OkC.jn1 (tg λ(e01:E4)=>e01=(A7 (CO ts (3*t+1)) (min T.2.1 T.2.2,max T.2.1 T.2.2)).getD (IC (min T.2.1 T.2.2,max T.2.1 T.2.2))) (tg λ(e01:E4)=>[(2,(Value.slice none 0 0)),(3,(Value.map (some b1))),(16,(Value.slice x.p ts.length x.c)),(17,(vN ts.length)),(18,(vN t)),(5,(pP b2 0)),(4,(vN t)),(23,(vI 1)),(9,(pP b5 0)),(10,(pP b6 0)),(7,(vN T.2.1)),(8,(vN T.2.2))]) (tg λ(e01:E4)=>[AU b6 49 (BY e01),AU b5 240 ([(vN (min T.2.1 T.2.2)),(vN (max T.2.1 T.2.2))]),AU b4 49 (BY e20),AU b3 240 ([(vN (min T.1 T.2.1)),(vN (max T.1 T.2.1))]),AU b2 105 (Ad T),CE b1 E3 Ly (CO ts (3*t+1)),AE x.p (rowsL Ad ts)]) ?_ ?_
    ·skip
     refine OkC.cond O (λhc2=>?_) (λhc2=>?_)
     ·simp only [Bool.and_eq_true,Bool.or_eq_true,Bool.and_eq_false_iff,Bool.or_eq_false_iff,Bool.not_eq_true',Bool.not_eq_false',decide_eq_true_eq,decide_eq_false_iff_not] at hc2
      exact OkC.region (AH (v:=(pP b5 0)) (AA O underlying240 O sizeOf3 O) O (Au 1 (vN (min T.2.1 T.2.2)) BL O (AH (v:=(pP b5 1)) (AA O underlying240 O sizeOf3 O) O (Au 1 (vN (max T.2.1 T.2.2)) BL O (AH (v:=(aG ([(vN (min T.2.1 T.2.2)),(vN (max T.2.1 T.2.2)),(vI (-1:Int)),(vI (-1:Int))]))) (AQ (zs:=BY (⟨0,0,0,0⟩:E4)) (vs:=[(vN (min T.2.1 T.2.2)),(vN (max T.2.1 T.2.2)),(vI (-1:Int)),(vI (-1:Int))]) (pv:=[(0,(vN (min T.2.1 T.2.2))),(1,(vN (max T.2.1 T.2.2))),(2,(vI (-1:Int))),(3,(vI (-1:Int)))]) (places:=[(0,1),(1,1),(2,1),(3,1)]) zeroValue49 underlying49 (λw=>by simp [sizeOf3]) O O) O (Ax O sizeOf49 O (OkL.nil (OkQ.subF (sL [2,3,16,17,18,5,4,23,9,10,7,8] O) (OkQ.join1 (⟨min T.2.1 T.2.2,max T.2.1 T.2.2,-1,-1⟩:E4) ((KO (k:=(min T.2.1 T.2.2,max T.2.1 T.2.2)) (by simpa using hc2))) (sF O) sr)))))))))
     ·simp only [Bool.and_eq_true,Bool.or_eq_true,Bool.and_eq_false_iff,Bool.or_eq_false_iff,Bool.not_eq_true',Bool.not_eq_false',decide_eq_true_eq,decide_eq_false_iff_not] at hc2
      exact OkC.skip (OkQ.join1 ((A7 (CO ts (3*t+1)) ((min T.2.1 T.2.2,max T.2.1 T.2.2):P2)).getD (⟨0,0,0,0⟩:E4)) ((Ji (by simpa using hc2))) (sF O) sr)
    ·intro e01 hJ
     have he1:=hJ
     refine q1 ?_
     refine OkC.jn1 (tg λ(e21:E4)=>e21=FL e01 t T.2.1 T.2.2) (tg λ(e21:E4)=>[(2,(Value.slice none 0 0)),(3,(Value.map (some b1))),(16,(Value.slice x.p ts.length x.c)),(17,(vN ts.length)),(18,(vN t)),(5,(pP b2 0)),(4,(vN t)),(23,(vI 1)),(9,(pP b5 0)),(10,(pP b6 0))]) (tg λ(e21:E4)=>[AU b6 49 (BY e21),AU b5 240 ([(vN (min T.2.1 T.2.2)),(vN (max T.2.1 T.2.2))]),AU b4 49 (BY e20),AU b3 240 ([(vN (min T.1 T.2.1)),(vN (max T.1 T.2.1))]),AU b2 105 (Ad T),CE b1 E3 Ly (CO ts (3*t+1)),AE x.p (rowsL Ad ts)]) ?_ ?_
     ·skip
      refine OkC.block (q4 (AM O (AM O (AH (Ae (c:=(decide (T.2.1<T.2.2))) O O (CB (a:=T.2.1) (b:=T.2.2))) O (AM O ?_)))))
      refine OkL.mid (FM:=[(2,(Value.slice none 0 0)),(3,(Value.map (some b1))),(16,(Value.slice x.p ts.length x.c)),(17,(vN ts.length)),(18,(vN t)),(5,(pP b2 0)),(4,(vN t)),(23,(vI 1)),(9,(pP b5 0)),(10,(pP b6 0)),(7,(vN T.2.1)),(8,(vN T.2.2)),(55,(vN T.2.1)),(56,(vN T.2.2)),(57,(Value.bool (decide (T.2.1<T.2.2)))),(58,(Value.bool (decide (T.2.1<T.2.2)))),(62,(Value.bool ((decide (T.2.1<T.2.2))&&(decide (e01.l=(-1:Int))))))]) (LM:=[AU b6 49 (BY e01),AU b5 240 ([(vN (min T.2.1 T.2.2)),(vN (max T.2.1 T.2.2))]),AU b4 49 (BY e20),AU b3 240 ([(vN (min T.1 T.2.1)),(vN (max T.1 T.2.1))]),AU b2 105 (Ad T),CE b1 E3 Ly (CO ts (3*t+1)),AE x.p (rowsL Ad ts)]) 4 ?_ ?_
      ·rcases Bool.eq_false_or_eq_true (decide (T.2.1<T.2.2)) with hg3|hg3
       ·skip
        refine OkL.retell (k:=58) (u:=Value.bool true) O (by rw [hg3]) ?_
        have hg3':=hg3
        replace hg3':=of_decide_eq_true hg3'
        exact OkL.step (v:=(pP b6 2)) (AB O) (AA O underlying49 O sizeOf3 O) O (AI O) (OkL.step (v:=(vI e01.l)) (AB O) (AF (i:=0) (v:=(vI e01.l)) O O BL.a O) O (AI O) (OkL.step (v:=(Value.bool (decide (e01.l=(-1:Int))))) (AB O) (BG (c:=(decide (e01.l=(-1:Int)))) O O O) O (AI O) (AH (v:=(Value.bool (decide (e01.l=(-1:Int))))) (AO O O) O (OkL.nil (OkQ.mid (sS O (sS O (sS O (sS O (sS O (sS O (sS O (sS O (sS O (sS O (sS O (sS O (sS O (sS O (sS O (sS (by first|rfl|(rw [hg3];rfl)|rw [hg3]) (sS (by first|rfl|(rw [hg3];rfl)|rw [hg3]) (sN)))))))))))))))))) (List.Sublist.refl _))))))
       ·skip
        refine OkL.retell (k:=58) (u:=Value.bool false) O (by rw [hg3]) ?_
        have hg3':=hg3
        replace hg3':=of_decide_eq_false hg3'
        exact OkL.skip (AC O) O (AI O) (OkL.skip (AC O) O (AI O) (OkL.skip (AC O) O (AI O) (AH (v:=(Value.bool false)) (AJ O O) O (OkL.nil (OkQ.mid (sS O (sS O (sS O (sS O (sS O (sS O (sS O (sS O (sS O (sS O (sS O (sS O (sS O (sS O (sS O (sS (by first|rfl|(rw [hg3];rfl)|rw [hg3]) (sS (by first|rfl|(rw [hg3];rfl)|rw [hg3]) (sN)))))))))))))))))) (List.Sublist.refl _))))))
      refine asg' O (OkL.nil (OkQ.subF (sL [2,3,16,17,18,5,4,23,9,10,7,8,54] O) (OkQ.then_ ?_)))
      refine OkC.cond O (λhc3=>?_) (λhc3=>?_)
      ·simp only [Bool.and_eq_true,Bool.or_eq_true,Bool.and_eq_false_iff,Bool.or_eq_false_iff,Bool.not_eq_true',Bool.not_eq_false',decide_eq_true_eq,decide_eq_false_iff_not] at hc3
       exact OkC.region (AM O (AH (v:=(pP b6 2)) (AA O underlying49 O sizeOf3 O) O (FG 0 (off:=2) (vs:=[(vN t)]) (cs':=[(vN e01.a),(vN e01.b),(vN t),(vI e01.r)]) (AP O) O sizeOf3 O (OkL.nil (OkQ.subF (sL [2,3,16,17,18,5,4,23,9,10,7,8] O) (OkQ.in_normal (OkQ.join1 (⟨e01.a,e01.b,((t:Nat):Int),e01.r⟩:E4) ((by unfold FL;rw [if_pos Z])) (sF O) sr)))))))
      ·simp only [Bool.and_eq_true,Bool.or_eq_true,Bool.and_eq_false_iff,Bool.or_eq_false_iff,Bool.not_eq_true',Bool.not_eq_false',decide_eq_true_eq,decide_eq_false_iff_not] at hc3
       refine q4 (AM O (AM O (AH (Bs (c:=(decide (T.2.2<T.2.1))) O O (CB (a:=T.2.2) (b:=T.2.1))) O (AM O ?_))))
       refine OkL.mid (FM:=[(2,(Value.slice none 0 0)),(3,(Value.map (some b1))),(16,(Value.slice x.p ts.length x.c)),(17,(vN ts.length)),(18,(vN t)),(5,(pP b2 0)),(4,(vN t)),(23,(vI 1)),(9,(pP b5 0)),(10,(pP b6 0)),(7,(vN T.2.1)),(8,(vN T.2.2)),(66,(vN T.2.1)),(67,(vN T.2.2)),(68,(Value.bool (decide (T.2.2<T.2.1)))),(69,(Value.bool (decide (T.2.2<T.2.1)))),(73,(Value.bool ((decide (T.2.2<T.2.1))&&(decide (e01.r=(-1:Int))))))]) (LM:=[AU b6 49 (BY e01),AU b5 240 ([(vN (min T.2.1 T.2.2)),(vN (max T.2.1 T.2.2))]),AU b4 49 (BY e20),AU b3 240 ([(vN (min T.1 T.2.1)),(vN (max T.1 T.2.1))]),AU b2 105 (Ad T),CE b1 E3 Ly (CO ts (3*t+1)),AE x.p (rowsL Ad ts)]) 4 ?_ ?_
       ·rcases Bool.eq_false_or_eq_true (decide (T.2.2<T.2.1)) with hg4|hg4
        ·skip
         refine OkL.retell (k:=69) (u:=Value.bool true) O (by rw [hg4]) ?_
         have hg4':=hg4
         replace hg4':=of_decide_eq_true hg4'
         exact OkL.step (v:=(pP b6 3)) (AB O) (AA O underlying49 O sizeOf3 O) O (AI O) (OkL.step (v:=(vI e01.r)) (AB O) (AF (i:=0) (v:=(vI e01.r)) O O BL.a O) O (AI O) (OkL.step (v:=(Value.bool (decide (e01.r=(-1:Int))))) (AB O) (BG (c:=(decide (e01.r=(-1:Int)))) O O O) O (AI O) (AH (v:=(Value.bool (decide (e01.r=(-1:Int))))) (AO O O) O (OkL.nil (OkQ.mid (sS O (sS O (sS O (sS O (sS O (sS O (sS O (sS O (sS O (sS O (sS O (sS O (sS O (sS O (sS O (sS (by first|rfl|(rw [hg4];rfl)|rw [hg4]) (sS (by first|rfl|(rw [hg4];rfl)|rw [hg4]) (sN)))))))))))))))))) (List.Sublist.refl _))))))
        ·skip
         refine OkL.retell (k:=69) (u:=Value.bool false) O (by rw [hg4]) ?_
         have hg4':=hg4
         replace hg4':=of_decide_eq_false hg4'
         exact OkL.skip (AC O) O (AI O) (OkL.skip (AC O) O (AI O) (OkL.skip (AC O) O (AI O) (AH (v:=(Value.bool false)) (AJ O O) O (OkL.nil (OkQ.mid (sS O (sS O (sS O (sS O (sS O (sS O (sS O (sS O (sS O (sS O (sS O (sS O (sS O (sS O (sS O (sS (by first|rfl|(rw [hg4];rfl)|rw [hg4]) (sS (by first|rfl|(rw [hg4];rfl)|rw [hg4]) (sN)))))))))))))))))) (List.Sublist.refl _))))))
       refine asg' O (OkL.nil (OkQ.subF (sL [2,3,16,17,18,5,4,23,9,10,7,8,65] O) (OkQ.then_ ?_)))
       refine OkC.cond O (λhc4=>?_) (λhc4=>?_)
       ·simp only [Bool.and_eq_true,Bool.or_eq_true,Bool.and_eq_false_iff,Bool.or_eq_false_iff,Bool.not_eq_true',Bool.not_eq_false',decide_eq_true_eq,decide_eq_false_iff_not] at hc4
        exact OkC.region (AM O (AH (v:=(pP b6 3)) (AA O underlying49 O sizeOf3 O) O (FG 0 (off:=3) (vs:=[(vN t)]) (cs':=[(vN e01.a),(vN e01.b),(vI e01.l),(vN t)]) (AP O) O sizeOf3 O (OkL.nil (OkQ.subF (sL [2,3,16,17,18,5,4,23,9,10,7,8] O) (OkQ.in_normal (OkQ.join1 (⟨e01.a,e01.b,e01.l,((t:Nat):Int)⟩:E4) ((by unfold FL;rw [if_neg Z,if_pos Z])) (sF O) sr)))))))
       ·simp only [Bool.and_eq_true,Bool.or_eq_true,Bool.and_eq_false_iff,Bool.or_eq_false_iff,Bool.not_eq_true',Bool.not_eq_false',decide_eq_true_eq,decide_eq_false_iff_not] at hc4
        exact OkC.skip (OkQ.in_normal (OkQ.join1 e01 ((by unfold FL;rw [if_neg Z,if_neg Z])) (sF O) sr))
     ·intro e21 hJ
      have hu1:=hJ
      refine OkQ.then_ (OkC.region (AM O (BH 1 K_ O (BH 0 MP O (OkL.mapUpdate Ge 5 (kvs:=CO ts (3*t+1)) (x:=((min T.2.1 T.2.2,max T.2.1 T.2.2):P2)) (y:=e21) (AP O) O O O underlying239 O (FH hn hN _ Z) (BQ Z Z) ?_)))))
      rw [show BN (CO ts (3*t+1)) ((min T.2.1 T.2.2,max T.2.1 T.2.2):P2) e21=CO ts (3*t+2) from by rw [hu1,he1,hT];exact (Jl (ts:=ts) (t:=t) (i:=1) Z).symm]
      refine OkL.nil (OkQ.subF (sL [2,3,16,17,18,5,4,23,9,10] O) (OkQ.in_normal (OkQ.then_ (OkC.region (AH (AX (c:=(2:Int)) O O (by decide)) O (AM O (OkL.nil (OkQ.subF (sL [2,3,16,17,18,5,4,23,9,10] O) (OkQ.again (PU.step (q4 ?_)))))))))))
      refine AH (Ae (c:=true) O O (by decide)) O (OkL.nil (q1 (OkC.cond_true O (OkC.skip (q1 (OkC.block (q4 (AM O (asg' O (q6 (sL [2,3,16,17,18,5,4,23,9,10,6] O) (Cd [(0,true),(1,true),(2,true),(3,true),(4,true),(5,true),(6,true),(7,true),(8,true),(9,true)] sr ?_)))))))))))
      refine BV O (Al (v:=(pP b2 2)) O (AG (j:=2) O O underlying105 sizeOf3 O (by decide) O) (BM 4 (vN T.2.2) BL O (BV O (Al O (AX (c:=(3:Int)) O O (by decide)) (Al O (Dy (c:=(0:Int)) O O (by decide) (by decide)) (Al (v:=(pP b2 0)) O (AG (j:=0) O O underlying105 sizeOf3 O (by decide) O) (BM 4 (vN T.1) BL O (pS' O (pS' O (OkE.nil (OkQ.subF (sL [2,3,16,17,18,5,4,23,9,10,7,8] O) ?_)))))))))))
      refine q2 (AM O (AM O (AH (FQ (c:=((min T.2.2 T.1:Nat):Int)) O O (by split<;>omega)) O (AM O (AM O (AH (EQ (c:=((max T.2.2 T.1:Nat):Int)) O O (by split<;>omega)) O (AH (v:=(aG ([(vN (min T.2.2 T.1)),(vN (max T.2.2 T.1))]))) (AQ (zs:=Ew ((0,0):P2)) (vs:=[(vN (min T.2.2 T.1)),(vN (max T.2.2 T.1))]) (pv:=[(0,(vN (min T.2.2 T.1))),(1,(vN (max T.2.2 T.1)))]) (places:=[(0,1),(1,1)]) zeroValue240 underlying240 (λw=>by simp [sizeOf3]) O O) O (al Tb O λb7=>Ax O sizeOf240 O (q3 (sL [2,3,16,17,18,5,4,23,9,10,7,8] O) (AM O ?_))))))))))
      refine BH 0 K_ O (AH (v:=(Value.tuple #[(aG (BY ((A7 (CO ts (3*t+2)) ((min T.2.2 T.1,max T.2.2 T.1):P2)).getD (⟨0,0,0,0⟩:E4)))),(Value.bool ((A7 (CO ts (3*t+2)) ((min T.2.2 T.1,max T.2.2 T.1):P2)).isSome))])) (Bu Ge 6 (eV:=Ly) (kvs:=CO ts (3*t+2)) (x:=((min T.2.2 T.1,max T.2.2 T.1):P2)) (z0:=(⟨0,0,0,0⟩:E4)) (co:=true) O O underlying239 zeroValue49 O (FH hn hN _ Z) (BQ Z Z)) O (AM O (AH (AV (v:=(aG (BY ((A7 (CO ts (3*t+2)) ((min T.2.2 T.1,max T.2.2 T.1):P2)).getD (⟨0,0,0,0⟩:E4))))) O O) O (AH (AV (v:=(Value.bool ((A7 (CO ts (3*t+2)) ((min T.2.2 T.1,max T.2.2 T.1):P2)).isSome))) O O) O (al L0 O λb8=>Ax O sizeOf49 O (asg' O (q6 (sL [2,3,16,17,18,5,4,23,9,10,7,8,11] O) (q4 (AM O (AH (BU (c:=(!((A7 (CO ts (3*t+2)) ((min T.2.2 T.1,max T.2.2 T.1):P2)).isSome))) O O) O ?_))))))))))
      refine OkL.nil (OkQ.subF (sL [2,3,16,17,18,5,4,23,9,10,7,8,48] O) (OkQ.then_ ?_))
      refine OkC.jn1 (tg λ(e02:E4)=>e02=(A7 (CO ts (3*t+2)) (min T.2.2 T.1,max T.2.2 T.1)).getD (IC (min T.2.2 T.1,max T.2.2 T.1))) (tg λ(e02:E4)=>[(2,(Value.slice none 0 0)),(3,(Value.map (some b1))),(16,(Value.slice x.p ts.length x.c)),(17,(vN ts.length)),(18,(vN t)),(5,(pP b2 0)),(4,(vN t)),(23,(vI 2)),(9,(pP b7 0)),(10,(pP b8 0)),(7,(vN T.2.2)),(8,(vN T.1))]) (tg λ(e02:E4)=>[AU b8 49 (BY e02),AU b7 240 ([(vN (min T.2.2 T.1)),(vN (max T.2.2 T.1))]),AU b6 49 (BY e21),AU b5 240 ([(vN (min T.2.1 T.2.2)),(vN (max T.2.1 T.2.2))]),AU b4 49 (BY e20),AU b3 240 ([(vN (min T.1 T.2.1)),(vN (max T.1 T.2.1))]),AU b2 105 (Ad T),CE b1 E3 Ly (CO ts (3*t+2)),AE x.p (rowsL Ad ts)]) ?_ ?_
      ·skip
       refine OkC.cond O (λhc2=>?_) (λhc2=>?_)
       ·simp only [Bool.and_eq_true,Bool.or_eq_true,Bool.and_eq_false_iff,Bool.or_eq_false_iff,Bool.not_eq_true',Bool.not_eq_false',decide_eq_true_eq,decide_eq_false_iff_not] at hc2
        exact OkC.region (AH (v:=(pP b7 0)) (AA O underlying240 O sizeOf3 O) O (Au 1 (vN (min T.2.2 T.1)) BL O (AH (v:=(pP b7 1)) (AA O underlying240 O sizeOf3 O) O (Au 1 (vN (max T.2.2 T.1)) BL O (AH (v:=(aG ([(vN (min T.2.2 T.1)),(vN (max T.2.2 T.1)),(vI (-1:Int)),(vI (-1:Int))]))) (AQ (zs:=BY (⟨0,0,0,0⟩:E4)) (vs:=[(vN (min T.2.2 T.1)),(vN (max T.2.2 T.1)),(vI (-1:Int)),(vI (-1:Int))]) (pv:=[(0,(vN (min T.2.2 T.1))),(1,(vN (max T.2.2 T.1))),(2,(vI (-1:Int))),(3,(vI (-1:Int)))]) (places:=[(0,1),(1,1),(2,1),(3,1)]) zeroValue49 underlying49 (λw=>by simp [sizeOf3]) O O) O (Ax O sizeOf49 O (OkL.nil (OkQ.subF (sL [2,3,16,17,18,5,4,23,9,10,7,8] O) (OkQ.join1 (⟨min T.2.2 T.1,max T.2.2 T.1,-1,-1⟩:E4) ((KO (k:=(min T.2.2 T.1,max T.2.2 T.1)) (by simpa using hc2))) (sF O) sr)))))))))
       ·simp only [Bool.and_eq_true,Bool.or_eq_true,Bool.and_eq_false_iff,Bool.or_eq_false_iff,Bool.not_eq_true',Bool.not_eq_false',decide_eq_true_eq,decide_eq_false_iff_not] at hc2
        exact OkC.skip (OkQ.join1 ((A7 (CO ts (3*t+2)) ((min T.2.2 T.1,max T.2.2 T.1):P2)).getD (⟨0,0,0,0⟩:E4)) ((Ji (by simpa using hc2))) (sF O) sr)
      ·intro e02 hJ
       have he2:=hJ
       refine q1 ?_
       refine OkC.jn1 (tg λ(e22:E4)=>e22=FL e02 t T.2.2 T.1) (tg λ(e22:E4)=>[(2,(Value.slice none 0 0)),(3,(Value.map (some b1))),(16,(Value.slice x.p ts.length x.c)),(17,(vN ts.length)),(18,(vN t)),(5,(pP b2 0)),(4,(vN t)),(23,(vI 2)),(9,(pP b7 0)),(10,(pP b8 0))]) (tg λ(e22:E4)=>[AU b8 49 (BY e22),AU b7 240 ([(vN (min T.2.2 T.1)),(vN (max T.2.2 T.1))]),AU b6 49 (BY e21),AU b5 240 ([(vN (min T.2.1 T.2.2)),(vN (max T.2.1 T.2.2))]),AU b4 49 (BY e20),AU b3 240 ([(vN (min T.1 T.2.1)),(vN (max T.1 T.2.1))]),AU b2 105 (Ad T),CE b1 E3 Ly (CO ts (3*t+2)),AE x.p (rowsL Ad ts)]) ?_ ?_
       ·skip
        refine OkC.block (q4 (AM O (AM O (AH (Ae (c:=(decide (T.2.2<T.1))) O O (CB (a:=T.2.2) (b:=T.1))) O (AM O ?_)))))
        refine OkL.mid (FM:=[(2,(Value.slice none 0 0)),(3,(Value.map (some b1))),(16,(Value.slice x.p ts.length x.c)),(17,(vN ts.length)),(18,(vN t)),(5,(pP b2 0)),(4,(vN t)),(23,(vI 2)),(9,(pP b7 0)),(10,(pP b8 0)),(7,(vN T.2.2)),(8,(vN T.1)),(55,(vN T.2.2)),(56,(vN T.1)),(57,(Value.bool (decide (T.2.2<T.1)))),(58,(Value.bool (decide (T.2.2<T.1)))),(62,(Value.bool ((decide (T.2.2<T.1))&&(decide (e02.l=(-1:Int))))))]) (LM:=[AU b8 49 (BY e02),AU b7 240 ([(vN (min T.2.2 T.1)),(vN (max T.2.2 T.1))]),AU b6 49 (BY e21),AU b5 240 ([(vN (min T.2.1 T.2.2)),(vN (max T.2.1 T.2.2))]),AU b4 49 (BY e20),AU b3 240 ([(vN (min T.1 T.2.1)),(vN (max T.1 T.2.1))]),AU b2 105 (Ad T),CE b1 E3 Ly (CO ts (3*t+2)),AE x.p (rowsL Ad ts)]) 4 ?_ ?_
        ·rcases Bool.eq_false_or_eq_true (decide (T.2.2<T.1)) with hg5|hg5
         ·skip
          refine OkL.retell (k:=58) (u:=Value.bool true) O (by rw [hg5]) ?_
          have hg5':=hg5
          replace hg5':=of_decide_eq_true hg5'
          exact OkL.step (v:=(pP b8 2)) (AB O) (AA O underlying49 O sizeOf3 O) O (AI O) (OkL.step (v:=(vI e02.l)) (AB O) (AF (i:=0) (v:=(vI e02.l)) O O BL.a O) O (AI O) (OkL.step (v:=(Value.bool (decide (e02.l=(-1:Int))))) (AB O) (BG (c:=(decide (e02.l=(-1:Int)))) O O O) O (AI O) (AH (v:=(Value.bool (decide (e02.l=(-1:Int))))) (AO O O) O (OkL.nil (OkQ.mid (sS O (sS O (sS O (sS O (sS O (sS O (sS O (sS O (sS O (sS O (sS O (sS O (sS O (sS O (sS O (sS (by first|rfl|(rw [hg5];rfl)|rw [hg5]) (sS (by first|rfl|(rw [hg5];rfl)|rw [hg5]) (sN)))))))))))))))))) (List.Sublist.refl _))))))
         ·skip
          refine OkL.retell (k:=58) (u:=Value.bool false) O (by rw [hg5]) ?_
          have hg5':=hg5
          replace hg5':=of_decide_eq_false hg5'
          exact OkL.skip (AC O) O (AI O) (OkL.skip (AC O) O (AI O) (OkL.skip (AC O) O (AI O) (AH (v:=(Value.bool false)) (AJ O O) O (OkL.nil (OkQ.mid (sS O (sS O (sS O (sS O (sS O (sS O (sS O (sS O (sS O (sS O (sS O (sS O (sS O (sS O (sS O (sS (by first|rfl|(rw [hg5];rfl)|rw [hg5]) (sS (by first|rfl|(rw [hg5];rfl)|rw [hg5]) (sN)))))))))))))))))) (List.Sublist.refl _))))))
        refine asg' O (OkL.nil (OkQ.subF (sL [2,3,16,17,18,5,4,23,9,10,7,8,54] O) (OkQ.then_ ?_)))
        refine OkC.cond O (λhc3=>?_) (λhc3=>?_)
        ·simp only [Bool.and_eq_true,Bool.or_eq_true,Bool.and_eq_false_iff,Bool.or_eq_false_iff,Bool.not_eq_true',Bool.not_eq_false',decide_eq_true_eq,decide_eq_false_iff_not] at hc3
         exact OkC.region (AM O (AH (v:=(pP b8 2)) (AA O underlying49 O sizeOf3 O) O (FG 0 (off:=2) (vs:=[(vN t)]) (cs':=[(vN e02.a),(vN e02.b),(vN t),(vI e02.r)]) (AP O) O sizeOf3 O (OkL.nil (OkQ.subF (sL [2,3,16,17,18,5,4,23,9,10,7,8] O) (OkQ.in_normal (OkQ.join1 (⟨e02.a,e02.b,((t:Nat):Int),e02.r⟩:E4) ((by unfold FL;rw [if_pos Z])) (sF O) sr)))))))
        ·simp only [Bool.and_eq_true,Bool.or_eq_true,Bool.and_eq_false_iff,Bool.or_eq_false_iff,Bool.not_eq_true',Bool.not_eq_false',decide_eq_true_eq,decide_eq_false_iff_not] at hc3
         refine q4 (AM O (AM O (AH (Bs (c:=(decide (T.1<T.2.2))) O O (CB (a:=T.1) (b:=T.2.2))) O (AM O ?_))))
         refine OkL.mid (FM:=[(2,(Value.slice none 0 0)),(3,(Value.map (some b1))),(16,(Value.slice x.p ts.length x.c)),(17,(vN ts.length)),(18,(vN t)),(5,(pP b2 0)),(4,(vN t)),(23,(vI 2)),(9,(pP b7 0)),(10,(pP b8 0)),(7,(vN T.2.2)),(8,(vN T.1)),(66,(vN T.2.2)),(67,(vN T.1)),(68,(Value.bool (decide (T.1<T.2.2)))),(69,(Value.bool (decide (T.1<T.2.2)))),(73,(Value.bool ((decide (T.1<T.2.2))&&(decide (e02.r=(-1:Int))))))]) (LM:=[AU b8 49 (BY e02),AU b7 240 ([(vN (min T.2.2 T.1)),(vN (max T.2.2 T.1))]),AU b6 49 (BY e21),AU b5 240 ([(vN (min T.2.1 T.2.2)),(vN (max T.2.1 T.2.2))]),AU b4 49 (BY e20),AU b3 240 ([(vN (min T.1 T.2.1)),(vN (max T.1 T.2.1))]),AU b2 105 (Ad T),CE b1 E3 Ly (CO ts (3*t+2)),AE x.p (rowsL Ad ts)]) 4 ?_ ?_
         ·rcases Bool.eq_false_or_eq_true (decide (T.1<T.2.2)) with hg6|hg6
          ·skip
           refine OkL.retell (k:=69) (u:=Value.bool true) O (by rw [hg6]) ?_
           have hg6':=hg6
           replace hg6':=of_decide_eq_true hg6'
           exact OkL.step (v:=(pP b8 3)) (AB O) (AA O underlying49 O sizeOf3 O) O (AI O) (OkL.step (v:=(vI e02.r)) (AB O) (AF (i:=0) (v:=(vI e02.r)) O O BL.a O) O (AI O) (OkL.step (v:=(Value.bool (decide (e02.r=(-1:Int))))) (AB O) (BG (c:=(decide (e02.r=(-1:Int)))) O O O) O (AI O) (AH (v:=(Value.bool (decide (e02.r=(-1:Int))))) (AO O O) O (OkL.nil (OkQ.mid (sS O (sS O (sS O (sS O (sS O (sS O (sS O (sS O (sS O (sS O (sS O (sS O (sS O (sS O (sS O (sS (by first|rfl|(rw [hg6];rfl)|rw [hg6]) (sS (by first|rfl|(rw [hg6];rfl)|rw [hg6]) (sN)))))))))))))))))) (List.Sublist.refl _))))))
          ·skip
           refine OkL.retell (k:=69) (u:=Value.bool false) O (by rw [hg6]) ?_
           have hg6':=hg6
           replace hg6':=of_decide_eq_false hg6'
           exact OkL.skip (AC O) O (AI O) (OkL.skip (AC O) O (AI O) (OkL.skip (AC O) O (AI O) (AH (v:=(Value.bool false)) (AJ O O) O (OkL.nil (OkQ.mid (sS O (sS O (sS O (sS O (sS O (sS O (sS O (sS O (sS O (sS O (sS O (sS O (sS O (sS O (sS O (sS (by first|rfl|(rw [hg6];rfl)|rw [hg6]) (sS (by first|rfl|(rw [hg6];rfl)|rw [hg6]) (sN)))))))))))))))))) (List.Sublist.refl _))))))
         refine asg' O (OkL.nil (OkQ.subF (sL [2,3,16,17,18,5,4,23,9,10,7,8,65] O) (OkQ.then_ ?_)))
         refine OkC.cond O (λhc4=>?_) (λhc4=>?_)
         ·simp only [Bool.and_eq_true,Bool.or_eq_true,Bool.and_eq_false_iff,Bool.or_eq_false_iff,Bool.not_eq_true',Bool.not_eq_false',decide_eq_true_eq,decide_eq_false_iff_not] at hc4
          exact OkC.region (AM O (AH (v:=(pP b8 3)) (AA O underlying49 O sizeOf3 O) O (FG 0 (off:=3) (vs:=[(vN t)]) (cs':=[(vN e02.a),(vN e02.b),(vI e02.l),(vN t)]) (AP O) O sizeOf3 O (OkL.nil (OkQ.subF (sL [2,3,16,17,18,5,4,23,9,10,7,8] O) (OkQ.in_normal (OkQ.join1 (⟨e02.a,e02.b,e02.l,((t:Nat):Int)⟩:E4) ((by unfold FL;rw [if_neg Z,if_pos Z])) (sF O) sr)))))))
         ·simp only [Bool.and_eq_true,Bool.or_eq_true,Bool.and_eq_false_iff,Bool.or_eq_false_iff,Bool.not_eq_true',Bool.not_eq_false',decide_eq_true_eq,decide_eq_false_iff_not] at hc4
          exact OkC.skip (OkQ.in_normal (OkQ.join1 e02 ((by unfold FL;rw [if_neg Z,if_neg Z])) (sF O) sr))
       ·intro e22 hJ
        have hu2:=hJ
        refine OkQ.then_ (OkC.region (AM O (BH 1 K_ O (BH 0 MP O (OkL.mapUpdate Ge 7 (kvs:=CO ts (3*t+2)) (x:=((min T.2.2 T.1,max T.2.2 T.1):P2)) (y:=e22) (AP O) O O O underlying239 O (FH hn hN _ Z) (BQ Z Z) ?_)))))
        rw [show BN (CO ts (3*t+2)) ((min T.2.2 T.1,max T.2.2 T.1):P2) e22=CO ts (3*t+3) from by rw [hu2,he2,hT];exact (Jl (ts:=ts) (t:=t) (i:=2) Z).symm]
        refine OkL.nil (OkQ.subF (sL [2,3,16,17,18,5,4,23,9,10] O) (OkQ.in_normal (OkQ.then_ (OkC.region (AH (AX (c:=(3:Int)) O O (by decide)) O (AM O (OkL.nil (OkQ.subF (sL [2,3,16,17,18,5,4,23,9,10] O) (OkQ.again (PU.step (q4 ?_)))))))))))
        refine AH (Ae (c:=false) O O (by decide)) O (OkL.nil (q1 (OkC.cond_false O (OkC.exit (OkQ.then_exit (OkQ.then_exit (OkQ.in_exit (OkQ.in_normal (OkQ.then_ (OkC.region (AH (AX (c:=((t+1:Nat):Int)) O O (AR (a:=t) (b:=1) Z)) O ?_)))))))))))
        refine AM O (OkL.nil (OkQ.subF (sL [2,3,16,17,18,5,4,23,9,10] O) ?_))
        rw [show 3*t+3=3*(t+1)+0 by omega]
        exact OkQ.round1 (t+1) Z Z (sF O) (sl (sl (sl (sl (sl (sl (sl sr)))))))
 ·replace hc0:=of_decide_eq_false hc0
  have htl:t=ts.length:=by omega
  have hel:=Ga (ts:=ts) (3*ts.length)
  refine OkC.exit (OkQ.then_exit (OkQ.round1_exit (OkQ.in_exit (q2 (AM O ?_)))))
  rw [show CO ts (3*t+0)=(CO ts (3*ts.length)) by rw [htl,Nat.add_zero]]
  refine st (v:=(vN ((CO ts (3*ts.length)).length))) (OW 0 (kvs:=(CO ts (3*ts.length))) O underlying239 O) (AI O) (OkL.make0 Ye O O Z O O λbo hbo=>asg' O (q6 (sL [2,3,16,17,18,12] O) (q4 (AM O (OkL.range 1 (kvs:=(CO ts (3*ts.length))) (AP O) O underlying239 O O λb2=>OkL.nil (OkQ.subF (sL [2,3,16,17,18,12,85] O) (OkQ.then_ (OkC.block ?_))))))))
  refine OkC.lp4 (tg λ(seen:List Nat) (out:List E4) (p1:Option Addr) (c1:Nat)=>seen.Nodup/\(∀x∈seen,x<(CO ts (3*ts.length)).length)/\out=seen.map (UG (CO ts (3*ts.length)))/\OwnOk p1 out.length c1/\p1≠none) (tg λ(seen:List Nat) (out:List E4) (p1:Option Addr) (c1:Nat)=>[(2,(Value.slice none 0 0)),(85,(Value.pointer (some ⟨b2,0,none⟩))),(12,(Value.slice p1 out.length c1))]) (tg λ(seen:List Nat) (out:List E4) (p1:Option Addr) (c1:Nat)=>[ZU b2 b1 (CO ts (3*ts.length)).length seen,rowW p1 49 4 out.length c1 (rowsL BY out),CE b1 E3 Ly (CO ts (3*ts.length)),AE x.p (rowsL Ad ts)]) (tg λ(seen:List Nat) (out:List E4) (p1:Option Addr) (c1:Nat)=>(CO ts (3*ts.length)).length-seen.length) ([]:List Nat) ([]:List E4) (some ⟨bo,0,none⟩) ((CO ts (3*ts.length)).length) (⟨List.nodup_nil,(λx hx=>by cases hx),rfl,hbo,by simp⟩) (sF O) sr (λseen out p1 c1 hJ=>?_)
  obtain ⟨hnd,hlt,hou,ho,hpn⟩:=hJ
  refine q4 ?_
  refine OkL.next 2 0 (kvs:=(CO ts (3*ts.length))) (seen:=seen) (AP O) O O O O (λhall=>?_) (λqn kq ve hq hns=>?_)
  ·skip
   refine AH (AV (v:=(Value.bool false)) O O) O (q6 (sL [2,85,12,87] O) (OkC.cond_false O (OkC.exit (OkQ.then_exit (OkQ.round4_exit (OkQ.in_exit (q2 (AM O ?_))))))))
   have hpm:out.Perm ((CO ts (3*ts.length)).map (·.2)):=by rw [hou];exact Ux hnd hlt hall
   have hol:out.length=(An ts).length:=by rw [Gi];simpa using hpm.length_eq
   have hlo:out.length<=3*ts.length:=by rw [hol,Gi];exact hel
   exact OkL.callS 1 (xs:=out) (ys:=An ts) (v:=(Value.tuple #[])) (AP O) (Ap (args:=[(Value.slice p1 out.length c1),(Value.func (.func 168) #[] #[])]) O O call167) O (λw hw=>Sy out _ _ _ 49 ho hpn O Z w (hw.holds (i:=1) O)) (λzs h1 h2=>YI hn hN h1 h2 hpm) (λd hd=>by cases hd<;>exact (AI O)) (q3 (sL [2,85,12] O) (AM O (ck' call119 (Se p1 _ c1 ho.le) O (asg' O (OkL.nil (OkQ.subF (sL [2,85,12] O) (OkQ.then_ (OkC.ret (ret_one O (rd_tmp (v:=(Value.slice p1 out.length out.length)) O) (λw hw=>(by rw [<-hol];exact Yc hw 1 O ho (by rw [Aa CC,hol]) O)))))))))))
  ·skip
   refine AH (AV (v:=(Value.bool true)) O O) O (q6 (sL [2,85,12,87] O) (OkC.cond_true O (OkC.skip (OkQ.then_ (OkC.block (q4 ?_))))))
   have hlo:out.length<=3*ts.length:=by rw [hou,List.length_map];exact Nat.le_trans (Jv hnd hlt) hel
   refine AH (v:=(Value.tuple #[(aG (Ew kq)),(aG (BY ve))])) (TG 2 0 (enc:=E3) (eV:=Ly) (kvs:=(CO ts (3*ts.length))) (seen:=seen) (q:=qn) O O O hq) O (AH (AV (v:=(aG (BY ve))) O O) O (al L0 O λb3=>Ax O sizeOf49 O (OkL.nil (OkQ.subF (sL [2,85,12,14] O) (OkQ.then_ (OkC.region (AM O (BH 0 MP O (OkL.openV (V:=λb4=>(Value.slice (some ⟨b4,0,none⟩) 1 1)) (T:=49) (cs:=BY ve) (AP O) (Ao (z:=.agg (BY (⟨0,0,0,0⟩:E4)).toArray) (cs:=BY ve) (pv:=[(0,(aG (BY ve)))]) underlying46 sizeOf49 zeroValue49 (by decide) (by decide) O (Jw ve)) O (AI O) λb4=>OkL.appendAt 3 (j:=0) (cs2:=rowsL BY (out++[ve])) Ye O ho (Aa CC _) O O O O O (by decide) (G0 Z) Z (by rw [BT];rfl) O λp_1 c_1 ho_1 hne_1=>?_)))))))))
   refine asg' O (OkL.nil (OkQ.subF (sL [2,85,12,14] O) (OkQ.in_normal ?_)))
   have hnext:seen.length<(CO ts (3*ts.length)).length:=by have h9:=Jv (l:=seen++[qn]) (n:=(CO ts (3*ts.length)).length) (List.nodup_append.2 ⟨hnd,List.nodup_cons.2 ⟨List.not_mem_nil,List.nodup_nil⟩,λa ha b hb e=>by rw [List.mem_singleton.1 hb] at e;exact hns (e▸ha)⟩) (λx hx=>by rcases List.mem_append.1 hx with h|h;exact hlt x h;rw [List.mem_singleton.1 h];exact (List.getElem?_eq_some_iff.1 hq).1);rw [List.length_append,List.length_singleton] at h9;omega
   rw [show out.length+1=(out++[ve]).length by simp]
   exact OkQ.round4 (seen++[qn]) (out++[ve]) p_1 c_1 (⟨List.nodup_append.2 ⟨hnd,List.nodup_cons.2 ⟨List.not_mem_nil,List.nodup_nil⟩,λa ha b hb e=>by rw [List.mem_singleton.1 hb] at e;exact hns (e▸ha)⟩,λx hx=>by rcases List.mem_append.1 hx with h|h;exact hlt x h;rw [List.mem_singleton.1 h];exact (List.getElem?_eq_some_iff.1 hq).1,by rw [List.map_append,hou];simp [V6 hq],(by simpa using ho_1),hne_1⟩) (by have h8:=hnext;rw [List.length_append,List.length_singleton];omega) (sF O) (sl (sl sr))
theorem Th (ts:List (Tq3)) (x:RX (rowsL Ad ts) ts.length) (N:Nat) (hn:Bn N ts=true) (hN:N<=4611686018427387904) (hl:ts.length<=1000000000) (w:World) {S:Nat->Prop} (hx:Ro S w x):Calls prog 101 #[(Value.slice x.p ts.length x.c)] w (Af (RX (rowsL BY (An ts)) (An ts).length) S w):=(Lf ts x N hn hN hl w hx).mono λe w1 h=>h.ofCX
end
end Go.Proofs.YtpolhpjiahbidaaGreatDoor
