import Derived.Test.YtpgncndhhhllfaaGreatPart03
import Derived.Test.YtpgncndhhhllfaaGreatPart17
import Derived.Test.YtpgncndhhhllfaaGreatPart18
import Derived.Test.YtpgncndhhhllfaaGreatPart20
namespace Go.Proofs.YtpgncndhhhllfaaGreat
open Go Go.RowKit Go.Proofs.Tryz
set_option linter.unusedVariables false
set_option linter.unusedSimpArgs false
section
set_option maxRecDepth 100000
theorem Xb:ElemT prog 125 159 4 32:=⟨underlying125,Co (by kernel_rfl)⟩
theorem GY:Ir prog 172 D5 N9 where
 law:=.of_law (deep_law_laid Us (m:=2) (by decide) (by decide +kernel) (by kernel_rfl) (by kernel_rfl))
 key:=λa h=>Le underlying172 ⟨rfl,rfl⟩ ⟨rfl,rfl⟩ (by decide +kernel) underlying3 (by kernel_rfl) (by kernel_rfl) (by kernel_rfl) (by decide +kernel) (G9 h.1) (G9 h.2)
 inj:=λa b h=>Jc h
theorem UG (p:Option Addr) (n cp:Nat) (h:n<=cp) (w:World)  :Calls prog 86 #[(Value.slice p n cp)] w (Ak w (Value.slice p n n)):=by
 refine An (args:=[(Value.slice p n cp)]) func86 O O (AV O) (AE.subF (sL [0] O) (q4 (AI O (AC.nil (q2 (AM O (AM O (AK (v:=(vN n)) (AF O underlying125) O (AM O (AK (v:=(vN n)) (AF O underlying125) O (AK (v:=(Value.slice p n n)) (DB (m:=n) O O O underlying125 sizeOf159 Z) O ?_)))))))))))
 exact AI O (AC.nil (OkQ.subF (sL [2] O) (OkQ.then_ (AE.ret (AS O (AZ (v:=(Value.slice p n n)) O) (λw hw=>⟨rfl,hw.out⟩))))))
theorem It (x0:E4):Instr.fill (λi=>some (i*4,4)) ((Array.range (1*4)).map ((Value.agg (B1 (⟨0,0,0,0⟩:E4)).toArray).cells[·%(Value.agg (B1 (⟨0,0,0,0⟩:E4)).toArray).cells.size]!)) [(0,.agg (B1 x0).toArray)]=some (B1 x0).toArray:=by kernel_rfl
set_option maxHeartbeats 4000000 in
theorem LO (ts:List (Tq3)) (x:RX (rowsL Am ts) ts.length) (N:Nat) (hn:A_ N ts=true) (hN:N<=4611686018427387904) (hl:ts.length<=1000000000) (w:World) {S:Nat->Prop} (hx:Ro S w x):Calls prog 63 #[(Value.slice x.p ts.length x.c)] w (Al (CX (rowsL B1 (Bv ts)) (Bv ts).length) S w):=by
 have lx:=CV (W:=w) hx
 refine Ag (args:=[(Value.slice x.p ts.length x.c)]) (L:=[AJ x.p (rowsL Am ts)]) func63 O O (AV O) (C4 hx Ao) (AE.subF (sL [0] O) (q4 (AI O (AC.nil (q2 (AC.makeMap D5 MR (AT O) O λb1=>AI O (q6 (sL [0,2,3] O) (q4 (AM O (AK (v:=(vN ts.length)) (AF O underlying28) O ?_))))))))))
 refine AM O (AC.nil (OkQ.subF (sL [2,3,16,17,18] O) (OkQ.then_ (AE.block ?_))))
 refine AE.lp1 (tg λ(t:Nat)=>t<=ts.length) (tg λ(t:Nat)=>[(2,(Value.slice none 0 0)),(3,(Value.map (some b1))),(16,(Value.slice x.p ts.length x.c)),(17,(vN ts.length)),(18,(vN t))]) (tg λ(t:Nat)=>[Bm b1 D5 MR (CT ts (3*t+0)),AJ x.p (rowsL Am ts)]) (tg λ(t:Nat)=>ts.length-t) 0 (Nat.zero_le _) (sF O) sr (λt hJ=>?_)
 have ht:=hJ
 refine q4 (AK (Ad (c:=(decide (t<ts.length))) O O (B7 (a:=t) (b:=ts.length))) O (AC.nil (q1 ?_)))
 refine AE.cond O (λhc0=>?_) (λhc0=>?_)
 ·replace hc0:=of_decide_eq_true hc0
  obtain ⟨T,hT⟩:∃q,q=ts.getD t (0,0,0):=⟨_,rfl⟩
  obtain ⟨g1,g2,g3⟩:=Cn (CL hn hc0)
  rw [<-hT] at g1 g2 g3
  refine AE.skip (q1 (AE.block (q4 (AM O (AK (v:=(pP (pB x.p) (pO x.p+t*3))) (AH (j:=t) O O x.ok underlying28 sizeOf68 O Z) O (AK (v:=(aG (Am (ts.getD t ((0,0,0):Tq3))))) (Ai (vs:=Am (ts.getD t ((0,0,0):Tq3))) (i:=1) O O (Ar.ne x.ok Z) DL (A8 Af _ _ _ Z) (Af _)) O (AC.retell (k:=22) (u:=(aG (Am T))) O (by rw [hT]) (al Ng O λb2=>AI O (BP O sizeOf68 O (q3 (sL [2,3,16,17,18,5,4] O) ?_))))))))))
  refine AM O (AC.nil (OkQ.then_ (AE.block (AE.unroll 4 (FF.step (q4 (AK (Ad (c:=true) O O (by decide)) O (AC.nil (q1 (AE.cond_true O (AE.skip ?_)))))))))))
  refine q1 (AE.block (q4 (AM O (AI O (q6 (sL [2,3,16,17,18,5,4,23,6] O) (Cu [(0,true),(1,true),(2,true),(3,true),(4,true),(5,true),(6,true),(7,true),(8,true),(9,true)] sr (BU O (Av (v:=(pP b2 0)) O (AG (j:=0) O O underlying68 sizeOf3 O (by decide) O) (Bx 0 (vN T.1) BR O (BU O (Av O (AY (c:=(1:Int)) O O (by decide)) ?_)))))))))))
  refine Av O (Cb (c:=(1:Int)) O O (by decide) (by decide)) (Av (v:=(pP b2 1)) O (AG (j:=1) O O underlying68 sizeOf3 O (by decide) O) (Bx 0 (vN T.2.1) BR O (pS' O (pS' O (OkE.nil (OkQ.subF (sL [2,3,16,17,18,5,4,23,7,8] O) (q2 (AM O (AM O (AK (Fm (c:=((min T.1 T.2.1:Nat):Int)) O O (by split<;>omega)) O (AM O ?_)))))))))))
  refine AM O (AK (Eo (c:=((max T.1 T.2.1:Nat):Int)) O O (by split<;>omega)) O (AK (v:=(aG ([(vN (min T.1 T.2.1)),(vN (max T.1 T.2.1))]))) (Aa (zs:=Bh ((0,0):P2)) (vs:=[(vN (min T.1 T.2.1)),(vN (max T.1 T.2.1))]) (pv:=[(0,(vN (min T.1 T.2.1))),(1,(vN (max T.1 T.2.1)))]) (places:=[(0,1),(1,1)]) zeroValue172 underlying172 (λw=>by simp [sizeOf3]) O O) O (al S_ O λb3=>BP O sizeOf172 O (q3 (sL [2,3,16,17,18,5,4,23,7,8,9] O) (AM O (BC 0 LV O (AK (v:=(Value.tuple #[(aG (B1 ((Ac (CT ts (3*t+0)) ((min T.1 T.2.1,max T.1 T.2.1):P2)).getD (⟨0,0,0,0⟩:E4)))),(Value.bool ((Ac (CT ts (3*t+0)) ((min T.1 T.2.1,max T.1 T.2.1):P2)).isSome))])) (Bj GY 2 (eV:=MR) (kvs:=CT ts (3*t+0)) (x:=((min T.1 T.2.1,max T.1 T.2.1):P2)) (z0:=(⟨0,0,0,0⟩:E4)) (co:=true) O O underlying171 zeroValue159 O (Et hn hN _ Z) (DY Z Z)) O (AM O (AK (AX (v:=(aG (B1 ((Ac (CT ts (3*t+0)) ((min T.1 T.2.1,max T.1 T.2.1):P2)).getD (⟨0,0,0,0⟩:E4))))) O O) O (AK (AX (v:=(Value.bool ((Ac (CT ts (3*t+0)) ((min T.1 T.2.1,max T.1 T.2.1):P2)).isSome))) O O) O ?_))))))))))
  refine al NR O λb4=>BP O sizeOf159 O (AI O (q6 (sL [2,3,16,17,18,5,4,23,7,8,9,10,11] O) (q4 (AM O (AK (BF (c:=(!((Ac (CT ts (3*t+0)) ((min T.1 T.2.1,max T.1 T.2.1):P2)).isSome))) O O) O (AC.nil (OkQ.subF (sL [2,3,16,17,18,5,4,23,7,8,9,10,48] O) (OkQ.then_ ?_))))))))
  refine AE.jn1 (tg λ(e00:E4)=>e00=(Ac (CT ts (3*t+0)) (min T.1 T.2.1,max T.1 T.2.1)).getD (IK (min T.1 T.2.1,max T.1 T.2.1))) (tg λ(e00:E4)=>[(2,(Value.slice none 0 0)),(3,(Value.map (some b1))),(16,(Value.slice x.p ts.length x.c)),(17,(vN ts.length)),(18,(vN t)),(5,(pP b2 0)),(4,(vN t)),(23,(vI 0)),(7,(vN T.1)),(8,(vN T.2.1)),(9,(pP b3 0)),(10,(pP b4 0))]) (tg λ(e00:E4)=>[Ah b4 159 (B1 e00),Ah b3 172 ([(vN (min T.1 T.2.1)),(vN (max T.1 T.2.1))]),Ah b2 68 (Am T),Bm b1 D5 MR (CT ts (3*t+0)),AJ x.p (rowsL Am ts)]) ?_ ?_
  ·skip
   refine AE.cond O (λhc2=>?_) (λhc2=>?_)
   ·simp only [Bool.and_eq_true,Bool.or_eq_true,Bool.and_eq_false_iff,Bool.or_eq_false_iff,Bool.not_eq_true',Bool.not_eq_false',decide_eq_true_eq,decide_eq_false_iff_not] at hc2
    exact AE.region (AK (v:=(pP b3 0)) (AB O underlying172 O sizeOf3 O) O (BL 1 (vN (min T.1 T.2.1)) BR O (AK (v:=(pP b3 1)) (AB O underlying172 O sizeOf3 O) O (BL 1 (vN (max T.1 T.2.1)) BR O (AK (v:=(aG ([(vN (min T.1 T.2.1)),(vN (max T.1 T.2.1)),(vI (-1:Int)),(vI (-1:Int))]))) (Aa (zs:=B1 (⟨0,0,0,0⟩:E4)) (vs:=[(vN (min T.1 T.2.1)),(vN (max T.1 T.2.1)),(vI (-1:Int)),(vI (-1:Int))]) (pv:=[(0,(vN (min T.1 T.2.1))),(1,(vN (max T.1 T.2.1))),(2,(vI (-1:Int))),(3,(vI (-1:Int)))]) (places:=[(0,1),(1,1),(2,1),(3,1)]) zeroValue159 underlying159 (λw=>by simp [sizeOf3]) O O) O (BP O sizeOf159 O (AC.nil (OkQ.subF (sL [2,3,16,17,18,5,4,23,7,8,9,10] O) (OkQ.join1 (⟨min T.1 T.2.1,max T.1 T.2.1,-1,-1⟩:E4) ((Jl (k:=(min T.1 T.2.1,max T.1 T.2.1)) (by simpa using hc2))) (sF O) sr)))))))))
   ·simp only [Bool.and_eq_true,Bool.or_eq_true,Bool.and_eq_false_iff,Bool.or_eq_false_iff,Bool.not_eq_true',Bool.not_eq_false',decide_eq_true_eq,decide_eq_false_iff_not] at hc2
    exact AE.skip (OkQ.join1 ((Ac (CT ts (3*t+0)) ((min T.1 T.2.1,max T.1 T.2.1):P2)).getD (⟨0,0,0,0⟩:E4)) ((Jq (by simpa using hc2))) (sF O) sr)
  ·intro e00 hJ
   have he0:=hJ
   refine q1 ?_
   refine AE.jn1 (tg λ(e20:E4)=>e20=Ep e00 t T.1 T.2.1) (tg λ(e20:E4)=>[(2,(Value.slice none 0 0)),(3,(Value.map (some b1))),(16,(Value.slice x.p ts.length x.c)),(17,(vN ts.length)),(18,(vN t)),(5,(pP b2 0)),(4,(vN t)),(23,(vI 0)),(9,(pP b3 0)),(10,(pP b4 0))]) (tg λ(e20:E4)=>[Ah b4 159 (B1 e20),Ah b3 172 ([(vN (min T.1 T.2.1)),(vN (max T.1 T.2.1))]),Ah b2 68 (Am T),Bm b1 D5 MR (CT ts (3*t+0)),AJ x.p (rowsL Am ts)]) ?_ ?_
   ·skip
    refine AE.block (q4 (AM O (AM O (AK (Ad (c:=(decide (T.1<T.2.1))) O O (B7 (a:=T.1) (b:=T.2.1))) O (AM O ?_)))))
    refine AC.mid (FM:=[(2,(Value.slice none 0 0)),(3,(Value.map (some b1))),(16,(Value.slice x.p ts.length x.c)),(17,(vN ts.length)),(18,(vN t)),(5,(pP b2 0)),(4,(vN t)),(23,(vI 0)),(7,(vN T.1)),(8,(vN T.2.1)),(9,(pP b3 0)),(10,(pP b4 0)),(55,(vN T.1)),(56,(vN T.2.1)),(57,(Value.bool (decide (T.1<T.2.1)))),(58,(Value.bool (decide (T.1<T.2.1)))),(62,(Value.bool ((decide (T.1<T.2.1))&&(decide (e00.l=(-1:Int))))))]) (LM:=[Ah b4 159 (B1 e00),Ah b3 172 ([(vN (min T.1 T.2.1)),(vN (max T.1 T.2.1))]),Ah b2 68 (Am T),Bm b1 D5 MR (CT ts (3*t+0)),AJ x.p (rowsL Am ts)]) 4 ?_ ?_
    ·rcases Bool.eq_false_or_eq_true (decide (T.1<T.2.1)) with hg1|hg1
     ·skip
      refine AC.retell (k:=58) (u:=Value.bool true) O (by rw [hg1]) ?_
      have hg1':=hg1
      replace hg1':=of_decide_eq_true hg1'
      exact AC.step (v:=(pP b4 2)) (AA O) (AB O underlying159 O sizeOf3 O) O (AV O) (AC.step (v:=(vI e00.l)) (AA O) (AN (i:=0) (v:=(vI e00.l)) O O BR.a O) O (AV O) (AC.step (v:=(Value.bool (decide (e00.l=(-1:Int))))) (AA O) (BA (c:=(decide (e00.l=(-1:Int)))) O O O) O (AV O) (AK (v:=(Value.bool (decide (e00.l=(-1:Int))))) (AR O O) O (AC.nil (OkQ.mid (sS O (sS O (sS O (sS O (sS O (sS O (sS O (sS O (sS O (sS O (sS O (sS O (sS O (sS O (sS O (sS (by first|rfl|(rw [hg1];rfl)|rw [hg1]) (sS (by first|rfl|(rw [hg1];rfl)|rw [hg1]) (sN)))))))))))))))))) (List.Sublist.refl _))))))
     ·skip
      refine AC.retell (k:=58) (u:=Value.bool false) O (by rw [hg1]) ?_
      have hg1':=hg1
      replace hg1':=of_decide_eq_false hg1'
      exact AC.skip (AD O) O (AV O) (AC.skip (AD O) O (AV O) (AC.skip (AD O) O (AV O) (AK (v:=(Value.bool false)) (AO O O) O (AC.nil (OkQ.mid (sS O (sS O (sS O (sS O (sS O (sS O (sS O (sS O (sS O (sS O (sS O (sS O (sS O (sS O (sS O (sS (by first|rfl|(rw [hg1];rfl)|rw [hg1]) (sS (by first|rfl|(rw [hg1];rfl)|rw [hg1]) (sN)))))))))))))))))) (List.Sublist.refl _))))))
    refine AI O (AC.nil (OkQ.subF (sL [2,3,16,17,18,5,4,23,7,8,9,10,54] O) (OkQ.then_ ?_)))
    refine AE.cond O (λhc3=>?_) (λhc3=>?_)
    ·simp only [Bool.and_eq_true,Bool.or_eq_true,Bool.and_eq_false_iff,Bool.or_eq_false_iff,Bool.not_eq_true',Bool.not_eq_false',decide_eq_true_eq,decide_eq_false_iff_not] at hc3
     exact AE.region (AM O (AK (v:=(pP b4 2)) (AB O underlying159 O sizeOf3 O) O (JZ 0 (off:=2) (vs:=[(vN t)]) (cs':=[(vN e00.a),(vN e00.b),(vN t),(vI e00.r)]) (AT O) O sizeOf3 O (AC.nil (OkQ.subF (sL [2,3,16,17,18,5,4,23,7,8,9,10] O) (OkQ.in_normal (OkQ.join1 (⟨e00.a,e00.b,((t:Nat):Int),e00.r⟩:E4) ((by unfold Ep;rw [if_pos Z])) (sF O) sr)))))))
    ·simp only [Bool.and_eq_true,Bool.or_eq_true,Bool.and_eq_false_iff,Bool.or_eq_false_iff,Bool.not_eq_true',Bool.not_eq_false',decide_eq_true_eq,decide_eq_false_iff_not] at hc3
     refine q4 (AM O (AM O (AK (CC (c:=(decide (T.2.1<T.1))) O O (B7 (a:=T.2.1) (b:=T.1))) O (AM O ?_))))
     refine AC.mid (FM:=[(2,(Value.slice none 0 0)),(3,(Value.map (some b1))),(16,(Value.slice x.p ts.length x.c)),(17,(vN ts.length)),(18,(vN t)),(5,(pP b2 0)),(4,(vN t)),(23,(vI 0)),(7,(vN T.1)),(8,(vN T.2.1)),(9,(pP b3 0)),(10,(pP b4 0)),(66,(vN T.1)),(67,(vN T.2.1)),(68,(Value.bool (decide (T.2.1<T.1)))),(69,(Value.bool (decide (T.2.1<T.1)))),(73,(Value.bool ((decide (T.2.1<T.1))&&(decide (e00.r=(-1:Int))))))]) (LM:=[Ah b4 159 (B1 e00),Ah b3 172 ([(vN (min T.1 T.2.1)),(vN (max T.1 T.2.1))]),Ah b2 68 (Am T),Bm b1 D5 MR (CT ts (3*t+0)),AJ x.p (rowsL Am ts)]) 4 ?_ ?_
     ·rcases Bool.eq_false_or_eq_true (decide (T.2.1<T.1)) with hg2|hg2
      ·skip
       refine AC.retell (k:=69) (u:=Value.bool true) O (by rw [hg2]) ?_
       have hg2':=hg2
       replace hg2':=of_decide_eq_true hg2'
       exact AC.step (v:=(pP b4 3)) (AA O) (AB O underlying159 O sizeOf3 O) O (AV O) (AC.step (v:=(vI e00.r)) (AA O) (AN (i:=0) (v:=(vI e00.r)) O O BR.a O) O (AV O) (AC.step (v:=(Value.bool (decide (e00.r=(-1:Int))))) (AA O) (BA (c:=(decide (e00.r=(-1:Int)))) O O O) O (AV O) (AK (v:=(Value.bool (decide (e00.r=(-1:Int))))) (AR O O) O (AC.nil (OkQ.mid (sS O (sS O (sS O (sS O (sS O (sS O (sS O (sS O (sS O (sS O (sS O (sS O (sS O (sS O (sS O (sS (by first|rfl|(rw [hg2];rfl)|rw [hg2]) (sS (by first|rfl|(rw [hg2];rfl)|rw [hg2]) (sN)))))))))))))))))) (List.Sublist.refl _))))))
      ·skip
       refine AC.retell (k:=69) (u:=Value.bool false) O (by rw [hg2]) ?_
       have hg2':=hg2
       replace hg2':=of_decide_eq_false hg2'
       exact AC.skip (AD O) O (AV O) (AC.skip (AD O) O (AV O) (AC.skip (AD O) O (AV O) (AK (v:=(Value.bool false)) (AO O O) O (AC.nil (OkQ.mid (sS O (sS O (sS O (sS O (sS O (sS O (sS O (sS O (sS O (sS O (sS O (sS O (sS O (sS O (sS O (sS (by first|rfl|(rw [hg2];rfl)|rw [hg2]) (sS (by first|rfl|(rw [hg2];rfl)|rw [hg2]) (sN)))))))))))))))))) (List.Sublist.refl _))))))
     refine AI O (AC.nil (OkQ.subF (sL [2,3,16,17,18,5,4,23,7,8,9,10,65] O) (OkQ.then_ ?_)))
     refine AE.cond O (λhc4=>?_) (λhc4=>?_)
     ·simp only [Bool.and_eq_true,Bool.or_eq_true,Bool.and_eq_false_iff,Bool.or_eq_false_iff,Bool.not_eq_true',Bool.not_eq_false',decide_eq_true_eq,decide_eq_false_iff_not] at hc4
      exact AE.region (AM O (AK (v:=(pP b4 3)) (AB O underlying159 O sizeOf3 O) O (JZ 0 (off:=3) (vs:=[(vN t)]) (cs':=[(vN e00.a),(vN e00.b),(vI e00.l),(vN t)]) (AT O) O sizeOf3 O (AC.nil (OkQ.subF (sL [2,3,16,17,18,5,4,23,7,8,9,10] O) (OkQ.in_normal (OkQ.join1 (⟨e00.a,e00.b,e00.l,((t:Nat):Int)⟩:E4) ((by unfold Ep;rw [if_neg Z,if_pos Z])) (sF O) sr)))))))
     ·simp only [Bool.and_eq_true,Bool.or_eq_true,Bool.and_eq_false_iff,Bool.or_eq_false_iff,Bool.not_eq_true',Bool.not_eq_false',decide_eq_true_eq,decide_eq_false_iff_not] at hc4
      exact AE.skip (OkQ.in_normal (OkQ.join1 e00 ((by unfold Ep;rw [if_neg Z,if_neg Z])) (sF O) sr))
   ·intro e20 hJ
    have hu0:=hJ
    refine OkQ.then_ (AE.region (AM O (BC 1 LV O (BC 0 Na O (AC.mapUpdate GY 3 (kvs:=CT ts (3*t+0)) (x:=((min T.1 T.2.1,max T.1 T.2.1):P2)) (y:=e20) (AT O) O O O underlying171 O (Et hn hN _ Z) (DY Z Z) ?_)))))
    rw [show A9 (CT ts (3*t+0)) ((min T.1 T.2.1,max T.1 T.2.1):P2) e20=CT ts (3*t+1) from by rw [hu0,he0,hT];exact (Jx (ts:=ts) (t:=t) (i:=0) Z).symm]
    refine AC.nil (OkQ.subF (sL [2,3,16,17,18,5,4,23,9,10] O) (OkQ.in_normal (OkQ.then_ (AE.region (AK (AY (c:=(1:Int)) O O (by decide)) O (AM O (AC.nil (OkQ.subF (sL [2,3,16,17,18,5,4,23,9,10] O) (OkQ.again (FF.step (q4 ?_)))))))))))
    refine AK (Ad (c:=true) O O (by decide)) O (AC.nil (q1 (AE.cond_true O (AE.skip (q1 (AE.block (q4 (AM O (AI O (q6 (sL [2,3,16,17,18,5,4,23,9,10,6] O) (Cu [(0,true),(1,true),(2,true),(3,true),(4,true),(5,true),(6,true),(7,true),(8,true),(9,true)] sr ?_)))))))))))
    refine BU O (Av (v:=(pP b2 1)) O (AG (j:=1) O O underlying68 sizeOf3 O (by decide) O) (Bx 2 (vN T.2.1) BR O (BU O (Av O (AY (c:=(2:Int)) O O (by decide)) (Av O (Cb (c:=(2:Int)) O O (by decide) (by decide)) (Av (v:=(pP b2 2)) O (AG (j:=2) O O underlying68 sizeOf3 O (by decide) O) (Bx 2 (vN T.2.2) BR O (pS' O (pS' O (OkE.nil (OkQ.subF (sL [2,3,16,17,18,5,4,23,9,10,7,8] O) ?_)))))))))))
    refine q2 (AM O (AM O (AK (Fm (c:=((min T.2.1 T.2.2:Nat):Int)) O O (by split<;>omega)) O (AM O (AM O (AK (Eo (c:=((max T.2.1 T.2.2:Nat):Int)) O O (by split<;>omega)) O (AK (v:=(aG ([(vN (min T.2.1 T.2.2)),(vN (max T.2.1 T.2.2))]))) (Aa (zs:=Bh ((0,0):P2)) (vs:=[(vN (min T.2.1 T.2.2)),(vN (max T.2.1 T.2.2))]) (pv:=[(0,(vN (min T.2.1 T.2.2))),(1,(vN (max T.2.1 T.2.2)))]) (places:=[(0,1),(1,1)]) zeroValue172 underlying172 (λw=>by simp [sizeOf3]) O O) O (al S_ O λb5=>BP O sizeOf172 O (q3 (sL [2,3,16,17,18,5,4,23,9,10,7,8] O) (AM O ?_))))))))))
    refine BC 0 LV O (AK (v:=(Value.tuple #[(aG (B1 ((Ac (CT ts (3*t+1)) ((min T.2.1 T.2.2,max T.2.1 T.2.2):P2)).getD (⟨0,0,0,0⟩:E4)))),(Value.bool ((Ac (CT ts (3*t+1)) ((min T.2.1 T.2.2,max T.2.1 T.2.2):P2)).isSome))])) (Bj GY 4 (eV:=MR) (kvs:=CT ts (3*t+1)) (x:=((min T.2.1 T.2.2,max T.2.1 T.2.2):P2)) (z0:=(⟨0,0,0,0⟩:E4)) (co:=true) O O underlying171 zeroValue159 O (Et hn hN _ Z) (DY Z Z)) O (AM O (AK (AX (v:=(aG (B1 ((Ac (CT ts (3*t+1)) ((min T.2.1 T.2.2,max T.2.1 T.2.2):P2)).getD (⟨0,0,0,0⟩:E4))))) O O) O (AK (AX (v:=(Value.bool ((Ac (CT ts (3*t+1)) ((min T.2.1 T.2.2,max T.2.1 T.2.2):P2)).isSome))) O O) O (al NR O λb6=>BP O sizeOf159 O (AI O (q6 (sL [2,3,16,17,18,5,4,23,9,10,7,8,11] O) (q4 (AM O (AK (BF (c:=(!((Ac (CT ts (3*t+1)) ((min T.2.1 T.2.2,max T.2.1 T.2.2):P2)).isSome))) O O) O ?_))))))))))
    refine AC.nil (OkQ.subF (sL [2,3,16,17,18,5,4,23,9,10,7,8,48] O) (OkQ.then_ ?_))
    refine AE.jn1 (tg λ(e01:E4)=>e01=(Ac (CT ts (3*t+1)) (min T.2.1 T.2.2,max T.2.1 T.2.2)).getD (IK (min T.2.1 T.2.2,max T.2.1 T.2.2))) (tg λ(e01:E4)=>[(2,(Value.slice none 0 0)),(3,(Value.map (some b1))),(16,(Value.slice x.p ts.length x.c)),(17,(vN ts.length)),(18,(vN t)),(5,(pP b2 0)),(4,(vN t)),(23,(vI 1)),(9,(pP b5 0)),(10,(pP b6 0)),(7,(vN T.2.1)),(8,(vN T.2.2))]) (tg λ(e01:E4)=>[Ah b6 159 (B1 e01),Ah b5 172 ([(vN (min T.2.1 T.2.2)),(vN (max T.2.1 T.2.2))]),Ah b4 159 (B1 e20),Ah b3 172 ([(vN (min T.1 T.2.1)),(vN (max T.1 T.2.1))]),Ah b2 68 (Am T),Bm b1 D5 MR (CT ts (3*t+1)),AJ x.p (rowsL Am ts)]) ?_ ?_
    ·skip
     refine AE.cond O (λhc2=>?_) (λhc2=>?_)
     ·simp only [Bool.and_eq_true,Bool.or_eq_true,Bool.and_eq_false_iff,Bool.or_eq_false_iff,Bool.not_eq_true',Bool.not_eq_false',decide_eq_true_eq,decide_eq_false_iff_not] at hc2
      exact AE.region (AK (v:=(pP b5 0)) (AB O underlying172 O sizeOf3 O) O (BL 1 (vN (min T.2.1 T.2.2)) BR O (AK (v:=(pP b5 1)) (AB O underlying172 O sizeOf3 O) O (BL 1 (vN (max T.2.1 T.2.2)) BR O (AK (v:=(aG ([(vN (min T.2.1 T.2.2)),(vN (max T.2.1 T.2.2)),(vI (-1:Int)),(vI (-1:Int))]))) (Aa (zs:=B1 (⟨0,0,0,0⟩:E4)) (vs:=[(vN (min T.2.1 T.2.2)),(vN (max T.2.1 T.2.2)),(vI (-1:Int)),(vI (-1:Int))]) (pv:=[(0,(vN (min T.2.1 T.2.2))),(1,(vN (max T.2.1 T.2.2))),(2,(vI (-1:Int))),(3,(vI (-1:Int)))]) (places:=[(0,1),(1,1),(2,1),(3,1)]) zeroValue159 underlying159 (λw=>by simp [sizeOf3]) O O) O (BP O sizeOf159 O (AC.nil (OkQ.subF (sL [2,3,16,17,18,5,4,23,9,10,7,8] O) (OkQ.join1 (⟨min T.2.1 T.2.2,max T.2.1 T.2.2,-1,-1⟩:E4) ((Jl (k:=(min T.2.1 T.2.2,max T.2.1 T.2.2)) (by simpa using hc2))) (sF O) sr)))))))))
     ·simp only [Bool.and_eq_true,Bool.or_eq_true,Bool.and_eq_false_iff,Bool.or_eq_false_iff,Bool.not_eq_true',Bool.not_eq_false',decide_eq_true_eq,decide_eq_false_iff_not] at hc2
      exact AE.skip (OkQ.join1 ((Ac (CT ts (3*t+1)) ((min T.2.1 T.2.2,max T.2.1 T.2.2):P2)).getD (⟨0,0,0,0⟩:E4)) ((Jq (by simpa using hc2))) (sF O) sr)
    ·intro e01 hJ
     have he1:=hJ
     refine q1 ?_
     refine AE.jn1 (tg λ(e21:E4)=>e21=Ep e01 t T.2.1 T.2.2) (tg λ(e21:E4)=>[(2,(Value.slice none 0 0)),(3,(Value.map (some b1))),(16,(Value.slice x.p ts.length x.c)),(17,(vN ts.length)),(18,(vN t)),(5,(pP b2 0)),(4,(vN t)),(23,(vI 1)),(9,(pP b5 0)),(10,(pP b6 0))]) (tg λ(e21:E4)=>[Ah b6 159 (B1 e21),Ah b5 172 ([(vN (min T.2.1 T.2.2)),(vN (max T.2.1 T.2.2))]),Ah b4 159 (B1 e20),Ah b3 172 ([(vN (min T.1 T.2.1)),(vN (max T.1 T.2.1))]),Ah b2 68 (Am T),Bm b1 D5 MR (CT ts (3*t+1)),AJ x.p (rowsL Am ts)]) ?_ ?_
     ·skip
      refine AE.block (q4 (AM O (AM O (AK (Ad (c:=(decide (T.2.1<T.2.2))) O O (B7 (a:=T.2.1) (b:=T.2.2))) O (AM O ?_)))))
      refine AC.mid (FM:=[(2,(Value.slice none 0 0)),(3,(Value.map (some b1))),(16,(Value.slice x.p ts.length x.c)),(17,(vN ts.length)),(18,(vN t)),(5,(pP b2 0)),(4,(vN t)),(23,(vI 1)),(9,(pP b5 0)),(10,(pP b6 0)),(7,(vN T.2.1)),(8,(vN T.2.2)),(55,(vN T.2.1)),(56,(vN T.2.2)),(57,(Value.bool (decide (T.2.1<T.2.2)))),(58,(Value.bool (decide (T.2.1<T.2.2)))),(62,(Value.bool ((decide (T.2.1<T.2.2))&&(decide (e01.l=(-1:Int))))))]) (LM:=[Ah b6 159 (B1 e01),Ah b5 172 ([(vN (min T.2.1 T.2.2)),(vN (max T.2.1 T.2.2))]),Ah b4 159 (B1 e20),Ah b3 172 ([(vN (min T.1 T.2.1)),(vN (max T.1 T.2.1))]),Ah b2 68 (Am T),Bm b1 D5 MR (CT ts (3*t+1)),AJ x.p (rowsL Am ts)]) 4 ?_ ?_
      ·rcases Bool.eq_false_or_eq_true (decide (T.2.1<T.2.2)) with hg3|hg3
       ·skip
        refine AC.retell (k:=58) (u:=Value.bool true) O (by rw [hg3]) ?_
        have hg3':=hg3
        replace hg3':=of_decide_eq_true hg3'
        exact AC.step (v:=(pP b6 2)) (AA O) (AB O underlying159 O sizeOf3 O) O (AV O) (AC.step (v:=(vI e01.l)) (AA O) (AN (i:=0) (v:=(vI e01.l)) O O BR.a O) O (AV O) (AC.step (v:=(Value.bool (decide (e01.l=(-1:Int))))) (AA O) (BA (c:=(decide (e01.l=(-1:Int)))) O O O) O (AV O) (AK (v:=(Value.bool (decide (e01.l=(-1:Int))))) (AR O O) O (AC.nil (OkQ.mid (sS O (sS O (sS O (sS O (sS O (sS O (sS O (sS O (sS O (sS O (sS O (sS O (sS O (sS O (sS O (sS (by first|rfl|(rw [hg3];rfl)|rw [hg3]) (sS (by first|rfl|(rw [hg3];rfl)|rw [hg3]) (sN)))))))))))))))))) (List.Sublist.refl _))))))
       ·skip
        refine AC.retell (k:=58) (u:=Value.bool false) O (by rw [hg3]) ?_
        have hg3':=hg3
        replace hg3':=of_decide_eq_false hg3'
        exact AC.skip (AD O) O (AV O) (AC.skip (AD O) O (AV O) (AC.skip (AD O) O (AV O) (AK (v:=(Value.bool false)) (AO O O) O (AC.nil (OkQ.mid (sS O (sS O (sS O (sS O (sS O (sS O (sS O (sS O (sS O (sS O (sS O (sS O (sS O (sS O (sS O (sS (by first|rfl|(rw [hg3];rfl)|rw [hg3]) (sS (by first|rfl|(rw [hg3];rfl)|rw [hg3]) (sN)))))))))))))))))) (List.Sublist.refl _))))))
      refine AI O (AC.nil (OkQ.subF (sL [2,3,16,17,18,5,4,23,9,10,7,8,54] O) (OkQ.then_ ?_)))
      refine AE.cond O (λhc3=>?_) (λhc3=>?_)
      ·simp only [Bool.and_eq_true,Bool.or_eq_true,Bool.and_eq_false_iff,Bool.or_eq_false_iff,Bool.not_eq_true',Bool.not_eq_false',decide_eq_true_eq,decide_eq_false_iff_not] at hc3
       exact AE.region (AM O (AK (v:=(pP b6 2)) (AB O underlying159 O sizeOf3 O) O (JZ 0 (off:=2) (vs:=[(vN t)]) (cs':=[(vN e01.a),(vN e01.b),(vN t),(vI e01.r)]) (AT O) O sizeOf3 O (AC.nil (OkQ.subF (sL [2,3,16,17,18,5,4,23,9,10,7,8] O) (OkQ.in_normal (OkQ.join1 (⟨e01.a,e01.b,((t:Nat):Int),e01.r⟩:E4) ((by unfold Ep;rw [if_pos Z])) (sF O) sr)))))))
      ·simp only [Bool.and_eq_true,Bool.or_eq_true,Bool.and_eq_false_iff,Bool.or_eq_false_iff,Bool.not_eq_true',Bool.not_eq_false',decide_eq_true_eq,decide_eq_false_iff_not] at hc3
       refine q4 (AM O (AM O (AK (CC (c:=(decide (T.2.2<T.2.1))) O O (B7 (a:=T.2.2) (b:=T.2.1))) O (AM O ?_))))
       refine AC.mid (FM:=[(2,(Value.slice none 0 0)),(3,(Value.map (some b1))),(16,(Value.slice x.p ts.length x.c)),(17,(vN ts.length)),(18,(vN t)),(5,(pP b2 0)),(4,(vN t)),(23,(vI 1)),(9,(pP b5 0)),(10,(pP b6 0)),(7,(vN T.2.1)),(8,(vN T.2.2)),(66,(vN T.2.1)),(67,(vN T.2.2)),(68,(Value.bool (decide (T.2.2<T.2.1)))),(69,(Value.bool (decide (T.2.2<T.2.1)))),(73,(Value.bool ((decide (T.2.2<T.2.1))&&(decide (e01.r=(-1:Int))))))]) (LM:=[Ah b6 159 (B1 e01),Ah b5 172 ([(vN (min T.2.1 T.2.2)),(vN (max T.2.1 T.2.2))]),Ah b4 159 (B1 e20),Ah b3 172 ([(vN (min T.1 T.2.1)),(vN (max T.1 T.2.1))]),Ah b2 68 (Am T),Bm b1 D5 MR (CT ts (3*t+1)),AJ x.p (rowsL Am ts)]) 4 ?_ ?_
       ·rcases Bool.eq_false_or_eq_true (decide (T.2.2<T.2.1)) with hg4|hg4
        ·skip
         refine AC.retell (k:=69) (u:=Value.bool true) O (by rw [hg4]) ?_
         have hg4':=hg4
         replace hg4':=of_decide_eq_true hg4'
         exact AC.step (v:=(pP b6 3)) (AA O) (AB O underlying159 O sizeOf3 O) O (AV O) (AC.step (v:=(vI e01.r)) (AA O) (AN (i:=0) (v:=(vI e01.r)) O O BR.a O) O (AV O) (AC.step (v:=(Value.bool (decide (e01.r=(-1:Int))))) (AA O) (BA (c:=(decide (e01.r=(-1:Int)))) O O O) O (AV O) (AK (v:=(Value.bool (decide (e01.r=(-1:Int))))) (AR O O) O (AC.nil (OkQ.mid (sS O (sS O (sS O (sS O (sS O (sS O (sS O (sS O (sS O (sS O (sS O (sS O (sS O (sS O (sS O (sS (by first|rfl|(rw [hg4];rfl)|rw [hg4]) (sS (by first|rfl|(rw [hg4];rfl)|rw [hg4]) (sN)))))))))))))))))) (List.Sublist.refl _))))))
        ·skip
         refine AC.retell (k:=69) (u:=Value.bool false) O (by rw [hg4]) ?_
         have hg4':=hg4
         replace hg4':=of_decide_eq_false hg4'
         exact AC.skip (AD O) O (AV O) (AC.skip (AD O) O (AV O) (AC.skip (AD O) O (AV O) (AK (v:=(Value.bool false)) (AO O O) O (AC.nil (OkQ.mid (sS O (sS O (sS O (sS O (sS O (sS O (sS O (sS O (sS O (sS O (sS O (sS O (sS O (sS O (sS O (sS (by first|rfl|(rw [hg4];rfl)|rw [hg4]) (sS (by first|rfl|(rw [hg4];rfl)|rw [hg4]) (sN)))))))))))))))))) (List.Sublist.refl _))))))
       refine AI O (AC.nil (OkQ.subF (sL [2,3,16,17,18,5,4,23,9,10,7,8,65] O) (OkQ.then_ ?_)))
       refine AE.cond O (λhc4=>?_) (λhc4=>?_)
       ·simp only [Bool.and_eq_true,Bool.or_eq_true,Bool.and_eq_false_iff,Bool.or_eq_false_iff,Bool.not_eq_true',Bool.not_eq_false',decide_eq_true_eq,decide_eq_false_iff_not] at hc4
        exact AE.region (AM O (AK (v:=(pP b6 3)) (AB O underlying159 O sizeOf3 O) O (JZ 0 (off:=3) (vs:=[(vN t)]) (cs':=[(vN e01.a),(vN e01.b),(vI e01.l),(vN t)]) (AT O) O sizeOf3 O (AC.nil (OkQ.subF (sL [2,3,16,17,18,5,4,23,9,10,7,8] O) (OkQ.in_normal (OkQ.join1 (⟨e01.a,e01.b,e01.l,((t:Nat):Int)⟩:E4) ((by unfold Ep;rw [if_neg Z,if_pos Z])) (sF O) sr)))))))
       ·simp only [Bool.and_eq_true,Bool.or_eq_true,Bool.and_eq_false_iff,Bool.or_eq_false_iff,Bool.not_eq_true',Bool.not_eq_false',decide_eq_true_eq,decide_eq_false_iff_not] at hc4
        exact AE.skip (OkQ.in_normal (OkQ.join1 e01 ((by unfold Ep;rw [if_neg Z,if_neg Z])) (sF O) sr))
     ·intro e21 hJ
      have hu1:=hJ
      refine OkQ.then_ (AE.region (AM O (BC 1 LV O (BC 0 Na O (AC.mapUpdate GY 5 (kvs:=CT ts (3*t+1)) (x:=((min T.2.1 T.2.2,max T.2.1 T.2.2):P2)) (y:=e21) (AT O) O O O underlying171 O (Et hn hN _ Z) (DY Z Z) ?_)))))
      rw [show A9 (CT ts (3*t+1)) ((min T.2.1 T.2.2,max T.2.1 T.2.2):P2) e21=CT ts (3*t+2) from by rw [hu1,he1,hT];exact (Jx (ts:=ts) (t:=t) (i:=1) Z).symm]
      refine AC.nil (OkQ.subF (sL [2,3,16,17,18,5,4,23,9,10] O) (OkQ.in_normal (OkQ.then_ (AE.region (AK (AY (c:=(2:Int)) O O (by decide)) O (AM O (AC.nil (OkQ.subF (sL [2,3,16,17,18,5,4,23,9,10] O) (OkQ.again (FF.step (q4 ?_)))))))))))
      refine AK (Ad (c:=true) O O (by decide)) O (AC.nil (q1 (AE.cond_true O (AE.skip (q1 (AE.block (q4 (AM O (AI O (q6 (sL [2,3,16,17,18,5,4,23,9,10,6] O) (Cu [(0,true),(1,true),(2,true),(3,true),(4,true),(5,true),(6,true),(7,true),(8,true),(9,true)] sr ?_)))))))))))
      refine BU O (Av (v:=(pP b2 2)) O (AG (j:=2) O O underlying68 sizeOf3 O (by decide) O) (Bx 4 (vN T.2.2) BR O (BU O (Av O (AY (c:=(3:Int)) O O (by decide)) (Av O (Cb (c:=(0:Int)) O O (by decide) (by decide)) (Av (v:=(pP b2 0)) O (AG (j:=0) O O underlying68 sizeOf3 O (by decide) O) (Bx 4 (vN T.1) BR O (pS' O (pS' O (OkE.nil (OkQ.subF (sL [2,3,16,17,18,5,4,23,9,10,7,8] O) ?_)))))))))))
      refine q2 (AM O (AM O (AK (Fm (c:=((min T.2.2 T.1:Nat):Int)) O O (by split<;>omega)) O (AM O (AM O (AK (Eo (c:=((max T.2.2 T.1:Nat):Int)) O O (by split<;>omega)) O (AK (v:=(aG ([(vN (min T.2.2 T.1)),(vN (max T.2.2 T.1))]))) (Aa (zs:=Bh ((0,0):P2)) (vs:=[(vN (min T.2.2 T.1)),(vN (max T.2.2 T.1))]) (pv:=[(0,(vN (min T.2.2 T.1))),(1,(vN (max T.2.2 T.1)))]) (places:=[(0,1),(1,1)]) zeroValue172 underlying172 (λw=>by simp [sizeOf3]) O O) O (al S_ O λb7=>BP O sizeOf172 O (q3 (sL [2,3,16,17,18,5,4,23,9,10,7,8] O) (AM O ?_))))))))))
      refine BC 0 LV O (AK (v:=(Value.tuple #[(aG (B1 ((Ac (CT ts (3*t+2)) ((min T.2.2 T.1,max T.2.2 T.1):P2)).getD (⟨0,0,0,0⟩:E4)))),(Value.bool ((Ac (CT ts (3*t+2)) ((min T.2.2 T.1,max T.2.2 T.1):P2)).isSome))])) (Bj GY 6 (eV:=MR) (kvs:=CT ts (3*t+2)) (x:=((min T.2.2 T.1,max T.2.2 T.1):P2)) (z0:=(⟨0,0,0,0⟩:E4)) (co:=true) O O underlying171 zeroValue159 O (Et hn hN _ Z) (DY Z Z)) O (AM O (AK (AX (v:=(aG (B1 ((Ac (CT ts (3*t+2)) ((min T.2.2 T.1,max T.2.2 T.1):P2)).getD (⟨0,0,0,0⟩:E4))))) O O) O (AK (AX (v:=(Value.bool ((Ac (CT ts (3*t+2)) ((min T.2.2 T.1,max T.2.2 T.1):P2)).isSome))) O O) O (al NR O λb8=>BP O sizeOf159 O (AI O (q6 (sL [2,3,16,17,18,5,4,23,9,10,7,8,11] O) (q4 (AM O (AK (BF (c:=(!((Ac (CT ts (3*t+2)) ((min T.2.2 T.1,max T.2.2 T.1):P2)).isSome))) O O) O ?_))))))))))
      refine AC.nil (OkQ.subF (sL [2,3,16,17,18,5,4,23,9,10,7,8,48] O) (OkQ.then_ ?_))
      refine AE.jn1 (tg λ(e02:E4)=>e02=(Ac (CT ts (3*t+2)) (min T.2.2 T.1,max T.2.2 T.1)).getD (IK (min T.2.2 T.1,max T.2.2 T.1))) (tg λ(e02:E4)=>[(2,(Value.slice none 0 0)),(3,(Value.map (some b1))),(16,(Value.slice x.p ts.length x.c)),(17,(vN ts.length)),(18,(vN t)),(5,(pP b2 0)),(4,(vN t)),(23,(vI 2)),(9,(pP b7 0)),(10,(pP b8 0)),(7,(vN T.2.2)),(8,(vN T.1))]) (tg λ(e02:E4)=>[Ah b8 159 (B1 e02),Ah b7 172 ([(vN (min T.2.2 T.1)),(vN (max T.2.2 T.1))]),Ah b6 159 (B1 e21),Ah b5 172 ([(vN (min T.2.1 T.2.2)),(vN (max T.2.1 T.2.2))]),Ah b4 159 (B1 e20),Ah b3 172 ([(vN (min T.1 T.2.1)),(vN (max T.1 T.2.1))]),Ah b2 68 (Am T),Bm b1 D5 MR (CT ts (3*t+2)),AJ x.p (rowsL Am ts)]) ?_ ?_
      ·skip
       refine AE.cond O (λhc2=>?_) (λhc2=>?_)
       ·simp only [Bool.and_eq_true,Bool.or_eq_true,Bool.and_eq_false_iff,Bool.or_eq_false_iff,Bool.not_eq_true',Bool.not_eq_false',decide_eq_true_eq,decide_eq_false_iff_not] at hc2
        exact AE.region (AK (v:=(pP b7 0)) (AB O underlying172 O sizeOf3 O) O (BL 1 (vN (min T.2.2 T.1)) BR O (AK (v:=(pP b7 1)) (AB O underlying172 O sizeOf3 O) O (BL 1 (vN (max T.2.2 T.1)) BR O (AK (v:=(aG ([(vN (min T.2.2 T.1)),(vN (max T.2.2 T.1)),(vI (-1:Int)),(vI (-1:Int))]))) (Aa (zs:=B1 (⟨0,0,0,0⟩:E4)) (vs:=[(vN (min T.2.2 T.1)),(vN (max T.2.2 T.1)),(vI (-1:Int)),(vI (-1:Int))]) (pv:=[(0,(vN (min T.2.2 T.1))),(1,(vN (max T.2.2 T.1))),(2,(vI (-1:Int))),(3,(vI (-1:Int)))]) (places:=[(0,1),(1,1),(2,1),(3,1)]) zeroValue159 underlying159 (λw=>by simp [sizeOf3]) O O) O (BP O sizeOf159 O (AC.nil (OkQ.subF (sL [2,3,16,17,18,5,4,23,9,10,7,8] O) (OkQ.join1 (⟨min T.2.2 T.1,max T.2.2 T.1,-1,-1⟩:E4) ((Jl (k:=(min T.2.2 T.1,max T.2.2 T.1)) (by simpa using hc2))) (sF O) sr)))))))))
       ·simp only [Bool.and_eq_true,Bool.or_eq_true,Bool.and_eq_false_iff,Bool.or_eq_false_iff,Bool.not_eq_true',Bool.not_eq_false',decide_eq_true_eq,decide_eq_false_iff_not] at hc2
        exact AE.skip (OkQ.join1 ((Ac (CT ts (3*t+2)) ((min T.2.2 T.1,max T.2.2 T.1):P2)).getD (⟨0,0,0,0⟩:E4)) ((Jq (by simpa using hc2))) (sF O) sr)
      ·intro e02 hJ
       have he2:=hJ
       refine q1 ?_
       refine AE.jn1 (tg λ(e22:E4)=>e22=Ep e02 t T.2.2 T.1) (tg λ(e22:E4)=>[(2,(Value.slice none 0 0)),(3,(Value.map (some b1))),(16,(Value.slice x.p ts.length x.c)),(17,(vN ts.length)),(18,(vN t)),(5,(pP b2 0)),(4,(vN t)),(23,(vI 2)),(9,(pP b7 0)),(10,(pP b8 0))]) (tg λ(e22:E4)=>[Ah b8 159 (B1 e22),Ah b7 172 ([(vN (min T.2.2 T.1)),(vN (max T.2.2 T.1))]),Ah b6 159 (B1 e21),Ah b5 172 ([(vN (min T.2.1 T.2.2)),(vN (max T.2.1 T.2.2))]),Ah b4 159 (B1 e20),Ah b3 172 ([(vN (min T.1 T.2.1)),(vN (max T.1 T.2.1))]),Ah b2 68 (Am T),Bm b1 D5 MR (CT ts (3*t+2)),AJ x.p (rowsL Am ts)]) ?_ ?_
       ·skip
        refine AE.block (q4 (AM O (AM O (AK (Ad (c:=(decide (T.2.2<T.1))) O O (B7 (a:=T.2.2) (b:=T.1))) O (AM O ?_)))))
        refine AC.mid (FM:=[(2,(Value.slice none 0 0)),(3,(Value.map (some b1))),(16,(Value.slice x.p ts.length x.c)),(17,(vN ts.length)),(18,(vN t)),(5,(pP b2 0)),(4,(vN t)),(23,(vI 2)),(9,(pP b7 0)),(10,(pP b8 0)),(7,(vN T.2.2)),(8,(vN T.1)),(55,(vN T.2.2)),(56,(vN T.1)),(57,(Value.bool (decide (T.2.2<T.1)))),(58,(Value.bool (decide (T.2.2<T.1)))),(62,(Value.bool ((decide (T.2.2<T.1))&&(decide (e02.l=(-1:Int))))))]) (LM:=[Ah b8 159 (B1 e02),Ah b7 172 ([(vN (min T.2.2 T.1)),(vN (max T.2.2 T.1))]),Ah b6 159 (B1 e21),Ah b5 172 ([(vN (min T.2.1 T.2.2)),(vN (max T.2.1 T.2.2))]),Ah b4 159 (B1 e20),Ah b3 172 ([(vN (min T.1 T.2.1)),(vN (max T.1 T.2.1))]),Ah b2 68 (Am T),Bm b1 D5 MR (CT ts (3*t+2)),AJ x.p (rowsL Am ts)]) 4 ?_ ?_
        ·rcases Bool.eq_false_or_eq_true (decide (T.2.2<T.1)) with hg5|hg5
         ·skip
          refine AC.retell (k:=58) (u:=Value.bool true) O (by rw [hg5]) ?_
          have hg5':=hg5
          replace hg5':=of_decide_eq_true hg5'
          exact AC.step (v:=(pP b8 2)) (AA O) (AB O underlying159 O sizeOf3 O) O (AV O) (AC.step (v:=(vI e02.l)) (AA O) (AN (i:=0) (v:=(vI e02.l)) O O BR.a O) O (AV O) (AC.step (v:=(Value.bool (decide (e02.l=(-1:Int))))) (AA O) (BA (c:=(decide (e02.l=(-1:Int)))) O O O) O (AV O) (AK (v:=(Value.bool (decide (e02.l=(-1:Int))))) (AR O O) O (AC.nil (OkQ.mid (sS O (sS O (sS O (sS O (sS O (sS O (sS O (sS O (sS O (sS O (sS O (sS O (sS O (sS O (sS O (sS (by first|rfl|(rw [hg5];rfl)|rw [hg5]) (sS (by first|rfl|(rw [hg5];rfl)|rw [hg5]) (sN)))))))))))))))))) (List.Sublist.refl _))))))
         ·skip
          refine AC.retell (k:=58) (u:=Value.bool false) O (by rw [hg5]) ?_
          have hg5':=hg5
          replace hg5':=of_decide_eq_false hg5'
          exact AC.skip (AD O) O (AV O) (AC.skip (AD O) O (AV O) (AC.skip (AD O) O (AV O) (AK (v:=(Value.bool false)) (AO O O) O (AC.nil (OkQ.mid (sS O (sS O (sS O (sS O (sS O (sS O (sS O (sS O (sS O (sS O (sS O (sS O (sS O (sS O (sS O (sS (by first|rfl|(rw [hg5];rfl)|rw [hg5]) (sS (by first|rfl|(rw [hg5];rfl)|rw [hg5]) (sN)))))))))))))))))) (List.Sublist.refl _))))))
        refine AI O (AC.nil (OkQ.subF (sL [2,3,16,17,18,5,4,23,9,10,7,8,54] O) (OkQ.then_ ?_)))
        refine AE.cond O (λhc3=>?_) (λhc3=>?_)
        ·simp only [Bool.and_eq_true,Bool.or_eq_true,Bool.and_eq_false_iff,Bool.or_eq_false_iff,Bool.not_eq_true',Bool.not_eq_false',decide_eq_true_eq,decide_eq_false_iff_not] at hc3
         exact AE.region (AM O (AK (v:=(pP b8 2)) (AB O underlying159 O sizeOf3 O) O (JZ 0 (off:=2) (vs:=[(vN t)]) (cs':=[(vN e02.a),(vN e02.b),(vN t),(vI e02.r)]) (AT O) O sizeOf3 O (AC.nil (OkQ.subF (sL [2,3,16,17,18,5,4,23,9,10,7,8] O) (OkQ.in_normal (OkQ.join1 (⟨e02.a,e02.b,((t:Nat):Int),e02.r⟩:E4) ((by unfold Ep;rw [if_pos Z])) (sF O) sr)))))))
        ·simp only [Bool.and_eq_true,Bool.or_eq_true,Bool.and_eq_false_iff,Bool.or_eq_false_iff,Bool.not_eq_true',Bool.not_eq_false',decide_eq_true_eq,decide_eq_false_iff_not] at hc3
         refine q4 (AM O (AM O (AK (CC (c:=(decide (T.1<T.2.2))) O O (B7 (a:=T.1) (b:=T.2.2))) O (AM O ?_))))
         refine AC.mid (FM:=[(2,(Value.slice none 0 0)),(3,(Value.map (some b1))),(16,(Value.slice x.p ts.length x.c)),(17,(vN ts.length)),(18,(vN t)),(5,(pP b2 0)),(4,(vN t)),(23,(vI 2)),(9,(pP b7 0)),(10,(pP b8 0)),(7,(vN T.2.2)),(8,(vN T.1)),(66,(vN T.2.2)),(67,(vN T.1)),(68,(Value.bool (decide (T.1<T.2.2)))),(69,(Value.bool (decide (T.1<T.2.2)))),(73,(Value.bool ((decide (T.1<T.2.2))&&(decide (e02.r=(-1:Int))))))]) (LM:=[Ah b8 159 (B1 e02),Ah b7 172 ([(vN (min T.2.2 T.1)),(vN (max T.2.2 T.1))]),Ah b6 159 (B1 e21),Ah b5 172 ([(vN (min T.2.1 T.2.2)),(vN (max T.2.1 T.2.2))]),Ah b4 159 (B1 e20),Ah b3 172 ([(vN (min T.1 T.2.1)),(vN (max T.1 T.2.1))]),Ah b2 68 (Am T),Bm b1 D5 MR (CT ts (3*t+2)),AJ x.p (rowsL Am ts)]) 4 ?_ ?_
         ·rcases Bool.eq_false_or_eq_true (decide (T.1<T.2.2)) with hg6|hg6
          ·skip
           refine AC.retell (k:=69) (u:=Value.bool true) O (by rw [hg6]) ?_
           have hg6':=hg6
           replace hg6':=of_decide_eq_true hg6'
           exact AC.step (v:=(pP b8 3)) (AA O) (AB O underlying159 O sizeOf3 O) O (AV O) (AC.step (v:=(vI e02.r)) (AA O) (AN (i:=0) (v:=(vI e02.r)) O O BR.a O) O (AV O) (AC.step (v:=(Value.bool (decide (e02.r=(-1:Int))))) (AA O) (BA (c:=(decide (e02.r=(-1:Int)))) O O O) O (AV O) (AK (v:=(Value.bool (decide (e02.r=(-1:Int))))) (AR O O) O (AC.nil (OkQ.mid (sS O (sS O (sS O (sS O (sS O (sS O (sS O (sS O (sS O (sS O (sS O (sS O (sS O (sS O (sS O (sS (by first|rfl|(rw [hg6];rfl)|rw [hg6]) (sS (by first|rfl|(rw [hg6];rfl)|rw [hg6]) (sN)))))))))))))))))) (List.Sublist.refl _))))))
          ·skip
           refine AC.retell (k:=69) (u:=Value.bool false) O (by rw [hg6]) ?_
           have hg6':=hg6
           replace hg6':=of_decide_eq_false hg6'
           exact AC.skip (AD O) O (AV O) (AC.skip (AD O) O (AV O) (AC.skip (AD O) O (AV O) (AK (v:=(Value.bool false)) (AO O O) O (AC.nil (OkQ.mid (sS O (sS O (sS O (sS O (sS O (sS O (sS O (sS O (sS O (sS O (sS O (sS O (sS O (sS O (sS O (sS (by first|rfl|(rw [hg6];rfl)|rw [hg6]) (sS (by first|rfl|(rw [hg6];rfl)|rw [hg6]) (sN)))))))))))))))))) (List.Sublist.refl _))))))
         refine AI O (AC.nil (OkQ.subF (sL [2,3,16,17,18,5,4,23,9,10,7,8,65] O) (OkQ.then_ ?_)))
         refine AE.cond O (λhc4=>?_) (λhc4=>?_)
         ·simp only [Bool.and_eq_true,Bool.or_eq_true,Bool.and_eq_false_iff,Bool.or_eq_false_iff,Bool.not_eq_true',Bool.not_eq_false',decide_eq_true_eq,decide_eq_false_iff_not] at hc4
          exact AE.region (AM O (AK (v:=(pP b8 3)) (AB O underlying159 O sizeOf3 O) O (JZ 0 (off:=3) (vs:=[(vN t)]) (cs':=[(vN e02.a),(vN e02.b),(vI e02.l),(vN t)]) (AT O) O sizeOf3 O (AC.nil (OkQ.subF (sL [2,3,16,17,18,5,4,23,9,10,7,8] O) (OkQ.in_normal (OkQ.join1 (⟨e02.a,e02.b,e02.l,((t:Nat):Int)⟩:E4) ((by unfold Ep;rw [if_neg Z,if_pos Z])) (sF O) sr)))))))
         ·simp only [Bool.and_eq_true,Bool.or_eq_true,Bool.and_eq_false_iff,Bool.or_eq_false_iff,Bool.not_eq_true',Bool.not_eq_false',decide_eq_true_eq,decide_eq_false_iff_not] at hc4
          exact AE.skip (OkQ.in_normal (OkQ.join1 e02 ((by unfold Ep;rw [if_neg Z,if_neg Z])) (sF O) sr))
       ·intro e22 hJ
        have hu2:=hJ
        refine OkQ.then_ (AE.region (AM O (BC 1 LV O (BC 0 Na O (AC.mapUpdate GY 7 (kvs:=CT ts (3*t+2)) (x:=((min T.2.2 T.1,max T.2.2 T.1):P2)) (y:=e22) (AT O) O O O underlying171 O (Et hn hN _ Z) (DY Z Z) ?_)))))
        rw [show A9 (CT ts (3*t+2)) ((min T.2.2 T.1,max T.2.2 T.1):P2) e22=CT ts (3*t+3) from by rw [hu2,he2,hT];exact (Jx (ts:=ts) (t:=t) (i:=2) Z).symm]
        refine AC.nil (OkQ.subF (sL [2,3,16,17,18,5,4,23,9,10] O) (OkQ.in_normal (OkQ.then_ (AE.region (AK (AY (c:=(3:Int)) O O (by decide)) O (AM O (AC.nil (OkQ.subF (sL [2,3,16,17,18,5,4,23,9,10] O) (OkQ.again (FF.step (q4 ?_)))))))))))
        refine AK (Ad (c:=false) O O (by decide)) O (AC.nil (q1 (AE.cond_false O (AE.exit (OkQ.then_exit (OkQ.then_exit (OkQ.in_exit (OkQ.in_normal (OkQ.then_ (AE.region (AK (AY (c:=((t+1:Nat):Int)) O O (AU (a:=t) (b:=1) Z)) O ?_)))))))))))
        refine AM O (AC.nil (OkQ.subF (sL [2,3,16,17,18,5,4,23,9,10] O) ?_))
        rw [show 3*t+3=3*(t+1)+0 by omega]
        exact OkQ.round1 (t+1) Z Z (sF O) (sl (sl (sl (sl (sl (sl (sl sr)))))))
 ·replace hc0:=of_decide_eq_false hc0
  have htl:t=ts.length:=by omega
  have hel:=JD (ts:=ts) (3*ts.length)
  refine AE.exit (OkQ.then_exit (OkQ.round1_exit (OkQ.in_exit (q2 (AM O ?_)))))
  rw [show CT ts (3*t+0)=(CT ts (3*ts.length)) by rw [htl,Nat.add_zero]]
  refine st (v:=(vN ((CT ts (3*ts.length)).length))) (KK 0 (kvs:=(CT ts (3*ts.length))) O underlying171 O) (AV O) (AC.make0 Xb O O Z O O λbo hbo=>AI O (q6 (sL [2,3,16,17,18,12] O) (q4 (AM O (AC.range 1 (kvs:=(CT ts (3*ts.length))) (AT O) O underlying171 O O λb2=>AC.nil (OkQ.subF (sL [2,3,16,17,18,12,85] O) (OkQ.then_ (AE.block ?_))))))))
  refine AE.lp4 (tg λ(seen:List Nat) (out:List E4) (p1:Option Addr) (c1:Nat)=>seen.Nodup/\(∀x∈seen,x<(CT ts (3*ts.length)).length)/\out=seen.map (VU (CT ts (3*ts.length)))/\OwnOk p1 out.length c1/\p1≠none) (tg λ(seen:List Nat) (out:List E4) (p1:Option Addr) (c1:Nat)=>[(2,(Value.slice none 0 0)),(85,(Value.pointer (some ⟨b2,0,none⟩))),(12,(Value.slice p1 out.length c1))]) (tg λ(seen:List Nat) (out:List E4) (p1:Option Addr) (c1:Nat)=>[Zh b2 b1 (CT ts (3*ts.length)).length seen,rowW p1 159 4 out.length c1 (rowsL B1 out),Bm b1 D5 MR (CT ts (3*ts.length)),AJ x.p (rowsL Am ts)]) (tg λ(seen:List Nat) (out:List E4) (p1:Option Addr) (c1:Nat)=>(CT ts (3*ts.length)).length-seen.length) ([]:List Nat) ([]:List E4) (some ⟨bo,0,none⟩) ((CT ts (3*ts.length)).length) (⟨List.nodup_nil,(λx hx=>by cases hx),rfl,hbo,by simp⟩) (sF O) sr (λseen out p1 c1 hJ=>?_)
  obtain ⟨hnd,hlt,hou,ho,hpn⟩:=hJ
  refine q4 ?_
  refine AC.next 2 0 (kvs:=(CT ts (3*ts.length))) (seen:=seen) (AT O) O O O O (λhall=>?_) (λqn kq ve hq hns=>?_)
  ·skip
   refine AK (AX (v:=(Value.bool false)) O O) O (q6 (sL [2,85,12,87] O) (AE.cond_false O (AE.exit (OkQ.then_exit (OkQ.round4_exit (OkQ.in_exit (q2 (AM O ?_))))))))
   have hpm:out.Perm ((CT ts (3*ts.length)).map (·.2)):=by rw [hou];exact VI hnd hlt hall
   have hol:out.length=(Bv ts).length:=by rw [JF];simpa using hpm.length_eq
   have hlo:out.length<=3*ts.length:=by rw [hol,JF];exact hel
   exact AC.callS 1 (xs:=out) (ys:=Bv ts) (v:=(Value.tuple #[])) (AT O) (Aw (args:=[(Value.slice p1 out.length c1),(Value.func (.func 84) #[] #[])]) O O call83) O (λw hw=>TQ out _ _ _ 159 ho hpn O Z w (hw.holds (i:=1) O)) (λzs h1 h2=>Yk hn hN h1 h2 hpm) (λd hd=>by cases hd<;>exact (AV O)) (q3 (sL [2,85,12] O) (AM O (ck' call86 (UG p1 _ c1 ho.le) O (AI O (AC.nil (OkQ.subF (sL [2,85,12] O) (OkQ.then_ (AE.ret (AS O (AZ (v:=(Value.slice p1 out.length out.length)) O) (λw hw=>(by rw [<-hol];exact UQ hw 1 O ho (by rw [A6 Dp,hol]) O)))))))))))
  ·skip
   refine AK (AX (v:=(Value.bool true)) O O) O (q6 (sL [2,85,12,87] O) (AE.cond_true O (AE.skip (OkQ.then_ (AE.block (q4 ?_))))))
   have hlo:out.length<=3*ts.length:=by rw [hou,List.length_map];exact Nat.le_trans (GF hnd hlt) hel
   refine AK (v:=(Value.tuple #[(aG (Bh kq)),(aG (B1 ve))])) (Sx 2 0 (enc:=D5) (eV:=MR) (kvs:=(CT ts (3*ts.length))) (seen:=seen) (q:=qn) O O O hq) O (AK (AX (v:=(aG (B1 ve))) O O) O (al NR O λb3=>BP O sizeOf159 O (AC.nil (OkQ.subF (sL [2,85,12,14] O) (OkQ.then_ (AE.region (AM O (BC 0 Na O (AC.openV (V:=λb4=>(Value.slice (some ⟨b4,0,none⟩) 1 1)) (T:=159) (cs:=B1 ve) (AT O) (Ap (z:=.agg (B1 (⟨0,0,0,0⟩:E4)).toArray) (cs:=B1 ve) (pv:=[(0,(aG (B1 ve)))]) underlying125 sizeOf159 zeroValue159 (by decide) (by decide) O (It ve)) O (AV O) λb4=>AC.appendAt 3 (j:=0) (cs2:=rowsL B1 (out++[ve])) Xb O ho (A6 Dp _) O O O O O (by decide) (Fl Z) Z (by rw [Bk];rfl) O λp_1 c_1 ho_1 hne_1=>?_)))))))))
   refine AI O (AC.nil (OkQ.subF (sL [2,85,12,14] O) (OkQ.in_normal ?_)))
   have hnext:seen.length<(CT ts (3*ts.length)).length:=by have h9:=GF (l:=seen++[qn]) (n:=(CT ts (3*ts.length)).length) (List.nodup_append.2 ⟨hnd,List.nodup_cons.2 ⟨List.not_mem_nil,List.nodup_nil⟩,λa ha b hb e=>by rw [List.mem_singleton.1 hb] at e;exact hns (e▸ha)⟩) (λx hx=>by rcases List.mem_append.1 hx with h|h;exact hlt x h;rw [List.mem_singleton.1 h];exact (List.getElem?_eq_some_iff.1 hq).1);rw [List.length_append,List.length_singleton] at h9;omega
   rw [show out.length+1=(out++[ve]).length by simp]
   exact OkQ.round4 (seen++[qn]) (out++[ve]) p_1 c_1 (⟨List.nodup_append.2 ⟨hnd,List.nodup_cons.2 ⟨List.not_mem_nil,List.nodup_nil⟩,λa ha b hb e=>by rw [List.mem_singleton.1 hb] at e;exact hns (e▸ha)⟩,λx hx=>by rcases List.mem_append.1 hx with h|h;exact hlt x h;rw [List.mem_singleton.1 h];exact (List.getElem?_eq_some_iff.1 hq).1,by rw [List.map_append,hou];simp [Wx hq],(by simpa using ho_1),hne_1⟩) (by have h8:=hnext;rw [List.length_append,List.length_singleton];omega) (sF O) (sl (sl sr))
theorem TO (ts:List (Tq3)) (x:RX (rowsL Am ts) ts.length) (N:Nat) (hn:A_ N ts=true) (hN:N<=4611686018427387904) (hl:ts.length<=1000000000) (w:World) {S:Nat->Prop} (hx:Ro S w x):Calls prog 63 #[(Value.slice x.p ts.length x.c)] w (Al (RX (rowsL B1 (Bv ts)) (Bv ts).length) S w):=(LO ts x N hn hN hl w hx).mono λe w1 h=>h.ofCX
end
end Go.Proofs.YtpgncndhhhllfaaGreat
