import Derived.Test.YtfbomiejpbchdaaGreatPart06
import Derived.Test.YtfbomiejpbchdaaGreatPart25
import Derived.Test.YtfbomiejpbchdaaGreatPart26
import Derived.Test.YtfbomiejpbchdaaGreatPart28
namespace Go.Proofs.YtfbomiejpbchdaaGreat
open Go Go.RowKit Go.Proofs.Tryz
set_option linter.unusedVariables false
set_option linter.unusedSimpArgs false
section
set_option maxRecDepth 100000
theorem Xc:ElemT prog 37 110 4 32:=⟨underlying37,Eb (by kernel_rfl)⟩
theorem HI:KE prog 200 Dv JU where
 law:=.of_law (deep_law_laid QR (m:=2) (by decide) (by decide +kernel) (by kernel_rfl) (by kernel_rfl))
 key:=λa h=>L4 underlying200 ⟨rfl,rfl⟩ ⟨rfl,rfl⟩ (by decide +kernel) underlying3 (by kernel_rfl) (by kernel_rfl) (by kernel_rfl) (by decide +kernel) (Ix h.1) (Ix h.2)
 inj:=λa b h=>J_ h
theorem OV (p:Option Addr) (n cp:Nat) (h:n<=cp) (w:World)  :Calls prog 128 #[(Value.slice p n cp)] w (Av w (Value.slice p n n)):=by
 refine Ag (args:=[(Value.slice p n cp)]) func128 O O (Ab O) (AF.subF (sL [0] O) (q4 (AO O (AE.nil (q2 ?_)))))
 refine AR O (AR O (AI (v:=(vN n)) (AG O underlying37) O (AR O (AI (v:=(vN n)) (AG O underlying37) O (AI (v:=(Value.slice p n n)) (Di (m:=n) O O O underlying37 sizeOf110 Z) O ?_)))))
 exact AO O (AE.nil (AC.subF (sL [2] O) (AC.then_ (AF.ret (AT O (Ak (v:=(Value.slice p n n)) O) (λw hw=>⟨rfl,hw.out⟩))))))
theorem Jc (x0:E4):Instr.fill (λi=>some (i*4,4)) ((Array.range (1*4)).map ((Value.agg (B9 (⟨0,0,0,0⟩:E4)).toArray).cells[·%(Value.agg (B9 (⟨0,0,0,0⟩:E4)).toArray).cells.size]!)) [(0,.agg (B9 x0).toArray)]=some (B9 x0).toArray:=by kernel_rfl
set_option maxHeartbeats 4000000 in
theorem Og (ts:List (Nat×Nat×Nat)) (x:RX (rowsL An ts) ts.length) (N:Nat) (hn:CN N ts=true) (hN:N<=4611686018427387904) (hl:ts.length<=1000000000) (w:World) {S:Nat->Prop} (hx:Ro S w x):Calls prog 49 #[(Value.slice x.p ts.length x.c)] w (Bb (RX (rowsL B9 (Bq ts)) (Bq ts).length) S w):=by
 have lx:=EA (W:=w) hx
 refine BF (args:=[(Value.slice x.p ts.length x.c)]) (L:=[AZ x.p (rowsL An ts)]) func49 O O (Ab O) (EB hx BR) (AF.subF (sL [0] O) (q4 (AO O (AE.nil (q2 ?_)))))
 refine AE.makeMap Dv Mw (AM O) O λb1=>AO O (q6 (sL [0,2,3] O) (q4 (AR O (AI (v:=(vN ts.length)) (AG O underlying28) O ?_))))
 refine AR O (AE.nil (AC.subF (sL [2,3,16,17,18] O) (AC.then_ (AF.block ?_))))
 refine AF.lp1 (tg λ(t:Nat)=>t<=ts.length) (tg λ(t:Nat)=>[(2,(Value.slice none 0 0)),(3,(Value.map (some b1))),(16,(Value.slice x.p ts.length x.c)),(17,(vN ts.length)),(18,(vN t))]) (tg λ(t:Nat)=>[CD b1 Dv Mw (Ck ts (3*t+0)),AZ x.p (rowsL An ts)]) (tg λ(t:Nat)=>ts.length-t) 0 (Nat.zero_le _) (sF O) sr (λt hJ=>?_)
 have ht:=hJ
 refine q4 (AI (Am (c:=(decide (t<ts.length))) O O (C6 (a:=t) (b:=ts.length))) O (AE.nil (q1 ?_)))
 refine AF.cond O (λhc0=>?_) (λhc0=>?_)
 ·replace hc0:=of_decide_eq_true hc0
  obtain ⟨T,hT⟩:∃q,q=ts.getD t (0,0,0):=⟨_,rfl⟩
  obtain ⟨g1,g2,g3⟩:=C4 (CU hn hc0)
  rw [<-hT] at g1 g2 g3
  refine AF.skip (q1 (AF.block (q4 (AR O (AI (v:=(pP (pB x.p) (pO x.p+t*3))) (AQ (j:=t) O O x.ok underlying28 sizeOf76 O Z) O ?_)))))
  refine AI (v:=(aG (An (ts.getD t ((0,0,0):Nat×Nat×Nat))))) (AW (vs:=An (ts.getD t ((0,0,0):Nat×Nat×Nat))) (i:=1) O O (BQ.ne x.ok Z) Ej (Aw Ar _ _ _ Z) (Ar _)) O (AE.retell (k:=22) (u:=(aG (An T))) O (by rw [hT]) (al Nc O λb2=>AO O (Aq O sizeOf76 O (q3 (sL [2,3,16,17,18,5,4] O) ?_))))
  refine AR O (AE.nil (AC.then_ (AF.block (AF.unroll 4 (GC.step ?_)))))
  refine q4 (AI (Am (c:=true) O O (by decide)) O (AE.nil (q1 (AF.cond_true O (AF.skip ?_)))))
  refine q1 (AF.block (q4 (AR O (AO O (q6 (sL [2,3,16,17,18,5,4,23,6] O) ?_)))))
  refine Cu [(0,true),(1,true),(2,true),(3,true),(4,true),(5,true),(6,true),(7,true),(8,true),(9,true)] sr (Bf O (Ax (v:=(pP b2 0)) O (AD (j:=0) O O underlying76 sizeOf3 O (by decide) O) (Bj 0 (vN T.1) Bm O (Bf O (Ax O (AY (c:=(1:Int)) O O (by decide)) ?_)))))
  refine Ax O (CC (c:=(1:Int)) O O (by decide) (by decide)) (Ax (v:=(pP b2 1)) O (AD (j:=1) O O underlying76 sizeOf3 O (by decide) O) (Bj 0 (vN T.2.1) Bm O (Ev O (Ev O (AV.nil ?_)))))
  refine AC.subF (sL [2,3,16,17,18,5,4,23,7,8] O) (q2 (AR O (AR O (AI (GL (c:=((min T.1 T.2.1:Nat):Int)) O O (by split<;>omega)) O (AR O ?_)))))
  refine AR O (AI (Fu (c:=((max T.1 T.2.1:Nat):Int)) O O (by split<;>omega)) O (AI (v:=(aG ([(vN (min T.1 T.2.1)),(vN (max T.1 T.2.1))]))) (Ad (zs:=Az ((0,0):P2)) (vs:=[(vN (min T.1 T.2.1)),(vN (max T.1 T.2.1))]) (pv:=[(0,(vN (min T.1 T.2.1))),(1,(vN (max T.1 T.2.1)))]) (places:=[(0,1),(1,1)]) zeroValue200 underlying200 (λw=>by simp [sizeOf3]) O O) O (al Sh O λb3=>Aq O sizeOf200 O (q3 (sL [2,3,16,17,18,5,4,23,7,8,9] O) ?_))))
  refine AR O (A6 0 Mk O (AI (v:=(Value.tuple #[(aG (B9 ((Ae (Ck ts (3*t+0)) ((min T.1 T.2.1,max T.1 T.2.1):P2)).getD (⟨0,0,0,0⟩:E4)))),(Value.bool ((Ae (Ck ts (3*t+0)) ((min T.1 T.2.1,max T.1 T.2.1):P2)).isSome))])) (Ce HI 2 (eV:=Mw) (kvs:=Ck ts (3*t+0)) (x:=((min T.1 T.2.1,max T.1 T.2.1):P2)) (z0:=(⟨0,0,0,0⟩:E4)) (co:=true) O O underlying198 zeroValue110 O (Fw hn hN _ Z) (Bn Z Z)) O (AR O (AI (AU (v:=(aG (B9 ((Ae (Ck ts (3*t+0)) ((min T.1 T.2.1,max T.1 T.2.1):P2)).getD (⟨0,0,0,0⟩:E4))))) O O) O (AI (AU (v:=(Value.bool ((Ae (Ck ts (3*t+0)) ((min T.1 T.2.1,max T.1 T.2.1):P2)).isSome))) O O) O ?_)))))
  refine al JK O λb4=>Aq O sizeOf110 O (AO O (q6 (sL [2,3,16,17,18,5,4,23,7,8,9,10,11] O) (q4 (AR O ?_))))
  refine AI (Bg (c:=(!((Ae (Ck ts (3*t+0)) ((min T.1 T.2.1,max T.1 T.2.1):P2)).isSome))) O O) O (AE.nil (AC.subF (sL [2,3,16,17,18,5,4,23,7,8,9,10,48] O) (AC.then_ ?_)))
  refine AF.jn1 (tg λ(e00:E4)=>e00=(Ae (Ck ts (3*t+0)) (min T.1 T.2.1,max T.1 T.2.1)).getD (I4 (min T.1 T.2.1,max T.1 T.2.1))) (tg λ(e00:E4)=>[(2,(Value.slice none 0 0)),(3,(Value.map (some b1))),(16,(Value.slice x.p ts.length x.c)),(17,(vN ts.length)),(18,(vN t)),(5,(pP b2 0)),(4,(vN t)),(23,(vI 0)),(7,(vN T.1)),(8,(vN T.2.1)),(9,(pP b3 0)),(10,(pP b4 0))]) (tg λ(e00:E4)=>[Af b4 110 (B9 e00),Af b3 200 ([(vN (min T.1 T.2.1)),(vN (max T.1 T.2.1))]),Af b2 76 (An T),CD b1 Dv Mw (Ck ts (3*t+0)),AZ x.p (rowsL An ts)]) ?_ ?_
  ·skip
   refine AF.cond O (λhc2=>?_) (λhc2=>?_)
   ·simp only [Bool.and_eq_true,Bool.or_eq_true,Bool.and_eq_false_iff,Bool.or_eq_false_iff,Bool.not_eq_true',Bool.not_eq_false',decide_eq_true_eq,decide_eq_false_iff_not] at hc2
    refine AF.region (AI (v:=(pP b3 0)) (AA O underlying200 O sizeOf3 O) O (BK 1 (vN (min T.1 T.2.1)) Bm O (AI (v:=(pP b3 1)) (AA O underlying200 O sizeOf3 O) O (BK 1 (vN (max T.1 T.2.1)) Bm O (AI (v:=(aG ([(vN (min T.1 T.2.1)),(vN (max T.1 T.2.1)),(vI (-1:Int)),(vI (-1:Int))]))) (Ad (zs:=B9 (⟨0,0,0,0⟩:E4)) (vs:=[(vN (min T.1 T.2.1)),(vN (max T.1 T.2.1)),(vI (-1:Int)),(vI (-1:Int))]) (pv:=[(0,(vN (min T.1 T.2.1))),(1,(vN (max T.1 T.2.1))),(2,(vI (-1:Int))),(3,(vI (-1:Int)))]) (places:=[(0,1),(1,1),(2,1),(3,1)]) zeroValue110 underlying110 (λw=>by simp [sizeOf3]) O O) O ?_)))))
    exact Aq O sizeOf110 O (AE.nil (AC.subF (sL [2,3,16,17,18,5,4,23,7,8,9,10] O) (AC.join1 (⟨min T.1 T.2.1,max T.1 T.2.1,-1,-1⟩:E4) ((K3 (k:=(min T.1 T.2.1,max T.1 T.2.1)) (by simpa using hc2))) (sF O) sr)))
   ·simp only [Bool.and_eq_true,Bool.or_eq_true,Bool.and_eq_false_iff,Bool.or_eq_false_iff,Bool.not_eq_true',Bool.not_eq_false',decide_eq_true_eq,decide_eq_false_iff_not] at hc2
    exact AF.skip (AC.join1 ((Ae (Ck ts (3*t+0)) ((min T.1 T.2.1,max T.1 T.2.1):P2)).getD (⟨0,0,0,0⟩:E4)) ((K1 (by simpa using hc2))) (sF O) sr)
  ·intro e00 hJ
   have he0:=hJ
   refine q1 ?_
   refine AF.jn1 (tg λ(e20:E4)=>e20=Fr e00 t T.1 T.2.1) (tg λ(e20:E4)=>[(2,(Value.slice none 0 0)),(3,(Value.map (some b1))),(16,(Value.slice x.p ts.length x.c)),(17,(vN ts.length)),(18,(vN t)),(5,(pP b2 0)),(4,(vN t)),(23,(vI 0)),(9,(pP b3 0)),(10,(pP b4 0))]) (tg λ(e20:E4)=>[Af b4 110 (B9 e20),Af b3 200 ([(vN (min T.1 T.2.1)),(vN (max T.1 T.2.1))]),Af b2 76 (An T),CD b1 Dv Mw (Ck ts (3*t+0)),AZ x.p (rowsL An ts)]) ?_ ?_
   ·skip
    refine AF.block (q4 (AR O (AR O (AI (Am (c:=(decide (T.1<T.2.1))) O O (C6 (a:=T.1) (b:=T.2.1))) O (AR O ?_)))))
    refine AE.mid (FM:=[(2,(Value.slice none 0 0)),(3,(Value.map (some b1))),(16,(Value.slice x.p ts.length x.c)),(17,(vN ts.length)),(18,(vN t)),(5,(pP b2 0)),(4,(vN t)),(23,(vI 0)),(7,(vN T.1)),(8,(vN T.2.1)),(9,(pP b3 0)),(10,(pP b4 0)),(55,(vN T.1)),(56,(vN T.2.1)),(57,(Value.bool (decide (T.1<T.2.1)))),(58,(Value.bool (decide (T.1<T.2.1)))),(62,(Value.bool ((decide (T.1<T.2.1))&&(decide (e00.l=(-1:Int))))))]) (LM:=[Af b4 110 (B9 e00),Af b3 200 ([(vN (min T.1 T.2.1)),(vN (max T.1 T.2.1))]),Af b2 76 (An T),CD b1 Dv Mw (Ck ts (3*t+0)),AZ x.p (rowsL An ts)]) 4 ?_ ?_
    ·rcases Bool.eq_false_or_eq_true (decide (T.1<T.2.1)) with hg1|hg1
     ·skip
      refine AE.retell (k:=58) (u:=Value.bool true) O (by rw [hg1]) ?_
      have hg1':=hg1
      replace hg1':=of_decide_eq_true hg1'
      exact AE.step (v:=(pP b4 2)) (AB O) (AA O underlying110 O sizeOf3 O) O (Ab O) (AE.step (v:=(vI e00.l)) (AB O) (AK (i:=0) (v:=(vI e00.l)) O O Bm.a O) O (Ab O) (AE.step (v:=(Value.bool (decide (e00.l=(-1:Int))))) (AB O) (BS (c:=(decide (e00.l=(-1:Int)))) O O O) O (Ab O) (AI (v:=(Value.bool (decide (e00.l=(-1:Int))))) (Ah O O) O (AE.nil (AC.mid (sS O (sS O (sS O (sS O (sS O (sS O (sS O (sS O (sS O (sS O (sS O (sS O (sS O (sS O (sS O (sS (by first|rfl|(rw [hg1];rfl)|rw [hg1]) (sS (by first|rfl|(rw [hg1];rfl)|rw [hg1]) (sN)))))))))))))))))) (List.Sublist.refl _))))))
     ·skip
      refine AE.retell (k:=58) (u:=Value.bool false) O (by rw [hg1]) ?_
      have hg1':=hg1
      replace hg1':=of_decide_eq_false hg1'
      exact AE.skip (AL O) O (Ab O) (AE.skip (AL O) O (Ab O) (AE.skip (AL O) O (Ab O) (AI (v:=(Value.bool false)) (AS O O) O (AE.nil (AC.mid (sS O (sS O (sS O (sS O (sS O (sS O (sS O (sS O (sS O (sS O (sS O (sS O (sS O (sS O (sS O (sS (by first|rfl|(rw [hg1];rfl)|rw [hg1]) (sS (by first|rfl|(rw [hg1];rfl)|rw [hg1]) (sN)))))))))))))))))) (List.Sublist.refl _))))))
    refine AO O (AE.nil (AC.subF (sL [2,3,16,17,18,5,4,23,7,8,9,10,54] O) (AC.then_ ?_)))
    refine AF.cond O (λhc3=>?_) (λhc3=>?_)
    ·simp only [Bool.and_eq_true,Bool.or_eq_true,Bool.and_eq_false_iff,Bool.or_eq_false_iff,Bool.not_eq_true',Bool.not_eq_false',decide_eq_true_eq,decide_eq_false_iff_not] at hc3
     refine AF.region (AR O (AI (v:=(pP b4 2)) (AA O underlying110 O sizeOf3 O) O (Eu 0 (off:=2) (vs:=[(vN t)]) (cs':=[(vN e00.a),(vN e00.b),(vN t),(vI e00.r)]) (AM O) O sizeOf3 O (AE.nil (AC.subF (sL [2,3,16,17,18,5,4,23,7,8,9,10] O) ?_)))))
     exact AC.in_normal (AC.join1 (⟨e00.a,e00.b,((t:Nat):Int),e00.r⟩:E4) ((by unfold Fr;rw [if_pos Z])) (sF O) sr)
    ·simp only [Bool.and_eq_true,Bool.or_eq_true,Bool.and_eq_false_iff,Bool.or_eq_false_iff,Bool.not_eq_true',Bool.not_eq_false',decide_eq_true_eq,decide_eq_false_iff_not] at hc3
     refine q4 (AR O (AR O (AI (Cj (c:=(decide (T.2.1<T.1))) O O (C6 (a:=T.2.1) (b:=T.1))) O (AR O ?_))))
     refine AE.mid (FM:=[(2,(Value.slice none 0 0)),(3,(Value.map (some b1))),(16,(Value.slice x.p ts.length x.c)),(17,(vN ts.length)),(18,(vN t)),(5,(pP b2 0)),(4,(vN t)),(23,(vI 0)),(7,(vN T.1)),(8,(vN T.2.1)),(9,(pP b3 0)),(10,(pP b4 0)),(66,(vN T.1)),(67,(vN T.2.1)),(68,(Value.bool (decide (T.2.1<T.1)))),(69,(Value.bool (decide (T.2.1<T.1)))),(73,(Value.bool ((decide (T.2.1<T.1))&&(decide (e00.r=(-1:Int))))))]) (LM:=[Af b4 110 (B9 e00),Af b3 200 ([(vN (min T.1 T.2.1)),(vN (max T.1 T.2.1))]),Af b2 76 (An T),CD b1 Dv Mw (Ck ts (3*t+0)),AZ x.p (rowsL An ts)]) 4 ?_ ?_
     ·rcases Bool.eq_false_or_eq_true (decide (T.2.1<T.1)) with hg2|hg2
      ·skip
       refine AE.retell (k:=69) (u:=Value.bool true) O (by rw [hg2]) ?_
       have hg2':=hg2
       replace hg2':=of_decide_eq_true hg2'
       exact AE.step (v:=(pP b4 3)) (AB O) (AA O underlying110 O sizeOf3 O) O (Ab O) (AE.step (v:=(vI e00.r)) (AB O) (AK (i:=0) (v:=(vI e00.r)) O O Bm.a O) O (Ab O) (AE.step (v:=(Value.bool (decide (e00.r=(-1:Int))))) (AB O) (BS (c:=(decide (e00.r=(-1:Int)))) O O O) O (Ab O) (AI (v:=(Value.bool (decide (e00.r=(-1:Int))))) (Ah O O) O (AE.nil (AC.mid (sS O (sS O (sS O (sS O (sS O (sS O (sS O (sS O (sS O (sS O (sS O (sS O (sS O (sS O (sS O (sS (by first|rfl|(rw [hg2];rfl)|rw [hg2]) (sS (by first|rfl|(rw [hg2];rfl)|rw [hg2]) (sN)))))))))))))))))) (List.Sublist.refl _))))))
      ·skip
       refine AE.retell (k:=69) (u:=Value.bool false) O (by rw [hg2]) ?_
       have hg2':=hg2
       replace hg2':=of_decide_eq_false hg2'
       exact AE.skip (AL O) O (Ab O) (AE.skip (AL O) O (Ab O) (AE.skip (AL O) O (Ab O) (AI (v:=(Value.bool false)) (AS O O) O (AE.nil (AC.mid (sS O (sS O (sS O (sS O (sS O (sS O (sS O (sS O (sS O (sS O (sS O (sS O (sS O (sS O (sS O (sS (by first|rfl|(rw [hg2];rfl)|rw [hg2]) (sS (by first|rfl|(rw [hg2];rfl)|rw [hg2]) (sN)))))))))))))))))) (List.Sublist.refl _))))))
     refine AO O (AE.nil (AC.subF (sL [2,3,16,17,18,5,4,23,7,8,9,10,65] O) (AC.then_ ?_)))
     refine AF.cond O (λhc4=>?_) (λhc4=>?_)
     ·simp only [Bool.and_eq_true,Bool.or_eq_true,Bool.and_eq_false_iff,Bool.or_eq_false_iff,Bool.not_eq_true',Bool.not_eq_false',decide_eq_true_eq,decide_eq_false_iff_not] at hc4
      refine AF.region (AR O (AI (v:=(pP b4 3)) (AA O underlying110 O sizeOf3 O) O (Eu 0 (off:=3) (vs:=[(vN t)]) (cs':=[(vN e00.a),(vN e00.b),(vI e00.l),(vN t)]) (AM O) O sizeOf3 O (AE.nil (AC.subF (sL [2,3,16,17,18,5,4,23,7,8,9,10] O) ?_)))))
      exact AC.in_normal (AC.join1 (⟨e00.a,e00.b,e00.l,((t:Nat):Int)⟩:E4) ((by unfold Fr;rw [if_neg Z,if_pos Z])) (sF O) sr)
     ·simp only [Bool.and_eq_true,Bool.or_eq_true,Bool.and_eq_false_iff,Bool.or_eq_false_iff,Bool.not_eq_true',Bool.not_eq_false',decide_eq_true_eq,decide_eq_false_iff_not] at hc4
      exact AF.skip (AC.in_normal (AC.join1 e00 ((by unfold Fr;rw [if_neg Z,if_neg Z])) (sF O) sr))
   ·intro e20 hJ
    have hu0:=hJ
    refine AC.then_ (AF.region (AR O (A6 1 Mk O (A6 0 IC O (AE.mapUpdate HI 3 (kvs:=Ck ts (3*t+0)) (x:=((min T.1 T.2.1,max T.1 T.2.1):P2)) (y:=e20) (AM O) O O O underlying198 O (Fw hn hN _ Z) (Bn Z Z) ?_)))))
    rw [show BU (Ck ts (3*t+0)) ((min T.1 T.2.1,max T.1 T.2.1):P2) e20=Ck ts (3*t+1) from by rw [hu0,he0,hT];exact (LJ (ts:=ts) (t:=t) (i:=0) Z).symm]
    refine AE.nil (AC.subF (sL [2,3,16,17,18,5,4,23,9,10] O) (AC.in_normal (AC.then_ (AF.region (AI (AY (c:=(1:Int)) O O (by decide)) O ?_)))))
    refine AR O (AE.nil (AC.subF (sL [2,3,16,17,18,5,4,23,9,10] O) (AC.again (GC.step (q4 ?_)))))
    refine AI (Am (c:=true) O O (by decide)) O (AE.nil (q1 (AF.cond_true O (AF.skip (q1 ?_)))))
    refine AF.block (q4 (AR O (AO O (q6 (sL [2,3,16,17,18,5,4,23,9,10,6] O) (Cu [(0,true),(1,true),(2,true),(3,true),(4,true),(5,true),(6,true),(7,true),(8,true),(9,true)] sr ?_)))))
    refine Bf O (Ax (v:=(pP b2 1)) O (AD (j:=1) O O underlying76 sizeOf3 O (by decide) O) (Bj 2 (vN T.2.1) Bm O (Bf O (Ax O (AY (c:=(2:Int)) O O (by decide)) (Ax O (CC (c:=(2:Int)) O O (by decide) (by decide)) ?_)))))
    refine Ax (v:=(pP b2 2)) O (AD (j:=2) O O underlying76 sizeOf3 O (by decide) O) (Bj 2 (vN T.2.2) Bm O (Ev O (Ev O (AV.nil (AC.subF (sL [2,3,16,17,18,5,4,23,9,10,7,8] O) ?_)))))
    refine q2 (AR O (AR O (AI (GL (c:=((min T.2.1 T.2.2:Nat):Int)) O O (by split<;>omega)) O (AR O (AR O ?_)))))
    refine AI (Fu (c:=((max T.2.1 T.2.2:Nat):Int)) O O (by split<;>omega)) O (AI (v:=(aG ([(vN (min T.2.1 T.2.2)),(vN (max T.2.1 T.2.2))]))) (Ad (zs:=Az ((0,0):P2)) (vs:=[(vN (min T.2.1 T.2.2)),(vN (max T.2.1 T.2.2))]) (pv:=[(0,(vN (min T.2.1 T.2.2))),(1,(vN (max T.2.1 T.2.2)))]) (places:=[(0,1),(1,1)]) zeroValue200 underlying200 (λw=>by simp [sizeOf3]) O O) O (al Sh O λb5=>Aq O sizeOf200 O (q3 (sL [2,3,16,17,18,5,4,23,9,10,7,8] O) (AR O ?_))))
    refine A6 0 Mk O (AI (v:=(Value.tuple #[(aG (B9 ((Ae (Ck ts (3*t+1)) ((min T.2.1 T.2.2,max T.2.1 T.2.2):P2)).getD (⟨0,0,0,0⟩:E4)))),(Value.bool ((Ae (Ck ts (3*t+1)) ((min T.2.1 T.2.2,max T.2.1 T.2.2):P2)).isSome))])) (Ce HI 4 (eV:=Mw) (kvs:=Ck ts (3*t+1)) (x:=((min T.2.1 T.2.2,max T.2.1 T.2.2):P2)) (z0:=(⟨0,0,0,0⟩:E4)) (co:=true) O O underlying198 zeroValue110 O (Fw hn hN _ Z) (Bn Z Z)) O (AR O (AI (AU (v:=(aG (B9 ((Ae (Ck ts (3*t+1)) ((min T.2.1 T.2.2,max T.2.1 T.2.2):P2)).getD (⟨0,0,0,0⟩:E4))))) O O) O (AI (AU (v:=(Value.bool ((Ae (Ck ts (3*t+1)) ((min T.2.1 T.2.2,max T.2.1 T.2.2):P2)).isSome))) O O) O (al JK O λb6=>?_)))))
    refine Aq O sizeOf110 O (AO O (q6 (sL [2,3,16,17,18,5,4,23,9,10,7,8,11] O) (q4 (AR O (AI (Bg (c:=(!((Ae (Ck ts (3*t+1)) ((min T.2.1 T.2.2,max T.2.1 T.2.2):P2)).isSome))) O O) O ?_)))))
    refine AE.nil (AC.subF (sL [2,3,16,17,18,5,4,23,9,10,7,8,48] O) (AC.then_ ?_))
    refine AF.jn1 (tg λ(e01:E4)=>e01=(Ae (Ck ts (3*t+1)) (min T.2.1 T.2.2,max T.2.1 T.2.2)).getD (I4 (min T.2.1 T.2.2,max T.2.1 T.2.2))) (tg λ(e01:E4)=>[(2,(Value.slice none 0 0)),(3,(Value.map (some b1))),(16,(Value.slice x.p ts.length x.c)),(17,(vN ts.length)),(18,(vN t)),(5,(pP b2 0)),(4,(vN t)),(23,(vI 1)),(9,(pP b5 0)),(10,(pP b6 0)),(7,(vN T.2.1)),(8,(vN T.2.2))]) (tg λ(e01:E4)=>[Af b6 110 (B9 e01),Af b5 200 ([(vN (min T.2.1 T.2.2)),(vN (max T.2.1 T.2.2))]),Af b4 110 (B9 e20),Af b3 200 ([(vN (min T.1 T.2.1)),(vN (max T.1 T.2.1))]),Af b2 76 (An T),CD b1 Dv Mw (Ck ts (3*t+1)),AZ x.p (rowsL An ts)]) ?_ ?_
    ·skip
     refine AF.cond O (λhc2=>?_) (λhc2=>?_)
     ·simp only [Bool.and_eq_true,Bool.or_eq_true,Bool.and_eq_false_iff,Bool.or_eq_false_iff,Bool.not_eq_true',Bool.not_eq_false',decide_eq_true_eq,decide_eq_false_iff_not] at hc2
      refine AF.region (AI (v:=(pP b5 0)) (AA O underlying200 O sizeOf3 O) O (BK 1 (vN (min T.2.1 T.2.2)) Bm O (AI (v:=(pP b5 1)) (AA O underlying200 O sizeOf3 O) O (BK 1 (vN (max T.2.1 T.2.2)) Bm O (AI (v:=(aG ([(vN (min T.2.1 T.2.2)),(vN (max T.2.1 T.2.2)),(vI (-1:Int)),(vI (-1:Int))]))) (Ad (zs:=B9 (⟨0,0,0,0⟩:E4)) (vs:=[(vN (min T.2.1 T.2.2)),(vN (max T.2.1 T.2.2)),(vI (-1:Int)),(vI (-1:Int))]) (pv:=[(0,(vN (min T.2.1 T.2.2))),(1,(vN (max T.2.1 T.2.2))),(2,(vI (-1:Int))),(3,(vI (-1:Int)))]) (places:=[(0,1),(1,1),(2,1),(3,1)]) zeroValue110 underlying110 (λw=>by simp [sizeOf3]) O O) O ?_)))))
      exact Aq O sizeOf110 O (AE.nil (AC.subF (sL [2,3,16,17,18,5,4,23,9,10,7,8] O) (AC.join1 (⟨min T.2.1 T.2.2,max T.2.1 T.2.2,-1,-1⟩:E4) ((K3 (k:=(min T.2.1 T.2.2,max T.2.1 T.2.2)) (by simpa using hc2))) (sF O) sr)))
     ·simp only [Bool.and_eq_true,Bool.or_eq_true,Bool.and_eq_false_iff,Bool.or_eq_false_iff,Bool.not_eq_true',Bool.not_eq_false',decide_eq_true_eq,decide_eq_false_iff_not] at hc2
      exact AF.skip (AC.join1 ((Ae (Ck ts (3*t+1)) ((min T.2.1 T.2.2,max T.2.1 T.2.2):P2)).getD (⟨0,0,0,0⟩:E4)) ((K1 (by simpa using hc2))) (sF O) sr)
    ·intro e01 hJ
     have he1:=hJ
     refine q1 ?_
     refine AF.jn1 (tg λ(e21:E4)=>e21=Fr e01 t T.2.1 T.2.2) (tg λ(e21:E4)=>[(2,(Value.slice none 0 0)),(3,(Value.map (some b1))),(16,(Value.slice x.p ts.length x.c)),(17,(vN ts.length)),(18,(vN t)),(5,(pP b2 0)),(4,(vN t)),(23,(vI 1)),(9,(pP b5 0)),(10,(pP b6 0))]) (tg λ(e21:E4)=>[Af b6 110 (B9 e21),Af b5 200 ([(vN (min T.2.1 T.2.2)),(vN (max T.2.1 T.2.2))]),Af b4 110 (B9 e20),Af b3 200 ([(vN (min T.1 T.2.1)),(vN (max T.1 T.2.1))]),Af b2 76 (An T),CD b1 Dv Mw (Ck ts (3*t+1)),AZ x.p (rowsL An ts)]) ?_ ?_
     ·skip
      refine AF.block (q4 (AR O (AR O (AI (Am (c:=(decide (T.2.1<T.2.2))) O O (C6 (a:=T.2.1) (b:=T.2.2))) O (AR O ?_)))))
      refine AE.mid (FM:=[(2,(Value.slice none 0 0)),(3,(Value.map (some b1))),(16,(Value.slice x.p ts.length x.c)),(17,(vN ts.length)),(18,(vN t)),(5,(pP b2 0)),(4,(vN t)),(23,(vI 1)),(9,(pP b5 0)),(10,(pP b6 0)),(7,(vN T.2.1)),(8,(vN T.2.2)),(55,(vN T.2.1)),(56,(vN T.2.2)),(57,(Value.bool (decide (T.2.1<T.2.2)))),(58,(Value.bool (decide (T.2.1<T.2.2)))),(62,(Value.bool ((decide (T.2.1<T.2.2))&&(decide (e01.l=(-1:Int))))))]) (LM:=[Af b6 110 (B9 e01),Af b5 200 ([(vN (min T.2.1 T.2.2)),(vN (max T.2.1 T.2.2))]),Af b4 110 (B9 e20),Af b3 200 ([(vN (min T.1 T.2.1)),(vN (max T.1 T.2.1))]),Af b2 76 (An T),CD b1 Dv Mw (Ck ts (3*t+1)),AZ x.p (rowsL An ts)]) 4 ?_ ?_
      ·rcases Bool.eq_false_or_eq_true (decide (T.2.1<T.2.2)) with hg3|hg3
       ·skip
        refine AE.retell (k:=58) (u:=Value.bool true) O (by rw [hg3]) ?_
        have hg3':=hg3
        replace hg3':=of_decide_eq_true hg3'
        exact AE.step (v:=(pP b6 2)) (AB O) (AA O underlying110 O sizeOf3 O) O (Ab O) (AE.step (v:=(vI e01.l)) (AB O) (AK (i:=0) (v:=(vI e01.l)) O O Bm.a O) O (Ab O) (AE.step (v:=(Value.bool (decide (e01.l=(-1:Int))))) (AB O) (BS (c:=(decide (e01.l=(-1:Int)))) O O O) O (Ab O) (AI (v:=(Value.bool (decide (e01.l=(-1:Int))))) (Ah O O) O (AE.nil (AC.mid (sS O (sS O (sS O (sS O (sS O (sS O (sS O (sS O (sS O (sS O (sS O (sS O (sS O (sS O (sS O (sS (by first|rfl|(rw [hg3];rfl)|rw [hg3]) (sS (by first|rfl|(rw [hg3];rfl)|rw [hg3]) (sN)))))))))))))))))) (List.Sublist.refl _))))))
       ·skip
        refine AE.retell (k:=58) (u:=Value.bool false) O (by rw [hg3]) ?_
        have hg3':=hg3
        replace hg3':=of_decide_eq_false hg3'
        exact AE.skip (AL O) O (Ab O) (AE.skip (AL O) O (Ab O) (AE.skip (AL O) O (Ab O) (AI (v:=(Value.bool false)) (AS O O) O (AE.nil (AC.mid (sS O (sS O (sS O (sS O (sS O (sS O (sS O (sS O (sS O (sS O (sS O (sS O (sS O (sS O (sS O (sS (by first|rfl|(rw [hg3];rfl)|rw [hg3]) (sS (by first|rfl|(rw [hg3];rfl)|rw [hg3]) (sN)))))))))))))))))) (List.Sublist.refl _))))))
      refine AO O (AE.nil (AC.subF (sL [2,3,16,17,18,5,4,23,9,10,7,8,54] O) (AC.then_ ?_)))
      refine AF.cond O (λhc3=>?_) (λhc3=>?_)
      ·simp only [Bool.and_eq_true,Bool.or_eq_true,Bool.and_eq_false_iff,Bool.or_eq_false_iff,Bool.not_eq_true',Bool.not_eq_false',decide_eq_true_eq,decide_eq_false_iff_not] at hc3
       refine AF.region (AR O (AI (v:=(pP b6 2)) (AA O underlying110 O sizeOf3 O) O (Eu 0 (off:=2) (vs:=[(vN t)]) (cs':=[(vN e01.a),(vN e01.b),(vN t),(vI e01.r)]) (AM O) O sizeOf3 O (AE.nil (AC.subF (sL [2,3,16,17,18,5,4,23,9,10,7,8] O) ?_)))))
       exact AC.in_normal (AC.join1 (⟨e01.a,e01.b,((t:Nat):Int),e01.r⟩:E4) ((by unfold Fr;rw [if_pos Z])) (sF O) sr)
      ·simp only [Bool.and_eq_true,Bool.or_eq_true,Bool.and_eq_false_iff,Bool.or_eq_false_iff,Bool.not_eq_true',Bool.not_eq_false',decide_eq_true_eq,decide_eq_false_iff_not] at hc3
       refine q4 (AR O (AR O (AI (Cj (c:=(decide (T.2.2<T.2.1))) O O (C6 (a:=T.2.2) (b:=T.2.1))) O (AR O ?_))))
       refine AE.mid (FM:=[(2,(Value.slice none 0 0)),(3,(Value.map (some b1))),(16,(Value.slice x.p ts.length x.c)),(17,(vN ts.length)),(18,(vN t)),(5,(pP b2 0)),(4,(vN t)),(23,(vI 1)),(9,(pP b5 0)),(10,(pP b6 0)),(7,(vN T.2.1)),(8,(vN T.2.2)),(66,(vN T.2.1)),(67,(vN T.2.2)),(68,(Value.bool (decide (T.2.2<T.2.1)))),(69,(Value.bool (decide (T.2.2<T.2.1)))),(73,(Value.bool ((decide (T.2.2<T.2.1))&&(decide (e01.r=(-1:Int))))))]) (LM:=[Af b6 110 (B9 e01),Af b5 200 ([(vN (min T.2.1 T.2.2)),(vN (max T.2.1 T.2.2))]),Af b4 110 (B9 e20),Af b3 200 ([(vN (min T.1 T.2.1)),(vN (max T.1 T.2.1))]),Af b2 76 (An T),CD b1 Dv Mw (Ck ts (3*t+1)),AZ x.p (rowsL An ts)]) 4 ?_ ?_
       ·rcases Bool.eq_false_or_eq_true (decide (T.2.2<T.2.1)) with hg4|hg4
        ·skip
         refine AE.retell (k:=69) (u:=Value.bool true) O (by rw [hg4]) ?_
         have hg4':=hg4
         replace hg4':=of_decide_eq_true hg4'
         exact AE.step (v:=(pP b6 3)) (AB O) (AA O underlying110 O sizeOf3 O) O (Ab O) (AE.step (v:=(vI e01.r)) (AB O) (AK (i:=0) (v:=(vI e01.r)) O O Bm.a O) O (Ab O) (AE.step (v:=(Value.bool (decide (e01.r=(-1:Int))))) (AB O) (BS (c:=(decide (e01.r=(-1:Int)))) O O O) O (Ab O) (AI (v:=(Value.bool (decide (e01.r=(-1:Int))))) (Ah O O) O (AE.nil (AC.mid (sS O (sS O (sS O (sS O (sS O (sS O (sS O (sS O (sS O (sS O (sS O (sS O (sS O (sS O (sS O (sS (by first|rfl|(rw [hg4];rfl)|rw [hg4]) (sS (by first|rfl|(rw [hg4];rfl)|rw [hg4]) (sN)))))))))))))))))) (List.Sublist.refl _))))))
        ·skip
         refine AE.retell (k:=69) (u:=Value.bool false) O (by rw [hg4]) ?_
         have hg4':=hg4
         replace hg4':=of_decide_eq_false hg4'
         exact AE.skip (AL O) O (Ab O) (AE.skip (AL O) O (Ab O) (AE.skip (AL O) O (Ab O) (AI (v:=(Value.bool false)) (AS O O) O (AE.nil (AC.mid (sS O (sS O (sS O (sS O (sS O (sS O (sS O (sS O (sS O (sS O (sS O (sS O (sS O (sS O (sS O (sS (by first|rfl|(rw [hg4];rfl)|rw [hg4]) (sS (by first|rfl|(rw [hg4];rfl)|rw [hg4]) (sN)))))))))))))))))) (List.Sublist.refl _))))))
       refine AO O (AE.nil (AC.subF (sL [2,3,16,17,18,5,4,23,9,10,7,8,65] O) (AC.then_ ?_)))
       refine AF.cond O (λhc4=>?_) (λhc4=>?_)
       ·simp only [Bool.and_eq_true,Bool.or_eq_true,Bool.and_eq_false_iff,Bool.or_eq_false_iff,Bool.not_eq_true',Bool.not_eq_false',decide_eq_true_eq,decide_eq_false_iff_not] at hc4
        refine AF.region (AR O (AI (v:=(pP b6 3)) (AA O underlying110 O sizeOf3 O) O (Eu 0 (off:=3) (vs:=[(vN t)]) (cs':=[(vN e01.a),(vN e01.b),(vI e01.l),(vN t)]) (AM O) O sizeOf3 O (AE.nil (AC.subF (sL [2,3,16,17,18,5,4,23,9,10,7,8] O) ?_)))))
        exact AC.in_normal (AC.join1 (⟨e01.a,e01.b,e01.l,((t:Nat):Int)⟩:E4) ((by unfold Fr;rw [if_neg Z,if_pos Z])) (sF O) sr)
       ·simp only [Bool.and_eq_true,Bool.or_eq_true,Bool.and_eq_false_iff,Bool.or_eq_false_iff,Bool.not_eq_true',Bool.not_eq_false',decide_eq_true_eq,decide_eq_false_iff_not] at hc4
        exact AF.skip (AC.in_normal (AC.join1 e01 ((by unfold Fr;rw [if_neg Z,if_neg Z])) (sF O) sr))
     ·intro e21 hJ
      have hu1:=hJ
      refine AC.then_ (AF.region (AR O (A6 1 Mk O (A6 0 IC O (AE.mapUpdate HI 5 (kvs:=Ck ts (3*t+1)) (x:=((min T.2.1 T.2.2,max T.2.1 T.2.2):P2)) (y:=e21) (AM O) O O O underlying198 O (Fw hn hN _ Z) (Bn Z Z) ?_)))))
      rw [show BU (Ck ts (3*t+1)) ((min T.2.1 T.2.2,max T.2.1 T.2.2):P2) e21=Ck ts (3*t+2) from by rw [hu1,he1,hT];exact (LJ (ts:=ts) (t:=t) (i:=1) Z).symm]
      refine AE.nil (AC.subF (sL [2,3,16,17,18,5,4,23,9,10] O) (AC.in_normal (AC.then_ (AF.region (AI (AY (c:=(2:Int)) O O (by decide)) O ?_)))))
      refine AR O (AE.nil (AC.subF (sL [2,3,16,17,18,5,4,23,9,10] O) (AC.again (GC.step (q4 ?_)))))
      refine AI (Am (c:=true) O O (by decide)) O (AE.nil (q1 (AF.cond_true O (AF.skip (q1 ?_)))))
      refine AF.block (q4 (AR O (AO O (q6 (sL [2,3,16,17,18,5,4,23,9,10,6] O) (Cu [(0,true),(1,true),(2,true),(3,true),(4,true),(5,true),(6,true),(7,true),(8,true),(9,true)] sr ?_)))))
      refine Bf O (Ax (v:=(pP b2 2)) O (AD (j:=2) O O underlying76 sizeOf3 O (by decide) O) (Bj 4 (vN T.2.2) Bm O (Bf O (Ax O (AY (c:=(3:Int)) O O (by decide)) (Ax O (CC (c:=(0:Int)) O O (by decide) (by decide)) ?_)))))
      refine Ax (v:=(pP b2 0)) O (AD (j:=0) O O underlying76 sizeOf3 O (by decide) O) (Bj 4 (vN T.1) Bm O (Ev O (Ev O (AV.nil (AC.subF (sL [2,3,16,17,18,5,4,23,9,10,7,8] O) ?_)))))
      refine q2 (AR O (AR O (AI (GL (c:=((min T.2.2 T.1:Nat):Int)) O O (by split<;>omega)) O (AR O (AR O ?_)))))
      refine AI (Fu (c:=((max T.2.2 T.1:Nat):Int)) O O (by split<;>omega)) O (AI (v:=(aG ([(vN (min T.2.2 T.1)),(vN (max T.2.2 T.1))]))) (Ad (zs:=Az ((0,0):P2)) (vs:=[(vN (min T.2.2 T.1)),(vN (max T.2.2 T.1))]) (pv:=[(0,(vN (min T.2.2 T.1))),(1,(vN (max T.2.2 T.1)))]) (places:=[(0,1),(1,1)]) zeroValue200 underlying200 (λw=>by simp [sizeOf3]) O O) O (al Sh O λb7=>Aq O sizeOf200 O (q3 (sL [2,3,16,17,18,5,4,23,9,10,7,8] O) (AR O ?_))))
      refine A6 0 Mk O (AI (v:=(Value.tuple #[(aG (B9 ((Ae (Ck ts (3*t+2)) ((min T.2.2 T.1,max T.2.2 T.1):P2)).getD (⟨0,0,0,0⟩:E4)))),(Value.bool ((Ae (Ck ts (3*t+2)) ((min T.2.2 T.1,max T.2.2 T.1):P2)).isSome))])) (Ce HI 6 (eV:=Mw) (kvs:=Ck ts (3*t+2)) (x:=((min T.2.2 T.1,max T.2.2 T.1):P2)) (z0:=(⟨0,0,0,0⟩:E4)) (co:=true) O O underlying198 zeroValue110 O (Fw hn hN _ Z) (Bn Z Z)) O (AR O (AI (AU (v:=(aG (B9 ((Ae (Ck ts (3*t+2)) ((min T.2.2 T.1,max T.2.2 T.1):P2)).getD (⟨0,0,0,0⟩:E4))))) O O) O (AI (AU (v:=(Value.bool ((Ae (Ck ts (3*t+2)) ((min T.2.2 T.1,max T.2.2 T.1):P2)).isSome))) O O) O (al JK O λb8=>?_)))))
      refine Aq O sizeOf110 O (AO O (q6 (sL [2,3,16,17,18,5,4,23,9,10,7,8,11] O) (q4 (AR O (AI (Bg (c:=(!((Ae (Ck ts (3*t+2)) ((min T.2.2 T.1,max T.2.2 T.1):P2)).isSome))) O O) O ?_)))))
      refine AE.nil (AC.subF (sL [2,3,16,17,18,5,4,23,9,10,7,8,48] O) (AC.then_ ?_))
      refine AF.jn1 (tg λ(e02:E4)=>e02=(Ae (Ck ts (3*t+2)) (min T.2.2 T.1,max T.2.2 T.1)).getD (I4 (min T.2.2 T.1,max T.2.2 T.1))) (tg λ(e02:E4)=>[(2,(Value.slice none 0 0)),(3,(Value.map (some b1))),(16,(Value.slice x.p ts.length x.c)),(17,(vN ts.length)),(18,(vN t)),(5,(pP b2 0)),(4,(vN t)),(23,(vI 2)),(9,(pP b7 0)),(10,(pP b8 0)),(7,(vN T.2.2)),(8,(vN T.1))]) (tg λ(e02:E4)=>[Af b8 110 (B9 e02),Af b7 200 ([(vN (min T.2.2 T.1)),(vN (max T.2.2 T.1))]),Af b6 110 (B9 e21),Af b5 200 ([(vN (min T.2.1 T.2.2)),(vN (max T.2.1 T.2.2))]),Af b4 110 (B9 e20),Af b3 200 ([(vN (min T.1 T.2.1)),(vN (max T.1 T.2.1))]),Af b2 76 (An T),CD b1 Dv Mw (Ck ts (3*t+2)),AZ x.p (rowsL An ts)]) ?_ ?_
      ·skip
       refine AF.cond O (λhc2=>?_) (λhc2=>?_)
       ·simp only [Bool.and_eq_true,Bool.or_eq_true,Bool.and_eq_false_iff,Bool.or_eq_false_iff,Bool.not_eq_true',Bool.not_eq_false',decide_eq_true_eq,decide_eq_false_iff_not] at hc2
        refine AF.region (AI (v:=(pP b7 0)) (AA O underlying200 O sizeOf3 O) O (BK 1 (vN (min T.2.2 T.1)) Bm O (AI (v:=(pP b7 1)) (AA O underlying200 O sizeOf3 O) O (BK 1 (vN (max T.2.2 T.1)) Bm O (AI (v:=(aG ([(vN (min T.2.2 T.1)),(vN (max T.2.2 T.1)),(vI (-1:Int)),(vI (-1:Int))]))) (Ad (zs:=B9 (⟨0,0,0,0⟩:E4)) (vs:=[(vN (min T.2.2 T.1)),(vN (max T.2.2 T.1)),(vI (-1:Int)),(vI (-1:Int))]) (pv:=[(0,(vN (min T.2.2 T.1))),(1,(vN (max T.2.2 T.1))),(2,(vI (-1:Int))),(3,(vI (-1:Int)))]) (places:=[(0,1),(1,1),(2,1),(3,1)]) zeroValue110 underlying110 (λw=>by simp [sizeOf3]) O O) O ?_)))))
        exact Aq O sizeOf110 O (AE.nil (AC.subF (sL [2,3,16,17,18,5,4,23,9,10,7,8] O) (AC.join1 (⟨min T.2.2 T.1,max T.2.2 T.1,-1,-1⟩:E4) ((K3 (k:=(min T.2.2 T.1,max T.2.2 T.1)) (by simpa using hc2))) (sF O) sr)))
       ·simp only [Bool.and_eq_true,Bool.or_eq_true,Bool.and_eq_false_iff,Bool.or_eq_false_iff,Bool.not_eq_true',Bool.not_eq_false',decide_eq_true_eq,decide_eq_false_iff_not] at hc2
        exact AF.skip (AC.join1 ((Ae (Ck ts (3*t+2)) ((min T.2.2 T.1,max T.2.2 T.1):P2)).getD (⟨0,0,0,0⟩:E4)) ((K1 (by simpa using hc2))) (sF O) sr)
      ·intro e02 hJ
       have he2:=hJ
       refine q1 ?_
       refine AF.jn1 (tg λ(e22:E4)=>e22=Fr e02 t T.2.2 T.1) (tg λ(e22:E4)=>[(2,(Value.slice none 0 0)),(3,(Value.map (some b1))),(16,(Value.slice x.p ts.length x.c)),(17,(vN ts.length)),(18,(vN t)),(5,(pP b2 0)),(4,(vN t)),(23,(vI 2)),(9,(pP b7 0)),(10,(pP b8 0))]) (tg λ(e22:E4)=>[Af b8 110 (B9 e22),Af b7 200 ([(vN (min T.2.2 T.1)),(vN (max T.2.2 T.1))]),Af b6 110 (B9 e21),Af b5 200 ([(vN (min T.2.1 T.2.2)),(vN (max T.2.1 T.2.2))]),Af b4 110 (B9 e20),Af b3 200 ([(vN (min T.1 T.2.1)),(vN (max T.1 T.2.1))]),Af b2 76 (An T),CD b1 Dv Mw (Ck ts (3*t+2)),AZ x.p (rowsL An ts)]) ?_ ?_
       ·skip
        refine AF.block (q4 (AR O (AR O (AI (Am (c:=(decide (T.2.2<T.1))) O O (C6 (a:=T.2.2) (b:=T.1))) O (AR O ?_)))))
        refine AE.mid (FM:=[(2,(Value.slice none 0 0)),(3,(Value.map (some b1))),(16,(Value.slice x.p ts.length x.c)),(17,(vN ts.length)),(18,(vN t)),(5,(pP b2 0)),(4,(vN t)),(23,(vI 2)),(9,(pP b7 0)),(10,(pP b8 0)),(7,(vN T.2.2)),(8,(vN T.1)),(55,(vN T.2.2)),(56,(vN T.1)),(57,(Value.bool (decide (T.2.2<T.1)))),(58,(Value.bool (decide (T.2.2<T.1)))),(62,(Value.bool ((decide (T.2.2<T.1))&&(decide (e02.l=(-1:Int))))))]) (LM:=[Af b8 110 (B9 e02),Af b7 200 ([(vN (min T.2.2 T.1)),(vN (max T.2.2 T.1))]),Af b6 110 (B9 e21),Af b5 200 ([(vN (min T.2.1 T.2.2)),(vN (max T.2.1 T.2.2))]),Af b4 110 (B9 e20),Af b3 200 ([(vN (min T.1 T.2.1)),(vN (max T.1 T.2.1))]),Af b2 76 (An T),CD b1 Dv Mw (Ck ts (3*t+2)),AZ x.p (rowsL An ts)]) 4 ?_ ?_
        ·rcases Bool.eq_false_or_eq_true (decide (T.2.2<T.1)) with hg5|hg5
         ·skip
          refine AE.retell (k:=58) (u:=Value.bool true) O (by rw [hg5]) ?_
          have hg5':=hg5
          replace hg5':=of_decide_eq_true hg5'
          exact AE.step (v:=(pP b8 2)) (AB O) (AA O underlying110 O sizeOf3 O) O (Ab O) (AE.step (v:=(vI e02.l)) (AB O) (AK (i:=0) (v:=(vI e02.l)) O O Bm.a O) O (Ab O) (AE.step (v:=(Value.bool (decide (e02.l=(-1:Int))))) (AB O) (BS (c:=(decide (e02.l=(-1:Int)))) O O O) O (Ab O) (AI (v:=(Value.bool (decide (e02.l=(-1:Int))))) (Ah O O) O (AE.nil (AC.mid (sS O (sS O (sS O (sS O (sS O (sS O (sS O (sS O (sS O (sS O (sS O (sS O (sS O (sS O (sS O (sS (by first|rfl|(rw [hg5];rfl)|rw [hg5]) (sS (by first|rfl|(rw [hg5];rfl)|rw [hg5]) (sN)))))))))))))))))) (List.Sublist.refl _))))))
         ·skip
          refine AE.retell (k:=58) (u:=Value.bool false) O (by rw [hg5]) ?_
          have hg5':=hg5
          replace hg5':=of_decide_eq_false hg5'
          exact AE.skip (AL O) O (Ab O) (AE.skip (AL O) O (Ab O) (AE.skip (AL O) O (Ab O) (AI (v:=(Value.bool false)) (AS O O) O (AE.nil (AC.mid (sS O (sS O (sS O (sS O (sS O (sS O (sS O (sS O (sS O (sS O (sS O (sS O (sS O (sS O (sS O (sS (by first|rfl|(rw [hg5];rfl)|rw [hg5]) (sS (by first|rfl|(rw [hg5];rfl)|rw [hg5]) (sN)))))))))))))))))) (List.Sublist.refl _))))))
        refine AO O (AE.nil (AC.subF (sL [2,3,16,17,18,5,4,23,9,10,7,8,54] O) (AC.then_ ?_)))
        refine AF.cond O (λhc3=>?_) (λhc3=>?_)
        ·simp only [Bool.and_eq_true,Bool.or_eq_true,Bool.and_eq_false_iff,Bool.or_eq_false_iff,Bool.not_eq_true',Bool.not_eq_false',decide_eq_true_eq,decide_eq_false_iff_not] at hc3
         refine AF.region (AR O (AI (v:=(pP b8 2)) (AA O underlying110 O sizeOf3 O) O (Eu 0 (off:=2) (vs:=[(vN t)]) (cs':=[(vN e02.a),(vN e02.b),(vN t),(vI e02.r)]) (AM O) O sizeOf3 O (AE.nil (AC.subF (sL [2,3,16,17,18,5,4,23,9,10,7,8] O) ?_)))))
         exact AC.in_normal (AC.join1 (⟨e02.a,e02.b,((t:Nat):Int),e02.r⟩:E4) ((by unfold Fr;rw [if_pos Z])) (sF O) sr)
        ·simp only [Bool.and_eq_true,Bool.or_eq_true,Bool.and_eq_false_iff,Bool.or_eq_false_iff,Bool.not_eq_true',Bool.not_eq_false',decide_eq_true_eq,decide_eq_false_iff_not] at hc3
         refine q4 (AR O (AR O (AI (Cj (c:=(decide (T.1<T.2.2))) O O (C6 (a:=T.1) (b:=T.2.2))) O (AR O ?_))))
         refine AE.mid (FM:=[(2,(Value.slice none 0 0)),(3,(Value.map (some b1))),(16,(Value.slice x.p ts.length x.c)),(17,(vN ts.length)),(18,(vN t)),(5,(pP b2 0)),(4,(vN t)),(23,(vI 2)),(9,(pP b7 0)),(10,(pP b8 0)),(7,(vN T.2.2)),(8,(vN T.1)),(66,(vN T.2.2)),(67,(vN T.1)),(68,(Value.bool (decide (T.1<T.2.2)))),(69,(Value.bool (decide (T.1<T.2.2)))),(73,(Value.bool ((decide (T.1<T.2.2))&&(decide (e02.r=(-1:Int))))))]) (LM:=[Af b8 110 (B9 e02),Af b7 200 ([(vN (min T.2.2 T.1)),(vN (max T.2.2 T.1))]),Af b6 110 (B9 e21),Af b5 200 ([(vN (min T.2.1 T.2.2)),(vN (max T.2.1 T.2.2))]),Af b4 110 (B9 e20),Af b3 200 ([(vN (min T.1 T.2.1)),(vN (max T.1 T.2.1))]),Af b2 76 (An T),CD b1 Dv Mw (Ck ts (3*t+2)),AZ x.p (rowsL An ts)]) 4 ?_ ?_
         ·rcases Bool.eq_false_or_eq_true (decide (T.1<T.2.2)) with hg6|hg6
          ·skip
           refine AE.retell (k:=69) (u:=Value.bool true) O (by rw [hg6]) ?_
           have hg6':=hg6
           replace hg6':=of_decide_eq_true hg6'
           exact AE.step (v:=(pP b8 3)) (AB O) (AA O underlying110 O sizeOf3 O) O (Ab O) (AE.step (v:=(vI e02.r)) (AB O) (AK (i:=0) (v:=(vI e02.r)) O O Bm.a O) O (Ab O) (AE.step (v:=(Value.bool (decide (e02.r=(-1:Int))))) (AB O) (BS (c:=(decide (e02.r=(-1:Int)))) O O O) O (Ab O) (AI (v:=(Value.bool (decide (e02.r=(-1:Int))))) (Ah O O) O (AE.nil (AC.mid (sS O (sS O (sS O (sS O (sS O (sS O (sS O (sS O (sS O (sS O (sS O (sS O (sS O (sS O (sS O (sS (by first|rfl|(rw [hg6];rfl)|rw [hg6]) (sS (by first|rfl|(rw [hg6];rfl)|rw [hg6]) (sN)))))))))))))))))) (List.Sublist.refl _))))))
          ·skip
           refine AE.retell (k:=69) (u:=Value.bool false) O (by rw [hg6]) ?_
           have hg6':=hg6
           replace hg6':=of_decide_eq_false hg6'
           exact AE.skip (AL O) O (Ab O) (AE.skip (AL O) O (Ab O) (AE.skip (AL O) O (Ab O) (AI (v:=(Value.bool false)) (AS O O) O (AE.nil (AC.mid (sS O (sS O (sS O (sS O (sS O (sS O (sS O (sS O (sS O (sS O (sS O (sS O (sS O (sS O (sS O (sS (by first|rfl|(rw [hg6];rfl)|rw [hg6]) (sS (by first|rfl|(rw [hg6];rfl)|rw [hg6]) (sN)))))))))))))))))) (List.Sublist.refl _))))))
         refine AO O (AE.nil (AC.subF (sL [2,3,16,17,18,5,4,23,9,10,7,8,65] O) (AC.then_ ?_)))
         refine AF.cond O (λhc4=>?_) (λhc4=>?_)
         ·simp only [Bool.and_eq_true,Bool.or_eq_true,Bool.and_eq_false_iff,Bool.or_eq_false_iff,Bool.not_eq_true',Bool.not_eq_false',decide_eq_true_eq,decide_eq_false_iff_not] at hc4
          refine AF.region (AR O (AI (v:=(pP b8 3)) (AA O underlying110 O sizeOf3 O) O (Eu 0 (off:=3) (vs:=[(vN t)]) (cs':=[(vN e02.a),(vN e02.b),(vI e02.l),(vN t)]) (AM O) O sizeOf3 O (AE.nil (AC.subF (sL [2,3,16,17,18,5,4,23,9,10,7,8] O) ?_)))))
          exact AC.in_normal (AC.join1 (⟨e02.a,e02.b,e02.l,((t:Nat):Int)⟩:E4) ((by unfold Fr;rw [if_neg Z,if_pos Z])) (sF O) sr)
         ·simp only [Bool.and_eq_true,Bool.or_eq_true,Bool.and_eq_false_iff,Bool.or_eq_false_iff,Bool.not_eq_true',Bool.not_eq_false',decide_eq_true_eq,decide_eq_false_iff_not] at hc4
          exact AF.skip (AC.in_normal (AC.join1 e02 ((by unfold Fr;rw [if_neg Z,if_neg Z])) (sF O) sr))
       ·intro e22 hJ
        have hu2:=hJ
        refine AC.then_ (AF.region (AR O (A6 1 Mk O (A6 0 IC O (AE.mapUpdate HI 7 (kvs:=Ck ts (3*t+2)) (x:=((min T.2.2 T.1,max T.2.2 T.1):P2)) (y:=e22) (AM O) O O O underlying198 O (Fw hn hN _ Z) (Bn Z Z) ?_)))))
        rw [show BU (Ck ts (3*t+2)) ((min T.2.2 T.1,max T.2.2 T.1):P2) e22=Ck ts (3*t+3) from by rw [hu2,he2,hT];exact (LJ (ts:=ts) (t:=t) (i:=2) Z).symm]
        refine AE.nil (AC.subF (sL [2,3,16,17,18,5,4,23,9,10] O) (AC.in_normal (AC.then_ (AF.region (AI (AY (c:=(3:Int)) O O (by decide)) O ?_)))))
        refine AR O (AE.nil (AC.subF (sL [2,3,16,17,18,5,4,23,9,10] O) (AC.again (GC.step (q4 ?_)))))
        refine AI (Am (c:=false) O O (by decide)) O (AE.nil (q1 (AF.cond_false O (AF.exit (AC.then_exit ?_)))))
        refine AC.then_exit (AC.in_exit (AC.in_normal (AC.then_ (AF.region (AI (AY (c:=((t+1:Nat):Int)) O O (AX (a:=t) (b:=1) Z)) O ?_)))))
        refine AR O (AE.nil (AC.subF (sL [2,3,16,17,18,5,4,23,9,10] O) ?_))
        rw [show 3*t+3=3*(t+1)+0 by omega]
        exact AC.round1 (t+1) Z Z (sF O) (sl (sl (sl (sl (sl (sl (sl sr)))))))
 ·replace hc0:=of_decide_eq_false hc0
  have htl:t=ts.length:=by omega
  have hel:=IN (ts:=ts) (3*ts.length)
  refine AF.exit (AC.then_exit (AC.round1_exit (AC.in_exit (q2 (AR O ?_)))))
  rw [show Ck ts (3*t+0)=(Ck ts (3*ts.length)) by rw [htl,Nat.add_zero]]
  refine st (v:=(vN ((Ck ts (3*ts.length)).length))) (PH 0 (kvs:=(Ck ts (3*ts.length))) O underlying198 O) (Ab O) (AE.make0 Xc O O Z O O λbo hbo=>AO O (q6 (sL [2,3,16,17,18,12] O) (q4 (AR O ?_))))
  refine AE.range 1 (kvs:=(Ck ts (3*ts.length))) (AM O) O underlying198 O O λb2=>AE.nil (AC.subF (sL [2,3,16,17,18,12,85] O) (AC.then_ (AF.block ?_)))
  refine AF.lp4 (tg λ(seen:List Nat) (out:List E4) (p1:Option Addr) (c1:Nat)=>seen.Nodup/\(∀x∈seen,x<(Ck ts (3*ts.length)).length)/\out=seen.map (U0 (Ck ts (3*ts.length)))/\OwnOk p1 out.length c1/\p1≠none) (tg λ(seen:List Nat) (out:List E4) (p1:Option Addr) (c1:Nat)=>[(2,(Value.slice none 0 0)),(85,(Value.pointer (some ⟨b2,0,none⟩))),(12,(Value.slice p1 out.length c1))]) (tg λ(seen:List Nat) (out:List E4) (p1:Option Addr) (c1:Nat)=>[ZM b2 b1 (Ck ts (3*ts.length)).length seen,rowW p1 110 4 out.length c1 (rowsL B9 out),CD b1 Dv Mw (Ck ts (3*ts.length)),AZ x.p (rowsL An ts)]) (tg λ(seen:List Nat) (out:List E4) (p1:Option Addr) (c1:Nat)=>(Ck ts (3*ts.length)).length-seen.length) ([]:List Nat) ([]:List E4) (some ⟨bo,0,none⟩) ((Ck ts (3*ts.length)).length) (⟨List.nodup_nil,(λx hx=>by cases hx),rfl,hbo,by simp⟩) (sF O) sr (λseen out p1 c1 hJ=>?_)
  obtain ⟨hnd,hlt,hou,ho,hpn⟩:=hJ
  refine q4 ?_
  refine AE.next 2 0 (kvs:=(Ck ts (3*ts.length))) (seen:=seen) (AM O) O O O O (λhall=>?_) (λqn kq ve hq hns=>?_)
  ·skip
   refine AI (AU (v:=(Value.bool false)) O O) O (q6 (sL [2,85,12,87] O) (AF.cond_false O (AF.exit (AC.then_exit (AC.round4_exit ?_)))))
   refine AC.in_exit (q2 (AR O ?_))
   have hpm:out.Perm ((Ck ts (3*ts.length)).map (·.2)):=by rw [hou];exact SZ hnd hlt hall
   have hol:out.length=(Bq ts).length:=by rw [H_];simpa using hpm.length_eq
   have hlo:out.length<=3*ts.length:=by rw [hol,H_];exact hel
   refine AE.callS 1 (xs:=out) (ys:=Bq ts) (v:=(Value.tuple #[])) (AM O) (A8 (args:=[(Value.slice p1 out.length c1),(Value.func (.func 125) #[] #[])]) O O call124) O (λw hw=>Sw out _ _ _ 110 ho hpn O Z w (hw.holds (i:=1) O)) (λzs h1 h2=>X5 hn hN h1 h2 hpm) (λd hd=>by cases hd<;>exact (Ab O)) (q3 (sL [2,85,12] O) (AR O (BW call128 (OV p1 _ c1 ho.le) O (AO O (AE.nil ?_)))))
   exact AC.subF (sL [2,85,12] O) (AC.then_ (AF.ret (AT O (Ak (v:=(Value.slice p1 out.length out.length)) O) (λw hw=>(by rw [<-hol];exact Zl hw 1 O ho (by rw [Al Cn,hol]) O)))))
  ·skip
   refine AI (AU (v:=(Value.bool true)) O O) O (q6 (sL [2,85,12,87] O) (AF.cond_true O (AF.skip (AC.then_ (AF.block ?_)))))
   refine q4 ?_
   have hlo:out.length<=3*ts.length:=by rw [hou,List.length_map];exact Nat.le_trans (G2 hnd hlt) hel
   refine AI (v:=(Value.tuple #[(aG (Az kq)),(aG (B9 ve))])) (S1 2 0 (enc:=Dv) (eV:=Mw) (kvs:=(Ck ts (3*ts.length))) (seen:=seen) (q:=qn) O O O hq) O (AI (AU (v:=(aG (B9 ve))) O O) O (al JK O λb3=>Aq O sizeOf110 O (AE.nil (AC.subF (sL [2,85,12,14] O) ?_))))
   refine AC.then_ (AF.region (AR O (A6 0 IC O (AE.openV (V:=λb4=>(Value.slice (some ⟨b4,0,none⟩) 1 1)) (T:=110) (cs:=B9 ve) (AM O) (Ap (z:=.agg (B9 (⟨0,0,0,0⟩:E4)).toArray) (cs:=B9 ve) (pv:=[(0,(aG (B9 ve)))]) underlying37 sizeOf110 zeroValue110 (by decide) (by decide) O (Jc ve)) O (Ab O) λb4=>AE.appendAt 3 (j:=0) (cs2:=rowsL B9 (out++[ve])) Xc O ho (Al Cn _) O O O O O (by decide) (Gt Z) Z (by rw [BN];rfl) O λp_1 c_1 ho_1 hne_1=>?_))))
   refine AO O (AE.nil (AC.subF (sL [2,85,12,14] O) (AC.in_normal ?_)))
   have hnext:seen.length<(Ck ts (3*ts.length)).length:=by have h9:=G2 (l:=seen++[qn]) (n:=(Ck ts (3*ts.length)).length) (List.nodup_append.2 ⟨hnd,List.nodup_cons.2 ⟨List.not_mem_nil,List.nodup_nil⟩,λa ha b hb e=>by rw [List.mem_singleton.1 hb] at e;exact hns (e▸ha)⟩) (λx hx=>by rcases List.mem_append.1 hx with h|h;exact hlt x h;rw [List.mem_singleton.1 h];exact (List.getElem?_eq_some_iff.1 hq).1);rw [List.length_append,List.length_singleton] at h9;omega
   rw [show out.length+1=(out++[ve]).length by simp]
   exact AC.round4 (seen++[qn]) (out++[ve]) p_1 c_1 (⟨List.nodup_append.2 ⟨hnd,List.nodup_cons.2 ⟨List.not_mem_nil,List.nodup_nil⟩,λa ha b hb e=>by rw [List.mem_singleton.1 hb] at e;exact hns (e▸ha)⟩,λx hx=>by rcases List.mem_append.1 hx with h|h;exact hlt x h;rw [List.mem_singleton.1 h];exact (List.getElem?_eq_some_iff.1 hq).1,by rw [List.map_append,hou];simp [WL hq],(by simpa using ho_1),hne_1⟩) (by have h8:=hnext;rw [List.length_append,List.length_singleton];omega) (sF O) (sl (sl sr))
end
end Go.Proofs.YtfbomiejpbchdaaGreat
