import Derived.Test.YtpgncndhhhllfaaGreatDoorPart03
import Derived.Test.YtpgncndhhhllfaaGreatDoorPart24
import Derived.Test.YtpgncndhhhllfaaGreatDoorPart25
import Derived.Test.YtpgncndhhhllfaaGreatDoorPart27
namespace Go.Proofs.YtpgncndhhhllfaaGreatDoor
open Go Go.RowKit Go.Proofs.Tryz
set_option linter.unusedVariables false
set_option linter.unusedSimpArgs false
section
set_option maxRecDepth 100000
theorem bF:ElemT prog 88 91 4 32:=⟨underlying88,DA (by kernel_rfl)⟩
theorem HS:QS prog 231 Jd XX where
 law:=.of_law (deep_law_laid Y4 (m:=2) (by decide) (by decide +kernel) (by kernel_rfl) (by kernel_rfl))
 key:=λa h=>Mj underlying231 ⟨rfl,rfl⟩ ⟨rfl,rfl⟩ (by decide +kernel) underlying3 (by kernel_rfl) (by kernel_rfl) (by kernel_rfl) (by decide +kernel) (My h.1) (My h.2)
 inj:=λa b h=>OZ h
theorem Vu (p:Option Addr) (n cp:Nat) (h:n<=cp) (w:World)  :Calls prog 158 #[(Value.slice p n cp)] w (An w (Value.slice p n n)):=by
 refine Af (args:=[(Value.slice p n cp)]) func158 O O (AT O) (AF.subF (sL [0] O) (q4 (asg' O (AE.nil (q2 ?_)))))
 refine AM O (AM O (AH (v:=(vN n)) (AG O underlying88) O (AM O (AH (v:=(vN n)) (AG O underlying88) O (AH (v:=(Value.slice p n n)) (Fb (m:=n) O O O underlying88 sizeOf91 Z) O ?_)))))
 exact asg' O (AE.nil (AC.subF (sL [2] O) (AC.then_ (AF.ret (AI O (AY (v:=(Value.slice p n n)) O) (λw hw=>⟨rfl,hw.out⟩))))))
theorem K5 (x0:E4):Instr.fill (λi=>some (i*4,4)) ((Array.range (1*4)).map ((Value.agg (Bo (⟨0,0,0,0⟩:E4)).toArray).cells[·%(Value.agg (Bo (⟨0,0,0,0⟩:E4)).toArray).cells.size]!)) [(0,.agg (Bo x0).toArray)]=some (Bo x0).toArray:=by kernel_rfl
set_option maxHeartbeats 4000000 in
theorem Mn (ts:List (Nat×Nat×Nat)) (x:RX (rowsL Ai ts) ts.length) (N:Nat) (hn:By N ts=true) (hN:N<=4611686018427387904) (hl:ts.length<=1000000000) (w:World) {S:Nat->Prop} (hx:Ro S w x):Calls prog 93 #[(Value.slice x.p ts.length x.c)] w (Aw (CX (rowsL Bo (BV ts)) (BV ts).length) S w):=by
 have lx:=Cl (W:=w) hx
 refine Ah (args:=[(Value.slice x.p ts.length x.c)]) (L:=[AQ x.p (rowsL Ai ts)]) func93 O O (AT O) (Ed hx Ax) (AF.subF (sL [0] O) (q4 (asg' O (AE.nil (q2 ?_)))))
 refine AE.makeMap Jd Nn (AS O) O λb1=>asg' O (q6 (sL [0,2,3] O) (q4 (AM O (AH (v:=(vN ts.length)) (AG O underlying23) O ?_))))
 refine AM O (AE.nil (AC.subF (sL [2,3,16,17,18] O) (AC.then_ (AF.block ?_))))
 refine AF.lp1 (tg λ(t:Nat)=>t<=ts.length) (tg λ(t:Nat)=>[(2,(Value.slice none 0 0)),(3,(Value.map (some b1))),(16,(Value.slice x.p ts.length x.c)),(17,(vN ts.length)),(18,(vN t))]) (tg λ(t:Nat)=>[Dh b1 Jd Nn (Cn ts (3*t+0)),AQ x.p (rowsL Ai ts)]) (tg λ(t:Nat)=>ts.length-t) 0 (Nat.zero_le _) (sF O) sr (λt hJ=>?_)
 have ht:=hJ
 refine q4 (AH (Ae (c:=(decide (t<ts.length))) O O (CL (a:=t) (b:=ts.length))) O (AE.nil (q1 ?_)))
 refine AF.cond O (λhc0=>?_) (λhc0=>?_)
 ·replace hc0:=of_decide_eq_true hc0
  obtain ⟨T,hT⟩:∃q,q=ts.getD t (0,0,0):=⟨_,rfl⟩
  obtain ⟨g1,g2,g3⟩:=De (Cc hn hc0)
  rw [<-hT] at g1 g2 g3
  refine AF.skip (q1 (AF.block (q4 (AM O (AH (v:=(pP (pB x.p) (pO x.p+t*3))) (AN (j:=t) O O x.ok underlying23 sizeOf53 O Z) O ?_)))))
  refine AH (v:=(aG (Ai (ts.getD t ((0,0,0):Nat×Nat×Nat))))) (AZ (vs:=Ai (ts.getD t ((0,0,0):Nat×Nat×Nat))) (i:=1) O O (BF.ne x.ok Z) Gf (A7 Az _ _ _ Z) (Az _)) O (AE.retell (k:=22) (u:=(aG (Ai T))) O (by rw [hT]) (al L1 O λb2=>asg' O (A8 O sizeOf53 O (q3 (sL [2,3,16,17,18,5,4] O) ?_))))
  refine AM O (AE.nil (AC.then_ (AF.block (AF.unroll 4 (FP.step ?_)))))
  refine q4 (AH (Ae (c:=true) O O (by decide)) O (AE.nil (q1 (AF.cond_true O (AF.skip ?_)))))
  refine q1 (AF.block (q4 (AM O (asg' O (q6 (sL [2,3,16,17,18,5,4,23,6] O) ?_)))))
  refine Cd [(0,true),(1,true),(2,true),(3,true),(4,true),(5,true),(6,true),(7,true),(8,true),(9,true)] sr (Bb O (Aq (v:=(pP b2 0)) O (AD (j:=0) O O underlying53 sizeOf3 O (by decide) O) (Bd 0 (vN T.1) Bj O (Bb O (Aq O (AW (c:=(1:Int)) O O (by decide)) ?_)))))
  refine Aq O (Bs (c:=(1:Int)) O O (by decide) (by decide)) (Aq (v:=(pP b2 1)) O (AD (j:=1) O O underlying53 sizeOf3 O (by decide) O) (Bd 0 (vN T.2.1) Bj O (pS' O (pS' O (OkE.nil ?_)))))
  refine AC.subF (sL [2,3,16,17,18,5,4,23,7,8] O) (q2 (AM O (AM O (AH (Gq (c:=((min T.1 T.2.1:Nat):Int)) O O (by split<;>omega)) O (AM O ?_)))))
  refine AM O (AH (Fe (c:=((max T.1 T.2.1:Nat):Int)) O O (by split<;>omega)) O (AH (v:=(aG ([(vN (min T.1 T.2.1)),(vN (max T.1 T.2.1))]))) (AV (zs:=BH ((0,0):P2)) (vs:=[(vN (min T.1 T.2.1)),(vN (max T.1 T.2.1))]) (pv:=[(0,(vN (min T.1 T.2.1))),(1,(vN (max T.1 T.2.1)))]) (places:=[(0,1),(1,1)]) zeroValue231 underlying231 (λw=>by simp [sizeOf3]) O O) O (al U9 O λb3=>A8 O sizeOf231 O (q3 (sL [2,3,16,17,18,5,4,23,7,8,9] O) ?_))))
  refine AM O (BD 0 Mb O (AH (v:=(Value.tuple #[(aG (Bo ((BZ (Cn ts (3*t+0)) ((min T.1 T.2.1,max T.1 T.2.1):P2)).getD (⟨0,0,0,0⟩:E4)))),(Value.bool ((BZ (Cn ts (3*t+0)) ((min T.1 T.2.1,max T.1 T.2.1):P2)).isSome))])) (HG HS 2 (eV:=Nn) (kvs:=Cn ts (3*t+0)) (x:=((min T.1 T.2.1,max T.1 T.2.1):P2)) (z0:=(⟨0,0,0,0⟩:E4)) (co:=true) O O underlying230 zeroValue91 O (FZ hn hN _ Z) (D1 Z Z)) O (AM O (AH (Aa (v:=(aG (Bo ((BZ (Cn ts (3*t+0)) ((min T.1 T.2.1,max T.1 T.2.1):P2)).getD (⟨0,0,0,0⟩:E4))))) O O) O (AH (Aa (v:=(Value.bool ((BZ (Cn ts (3*t+0)) ((min T.1 T.2.1,max T.1 T.2.1):P2)).isSome))) O O) O ?_)))))
  refine al Wj O λb4=>A8 O sizeOf91 O (asg' O (q6 (sL [2,3,16,17,18,5,4,23,7,8,9,10,11] O) (q4 (AM O ?_))))
  refine AH (BQ (c:=(!((BZ (Cn ts (3*t+0)) ((min T.1 T.2.1,max T.1 T.2.1):P2)).isSome))) O O) O (AE.nil (AC.subF (sL [2,3,16,17,18,5,4,23,7,8,9,10,48] O) (AC.then_ ?_)))
  refine AF.jn1 (tg λ(e00:E4)=>e00=(BZ (Cn ts (3*t+0)) (min T.1 T.2.1,max T.1 T.2.1)).getD (Ih (min T.1 T.2.1,max T.1 T.2.1))) (tg λ(e00:E4)=>[(2,(Value.slice none 0 0)),(3,(Value.map (some b1))),(16,(Value.slice x.p ts.length x.c)),(17,(vN ts.length)),(18,(vN t)),(5,(pP b2 0)),(4,(vN t)),(23,(vI 0)),(7,(vN T.1)),(8,(vN T.2.1)),(9,(pP b3 0)),(10,(pP b4 0))]) (tg λ(e00:E4)=>[Ag b4 91 (Bo e00),Ag b3 231 ([(vN (min T.1 T.2.1)),(vN (max T.1 T.2.1))]),Ag b2 53 (Ai T),Dh b1 Jd Nn (Cn ts (3*t+0)),AQ x.p (rowsL Ai ts)]) ?_ ?_
  ·skip
   refine AF.cond O (λhc2=>?_) (λhc2=>?_)
   ·simp only [Bool.and_eq_true,Bool.or_eq_true,Bool.and_eq_false_iff,Bool.or_eq_false_iff,Bool.not_eq_true',Bool.not_eq_false',decide_eq_true_eq,decide_eq_false_iff_not] at hc2
    refine AF.region (AH (v:=(pP b3 0)) (AA O underlying231 O sizeOf3 O) O (BA 1 (vN (min T.1 T.2.1)) Bj O (AH (v:=(pP b3 1)) (AA O underlying231 O sizeOf3 O) O (BA 1 (vN (max T.1 T.2.1)) Bj O (AH (v:=(aG ([(vN (min T.1 T.2.1)),(vN (max T.1 T.2.1)),(vI (-1:Int)),(vI (-1:Int))]))) (AV (zs:=Bo (⟨0,0,0,0⟩:E4)) (vs:=[(vN (min T.1 T.2.1)),(vN (max T.1 T.2.1)),(vI (-1:Int)),(vI (-1:Int))]) (pv:=[(0,(vN (min T.1 T.2.1))),(1,(vN (max T.1 T.2.1))),(2,(vI (-1:Int))),(3,(vI (-1:Int)))]) (places:=[(0,1),(1,1),(2,1),(3,1)]) zeroValue91 underlying91 (λw=>by simp [sizeOf3]) O O) O ?_)))))
    exact A8 O sizeOf91 O (AE.nil (AC.subF (sL [2,3,16,17,18,5,4,23,7,8,9,10] O) (AC.join1 (⟨min T.1 T.2.1,max T.1 T.2.1,-1,-1⟩:E4) ((LD (k:=(min T.1 T.2.1,max T.1 T.2.1)) (by simpa using hc2))) (sF O) sr)))
   ·simp only [Bool.and_eq_true,Bool.or_eq_true,Bool.and_eq_false_iff,Bool.or_eq_false_iff,Bool.not_eq_true',Bool.not_eq_false',decide_eq_true_eq,decide_eq_false_iff_not] at hc2
    exact AF.skip (AC.join1 ((BZ (Cn ts (3*t+0)) ((min T.1 T.2.1,max T.1 T.2.1):P2)).getD (⟨0,0,0,0⟩:E4)) ((Ks (by simpa using hc2))) (sF O) sr)
  ·intro e00 hJ
   have he0:=hJ
   refine q1 ?_
   refine AF.jn1 (tg λ(e20:E4)=>e20=Fh e00 t T.1 T.2.1) (tg λ(e20:E4)=>[(2,(Value.slice none 0 0)),(3,(Value.map (some b1))),(16,(Value.slice x.p ts.length x.c)),(17,(vN ts.length)),(18,(vN t)),(5,(pP b2 0)),(4,(vN t)),(23,(vI 0)),(9,(pP b3 0)),(10,(pP b4 0))]) (tg λ(e20:E4)=>[Ag b4 91 (Bo e20),Ag b3 231 ([(vN (min T.1 T.2.1)),(vN (max T.1 T.2.1))]),Ag b2 53 (Ai T),Dh b1 Jd Nn (Cn ts (3*t+0)),AQ x.p (rowsL Ai ts)]) ?_ ?_
   ·skip
    refine AF.block (q4 (AM O (AM O (AH (Ae (c:=(decide (T.1<T.2.1))) O O (CL (a:=T.1) (b:=T.2.1))) O (AM O ?_)))))
    refine AE.mid (FM:=[(2,(Value.slice none 0 0)),(3,(Value.map (some b1))),(16,(Value.slice x.p ts.length x.c)),(17,(vN ts.length)),(18,(vN t)),(5,(pP b2 0)),(4,(vN t)),(23,(vI 0)),(7,(vN T.1)),(8,(vN T.2.1)),(9,(pP b3 0)),(10,(pP b4 0)),(55,(vN T.1)),(56,(vN T.2.1)),(57,(Value.bool (decide (T.1<T.2.1)))),(58,(Value.bool (decide (T.1<T.2.1)))),(62,(Value.bool ((decide (T.1<T.2.1))&&(decide (e00.l=(-1:Int))))))]) (LM:=[Ag b4 91 (Bo e00),Ag b3 231 ([(vN (min T.1 T.2.1)),(vN (max T.1 T.2.1))]),Ag b2 53 (Ai T),Dh b1 Jd Nn (Cn ts (3*t+0)),AQ x.p (rowsL Ai ts)]) 4 ?_ ?_
    ·rcases Bool.eq_false_or_eq_true (decide (T.1<T.2.1)) with hg1|hg1
     ·skip
      refine AE.retell (k:=58) (u:=Value.bool true) O (by rw [hg1]) ?_
      have hg1':=hg1
      replace hg1':=of_decide_eq_true hg1'
      exact AE.step (v:=(pP b4 2)) (AB O) (AA O underlying91 O sizeOf3 O) O (AT O) (AE.step (v:=(vI e00.l)) (AB O) (AK (i:=0) (v:=(vI e00.l)) O O Bj.a O) O (AT O) (AE.step (v:=(Value.bool (decide (e00.l=(-1:Int))))) (AB O) (BL (c:=(decide (e00.l=(-1:Int)))) O O O) O (AT O) (AH (v:=(Value.bool (decide (e00.l=(-1:Int))))) (Ac O O) O (AE.nil (AC.mid (sS O (sS O (sS O (sS O (sS O (sS O (sS O (sS O (sS O (sS O (sS O (sS O (sS O (sS O (sS O (sS (by first|rfl|(rw [hg1];rfl)|rw [hg1]) (sS (by first|rfl|(rw [hg1];rfl)|rw [hg1]) (sN)))))))))))))))))) (List.Sublist.refl _))))))
     ·skip
      refine AE.retell (k:=58) (u:=Value.bool false) O (by rw [hg1]) ?_
      have hg1':=hg1
      replace hg1':=of_decide_eq_false hg1'
      exact AE.skip (AJ O) O (AT O) (AE.skip (AJ O) O (AT O) (AE.skip (AJ O) O (AT O) (AH (v:=(Value.bool false)) (AP O O) O (AE.nil (AC.mid (sS O (sS O (sS O (sS O (sS O (sS O (sS O (sS O (sS O (sS O (sS O (sS O (sS O (sS O (sS O (sS (by first|rfl|(rw [hg1];rfl)|rw [hg1]) (sS (by first|rfl|(rw [hg1];rfl)|rw [hg1]) (sN)))))))))))))))))) (List.Sublist.refl _))))))
    refine asg' O (AE.nil (AC.subF (sL [2,3,16,17,18,5,4,23,7,8,9,10,54] O) (AC.then_ ?_)))
    refine AF.cond O (λhc3=>?_) (λhc3=>?_)
    ·simp only [Bool.and_eq_true,Bool.or_eq_true,Bool.and_eq_false_iff,Bool.or_eq_false_iff,Bool.not_eq_true',Bool.not_eq_false',decide_eq_true_eq,decide_eq_false_iff_not] at hc3
     refine AF.region (AM O (AH (v:=(pP b4 2)) (AA O underlying91 O sizeOf3 O) O (Eg 0 (off:=2) (vs:=[(vN t)]) (cs':=[(vN e00.a),(vN e00.b),(vN t),(vI e00.r)]) (AS O) O sizeOf3 O (AE.nil (AC.subF (sL [2,3,16,17,18,5,4,23,7,8,9,10] O) ?_)))))
     exact AC.in_normal (AC.join1 (⟨e00.a,e00.b,((t:Nat):Int),e00.r⟩:E4) ((by unfold Fh;rw [if_pos Z])) (sF O) sr)
    ·simp only [Bool.and_eq_true,Bool.or_eq_true,Bool.and_eq_false_iff,Bool.or_eq_false_iff,Bool.not_eq_true',Bool.not_eq_false',decide_eq_true_eq,decide_eq_false_iff_not] at hc3
     refine q4 (AM O (AM O (AH (B3 (c:=(decide (T.2.1<T.1))) O O (CL (a:=T.2.1) (b:=T.1))) O (AM O ?_))))
     refine AE.mid (FM:=[(2,(Value.slice none 0 0)),(3,(Value.map (some b1))),(16,(Value.slice x.p ts.length x.c)),(17,(vN ts.length)),(18,(vN t)),(5,(pP b2 0)),(4,(vN t)),(23,(vI 0)),(7,(vN T.1)),(8,(vN T.2.1)),(9,(pP b3 0)),(10,(pP b4 0)),(66,(vN T.1)),(67,(vN T.2.1)),(68,(Value.bool (decide (T.2.1<T.1)))),(69,(Value.bool (decide (T.2.1<T.1)))),(73,(Value.bool ((decide (T.2.1<T.1))&&(decide (e00.r=(-1:Int))))))]) (LM:=[Ag b4 91 (Bo e00),Ag b3 231 ([(vN (min T.1 T.2.1)),(vN (max T.1 T.2.1))]),Ag b2 53 (Ai T),Dh b1 Jd Nn (Cn ts (3*t+0)),AQ x.p (rowsL Ai ts)]) 4 ?_ ?_
     ·rcases Bool.eq_false_or_eq_true (decide (T.2.1<T.1)) with hg2|hg2
      ·skip
       refine AE.retell (k:=69) (u:=Value.bool true) O (by rw [hg2]) ?_
       have hg2':=hg2
       replace hg2':=of_decide_eq_true hg2'
       exact AE.step (v:=(pP b4 3)) (AB O) (AA O underlying91 O sizeOf3 O) O (AT O) (AE.step (v:=(vI e00.r)) (AB O) (AK (i:=0) (v:=(vI e00.r)) O O Bj.a O) O (AT O) (AE.step (v:=(Value.bool (decide (e00.r=(-1:Int))))) (AB O) (BL (c:=(decide (e00.r=(-1:Int)))) O O O) O (AT O) (AH (v:=(Value.bool (decide (e00.r=(-1:Int))))) (Ac O O) O (AE.nil (AC.mid (sS O (sS O (sS O (sS O (sS O (sS O (sS O (sS O (sS O (sS O (sS O (sS O (sS O (sS O (sS O (sS (by first|rfl|(rw [hg2];rfl)|rw [hg2]) (sS (by first|rfl|(rw [hg2];rfl)|rw [hg2]) (sN)))))))))))))))))) (List.Sublist.refl _))))))
      ·skip
       refine AE.retell (k:=69) (u:=Value.bool false) O (by rw [hg2]) ?_
       have hg2':=hg2
       replace hg2':=of_decide_eq_false hg2'
       exact AE.skip (AJ O) O (AT O) (AE.skip (AJ O) O (AT O) (AE.skip (AJ O) O (AT O) (AH (v:=(Value.bool false)) (AP O O) O (AE.nil (AC.mid (sS O (sS O (sS O (sS O (sS O (sS O (sS O (sS O (sS O (sS O (sS O (sS O (sS O (sS O (sS O (sS (by first|rfl|(rw [hg2];rfl)|rw [hg2]) (sS (by first|rfl|(rw [hg2];rfl)|rw [hg2]) (sN)))))))))))))))))) (List.Sublist.refl _))))))
     refine asg' O (AE.nil (AC.subF (sL [2,3,16,17,18,5,4,23,7,8,9,10,65] O) (AC.then_ ?_)))
     refine AF.cond O (λhc4=>?_) (λhc4=>?_)
     ·simp only [Bool.and_eq_true,Bool.or_eq_true,Bool.and_eq_false_iff,Bool.or_eq_false_iff,Bool.not_eq_true',Bool.not_eq_false',decide_eq_true_eq,decide_eq_false_iff_not] at hc4
      refine AF.region (AM O (AH (v:=(pP b4 3)) (AA O underlying91 O sizeOf3 O) O (Eg 0 (off:=3) (vs:=[(vN t)]) (cs':=[(vN e00.a),(vN e00.b),(vI e00.l),(vN t)]) (AS O) O sizeOf3 O (AE.nil (AC.subF (sL [2,3,16,17,18,5,4,23,7,8,9,10] O) ?_)))))
      exact AC.in_normal (AC.join1 (⟨e00.a,e00.b,e00.l,((t:Nat):Int)⟩:E4) ((by unfold Fh;rw [if_neg Z,if_pos Z])) (sF O) sr)
     ·simp only [Bool.and_eq_true,Bool.or_eq_true,Bool.and_eq_false_iff,Bool.or_eq_false_iff,Bool.not_eq_true',Bool.not_eq_false',decide_eq_true_eq,decide_eq_false_iff_not] at hc4
      exact AF.skip (AC.in_normal (AC.join1 e00 ((by unfold Fh;rw [if_neg Z,if_neg Z])) (sF O) sr))
   ·intro e20 hJ
    have hu0:=hJ
    refine AC.then_ (AF.region (AM O (BD 1 Mb O (BD 0 O6 O (AE.mapUpdate HS 3 (kvs:=Cn ts (3*t+0)) (x:=((min T.1 T.2.1,max T.1 T.2.1):P2)) (y:=e20) (AS O) O O O underlying230 O (FZ hn hN _ Z) (D1 Z Z) ?_)))))
    rw [show Bn (Cn ts (3*t+0)) ((min T.1 T.2.1,max T.1 T.2.1):P2) e20=Cn ts (3*t+1) from by rw [hu0,he0,hT];exact (KI (ts:=ts) (t:=t) (i:=0) Z).symm]
    refine AE.nil (AC.subF (sL [2,3,16,17,18,5,4,23,9,10] O) (AC.in_normal (AC.then_ (AF.region (AH (AW (c:=(1:Int)) O O (by decide)) O ?_)))))
    refine AM O (AE.nil (AC.subF (sL [2,3,16,17,18,5,4,23,9,10] O) (AC.again (FP.step (q4 ?_)))))
    refine AH (Ae (c:=true) O O (by decide)) O (AE.nil (q1 (AF.cond_true O (AF.skip (q1 ?_)))))
    refine AF.block (q4 (AM O (asg' O (q6 (sL [2,3,16,17,18,5,4,23,9,10,6] O) (Cd [(0,true),(1,true),(2,true),(3,true),(4,true),(5,true),(6,true),(7,true),(8,true),(9,true)] sr ?_)))))
    refine Bb O (Aq (v:=(pP b2 1)) O (AD (j:=1) O O underlying53 sizeOf3 O (by decide) O) (Bd 2 (vN T.2.1) Bj O (Bb O (Aq O (AW (c:=(2:Int)) O O (by decide)) (Aq O (Bs (c:=(2:Int)) O O (by decide) (by decide)) ?_)))))
    refine Aq (v:=(pP b2 2)) O (AD (j:=2) O O underlying53 sizeOf3 O (by decide) O) (Bd 2 (vN T.2.2) Bj O (pS' O (pS' O (OkE.nil (AC.subF (sL [2,3,16,17,18,5,4,23,9,10,7,8] O) ?_)))))
    refine q2 (AM O (AM O (AH (Gq (c:=((min T.2.1 T.2.2:Nat):Int)) O O (by split<;>omega)) O (AM O (AM O ?_)))))
    refine AH (Fe (c:=((max T.2.1 T.2.2:Nat):Int)) O O (by split<;>omega)) O (AH (v:=(aG ([(vN (min T.2.1 T.2.2)),(vN (max T.2.1 T.2.2))]))) (AV (zs:=BH ((0,0):P2)) (vs:=[(vN (min T.2.1 T.2.2)),(vN (max T.2.1 T.2.2))]) (pv:=[(0,(vN (min T.2.1 T.2.2))),(1,(vN (max T.2.1 T.2.2)))]) (places:=[(0,1),(1,1)]) zeroValue231 underlying231 (λw=>by simp [sizeOf3]) O O) O (al U9 O λb5=>A8 O sizeOf231 O (q3 (sL [2,3,16,17,18,5,4,23,9,10,7,8] O) (AM O ?_))))
    refine BD 0 Mb O (AH (v:=(Value.tuple #[(aG (Bo ((BZ (Cn ts (3*t+1)) ((min T.2.1 T.2.2,max T.2.1 T.2.2):P2)).getD (⟨0,0,0,0⟩:E4)))),(Value.bool ((BZ (Cn ts (3*t+1)) ((min T.2.1 T.2.2,max T.2.1 T.2.2):P2)).isSome))])) (HG HS 4 (eV:=Nn) (kvs:=Cn ts (3*t+1)) (x:=((min T.2.1 T.2.2,max T.2.1 T.2.2):P2)) (z0:=(⟨0,0,0,0⟩:E4)) (co:=true) O O underlying230 zeroValue91 O (FZ hn hN _ Z) (D1 Z Z)) O (AM O (AH (Aa (v:=(aG (Bo ((BZ (Cn ts (3*t+1)) ((min T.2.1 T.2.2,max T.2.1 T.2.2):P2)).getD (⟨0,0,0,0⟩:E4))))) O O) O (AH (Aa (v:=(Value.bool ((BZ (Cn ts (3*t+1)) ((min T.2.1 T.2.2,max T.2.1 T.2.2):P2)).isSome))) O O) O (al Wj O λb6=>?_)))))
    refine A8 O sizeOf91 O (asg' O (q6 (sL [2,3,16,17,18,5,4,23,9,10,7,8,11] O) (q4 (AM O (AH (BQ (c:=(!((BZ (Cn ts (3*t+1)) ((min T.2.1 T.2.2,max T.2.1 T.2.2):P2)).isSome))) O O) O ?_)))))
    refine AE.nil (AC.subF (sL [2,3,16,17,18,5,4,23,9,10,7,8,48] O) (AC.then_ ?_))
    refine AF.jn1 (tg λ(e01:E4)=>e01=(BZ (Cn ts (3*t+1)) (min T.2.1 T.2.2,max T.2.1 T.2.2)).getD (Ih (min T.2.1 T.2.2,max T.2.1 T.2.2))) (tg λ(e01:E4)=>[(2,(Value.slice none 0 0)),(3,(Value.map (some b1))),(16,(Value.slice x.p ts.length x.c)),(17,(vN ts.length)),(18,(vN t)),(5,(pP b2 0)),(4,(vN t)),(23,(vI 1)),(9,(pP b5 0)),(10,(pP b6 0)),(7,(vN T.2.1)),(8,(vN T.2.2))]) (tg λ(e01:E4)=>[Ag b6 91 (Bo e01),Ag b5 231 ([(vN (min T.2.1 T.2.2)),(vN (max T.2.1 T.2.2))]),Ag b4 91 (Bo e20),Ag b3 231 ([(vN (min T.1 T.2.1)),(vN (max T.1 T.2.1))]),Ag b2 53 (Ai T),Dh b1 Jd Nn (Cn ts (3*t+1)),AQ x.p (rowsL Ai ts)]) ?_ ?_
    ·skip
     refine AF.cond O (λhc2=>?_) (λhc2=>?_)
     ·simp only [Bool.and_eq_true,Bool.or_eq_true,Bool.and_eq_false_iff,Bool.or_eq_false_iff,Bool.not_eq_true',Bool.not_eq_false',decide_eq_true_eq,decide_eq_false_iff_not] at hc2
      refine AF.region (AH (v:=(pP b5 0)) (AA O underlying231 O sizeOf3 O) O (BA 1 (vN (min T.2.1 T.2.2)) Bj O (AH (v:=(pP b5 1)) (AA O underlying231 O sizeOf3 O) O (BA 1 (vN (max T.2.1 T.2.2)) Bj O (AH (v:=(aG ([(vN (min T.2.1 T.2.2)),(vN (max T.2.1 T.2.2)),(vI (-1:Int)),(vI (-1:Int))]))) (AV (zs:=Bo (⟨0,0,0,0⟩:E4)) (vs:=[(vN (min T.2.1 T.2.2)),(vN (max T.2.1 T.2.2)),(vI (-1:Int)),(vI (-1:Int))]) (pv:=[(0,(vN (min T.2.1 T.2.2))),(1,(vN (max T.2.1 T.2.2))),(2,(vI (-1:Int))),(3,(vI (-1:Int)))]) (places:=[(0,1),(1,1),(2,1),(3,1)]) zeroValue91 underlying91 (λw=>by simp [sizeOf3]) O O) O ?_)))))
      exact A8 O sizeOf91 O (AE.nil (AC.subF (sL [2,3,16,17,18,5,4,23,9,10,7,8] O) (AC.join1 (⟨min T.2.1 T.2.2,max T.2.1 T.2.2,-1,-1⟩:E4) ((LD (k:=(min T.2.1 T.2.2,max T.2.1 T.2.2)) (by simpa using hc2))) (sF O) sr)))
     ·simp only [Bool.and_eq_true,Bool.or_eq_true,Bool.and_eq_false_iff,Bool.or_eq_false_iff,Bool.not_eq_true',Bool.not_eq_false',decide_eq_true_eq,decide_eq_false_iff_not] at hc2
      exact AF.skip (AC.join1 ((BZ (Cn ts (3*t+1)) ((min T.2.1 T.2.2,max T.2.1 T.2.2):P2)).getD (⟨0,0,0,0⟩:E4)) ((Ks (by simpa using hc2))) (sF O) sr)
    ·intro e01 hJ
     have he1:=hJ
     refine q1 ?_
     refine AF.jn1 (tg λ(e21:E4)=>e21=Fh e01 t T.2.1 T.2.2) (tg λ(e21:E4)=>[(2,(Value.slice none 0 0)),(3,(Value.map (some b1))),(16,(Value.slice x.p ts.length x.c)),(17,(vN ts.length)),(18,(vN t)),(5,(pP b2 0)),(4,(vN t)),(23,(vI 1)),(9,(pP b5 0)),(10,(pP b6 0))]) (tg λ(e21:E4)=>[Ag b6 91 (Bo e21),Ag b5 231 ([(vN (min T.2.1 T.2.2)),(vN (max T.2.1 T.2.2))]),Ag b4 91 (Bo e20),Ag b3 231 ([(vN (min T.1 T.2.1)),(vN (max T.1 T.2.1))]),Ag b2 53 (Ai T),Dh b1 Jd Nn (Cn ts (3*t+1)),AQ x.p (rowsL Ai ts)]) ?_ ?_
     ·skip
      refine AF.block (q4 (AM O (AM O (AH (Ae (c:=(decide (T.2.1<T.2.2))) O O (CL (a:=T.2.1) (b:=T.2.2))) O (AM O ?_)))))
      refine AE.mid (FM:=[(2,(Value.slice none 0 0)),(3,(Value.map (some b1))),(16,(Value.slice x.p ts.length x.c)),(17,(vN ts.length)),(18,(vN t)),(5,(pP b2 0)),(4,(vN t)),(23,(vI 1)),(9,(pP b5 0)),(10,(pP b6 0)),(7,(vN T.2.1)),(8,(vN T.2.2)),(55,(vN T.2.1)),(56,(vN T.2.2)),(57,(Value.bool (decide (T.2.1<T.2.2)))),(58,(Value.bool (decide (T.2.1<T.2.2)))),(62,(Value.bool ((decide (T.2.1<T.2.2))&&(decide (e01.l=(-1:Int))))))]) (LM:=[Ag b6 91 (Bo e01),Ag b5 231 ([(vN (min T.2.1 T.2.2)),(vN (max T.2.1 T.2.2))]),Ag b4 91 (Bo e20),Ag b3 231 ([(vN (min T.1 T.2.1)),(vN (max T.1 T.2.1))]),Ag b2 53 (Ai T),Dh b1 Jd Nn (Cn ts (3*t+1)),AQ x.p (rowsL Ai ts)]) 4 ?_ ?_
      ·rcases Bool.eq_false_or_eq_true (decide (T.2.1<T.2.2)) with hg3|hg3
       ·skip
        refine AE.retell (k:=58) (u:=Value.bool true) O (by rw [hg3]) ?_
        have hg3':=hg3
        replace hg3':=of_decide_eq_true hg3'
        exact AE.step (v:=(pP b6 2)) (AB O) (AA O underlying91 O sizeOf3 O) O (AT O) (AE.step (v:=(vI e01.l)) (AB O) (AK (i:=0) (v:=(vI e01.l)) O O Bj.a O) O (AT O) (AE.step (v:=(Value.bool (decide (e01.l=(-1:Int))))) (AB O) (BL (c:=(decide (e01.l=(-1:Int)))) O O O) O (AT O) (AH (v:=(Value.bool (decide (e01.l=(-1:Int))))) (Ac O O) O (AE.nil (AC.mid (sS O (sS O (sS O (sS O (sS O (sS O (sS O (sS O (sS O (sS O (sS O (sS O (sS O (sS O (sS O (sS (by first|rfl|(rw [hg3];rfl)|rw [hg3]) (sS (by first|rfl|(rw [hg3];rfl)|rw [hg3]) (sN)))))))))))))))))) (List.Sublist.refl _))))))
       ·skip
        refine AE.retell (k:=58) (u:=Value.bool false) O (by rw [hg3]) ?_
        have hg3':=hg3
        replace hg3':=of_decide_eq_false hg3'
        exact AE.skip (AJ O) O (AT O) (AE.skip (AJ O) O (AT O) (AE.skip (AJ O) O (AT O) (AH (v:=(Value.bool false)) (AP O O) O (AE.nil (AC.mid (sS O (sS O (sS O (sS O (sS O (sS O (sS O (sS O (sS O (sS O (sS O (sS O (sS O (sS O (sS O (sS (by first|rfl|(rw [hg3];rfl)|rw [hg3]) (sS (by first|rfl|(rw [hg3];rfl)|rw [hg3]) (sN)))))))))))))))))) (List.Sublist.refl _))))))
      refine asg' O (AE.nil (AC.subF (sL [2,3,16,17,18,5,4,23,9,10,7,8,54] O) (AC.then_ ?_)))
      refine AF.cond O (λhc3=>?_) (λhc3=>?_)
      ·simp only [Bool.and_eq_true,Bool.or_eq_true,Bool.and_eq_false_iff,Bool.or_eq_false_iff,Bool.not_eq_true',Bool.not_eq_false',decide_eq_true_eq,decide_eq_false_iff_not] at hc3
       refine AF.region (AM O (AH (v:=(pP b6 2)) (AA O underlying91 O sizeOf3 O) O (Eg 0 (off:=2) (vs:=[(vN t)]) (cs':=[(vN e01.a),(vN e01.b),(vN t),(vI e01.r)]) (AS O) O sizeOf3 O (AE.nil (AC.subF (sL [2,3,16,17,18,5,4,23,9,10,7,8] O) ?_)))))
       exact AC.in_normal (AC.join1 (⟨e01.a,e01.b,((t:Nat):Int),e01.r⟩:E4) ((by unfold Fh;rw [if_pos Z])) (sF O) sr)
      ·simp only [Bool.and_eq_true,Bool.or_eq_true,Bool.and_eq_false_iff,Bool.or_eq_false_iff,Bool.not_eq_true',Bool.not_eq_false',decide_eq_true_eq,decide_eq_false_iff_not] at hc3
       refine q4 (AM O (AM O (AH (B3 (c:=(decide (T.2.2<T.2.1))) O O (CL (a:=T.2.2) (b:=T.2.1))) O (AM O ?_))))
       refine AE.mid (FM:=[(2,(Value.slice none 0 0)),(3,(Value.map (some b1))),(16,(Value.slice x.p ts.length x.c)),(17,(vN ts.length)),(18,(vN t)),(5,(pP b2 0)),(4,(vN t)),(23,(vI 1)),(9,(pP b5 0)),(10,(pP b6 0)),(7,(vN T.2.1)),(8,(vN T.2.2)),(66,(vN T.2.1)),(67,(vN T.2.2)),(68,(Value.bool (decide (T.2.2<T.2.1)))),(69,(Value.bool (decide (T.2.2<T.2.1)))),(73,(Value.bool ((decide (T.2.2<T.2.1))&&(decide (e01.r=(-1:Int))))))]) (LM:=[Ag b6 91 (Bo e01),Ag b5 231 ([(vN (min T.2.1 T.2.2)),(vN (max T.2.1 T.2.2))]),Ag b4 91 (Bo e20),Ag b3 231 ([(vN (min T.1 T.2.1)),(vN (max T.1 T.2.1))]),Ag b2 53 (Ai T),Dh b1 Jd Nn (Cn ts (3*t+1)),AQ x.p (rowsL Ai ts)]) 4 ?_ ?_
       ·rcases Bool.eq_false_or_eq_true (decide (T.2.2<T.2.1)) with hg4|hg4
        ·skip
         refine AE.retell (k:=69) (u:=Value.bool true) O (by rw [hg4]) ?_
         have hg4':=hg4
         replace hg4':=of_decide_eq_true hg4'
         exact AE.step (v:=(pP b6 3)) (AB O) (AA O underlying91 O sizeOf3 O) O (AT O) (AE.step (v:=(vI e01.r)) (AB O) (AK (i:=0) (v:=(vI e01.r)) O O Bj.a O) O (AT O) (AE.step (v:=(Value.bool (decide (e01.r=(-1:Int))))) (AB O) (BL (c:=(decide (e01.r=(-1:Int)))) O O O) O (AT O) (AH (v:=(Value.bool (decide (e01.r=(-1:Int))))) (Ac O O) O (AE.nil (AC.mid (sS O (sS O (sS O (sS O (sS O (sS O (sS O (sS O (sS O (sS O (sS O (sS O (sS O (sS O (sS O (sS (by first|rfl|(rw [hg4];rfl)|rw [hg4]) (sS (by first|rfl|(rw [hg4];rfl)|rw [hg4]) (sN)))))))))))))))))) (List.Sublist.refl _))))))
        ·skip
         refine AE.retell (k:=69) (u:=Value.bool false) O (by rw [hg4]) ?_
         have hg4':=hg4
         replace hg4':=of_decide_eq_false hg4'
         exact AE.skip (AJ O) O (AT O) (AE.skip (AJ O) O (AT O) (AE.skip (AJ O) O (AT O) (AH (v:=(Value.bool false)) (AP O O) O (AE.nil (AC.mid (sS O (sS O (sS O (sS O (sS O (sS O (sS O (sS O (sS O (sS O (sS O (sS O (sS O (sS O (sS O (sS (by first|rfl|(rw [hg4];rfl)|rw [hg4]) (sS (by first|rfl|(rw [hg4];rfl)|rw [hg4]) (sN)))))))))))))))))) (List.Sublist.refl _))))))
       refine asg' O (AE.nil (AC.subF (sL [2,3,16,17,18,5,4,23,9,10,7,8,65] O) (AC.then_ ?_)))
       refine AF.cond O (λhc4=>?_) (λhc4=>?_)
       ·simp only [Bool.and_eq_true,Bool.or_eq_true,Bool.and_eq_false_iff,Bool.or_eq_false_iff,Bool.not_eq_true',Bool.not_eq_false',decide_eq_true_eq,decide_eq_false_iff_not] at hc4
        refine AF.region (AM O (AH (v:=(pP b6 3)) (AA O underlying91 O sizeOf3 O) O (Eg 0 (off:=3) (vs:=[(vN t)]) (cs':=[(vN e01.a),(vN e01.b),(vI e01.l),(vN t)]) (AS O) O sizeOf3 O (AE.nil (AC.subF (sL [2,3,16,17,18,5,4,23,9,10,7,8] O) ?_)))))
        exact AC.in_normal (AC.join1 (⟨e01.a,e01.b,e01.l,((t:Nat):Int)⟩:E4) ((by unfold Fh;rw [if_neg Z,if_pos Z])) (sF O) sr)
       ·simp only [Bool.and_eq_true,Bool.or_eq_true,Bool.and_eq_false_iff,Bool.or_eq_false_iff,Bool.not_eq_true',Bool.not_eq_false',decide_eq_true_eq,decide_eq_false_iff_not] at hc4
        exact AF.skip (AC.in_normal (AC.join1 e01 ((by unfold Fh;rw [if_neg Z,if_neg Z])) (sF O) sr))
     ·intro e21 hJ
      have hu1:=hJ
      refine AC.then_ (AF.region (AM O (BD 1 Mb O (BD 0 O6 O (AE.mapUpdate HS 5 (kvs:=Cn ts (3*t+1)) (x:=((min T.2.1 T.2.2,max T.2.1 T.2.2):P2)) (y:=e21) (AS O) O O O underlying230 O (FZ hn hN _ Z) (D1 Z Z) ?_)))))
      rw [show Bn (Cn ts (3*t+1)) ((min T.2.1 T.2.2,max T.2.1 T.2.2):P2) e21=Cn ts (3*t+2) from by rw [hu1,he1,hT];exact (KI (ts:=ts) (t:=t) (i:=1) Z).symm]
      refine AE.nil (AC.subF (sL [2,3,16,17,18,5,4,23,9,10] O) (AC.in_normal (AC.then_ (AF.region (AH (AW (c:=(2:Int)) O O (by decide)) O ?_)))))
      refine AM O (AE.nil (AC.subF (sL [2,3,16,17,18,5,4,23,9,10] O) (AC.again (FP.step (q4 ?_)))))
      refine AH (Ae (c:=true) O O (by decide)) O (AE.nil (q1 (AF.cond_true O (AF.skip (q1 ?_)))))
      refine AF.block (q4 (AM O (asg' O (q6 (sL [2,3,16,17,18,5,4,23,9,10,6] O) (Cd [(0,true),(1,true),(2,true),(3,true),(4,true),(5,true),(6,true),(7,true),(8,true),(9,true)] sr ?_)))))
      refine Bb O (Aq (v:=(pP b2 2)) O (AD (j:=2) O O underlying53 sizeOf3 O (by decide) O) (Bd 4 (vN T.2.2) Bj O (Bb O (Aq O (AW (c:=(3:Int)) O O (by decide)) (Aq O (Bs (c:=(0:Int)) O O (by decide) (by decide)) ?_)))))
      refine Aq (v:=(pP b2 0)) O (AD (j:=0) O O underlying53 sizeOf3 O (by decide) O) (Bd 4 (vN T.1) Bj O (pS' O (pS' O (OkE.nil (AC.subF (sL [2,3,16,17,18,5,4,23,9,10,7,8] O) ?_)))))
      refine q2 (AM O (AM O (AH (Gq (c:=((min T.2.2 T.1:Nat):Int)) O O (by split<;>omega)) O (AM O (AM O ?_)))))
      refine AH (Fe (c:=((max T.2.2 T.1:Nat):Int)) O O (by split<;>omega)) O (AH (v:=(aG ([(vN (min T.2.2 T.1)),(vN (max T.2.2 T.1))]))) (AV (zs:=BH ((0,0):P2)) (vs:=[(vN (min T.2.2 T.1)),(vN (max T.2.2 T.1))]) (pv:=[(0,(vN (min T.2.2 T.1))),(1,(vN (max T.2.2 T.1)))]) (places:=[(0,1),(1,1)]) zeroValue231 underlying231 (λw=>by simp [sizeOf3]) O O) O (al U9 O λb7=>A8 O sizeOf231 O (q3 (sL [2,3,16,17,18,5,4,23,9,10,7,8] O) (AM O ?_))))
      refine BD 0 Mb O (AH (v:=(Value.tuple #[(aG (Bo ((BZ (Cn ts (3*t+2)) ((min T.2.2 T.1,max T.2.2 T.1):P2)).getD (⟨0,0,0,0⟩:E4)))),(Value.bool ((BZ (Cn ts (3*t+2)) ((min T.2.2 T.1,max T.2.2 T.1):P2)).isSome))])) (HG HS 6 (eV:=Nn) (kvs:=Cn ts (3*t+2)) (x:=((min T.2.2 T.1,max T.2.2 T.1):P2)) (z0:=(⟨0,0,0,0⟩:E4)) (co:=true) O O underlying230 zeroValue91 O (FZ hn hN _ Z) (D1 Z Z)) O (AM O (AH (Aa (v:=(aG (Bo ((BZ (Cn ts (3*t+2)) ((min T.2.2 T.1,max T.2.2 T.1):P2)).getD (⟨0,0,0,0⟩:E4))))) O O) O (AH (Aa (v:=(Value.bool ((BZ (Cn ts (3*t+2)) ((min T.2.2 T.1,max T.2.2 T.1):P2)).isSome))) O O) O (al Wj O λb8=>?_)))))
      refine A8 O sizeOf91 O (asg' O (q6 (sL [2,3,16,17,18,5,4,23,9,10,7,8,11] O) (q4 (AM O (AH (BQ (c:=(!((BZ (Cn ts (3*t+2)) ((min T.2.2 T.1,max T.2.2 T.1):P2)).isSome))) O O) O ?_)))))
      refine AE.nil (AC.subF (sL [2,3,16,17,18,5,4,23,9,10,7,8,48] O) (AC.then_ ?_))
      refine AF.jn1 (tg λ(e02:E4)=>e02=(BZ (Cn ts (3*t+2)) (min T.2.2 T.1,max T.2.2 T.1)).getD (Ih (min T.2.2 T.1,max T.2.2 T.1))) (tg λ(e02:E4)=>[(2,(Value.slice none 0 0)),(3,(Value.map (some b1))),(16,(Value.slice x.p ts.length x.c)),(17,(vN ts.length)),(18,(vN t)),(5,(pP b2 0)),(4,(vN t)),(23,(vI 2)),(9,(pP b7 0)),(10,(pP b8 0)),(7,(vN T.2.2)),(8,(vN T.1))]) (tg λ(e02:E4)=>[Ag b8 91 (Bo e02),Ag b7 231 ([(vN (min T.2.2 T.1)),(vN (max T.2.2 T.1))]),Ag b6 91 (Bo e21),Ag b5 231 ([(vN (min T.2.1 T.2.2)),(vN (max T.2.1 T.2.2))]),Ag b4 91 (Bo e20),Ag b3 231 ([(vN (min T.1 T.2.1)),(vN (max T.1 T.2.1))]),Ag b2 53 (Ai T),Dh b1 Jd Nn (Cn ts (3*t+2)),AQ x.p (rowsL Ai ts)]) ?_ ?_
      ·skip
       refine AF.cond O (λhc2=>?_) (λhc2=>?_)
       ·simp only [Bool.and_eq_true,Bool.or_eq_true,Bool.and_eq_false_iff,Bool.or_eq_false_iff,Bool.not_eq_true',Bool.not_eq_false',decide_eq_true_eq,decide_eq_false_iff_not] at hc2
        refine AF.region (AH (v:=(pP b7 0)) (AA O underlying231 O sizeOf3 O) O (BA 1 (vN (min T.2.2 T.1)) Bj O (AH (v:=(pP b7 1)) (AA O underlying231 O sizeOf3 O) O (BA 1 (vN (max T.2.2 T.1)) Bj O (AH (v:=(aG ([(vN (min T.2.2 T.1)),(vN (max T.2.2 T.1)),(vI (-1:Int)),(vI (-1:Int))]))) (AV (zs:=Bo (⟨0,0,0,0⟩:E4)) (vs:=[(vN (min T.2.2 T.1)),(vN (max T.2.2 T.1)),(vI (-1:Int)),(vI (-1:Int))]) (pv:=[(0,(vN (min T.2.2 T.1))),(1,(vN (max T.2.2 T.1))),(2,(vI (-1:Int))),(3,(vI (-1:Int)))]) (places:=[(0,1),(1,1),(2,1),(3,1)]) zeroValue91 underlying91 (λw=>by simp [sizeOf3]) O O) O ?_)))))
        exact A8 O sizeOf91 O (AE.nil (AC.subF (sL [2,3,16,17,18,5,4,23,9,10,7,8] O) (AC.join1 (⟨min T.2.2 T.1,max T.2.2 T.1,-1,-1⟩:E4) ((LD (k:=(min T.2.2 T.1,max T.2.2 T.1)) (by simpa using hc2))) (sF O) sr)))
       ·simp only [Bool.and_eq_true,Bool.or_eq_true,Bool.and_eq_false_iff,Bool.or_eq_false_iff,Bool.not_eq_true',Bool.not_eq_false',decide_eq_true_eq,decide_eq_false_iff_not] at hc2
        exact AF.skip (AC.join1 ((BZ (Cn ts (3*t+2)) ((min T.2.2 T.1,max T.2.2 T.1):P2)).getD (⟨0,0,0,0⟩:E4)) ((Ks (by simpa using hc2))) (sF O) sr)
      ·intro e02 hJ
       have he2:=hJ
       refine q1 ?_
       refine AF.jn1 (tg λ(e22:E4)=>e22=Fh e02 t T.2.2 T.1) (tg λ(e22:E4)=>[(2,(Value.slice none 0 0)),(3,(Value.map (some b1))),(16,(Value.slice x.p ts.length x.c)),(17,(vN ts.length)),(18,(vN t)),(5,(pP b2 0)),(4,(vN t)),(23,(vI 2)),(9,(pP b7 0)),(10,(pP b8 0))]) (tg λ(e22:E4)=>[Ag b8 91 (Bo e22),Ag b7 231 ([(vN (min T.2.2 T.1)),(vN (max T.2.2 T.1))]),Ag b6 91 (Bo e21),Ag b5 231 ([(vN (min T.2.1 T.2.2)),(vN (max T.2.1 T.2.2))]),Ag b4 91 (Bo e20),Ag b3 231 ([(vN (min T.1 T.2.1)),(vN (max T.1 T.2.1))]),Ag b2 53 (Ai T),Dh b1 Jd Nn (Cn ts (3*t+2)),AQ x.p (rowsL Ai ts)]) ?_ ?_
       ·skip
        refine AF.block (q4 (AM O (AM O (AH (Ae (c:=(decide (T.2.2<T.1))) O O (CL (a:=T.2.2) (b:=T.1))) O (AM O ?_)))))
        refine AE.mid (FM:=[(2,(Value.slice none 0 0)),(3,(Value.map (some b1))),(16,(Value.slice x.p ts.length x.c)),(17,(vN ts.length)),(18,(vN t)),(5,(pP b2 0)),(4,(vN t)),(23,(vI 2)),(9,(pP b7 0)),(10,(pP b8 0)),(7,(vN T.2.2)),(8,(vN T.1)),(55,(vN T.2.2)),(56,(vN T.1)),(57,(Value.bool (decide (T.2.2<T.1)))),(58,(Value.bool (decide (T.2.2<T.1)))),(62,(Value.bool ((decide (T.2.2<T.1))&&(decide (e02.l=(-1:Int))))))]) (LM:=[Ag b8 91 (Bo e02),Ag b7 231 ([(vN (min T.2.2 T.1)),(vN (max T.2.2 T.1))]),Ag b6 91 (Bo e21),Ag b5 231 ([(vN (min T.2.1 T.2.2)),(vN (max T.2.1 T.2.2))]),Ag b4 91 (Bo e20),Ag b3 231 ([(vN (min T.1 T.2.1)),(vN (max T.1 T.2.1))]),Ag b2 53 (Ai T),Dh b1 Jd Nn (Cn ts (3*t+2)),AQ x.p (rowsL Ai ts)]) 4 ?_ ?_
        ·rcases Bool.eq_false_or_eq_true (decide (T.2.2<T.1)) with hg5|hg5
         ·skip
          refine AE.retell (k:=58) (u:=Value.bool true) O (by rw [hg5]) ?_
          have hg5':=hg5
          replace hg5':=of_decide_eq_true hg5'
          exact AE.step (v:=(pP b8 2)) (AB O) (AA O underlying91 O sizeOf3 O) O (AT O) (AE.step (v:=(vI e02.l)) (AB O) (AK (i:=0) (v:=(vI e02.l)) O O Bj.a O) O (AT O) (AE.step (v:=(Value.bool (decide (e02.l=(-1:Int))))) (AB O) (BL (c:=(decide (e02.l=(-1:Int)))) O O O) O (AT O) (AH (v:=(Value.bool (decide (e02.l=(-1:Int))))) (Ac O O) O (AE.nil (AC.mid (sS O (sS O (sS O (sS O (sS O (sS O (sS O (sS O (sS O (sS O (sS O (sS O (sS O (sS O (sS O (sS (by first|rfl|(rw [hg5];rfl)|rw [hg5]) (sS (by first|rfl|(rw [hg5];rfl)|rw [hg5]) (sN)))))))))))))))))) (List.Sublist.refl _))))))
         ·skip
          refine AE.retell (k:=58) (u:=Value.bool false) O (by rw [hg5]) ?_
          have hg5':=hg5
          replace hg5':=of_decide_eq_false hg5'
          exact AE.skip (AJ O) O (AT O) (AE.skip (AJ O) O (AT O) (AE.skip (AJ O) O (AT O) (AH (v:=(Value.bool false)) (AP O O) O (AE.nil (AC.mid (sS O (sS O (sS O (sS O (sS O (sS O (sS O (sS O (sS O (sS O (sS O (sS O (sS O (sS O (sS O (sS (by first|rfl|(rw [hg5];rfl)|rw [hg5]) (sS (by first|rfl|(rw [hg5];rfl)|rw [hg5]) (sN)))))))))))))))))) (List.Sublist.refl _))))))
        refine asg' O (AE.nil (AC.subF (sL [2,3,16,17,18,5,4,23,9,10,7,8,54] O) (AC.then_ ?_)))
        refine AF.cond O (λhc3=>?_) (λhc3=>?_)
        ·simp only [Bool.and_eq_true,Bool.or_eq_true,Bool.and_eq_false_iff,Bool.or_eq_false_iff,Bool.not_eq_true',Bool.not_eq_false',decide_eq_true_eq,decide_eq_false_iff_not] at hc3
         refine AF.region (AM O (AH (v:=(pP b8 2)) (AA O underlying91 O sizeOf3 O) O (Eg 0 (off:=2) (vs:=[(vN t)]) (cs':=[(vN e02.a),(vN e02.b),(vN t),(vI e02.r)]) (AS O) O sizeOf3 O (AE.nil (AC.subF (sL [2,3,16,17,18,5,4,23,9,10,7,8] O) ?_)))))
         exact AC.in_normal (AC.join1 (⟨e02.a,e02.b,((t:Nat):Int),e02.r⟩:E4) ((by unfold Fh;rw [if_pos Z])) (sF O) sr)
        ·simp only [Bool.and_eq_true,Bool.or_eq_true,Bool.and_eq_false_iff,Bool.or_eq_false_iff,Bool.not_eq_true',Bool.not_eq_false',decide_eq_true_eq,decide_eq_false_iff_not] at hc3
         refine q4 (AM O (AM O (AH (B3 (c:=(decide (T.1<T.2.2))) O O (CL (a:=T.1) (b:=T.2.2))) O (AM O ?_))))
         refine AE.mid (FM:=[(2,(Value.slice none 0 0)),(3,(Value.map (some b1))),(16,(Value.slice x.p ts.length x.c)),(17,(vN ts.length)),(18,(vN t)),(5,(pP b2 0)),(4,(vN t)),(23,(vI 2)),(9,(pP b7 0)),(10,(pP b8 0)),(7,(vN T.2.2)),(8,(vN T.1)),(66,(vN T.2.2)),(67,(vN T.1)),(68,(Value.bool (decide (T.1<T.2.2)))),(69,(Value.bool (decide (T.1<T.2.2)))),(73,(Value.bool ((decide (T.1<T.2.2))&&(decide (e02.r=(-1:Int))))))]) (LM:=[Ag b8 91 (Bo e02),Ag b7 231 ([(vN (min T.2.2 T.1)),(vN (max T.2.2 T.1))]),Ag b6 91 (Bo e21),Ag b5 231 ([(vN (min T.2.1 T.2.2)),(vN (max T.2.1 T.2.2))]),Ag b4 91 (Bo e20),Ag b3 231 ([(vN (min T.1 T.2.1)),(vN (max T.1 T.2.1))]),Ag b2 53 (Ai T),Dh b1 Jd Nn (Cn ts (3*t+2)),AQ x.p (rowsL Ai ts)]) 4 ?_ ?_
         ·rcases Bool.eq_false_or_eq_true (decide (T.1<T.2.2)) with hg6|hg6
          ·skip
           refine AE.retell (k:=69) (u:=Value.bool true) O (by rw [hg6]) ?_
           have hg6':=hg6
           replace hg6':=of_decide_eq_true hg6'
           exact AE.step (v:=(pP b8 3)) (AB O) (AA O underlying91 O sizeOf3 O) O (AT O) (AE.step (v:=(vI e02.r)) (AB O) (AK (i:=0) (v:=(vI e02.r)) O O Bj.a O) O (AT O) (AE.step (v:=(Value.bool (decide (e02.r=(-1:Int))))) (AB O) (BL (c:=(decide (e02.r=(-1:Int)))) O O O) O (AT O) (AH (v:=(Value.bool (decide (e02.r=(-1:Int))))) (Ac O O) O (AE.nil (AC.mid (sS O (sS O (sS O (sS O (sS O (sS O (sS O (sS O (sS O (sS O (sS O (sS O (sS O (sS O (sS O (sS (by first|rfl|(rw [hg6];rfl)|rw [hg6]) (sS (by first|rfl|(rw [hg6];rfl)|rw [hg6]) (sN)))))))))))))))))) (List.Sublist.refl _))))))
          ·skip
           refine AE.retell (k:=69) (u:=Value.bool false) O (by rw [hg6]) ?_
           have hg6':=hg6
           replace hg6':=of_decide_eq_false hg6'
           exact AE.skip (AJ O) O (AT O) (AE.skip (AJ O) O (AT O) (AE.skip (AJ O) O (AT O) (AH (v:=(Value.bool false)) (AP O O) O (AE.nil (AC.mid (sS O (sS O (sS O (sS O (sS O (sS O (sS O (sS O (sS O (sS O (sS O (sS O (sS O (sS O (sS O (sS (by first|rfl|(rw [hg6];rfl)|rw [hg6]) (sS (by first|rfl|(rw [hg6];rfl)|rw [hg6]) (sN)))))))))))))))))) (List.Sublist.refl _))))))
         refine asg' O (AE.nil (AC.subF (sL [2,3,16,17,18,5,4,23,9,10,7,8,65] O) (AC.then_ ?_)))
         refine AF.cond O (λhc4=>?_) (λhc4=>?_)
         ·simp only [Bool.and_eq_true,Bool.or_eq_true,Bool.and_eq_false_iff,Bool.or_eq_false_iff,Bool.not_eq_true',Bool.not_eq_false',decide_eq_true_eq,decide_eq_false_iff_not] at hc4
          refine AF.region (AM O (AH (v:=(pP b8 3)) (AA O underlying91 O sizeOf3 O) O (Eg 0 (off:=3) (vs:=[(vN t)]) (cs':=[(vN e02.a),(vN e02.b),(vI e02.l),(vN t)]) (AS O) O sizeOf3 O (AE.nil (AC.subF (sL [2,3,16,17,18,5,4,23,9,10,7,8] O) ?_)))))
          exact AC.in_normal (AC.join1 (⟨e02.a,e02.b,e02.l,((t:Nat):Int)⟩:E4) ((by unfold Fh;rw [if_neg Z,if_pos Z])) (sF O) sr)
         ·simp only [Bool.and_eq_true,Bool.or_eq_true,Bool.and_eq_false_iff,Bool.or_eq_false_iff,Bool.not_eq_true',Bool.not_eq_false',decide_eq_true_eq,decide_eq_false_iff_not] at hc4
          exact AF.skip (AC.in_normal (AC.join1 e02 ((by unfold Fh;rw [if_neg Z,if_neg Z])) (sF O) sr))
       ·intro e22 hJ
        have hu2:=hJ
        refine AC.then_ (AF.region (AM O (BD 1 Mb O (BD 0 O6 O (AE.mapUpdate HS 7 (kvs:=Cn ts (3*t+2)) (x:=((min T.2.2 T.1,max T.2.2 T.1):P2)) (y:=e22) (AS O) O O O underlying230 O (FZ hn hN _ Z) (D1 Z Z) ?_)))))
        rw [show Bn (Cn ts (3*t+2)) ((min T.2.2 T.1,max T.2.2 T.1):P2) e22=Cn ts (3*t+3) from by rw [hu2,he2,hT];exact (KI (ts:=ts) (t:=t) (i:=2) Z).symm]
        refine AE.nil (AC.subF (sL [2,3,16,17,18,5,4,23,9,10] O) (AC.in_normal (AC.then_ (AF.region (AH (AW (c:=(3:Int)) O O (by decide)) O ?_)))))
        refine AM O (AE.nil (AC.subF (sL [2,3,16,17,18,5,4,23,9,10] O) (AC.again (FP.step (q4 ?_)))))
        refine AH (Ae (c:=false) O O (by decide)) O (AE.nil (q1 (AF.cond_false O (AF.exit (AC.then_exit ?_)))))
        refine AC.then_exit (AC.in_exit (AC.in_normal (AC.then_ (AF.region (AH (AW (c:=((t+1:Nat):Int)) O O (AU (a:=t) (b:=1) Z)) O ?_)))))
        refine AM O (AE.nil (AC.subF (sL [2,3,16,17,18,5,4,23,9,10] O) ?_))
        rw [show 3*t+3=3*(t+1)+0 by omega]
        exact AC.round1 (t+1) Z Z (sF O) (sl (sl (sl (sl (sl (sl (sl sr)))))))
 ·replace hc0:=of_decide_eq_false hc0
  have htl:t=ts.length:=by omega
  have hel:=Jk (ts:=ts) (3*ts.length)
  refine AF.exit (AC.then_exit (AC.round1_exit (AC.in_exit (q2 (AM O ?_)))))
  rw [show Cn ts (3*t+0)=(Cn ts (3*ts.length)) by rw [htl,Nat.add_zero]]
  refine st (v:=(vN ((Cn ts (3*ts.length)).length))) (QH 0 (kvs:=(Cn ts (3*ts.length))) O underlying230 O) (AT O) (AE.make0 bF O O Z O O λbo hbo=>asg' O (q6 (sL [2,3,16,17,18,12] O) (q4 (AM O ?_))))
  refine AE.range 1 (kvs:=(Cn ts (3*ts.length))) (AS O) O underlying230 O O λb2=>AE.nil (AC.subF (sL [2,3,16,17,18,12,85] O) (AC.then_ (AF.block ?_)))
  refine AF.lp4 (tg λ(seen:List Nat) (out:List E4) (p1:Option Addr) (c1:Nat)=>seen.Nodup/\(∀x∈seen,x<(Cn ts (3*ts.length)).length)/\out=seen.map (Th (Cn ts (3*ts.length)))/\OwnOk p1 out.length c1/\p1≠none) (tg λ(seen:List Nat) (out:List E4) (p1:Option Addr) (c1:Nat)=>[(2,(Value.slice none 0 0)),(85,(Value.pointer (some ⟨b2,0,none⟩))),(12,(Value.slice p1 out.length c1))]) (tg λ(seen:List Nat) (out:List E4) (p1:Option Addr) (c1:Nat)=>[aj b2 b1 (Cn ts (3*ts.length)).length seen,rowW p1 91 4 out.length c1 (rowsL Bo out),Dh b1 Jd Nn (Cn ts (3*ts.length)),AQ x.p (rowsL Ai ts)]) (tg λ(seen:List Nat) (out:List E4) (p1:Option Addr) (c1:Nat)=>(Cn ts (3*ts.length)).length-seen.length) ([]:List Nat) ([]:List E4) (some ⟨bo,0,none⟩) ((Cn ts (3*ts.length)).length) (⟨List.nodup_nil,(λx hx=>by cases hx),rfl,hbo,by simp⟩) (sF O) sr (λseen out p1 c1 hJ=>?_)
  obtain ⟨hnd,hlt,hou,ho,hpn⟩:=hJ
  refine q4 ?_
  refine AE.next 2 0 (kvs:=(Cn ts (3*ts.length))) (seen:=seen) (AS O) O O O O (λhall=>?_) (λqn kq ve hq hns=>?_)
  ·skip
   refine AH (Aa (v:=(Value.bool false)) O O) O (q6 (sL [2,85,12,87] O) (AF.cond_false O (AF.exit (AC.then_exit (AC.round4_exit ?_)))))
   refine AC.in_exit (q2 (AM O ?_))
   have hpm:out.Perm ((Cn ts (3*ts.length)).map (·.2)):=by rw [hou];exact Wb hnd hlt hall
   have hol:out.length=(BV ts).length:=by rw [Jv];simpa using hpm.length_eq
   have hlo:out.length<=3*ts.length:=by rw [hol,Jv];exact hel
   refine AE.callS 1 (xs:=out) (ys:=BV ts) (v:=(Value.tuple #[])) (AS O) (Ao (args:=[(Value.slice p1 out.length c1),(Value.func (.func 155) #[] #[])]) O O call154) O (λw hw=>U4 out _ _ _ 91 ho hpn O Z w (hw.holds (i:=1) O)) (λzs h1 h2=>ZU hn hN h1 h2 hpm) (λd hd=>by cases hd<;>exact (AT O)) (q3 (sL [2,85,12] O) (AM O (ck' call158 (Vu p1 _ c1 ho.le) O (asg' O (AE.nil ?_)))))
   exact AC.subF (sL [2,85,12] O) (AC.then_ (AF.ret (AI O (AY (v:=(Value.slice p1 out.length out.length)) O) (λw hw=>(by rw [<-hol];exact Y2 hw 1 O ho (by rw [Ak Bw,hol]) O)))))
  ·skip
   refine AH (Aa (v:=(Value.bool true)) O O) O (q6 (sL [2,85,12,87] O) (AF.cond_true O (AF.skip (AC.then_ (AF.block ?_)))))
   refine q4 ?_
   have hlo:out.length<=3*ts.length:=by rw [hou,List.length_map];exact Nat.le_trans (LE hnd hlt) hel
   refine AH (v:=(Value.tuple #[(aG (BH kq)),(aG (Bo ve))])) (Vy 2 0 (enc:=Jd) (eV:=Nn) (kvs:=(Cn ts (3*ts.length))) (seen:=seen) (q:=qn) O O O hq) O (AH (Aa (v:=(aG (Bo ve))) O O) O (al Wj O λb3=>A8 O sizeOf91 O (AE.nil (AC.subF (sL [2,85,12,14] O) ?_))))
   refine AC.then_ (AF.region (AM O (BD 0 O6 O (AE.openV (V:=λb4=>(Value.slice (some ⟨b4,0,none⟩) 1 1)) (T:=91) (cs:=Bo ve) (AS O) (Av (z:=.agg (Bo (⟨0,0,0,0⟩:E4)).toArray) (cs:=Bo ve) (pv:=[(0,(aG (Bo ve)))]) underlying88 sizeOf91 zeroValue91 (by decide) (by decide) O (K5 ve)) O (AT O) λb4=>AE.appendAt 3 (j:=0) (cs2:=rowsL Bo (out++[ve])) bF O ho (Ak Bw _) O O O O O (by decide) (Hx Z) Z (by rw [BP];rfl) O λp_1 c_1 ho_1 hne_1=>?_))))
   refine asg' O (AE.nil (AC.subF (sL [2,85,12,14] O) (AC.in_normal ?_)))
   have hnext:seen.length<(Cn ts (3*ts.length)).length:=by have h9:=LE (l:=seen++[qn]) (n:=(Cn ts (3*ts.length)).length) (List.nodup_append.2 ⟨hnd,List.nodup_cons.2 ⟨List.not_mem_nil,List.nodup_nil⟩,λa ha b hb e=>by rw [List.mem_singleton.1 hb] at e;exact hns (e▸ha)⟩) (λx hx=>by rcases List.mem_append.1 hx with h|h;exact hlt x h;rw [List.mem_singleton.1 h];exact (List.getElem?_eq_some_iff.1 hq).1);rw [List.length_append,List.length_singleton] at h9;omega
   rw [show out.length+1=(out++[ve]).length by simp]
   exact AC.round4 (seen++[qn]) (out++[ve]) p_1 c_1 (⟨List.nodup_append.2 ⟨hnd,List.nodup_cons.2 ⟨List.not_mem_nil,List.nodup_nil⟩,λa ha b hb e=>by rw [List.mem_singleton.1 hb] at e;exact hns (e▸ha)⟩,λx hx=>by rcases List.mem_append.1 hx with h|h;exact hlt x h;rw [List.mem_singleton.1 h];exact (List.getElem?_eq_some_iff.1 hq).1,by rw [List.map_append,hou];simp [XD hq],(by simpa using ho_1),hne_1⟩) (by have h8:=hnext;rw [List.length_append,List.length_singleton];omega) (sF O) (sl (sl sr))
theorem UK (ts:List (Nat×Nat×Nat)) (x:RX (rowsL Ai ts) ts.length) (N:Nat) (hn:By N ts=true) (hN:N<=4611686018427387904) (hl:ts.length<=1000000000) (w:World) {S:Nat->Prop} (hx:Ro S w x):Calls prog 93 #[(Value.slice x.p ts.length x.c)] w (Aw (RX (rowsL Bo (BV ts)) (BV ts).length) S w):=(Mn ts x N hn hN hl w hx).mono λe w1 h=>h.ofCX
end
end Go.Proofs.YtpgncndhhhllfaaGreatDoor
