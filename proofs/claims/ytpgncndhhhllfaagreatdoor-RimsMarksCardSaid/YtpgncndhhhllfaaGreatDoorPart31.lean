import Derived.Test.YtpgncndhhhllfaaGreatDoorPart06
import Derived.Test.YtpgncndhhhllfaaGreatDoorPart27
import Derived.Test.YtpgncndhhhllfaaGreatDoorPart28
import Derived.Test.YtpgncndhhhllfaaGreatDoorPart30
namespace Go.Proofs.YtpgncndhhhllfaaGreatDoor
open Go Go.RowKit Go.Proofs.Tryz
set_option linter.unusedVariables false
set_option linter.unusedSimpArgs false
section
set_option maxRecDepth 100000
theorem X5:ElemT Tryz.prog 88 91 4 32:=⟨Tryz.underlying88,C3 (by kernel_rfl)⟩
theorem GI:Hm Tryz.prog 231 Dw Kp where
 law:=.of_law (deep_law_laid PT (m:=2) (by decide) (by decide +kernel) (by kernel_rfl) (by kernel_rfl))
 key:=λa h=>KM Tryz.underlying231 ⟨rfl,rfl⟩ ⟨rfl,rfl⟩ (by decide +kernel) Tryz.underlying3 (by kernel_rfl) (by kernel_rfl) (by kernel_rfl) (by decide +kernel) (Gc h.1) (Gc h.2)
 inj:=λa b h=>JG h
theorem Ti (p:Option Addr) (n cp:Nat) (h:n<=cp) (w:World)  :Calls Tryz.prog 158 #[(Value.slice p n cp)] w (An w (Value.slice p n n)):=by
 refine Ag (args:=[(Value.slice p n cp)]) Tryz.func158 rfl rfl (AY rfl) (AF.subF (sL [0] rfl) (q4 (asg' rfl (AD.nil (q2 ?_)))))
 refine AJ rfl (AJ rfl (AH (v:=(vN n)) (AE rfl Tryz.underlying88) rfl (AJ rfl (AH (v:=(vN n)) (AE rfl Tryz.underlying88) rfl (AH (v:=(Value.slice p n n)) (CK (m:=n) rfl rfl rfl Tryz.underlying88 Tryz.sizeOf91 (by omega)) rfl ?_)))))
 exact asg' rfl (AD.nil (AC.subF (sL [2] rfl) (AC.then_ (AF.ret (AN rfl (AQ (v:=(Value.slice p n n)) rfl) (λw hw=>⟨rfl,hw.out⟩))))))
theorem Ji (x0:E4):Instr.fill (λi=>some (i*4,4)) ((Array.range (1*4)).map ((Value.agg (CN (⟨0,0,0,0⟩:E4)).toArray).cells[·%(Value.agg (CN (⟨0,0,0,0⟩:E4)).toArray).cells.size]!)) [(0,.agg (CN x0).toArray)]=some (CN x0).toArray:=by kernel_rfl
set_option maxHeartbeats 4000000 in
theorem MO (ts:List (Nat×Nat×Nat)) (x:RX (rowsL Aq ts) ts.length) (N:Nat) (hn:By N ts=true) (hN:N<=4611686018427387904) (hl:ts.length<=1000000000) (w:World) {S:Nat->Prop} (hx:Ro S w x):Calls Tryz.prog 93 #[(Value.slice x.p ts.length x.c)] w (Av (RX (rowsL CN (B4 ts)) (B4 ts).length) S w):=by
 have lx:=DF (W:=w) hx
 refine Ah (args:=[(Value.slice x.p ts.length x.c)]) (L:=[AI x.p (rowsL Aq ts)]) Tryz.func93 rfl rfl (AY rfl) (EV hx Ar) (AF.subF (sL [0] rfl) (q4 (asg' rfl (AD.nil (q2 ?_)))))
 refine AD.makeMap Dw Lm (AO rfl) rfl λb1=>asg' rfl (q6 (sL [0,2,3] rfl) (q4 (AJ rfl (AH (v:=(vN ts.length)) (AE rfl Tryz.underlying23) rfl ?_))))
 refine AJ rfl (AD.nil (AC.subF (sL [2,3,16,17,18] rfl) (AC.then_ (AF.block ?_))))
 refine AF.lp1 (tg λ(t:Nat)=>t<=ts.length) (tg λ(t:Nat)=>[(2,(Value.slice none 0 0)),(3,(Value.map (some b1))),(16,(Value.slice x.p ts.length x.c)),(17,(vN ts.length)),(18,(vN t))]) (tg λ(t:Nat)=>[Bd b1 Dw Lm (CM ts (3*t+0)),AI x.p (rowsL Aq ts)]) (tg λ(t:Nat)=>ts.length-t) 0 (Nat.zero_le _) (sF rfl) sr (λt hJ=>?_)
 have ht:=hJ
 refine q4 (AH (Ad (c:=(decide (t<ts.length))) rfl rfl (CB (a:=t) (b:=ts.length))) rfl (AD.nil (q1 ?_)))
 refine AF.cond rfl (λhc0=>?_) (λhc0=>?_)
 ·replace hc0:=of_decide_eq_true hc0
  obtain ⟨T,hT⟩:∃q,q=ts.getD t (0,0,0):=⟨_,rfl⟩
  obtain ⟨g1,g2,g3⟩:=DP (DK hn hc0)
  rw [<-hT] at g1 g2 g3
  refine AF.skip (q1 (AF.block (q4 (AJ rfl (AH (v:=(pP (pB x.p) (pO x.p+t*3))) (AL (j:=t) rfl rfl x.ok Tryz.underlying23 Tryz.sizeOf53 rfl (by omega)) rfl ?_)))))
  refine AH (v:=(aG (Aq (ts.getD t ((0,0,0):Nat×Nat×Nat))))) (Ae (vs:=Aq (ts.getD t ((0,0,0):Nat×Nat×Nat))) (i:=1) rfl rfl (A6.ne x.ok (by omega)) GL (Ax BR _ _ _ (by omega)) (BR _)) rfl (AD.retell (k:=22) (u:=(aG (Aq T))) rfl (by rw [hT]) (al R_ rfl λb2=>asg' rfl (BC rfl Tryz.sizeOf53 rfl (q3 (sL [2,3,16,17,18,5,4] rfl) ?_))))
  refine AJ rfl (AD.nil (AC.then_ (AF.block (AF.unroll 4 (Gd.step ?_)))))
  refine q4 (AH (Ad (c:=true) rfl rfl (by decide)) rfl (AD.nil (q1 (AF.cond_true rfl (AF.skip ?_)))))
  refine q1 (AF.block (q4 (AJ rfl (asg' rfl (q6 (sL [2,3,16,17,18,5,4,23,6] rfl) ?_)))))
  refine Cw [(0,true),(1,true),(2,true),(3,true),(4,true),(5,true),(6,true),(7,true),(8,true),(9,true)] sr (BS rfl (Aw (v:=(pP b2 0)) rfl (AX (j:=0) rfl rfl Tryz.underlying53 Tryz.sizeOf3 rfl (by decide) rfl) (Bm 0 (vN T.1) Be rfl (BS rfl (Aw rfl (AW (c:=(1:Int)) rfl rfl (by decide)) ?_)))))
  refine Aw rfl (Cg (c:=(1:Int)) rfl rfl (by decide) (by decide)) (Aw (v:=(pP b2 1)) rfl (AX (j:=1) rfl rfl Tryz.underlying53 Tryz.sizeOf3 rfl (by decide) rfl) (Bm 0 (vN T.2.1) Be rfl (pS' rfl (pS' rfl (OkE.nil ?_)))))
  refine AC.subF (sL [2,3,16,17,18,5,4,23,7,8] rfl) (q2 (AJ rfl (AJ rfl (AH (Ek (c:=((min T.1 T.2.1:Nat):Int)) rfl rfl (by split<;>omega)) rfl (AJ rfl ?_)))))
  refine AJ rfl (AH (Ds (c:=((max T.1 T.2.1:Nat):Int)) rfl rfl (by split<;>omega)) rfl (AH (v:=(aG ([(vN (min T.1 T.2.1)),(vN (max T.1 T.2.1))]))) (AU (zs:=BY ((0,0):P2)) (vs:=[(vN (min T.1 T.2.1)),(vN (max T.1 T.2.1))]) (pv:=[(0,(vN (min T.1 T.2.1))),(1,(vN (max T.1 T.2.1)))]) (places:=[(0,1),(1,1)]) Tryz.zeroValue231 Tryz.underlying231 (λw=>by simp [Tryz.sizeOf3]) rfl rfl) rfl (al S1 rfl λb3=>BC rfl Tryz.sizeOf231 rfl (q3 (sL [2,3,16,17,18,5,4,23,7,8,9] rfl) ?_))))
  refine AJ rfl (BF 0 KL rfl (AH (v:=(Value.tuple #[(aG (CN ((Ac (CM ts (3*t+0)) ((min T.1 T.2.1,max T.1 T.2.1):P2)).getD (⟨0,0,0,0⟩:E4)))),(Value.bool ((Ac (CM ts (3*t+0)) ((min T.1 T.2.1,max T.1 T.2.1):P2)).isSome))])) (BZ GI 2 (eV:=Lm) (kvs:=CM ts (3*t+0)) (x:=((min T.1 T.2.1,max T.1 T.2.1):P2)) (z0:=(⟨0,0,0,0⟩:E4)) (co:=true) rfl rfl Tryz.underlying230 Tryz.zeroValue91 rfl (FB hn hN _ (by omega)) (DM (by omega) (by omega))) rfl (AJ rfl (AH (AS (v:=(aG (CN ((Ac (CM ts (3*t+0)) ((min T.1 T.2.1,max T.1 T.2.1):P2)).getD (⟨0,0,0,0⟩:E4))))) rfl rfl) rfl (AH (AS (v:=(Value.bool ((Ac (CM ts (3*t+0)) ((min T.1 T.2.1,max T.1 T.2.1):P2)).isSome))) rfl rfl) rfl ?_)))))
  refine al Sr rfl λb4=>BC rfl Tryz.sizeOf91 rfl (asg' rfl (q6 (sL [2,3,16,17,18,5,4,23,7,8,9,10,11] rfl) (q4 (AJ rfl ?_))))
  refine AH (Bw (c:=(!((Ac (CM ts (3*t+0)) ((min T.1 T.2.1,max T.1 T.2.1):P2)).isSome))) rfl rfl) rfl (AD.nil (AC.subF (sL [2,3,16,17,18,5,4,23,7,8,9,10,48] rfl) (AC.then_ ?_)))
  refine AF.jn1 (tg λ(e00:E4)=>e00=(Ac (CM ts (3*t+0)) (min T.1 T.2.1,max T.1 T.2.1)).getD (He (min T.1 T.2.1,max T.1 T.2.1))) (tg λ(e00:E4)=>[(2,(Value.slice none 0 0)),(3,(Value.map (some b1))),(16,(Value.slice x.p ts.length x.c)),(17,(vN ts.length)),(18,(vN t)),(5,(pP b2 0)),(4,(vN t)),(23,(vI 0)),(7,(vN T.1)),(8,(vN T.2.1)),(9,(pP b3 0)),(10,(pP b4 0))]) (tg λ(e00:E4)=>[Ab b4 91 (CN e00),Ab b3 231 ([(vN (min T.1 T.2.1)),(vN (max T.1 T.2.1))]),Ab b2 53 (Aq T),Bd b1 Dw Lm (CM ts (3*t+0)),AI x.p (rowsL Aq ts)]) ?_ ?_
  ·skip
   refine AF.cond rfl (λhc2=>?_) (λhc2=>?_)
   ·simp only [Bool.and_eq_true,Bool.or_eq_true,Bool.and_eq_false_iff,Bool.or_eq_false_iff,Bool.not_eq_true',Bool.not_eq_false',decide_eq_true_eq,decide_eq_false_iff_not] at hc2
    refine AF.region (AH (v:=(pP b3 0)) (AA rfl Tryz.underlying231 rfl Tryz.sizeOf3 rfl) rfl (BD 1 (vN (min T.1 T.2.1)) Be rfl (AH (v:=(pP b3 1)) (AA rfl Tryz.underlying231 rfl Tryz.sizeOf3 rfl) rfl (BD 1 (vN (max T.1 T.2.1)) Be rfl (AH (v:=(aG ([(vN (min T.1 T.2.1)),(vN (max T.1 T.2.1)),(vI (-1:Int)),(vI (-1:Int))]))) (AU (zs:=CN (⟨0,0,0,0⟩:E4)) (vs:=[(vN (min T.1 T.2.1)),(vN (max T.1 T.2.1)),(vI (-1:Int)),(vI (-1:Int))]) (pv:=[(0,(vN (min T.1 T.2.1))),(1,(vN (max T.1 T.2.1))),(2,(vI (-1:Int))),(3,(vI (-1:Int)))]) (places:=[(0,1),(1,1),(2,1),(3,1)]) Tryz.zeroValue91 Tryz.underlying91 (λw=>by simp [Tryz.sizeOf3]) rfl rfl) rfl ?_)))))
    exact BC rfl Tryz.sizeOf91 rfl (AD.nil (AC.subF (sL [2,3,16,17,18,5,4,23,7,8,9,10] rfl) (AC.join1 (⟨min T.1 T.2.1,max T.1 T.2.1,-1,-1⟩:E4) ((JL (k:=(min T.1 T.2.1,max T.1 T.2.1)) (by simpa using hc2))) (sF rfl) sr)))
   ·simp only [Bool.and_eq_true,Bool.or_eq_true,Bool.and_eq_false_iff,Bool.or_eq_false_iff,Bool.not_eq_true',Bool.not_eq_false',decide_eq_true_eq,decide_eq_false_iff_not] at hc2
    exact AF.skip (AC.join1 ((Ac (CM ts (3*t+0)) ((min T.1 T.2.1,max T.1 T.2.1):P2)).getD (⟨0,0,0,0⟩:E4)) ((JX (by simpa using hc2))) (sF rfl) sr)
  ·intro e00 hJ
   have he0:=hJ
   refine q1 ?_
   refine AF.jn1 (tg λ(e20:E4)=>e20=Er e00 t T.1 T.2.1) (tg λ(e20:E4)=>[(2,(Value.slice none 0 0)),(3,(Value.map (some b1))),(16,(Value.slice x.p ts.length x.c)),(17,(vN ts.length)),(18,(vN t)),(5,(pP b2 0)),(4,(vN t)),(23,(vI 0)),(9,(pP b3 0)),(10,(pP b4 0))]) (tg λ(e20:E4)=>[Ab b4 91 (CN e20),Ab b3 231 ([(vN (min T.1 T.2.1)),(vN (max T.1 T.2.1))]),Ab b2 53 (Aq T),Bd b1 Dw Lm (CM ts (3*t+0)),AI x.p (rowsL Aq ts)]) ?_ ?_
   ·skip
    refine AF.block (q4 (AJ rfl (AJ rfl (AH (Ad (c:=(decide (T.1<T.2.1))) rfl rfl (CB (a:=T.1) (b:=T.2.1))) rfl (AJ rfl ?_)))))
    refine AD.mid (FM:=[(2,(Value.slice none 0 0)),(3,(Value.map (some b1))),(16,(Value.slice x.p ts.length x.c)),(17,(vN ts.length)),(18,(vN t)),(5,(pP b2 0)),(4,(vN t)),(23,(vI 0)),(7,(vN T.1)),(8,(vN T.2.1)),(9,(pP b3 0)),(10,(pP b4 0)),(55,(vN T.1)),(56,(vN T.2.1)),(57,(Value.bool (decide (T.1<T.2.1)))),(58,(Value.bool (decide (T.1<T.2.1)))),(62,(Value.bool ((decide (T.1<T.2.1))&&(decide (e00.l=(-1:Int))))))]) (LM:=[Ab b4 91 (CN e00),Ab b3 231 ([(vN (min T.1 T.2.1)),(vN (max T.1 T.2.1))]),Ab b2 53 (Aq T),Bd b1 Dw Lm (CM ts (3*t+0)),AI x.p (rowsL Aq ts)]) 4 ?_ ?_
    ·rcases Bool.eq_false_or_eq_true (decide (T.1<T.2.1)) with hg1|hg1
     ·skip
      refine AD.retell (k:=58) (u:=Value.bool true) rfl (by rw [hg1]) ?_
      have hg1':=hg1
      replace hg1':=of_decide_eq_true hg1'
      exact AD.step (v:=(pP b4 2)) (AB rfl) (AA rfl Tryz.underlying91 rfl Tryz.sizeOf3 rfl) rfl (AY rfl) (AD.step (v:=(vI e00.l)) (AB rfl) (AP (i:=0) (v:=(vI e00.l)) rfl rfl Be.a rfl) rfl (AY rfl) (AD.step (v:=(Value.bool (decide (e00.l=(-1:Int))))) (AB rfl) (BJ (c:=(decide (e00.l=(-1:Int)))) rfl rfl rfl) rfl (AY rfl) (AH (v:=(Value.bool (decide (e00.l=(-1:Int))))) (AT rfl rfl) rfl (AD.nil (AC.mid (sS rfl (sS rfl (sS rfl (sS rfl (sS rfl (sS rfl (sS rfl (sS rfl (sS rfl (sS rfl (sS rfl (sS rfl (sS rfl (sS rfl (sS rfl (sS (by first|rfl|(rw [hg1];rfl)|rw [hg1]) (sS (by first|rfl|(rw [hg1];rfl)|rw [hg1]) (sN)))))))))))))))))) (List.Sublist.refl _))))))
     ·skip
      refine AD.retell (k:=58) (u:=Value.bool false) rfl (by rw [hg1]) ?_
      have hg1':=hg1
      replace hg1':=of_decide_eq_false hg1'
      exact AD.skip (AG rfl) rfl (AY rfl) (AD.skip (AG rfl) rfl (AY rfl) (AD.skip (AG rfl) rfl (AY rfl) (AH (v:=(Value.bool false)) (AV rfl rfl) rfl (AD.nil (AC.mid (sS rfl (sS rfl (sS rfl (sS rfl (sS rfl (sS rfl (sS rfl (sS rfl (sS rfl (sS rfl (sS rfl (sS rfl (sS rfl (sS rfl (sS rfl (sS (by first|rfl|(rw [hg1];rfl)|rw [hg1]) (sS (by first|rfl|(rw [hg1];rfl)|rw [hg1]) (sN)))))))))))))))))) (List.Sublist.refl _))))))
    refine asg' rfl (AD.nil (AC.subF (sL [2,3,16,17,18,5,4,23,7,8,9,10,54] rfl) (AC.then_ ?_)))
    refine AF.cond rfl (λhc3=>?_) (λhc3=>?_)
    ·simp only [Bool.and_eq_true,Bool.or_eq_true,Bool.and_eq_false_iff,Bool.or_eq_false_iff,Bool.not_eq_true',Bool.not_eq_false',decide_eq_true_eq,decide_eq_false_iff_not] at hc3
     refine AF.region (AJ rfl (AH (v:=(pP b4 2)) (AA rfl Tryz.underlying91 rfl Tryz.sizeOf3 rfl) rfl (IM 0 (off:=2) (vs:=[(vN t)]) (cs':=[(vN e00.a),(vN e00.b),(vN t),(vI e00.r)]) (AO rfl) rfl Tryz.sizeOf3 rfl (AD.nil (AC.subF (sL [2,3,16,17,18,5,4,23,7,8,9,10] rfl) ?_)))))
     exact AC.in_normal (AC.join1 (⟨e00.a,e00.b,((t:Nat):Int),e00.r⟩:E4) ((by unfold Er;rw [if_pos (by omega)])) (sF rfl) sr)
    ·simp only [Bool.and_eq_true,Bool.or_eq_true,Bool.and_eq_false_iff,Bool.or_eq_false_iff,Bool.not_eq_true',Bool.not_eq_false',decide_eq_true_eq,decide_eq_false_iff_not] at hc3
     refine q4 (AJ rfl (AJ rfl (AH (Bg (c:=(decide (T.2.1<T.1))) rfl rfl (CB (a:=T.2.1) (b:=T.1))) rfl (AJ rfl ?_))))
     refine AD.mid (FM:=[(2,(Value.slice none 0 0)),(3,(Value.map (some b1))),(16,(Value.slice x.p ts.length x.c)),(17,(vN ts.length)),(18,(vN t)),(5,(pP b2 0)),(4,(vN t)),(23,(vI 0)),(7,(vN T.1)),(8,(vN T.2.1)),(9,(pP b3 0)),(10,(pP b4 0)),(66,(vN T.1)),(67,(vN T.2.1)),(68,(Value.bool (decide (T.2.1<T.1)))),(69,(Value.bool (decide (T.2.1<T.1)))),(73,(Value.bool ((decide (T.2.1<T.1))&&(decide (e00.r=(-1:Int))))))]) (LM:=[Ab b4 91 (CN e00),Ab b3 231 ([(vN (min T.1 T.2.1)),(vN (max T.1 T.2.1))]),Ab b2 53 (Aq T),Bd b1 Dw Lm (CM ts (3*t+0)),AI x.p (rowsL Aq ts)]) 4 ?_ ?_
     ·rcases Bool.eq_false_or_eq_true (decide (T.2.1<T.1)) with hg2|hg2
      ·skip
       refine AD.retell (k:=69) (u:=Value.bool true) rfl (by rw [hg2]) ?_
       have hg2':=hg2
       replace hg2':=of_decide_eq_true hg2'
       exact AD.step (v:=(pP b4 3)) (AB rfl) (AA rfl Tryz.underlying91 rfl Tryz.sizeOf3 rfl) rfl (AY rfl) (AD.step (v:=(vI e00.r)) (AB rfl) (AP (i:=0) (v:=(vI e00.r)) rfl rfl Be.a rfl) rfl (AY rfl) (AD.step (v:=(Value.bool (decide (e00.r=(-1:Int))))) (AB rfl) (BJ (c:=(decide (e00.r=(-1:Int)))) rfl rfl rfl) rfl (AY rfl) (AH (v:=(Value.bool (decide (e00.r=(-1:Int))))) (AT rfl rfl) rfl (AD.nil (AC.mid (sS rfl (sS rfl (sS rfl (sS rfl (sS rfl (sS rfl (sS rfl (sS rfl (sS rfl (sS rfl (sS rfl (sS rfl (sS rfl (sS rfl (sS rfl (sS (by first|rfl|(rw [hg2];rfl)|rw [hg2]) (sS (by first|rfl|(rw [hg2];rfl)|rw [hg2]) (sN)))))))))))))))))) (List.Sublist.refl _))))))
      ·skip
       refine AD.retell (k:=69) (u:=Value.bool false) rfl (by rw [hg2]) ?_
       have hg2':=hg2
       replace hg2':=of_decide_eq_false hg2'
       exact AD.skip (AG rfl) rfl (AY rfl) (AD.skip (AG rfl) rfl (AY rfl) (AD.skip (AG rfl) rfl (AY rfl) (AH (v:=(Value.bool false)) (AV rfl rfl) rfl (AD.nil (AC.mid (sS rfl (sS rfl (sS rfl (sS rfl (sS rfl (sS rfl (sS rfl (sS rfl (sS rfl (sS rfl (sS rfl (sS rfl (sS rfl (sS rfl (sS rfl (sS (by first|rfl|(rw [hg2];rfl)|rw [hg2]) (sS (by first|rfl|(rw [hg2];rfl)|rw [hg2]) (sN)))))))))))))))))) (List.Sublist.refl _))))))
     refine asg' rfl (AD.nil (AC.subF (sL [2,3,16,17,18,5,4,23,7,8,9,10,65] rfl) (AC.then_ ?_)))
     refine AF.cond rfl (λhc4=>?_) (λhc4=>?_)
     ·simp only [Bool.and_eq_true,Bool.or_eq_true,Bool.and_eq_false_iff,Bool.or_eq_false_iff,Bool.not_eq_true',Bool.not_eq_false',decide_eq_true_eq,decide_eq_false_iff_not] at hc4
      refine AF.region (AJ rfl (AH (v:=(pP b4 3)) (AA rfl Tryz.underlying91 rfl Tryz.sizeOf3 rfl) rfl (IM 0 (off:=3) (vs:=[(vN t)]) (cs':=[(vN e00.a),(vN e00.b),(vI e00.l),(vN t)]) (AO rfl) rfl Tryz.sizeOf3 rfl (AD.nil (AC.subF (sL [2,3,16,17,18,5,4,23,7,8,9,10] rfl) ?_)))))
      exact AC.in_normal (AC.join1 (⟨e00.a,e00.b,e00.l,((t:Nat):Int)⟩:E4) ((by unfold Er;rw [if_neg (by omega),if_pos (by omega)])) (sF rfl) sr)
     ·simp only [Bool.and_eq_true,Bool.or_eq_true,Bool.and_eq_false_iff,Bool.or_eq_false_iff,Bool.not_eq_true',Bool.not_eq_false',decide_eq_true_eq,decide_eq_false_iff_not] at hc4
      exact AF.skip (AC.in_normal (AC.join1 e00 ((by unfold Er;rw [if_neg (by omega),if_neg (by omega)])) (sF rfl) sr))
   ·intro e20 hJ
    have hu0:=hJ
    refine AC.then_ (AF.region (AJ rfl (BF 1 KL rfl (BF 0 Th rfl (AD.mapUpdate GI 3 (kvs:=CM ts (3*t+0)) (x:=((min T.1 T.2.1,max T.1 T.2.1):P2)) (y:=e20) (AO rfl) rfl rfl rfl Tryz.underlying230 rfl (FB hn hN _ (by omega)) (DM (by omega) (by omega)) ?_)))))
    rw [show Az (CM ts (3*t+0)) ((min T.1 T.2.1,max T.1 T.2.1):P2) e20=CM ts (3*t+1) from by rw [hu0,he0,hT];exact (Iw (ts:=ts) (t:=t) (i:=0) (by omega)).symm]
    refine AD.nil (AC.subF (sL [2,3,16,17,18,5,4,23,9,10] rfl) (AC.in_normal (AC.then_ (AF.region (AH (AW (c:=(1:Int)) rfl rfl (by decide)) rfl ?_)))))
    refine AJ rfl (AD.nil (AC.subF (sL [2,3,16,17,18,5,4,23,9,10] rfl) (AC.again (Gd.step (q4 ?_)))))
    refine AH (Ad (c:=true) rfl rfl (by decide)) rfl (AD.nil (q1 (AF.cond_true rfl (AF.skip (q1 ?_)))))
    refine AF.block (q4 (AJ rfl (asg' rfl (q6 (sL [2,3,16,17,18,5,4,23,9,10,6] rfl) (Cw [(0,true),(1,true),(2,true),(3,true),(4,true),(5,true),(6,true),(7,true),(8,true),(9,true)] sr ?_)))))
    refine BS rfl (Aw (v:=(pP b2 1)) rfl (AX (j:=1) rfl rfl Tryz.underlying53 Tryz.sizeOf3 rfl (by decide) rfl) (Bm 2 (vN T.2.1) Be rfl (BS rfl (Aw rfl (AW (c:=(2:Int)) rfl rfl (by decide)) (Aw rfl (Cg (c:=(2:Int)) rfl rfl (by decide) (by decide)) ?_)))))
    refine Aw (v:=(pP b2 2)) rfl (AX (j:=2) rfl rfl Tryz.underlying53 Tryz.sizeOf3 rfl (by decide) rfl) (Bm 2 (vN T.2.2) Be rfl (pS' rfl (pS' rfl (OkE.nil (AC.subF (sL [2,3,16,17,18,5,4,23,9,10,7,8] rfl) ?_)))))
    refine q2 (AJ rfl (AJ rfl (AH (Ek (c:=((min T.2.1 T.2.2:Nat):Int)) rfl rfl (by split<;>omega)) rfl (AJ rfl (AJ rfl ?_)))))
    refine AH (Ds (c:=((max T.2.1 T.2.2:Nat):Int)) rfl rfl (by split<;>omega)) rfl (AH (v:=(aG ([(vN (min T.2.1 T.2.2)),(vN (max T.2.1 T.2.2))]))) (AU (zs:=BY ((0,0):P2)) (vs:=[(vN (min T.2.1 T.2.2)),(vN (max T.2.1 T.2.2))]) (pv:=[(0,(vN (min T.2.1 T.2.2))),(1,(vN (max T.2.1 T.2.2)))]) (places:=[(0,1),(1,1)]) Tryz.zeroValue231 Tryz.underlying231 (λw=>by simp [Tryz.sizeOf3]) rfl rfl) rfl (al S1 rfl λb5=>BC rfl Tryz.sizeOf231 rfl (q3 (sL [2,3,16,17,18,5,4,23,9,10,7,8] rfl) (AJ rfl ?_))))
    refine BF 0 KL rfl (AH (v:=(Value.tuple #[(aG (CN ((Ac (CM ts (3*t+1)) ((min T.2.1 T.2.2,max T.2.1 T.2.2):P2)).getD (⟨0,0,0,0⟩:E4)))),(Value.bool ((Ac (CM ts (3*t+1)) ((min T.2.1 T.2.2,max T.2.1 T.2.2):P2)).isSome))])) (BZ GI 4 (eV:=Lm) (kvs:=CM ts (3*t+1)) (x:=((min T.2.1 T.2.2,max T.2.1 T.2.2):P2)) (z0:=(⟨0,0,0,0⟩:E4)) (co:=true) rfl rfl Tryz.underlying230 Tryz.zeroValue91 rfl (FB hn hN _ (by omega)) (DM (by omega) (by omega))) rfl (AJ rfl (AH (AS (v:=(aG (CN ((Ac (CM ts (3*t+1)) ((min T.2.1 T.2.2,max T.2.1 T.2.2):P2)).getD (⟨0,0,0,0⟩:E4))))) rfl rfl) rfl (AH (AS (v:=(Value.bool ((Ac (CM ts (3*t+1)) ((min T.2.1 T.2.2,max T.2.1 T.2.2):P2)).isSome))) rfl rfl) rfl (al Sr rfl λb6=>?_)))))
    refine BC rfl Tryz.sizeOf91 rfl (asg' rfl (q6 (sL [2,3,16,17,18,5,4,23,9,10,7,8,11] rfl) (q4 (AJ rfl (AH (Bw (c:=(!((Ac (CM ts (3*t+1)) ((min T.2.1 T.2.2,max T.2.1 T.2.2):P2)).isSome))) rfl rfl) rfl ?_)))))
    refine AD.nil (AC.subF (sL [2,3,16,17,18,5,4,23,9,10,7,8,48] rfl) (AC.then_ ?_))
    refine AF.jn1 (tg λ(e01:E4)=>e01=(Ac (CM ts (3*t+1)) (min T.2.1 T.2.2,max T.2.1 T.2.2)).getD (He (min T.2.1 T.2.2,max T.2.1 T.2.2))) (tg λ(e01:E4)=>[(2,(Value.slice none 0 0)),(3,(Value.map (some b1))),(16,(Value.slice x.p ts.length x.c)),(17,(vN ts.length)),(18,(vN t)),(5,(pP b2 0)),(4,(vN t)),(23,(vI 1)),(9,(pP b5 0)),(10,(pP b6 0)),(7,(vN T.2.1)),(8,(vN T.2.2))]) (tg λ(e01:E4)=>[Ab b6 91 (CN e01),Ab b5 231 ([(vN (min T.2.1 T.2.2)),(vN (max T.2.1 T.2.2))]),Ab b4 91 (CN e20),Ab b3 231 ([(vN (min T.1 T.2.1)),(vN (max T.1 T.2.1))]),Ab b2 53 (Aq T),Bd b1 Dw Lm (CM ts (3*t+1)),AI x.p (rowsL Aq ts)]) ?_ ?_
    ·skip
     refine AF.cond rfl (λhc2=>?_) (λhc2=>?_)
     ·simp only [Bool.and_eq_true,Bool.or_eq_true,Bool.and_eq_false_iff,Bool.or_eq_false_iff,Bool.not_eq_true',Bool.not_eq_false',decide_eq_true_eq,decide_eq_false_iff_not] at hc2
      refine AF.region (AH (v:=(pP b5 0)) (AA rfl Tryz.underlying231 rfl Tryz.sizeOf3 rfl) rfl (BD 1 (vN (min T.2.1 T.2.2)) Be rfl (AH (v:=(pP b5 1)) (AA rfl Tryz.underlying231 rfl Tryz.sizeOf3 rfl) rfl (BD 1 (vN (max T.2.1 T.2.2)) Be rfl (AH (v:=(aG ([(vN (min T.2.1 T.2.2)),(vN (max T.2.1 T.2.2)),(vI (-1:Int)),(vI (-1:Int))]))) (AU (zs:=CN (⟨0,0,0,0⟩:E4)) (vs:=[(vN (min T.2.1 T.2.2)),(vN (max T.2.1 T.2.2)),(vI (-1:Int)),(vI (-1:Int))]) (pv:=[(0,(vN (min T.2.1 T.2.2))),(1,(vN (max T.2.1 T.2.2))),(2,(vI (-1:Int))),(3,(vI (-1:Int)))]) (places:=[(0,1),(1,1),(2,1),(3,1)]) Tryz.zeroValue91 Tryz.underlying91 (λw=>by simp [Tryz.sizeOf3]) rfl rfl) rfl ?_)))))
      exact BC rfl Tryz.sizeOf91 rfl (AD.nil (AC.subF (sL [2,3,16,17,18,5,4,23,9,10,7,8] rfl) (AC.join1 (⟨min T.2.1 T.2.2,max T.2.1 T.2.2,-1,-1⟩:E4) ((JL (k:=(min T.2.1 T.2.2,max T.2.1 T.2.2)) (by simpa using hc2))) (sF rfl) sr)))
     ·simp only [Bool.and_eq_true,Bool.or_eq_true,Bool.and_eq_false_iff,Bool.or_eq_false_iff,Bool.not_eq_true',Bool.not_eq_false',decide_eq_true_eq,decide_eq_false_iff_not] at hc2
      exact AF.skip (AC.join1 ((Ac (CM ts (3*t+1)) ((min T.2.1 T.2.2,max T.2.1 T.2.2):P2)).getD (⟨0,0,0,0⟩:E4)) ((JX (by simpa using hc2))) (sF rfl) sr)
    ·intro e01 hJ
     have he1:=hJ
     refine q1 ?_
     refine AF.jn1 (tg λ(e21:E4)=>e21=Er e01 t T.2.1 T.2.2) (tg λ(e21:E4)=>[(2,(Value.slice none 0 0)),(3,(Value.map (some b1))),(16,(Value.slice x.p ts.length x.c)),(17,(vN ts.length)),(18,(vN t)),(5,(pP b2 0)),(4,(vN t)),(23,(vI 1)),(9,(pP b5 0)),(10,(pP b6 0))]) (tg λ(e21:E4)=>[Ab b6 91 (CN e21),Ab b5 231 ([(vN (min T.2.1 T.2.2)),(vN (max T.2.1 T.2.2))]),Ab b4 91 (CN e20),Ab b3 231 ([(vN (min T.1 T.2.1)),(vN (max T.1 T.2.1))]),Ab b2 53 (Aq T),Bd b1 Dw Lm (CM ts (3*t+1)),AI x.p (rowsL Aq ts)]) ?_ ?_
     ·skip
      refine AF.block (q4 (AJ rfl (AJ rfl (AH (Ad (c:=(decide (T.2.1<T.2.2))) rfl rfl (CB (a:=T.2.1) (b:=T.2.2))) rfl (AJ rfl ?_)))))
      refine AD.mid (FM:=[(2,(Value.slice none 0 0)),(3,(Value.map (some b1))),(16,(Value.slice x.p ts.length x.c)),(17,(vN ts.length)),(18,(vN t)),(5,(pP b2 0)),(4,(vN t)),(23,(vI 1)),(9,(pP b5 0)),(10,(pP b6 0)),(7,(vN T.2.1)),(8,(vN T.2.2)),(55,(vN T.2.1)),(56,(vN T.2.2)),(57,(Value.bool (decide (T.2.1<T.2.2)))),(58,(Value.bool (decide (T.2.1<T.2.2)))),(62,(Value.bool ((decide (T.2.1<T.2.2))&&(decide (e01.l=(-1:Int))))))]) (LM:=[Ab b6 91 (CN e01),Ab b5 231 ([(vN (min T.2.1 T.2.2)),(vN (max T.2.1 T.2.2))]),Ab b4 91 (CN e20),Ab b3 231 ([(vN (min T.1 T.2.1)),(vN (max T.1 T.2.1))]),Ab b2 53 (Aq T),Bd b1 Dw Lm (CM ts (3*t+1)),AI x.p (rowsL Aq ts)]) 4 ?_ ?_
      ·rcases Bool.eq_false_or_eq_true (decide (T.2.1<T.2.2)) with hg3|hg3
       ·skip
        refine AD.retell (k:=58) (u:=Value.bool true) rfl (by rw [hg3]) ?_
        have hg3':=hg3
        replace hg3':=of_decide_eq_true hg3'
        exact AD.step (v:=(pP b6 2)) (AB rfl) (AA rfl Tryz.underlying91 rfl Tryz.sizeOf3 rfl) rfl (AY rfl) (AD.step (v:=(vI e01.l)) (AB rfl) (AP (i:=0) (v:=(vI e01.l)) rfl rfl Be.a rfl) rfl (AY rfl) (AD.step (v:=(Value.bool (decide (e01.l=(-1:Int))))) (AB rfl) (BJ (c:=(decide (e01.l=(-1:Int)))) rfl rfl rfl) rfl (AY rfl) (AH (v:=(Value.bool (decide (e01.l=(-1:Int))))) (AT rfl rfl) rfl (AD.nil (AC.mid (sS rfl (sS rfl (sS rfl (sS rfl (sS rfl (sS rfl (sS rfl (sS rfl (sS rfl (sS rfl (sS rfl (sS rfl (sS rfl (sS rfl (sS rfl (sS (by first|rfl|(rw [hg3];rfl)|rw [hg3]) (sS (by first|rfl|(rw [hg3];rfl)|rw [hg3]) (sN)))))))))))))))))) (List.Sublist.refl _))))))
       ·skip
        refine AD.retell (k:=58) (u:=Value.bool false) rfl (by rw [hg3]) ?_
        have hg3':=hg3
        replace hg3':=of_decide_eq_false hg3'
        exact AD.skip (AG rfl) rfl (AY rfl) (AD.skip (AG rfl) rfl (AY rfl) (AD.skip (AG rfl) rfl (AY rfl) (AH (v:=(Value.bool false)) (AV rfl rfl) rfl (AD.nil (AC.mid (sS rfl (sS rfl (sS rfl (sS rfl (sS rfl (sS rfl (sS rfl (sS rfl (sS rfl (sS rfl (sS rfl (sS rfl (sS rfl (sS rfl (sS rfl (sS (by first|rfl|(rw [hg3];rfl)|rw [hg3]) (sS (by first|rfl|(rw [hg3];rfl)|rw [hg3]) (sN)))))))))))))))))) (List.Sublist.refl _))))))
      refine asg' rfl (AD.nil (AC.subF (sL [2,3,16,17,18,5,4,23,9,10,7,8,54] rfl) (AC.then_ ?_)))
      refine AF.cond rfl (λhc3=>?_) (λhc3=>?_)
      ·simp only [Bool.and_eq_true,Bool.or_eq_true,Bool.and_eq_false_iff,Bool.or_eq_false_iff,Bool.not_eq_true',Bool.not_eq_false',decide_eq_true_eq,decide_eq_false_iff_not] at hc3
       refine AF.region (AJ rfl (AH (v:=(pP b6 2)) (AA rfl Tryz.underlying91 rfl Tryz.sizeOf3 rfl) rfl (IM 0 (off:=2) (vs:=[(vN t)]) (cs':=[(vN e01.a),(vN e01.b),(vN t),(vI e01.r)]) (AO rfl) rfl Tryz.sizeOf3 rfl (AD.nil (AC.subF (sL [2,3,16,17,18,5,4,23,9,10,7,8] rfl) ?_)))))
       exact AC.in_normal (AC.join1 (⟨e01.a,e01.b,((t:Nat):Int),e01.r⟩:E4) ((by unfold Er;rw [if_pos (by omega)])) (sF rfl) sr)
      ·simp only [Bool.and_eq_true,Bool.or_eq_true,Bool.and_eq_false_iff,Bool.or_eq_false_iff,Bool.not_eq_true',Bool.not_eq_false',decide_eq_true_eq,decide_eq_false_iff_not] at hc3
       refine q4 (AJ rfl (AJ rfl (AH (Bg (c:=(decide (T.2.2<T.2.1))) rfl rfl (CB (a:=T.2.2) (b:=T.2.1))) rfl (AJ rfl ?_))))
       refine AD.mid (FM:=[(2,(Value.slice none 0 0)),(3,(Value.map (some b1))),(16,(Value.slice x.p ts.length x.c)),(17,(vN ts.length)),(18,(vN t)),(5,(pP b2 0)),(4,(vN t)),(23,(vI 1)),(9,(pP b5 0)),(10,(pP b6 0)),(7,(vN T.2.1)),(8,(vN T.2.2)),(66,(vN T.2.1)),(67,(vN T.2.2)),(68,(Value.bool (decide (T.2.2<T.2.1)))),(69,(Value.bool (decide (T.2.2<T.2.1)))),(73,(Value.bool ((decide (T.2.2<T.2.1))&&(decide (e01.r=(-1:Int))))))]) (LM:=[Ab b6 91 (CN e01),Ab b5 231 ([(vN (min T.2.1 T.2.2)),(vN (max T.2.1 T.2.2))]),Ab b4 91 (CN e20),Ab b3 231 ([(vN (min T.1 T.2.1)),(vN (max T.1 T.2.1))]),Ab b2 53 (Aq T),Bd b1 Dw Lm (CM ts (3*t+1)),AI x.p (rowsL Aq ts)]) 4 ?_ ?_
       ·rcases Bool.eq_false_or_eq_true (decide (T.2.2<T.2.1)) with hg4|hg4
        ·skip
         refine AD.retell (k:=69) (u:=Value.bool true) rfl (by rw [hg4]) ?_
         have hg4':=hg4
         replace hg4':=of_decide_eq_true hg4'
         exact AD.step (v:=(pP b6 3)) (AB rfl) (AA rfl Tryz.underlying91 rfl Tryz.sizeOf3 rfl) rfl (AY rfl) (AD.step (v:=(vI e01.r)) (AB rfl) (AP (i:=0) (v:=(vI e01.r)) rfl rfl Be.a rfl) rfl (AY rfl) (AD.step (v:=(Value.bool (decide (e01.r=(-1:Int))))) (AB rfl) (BJ (c:=(decide (e01.r=(-1:Int)))) rfl rfl rfl) rfl (AY rfl) (AH (v:=(Value.bool (decide (e01.r=(-1:Int))))) (AT rfl rfl) rfl (AD.nil (AC.mid (sS rfl (sS rfl (sS rfl (sS rfl (sS rfl (sS rfl (sS rfl (sS rfl (sS rfl (sS rfl (sS rfl (sS rfl (sS rfl (sS rfl (sS rfl (sS (by first|rfl|(rw [hg4];rfl)|rw [hg4]) (sS (by first|rfl|(rw [hg4];rfl)|rw [hg4]) (sN)))))))))))))))))) (List.Sublist.refl _))))))
        ·skip
         refine AD.retell (k:=69) (u:=Value.bool false) rfl (by rw [hg4]) ?_
         have hg4':=hg4
         replace hg4':=of_decide_eq_false hg4'
         exact AD.skip (AG rfl) rfl (AY rfl) (AD.skip (AG rfl) rfl (AY rfl) (AD.skip (AG rfl) rfl (AY rfl) (AH (v:=(Value.bool false)) (AV rfl rfl) rfl (AD.nil (AC.mid (sS rfl (sS rfl (sS rfl (sS rfl (sS rfl (sS rfl (sS rfl (sS rfl (sS rfl (sS rfl (sS rfl (sS rfl (sS rfl (sS rfl (sS rfl (sS (by first|rfl|(rw [hg4];rfl)|rw [hg4]) (sS (by first|rfl|(rw [hg4];rfl)|rw [hg4]) (sN)))))))))))))))))) (List.Sublist.refl _))))))
       refine asg' rfl (AD.nil (AC.subF (sL [2,3,16,17,18,5,4,23,9,10,7,8,65] rfl) (AC.then_ ?_)))
       refine AF.cond rfl (λhc4=>?_) (λhc4=>?_)
       ·simp only [Bool.and_eq_true,Bool.or_eq_true,Bool.and_eq_false_iff,Bool.or_eq_false_iff,Bool.not_eq_true',Bool.not_eq_false',decide_eq_true_eq,decide_eq_false_iff_not] at hc4
        refine AF.region (AJ rfl (AH (v:=(pP b6 3)) (AA rfl Tryz.underlying91 rfl Tryz.sizeOf3 rfl) rfl (IM 0 (off:=3) (vs:=[(vN t)]) (cs':=[(vN e01.a),(vN e01.b),(vI e01.l),(vN t)]) (AO rfl) rfl Tryz.sizeOf3 rfl (AD.nil (AC.subF (sL [2,3,16,17,18,5,4,23,9,10,7,8] rfl) ?_)))))
        exact AC.in_normal (AC.join1 (⟨e01.a,e01.b,e01.l,((t:Nat):Int)⟩:E4) ((by unfold Er;rw [if_neg (by omega),if_pos (by omega)])) (sF rfl) sr)
       ·simp only [Bool.and_eq_true,Bool.or_eq_true,Bool.and_eq_false_iff,Bool.or_eq_false_iff,Bool.not_eq_true',Bool.not_eq_false',decide_eq_true_eq,decide_eq_false_iff_not] at hc4
        exact AF.skip (AC.in_normal (AC.join1 e01 ((by unfold Er;rw [if_neg (by omega),if_neg (by omega)])) (sF rfl) sr))
     ·intro e21 hJ
      have hu1:=hJ
      refine AC.then_ (AF.region (AJ rfl (BF 1 KL rfl (BF 0 Th rfl (AD.mapUpdate GI 5 (kvs:=CM ts (3*t+1)) (x:=((min T.2.1 T.2.2,max T.2.1 T.2.2):P2)) (y:=e21) (AO rfl) rfl rfl rfl Tryz.underlying230 rfl (FB hn hN _ (by omega)) (DM (by omega) (by omega)) ?_)))))
      rw [show Az (CM ts (3*t+1)) ((min T.2.1 T.2.2,max T.2.1 T.2.2):P2) e21=CM ts (3*t+2) from by rw [hu1,he1,hT];exact (Iw (ts:=ts) (t:=t) (i:=1) (by omega)).symm]
      refine AD.nil (AC.subF (sL [2,3,16,17,18,5,4,23,9,10] rfl) (AC.in_normal (AC.then_ (AF.region (AH (AW (c:=(2:Int)) rfl rfl (by decide)) rfl ?_)))))
      refine AJ rfl (AD.nil (AC.subF (sL [2,3,16,17,18,5,4,23,9,10] rfl) (AC.again (Gd.step (q4 ?_)))))
      refine AH (Ad (c:=true) rfl rfl (by decide)) rfl (AD.nil (q1 (AF.cond_true rfl (AF.skip (q1 ?_)))))
      refine AF.block (q4 (AJ rfl (asg' rfl (q6 (sL [2,3,16,17,18,5,4,23,9,10,6] rfl) (Cw [(0,true),(1,true),(2,true),(3,true),(4,true),(5,true),(6,true),(7,true),(8,true),(9,true)] sr ?_)))))
      refine BS rfl (Aw (v:=(pP b2 2)) rfl (AX (j:=2) rfl rfl Tryz.underlying53 Tryz.sizeOf3 rfl (by decide) rfl) (Bm 4 (vN T.2.2) Be rfl (BS rfl (Aw rfl (AW (c:=(3:Int)) rfl rfl (by decide)) (Aw rfl (Cg (c:=(0:Int)) rfl rfl (by decide) (by decide)) ?_)))))
      refine Aw (v:=(pP b2 0)) rfl (AX (j:=0) rfl rfl Tryz.underlying53 Tryz.sizeOf3 rfl (by decide) rfl) (Bm 4 (vN T.1) Be rfl (pS' rfl (pS' rfl (OkE.nil (AC.subF (sL [2,3,16,17,18,5,4,23,9,10,7,8] rfl) ?_)))))
      refine q2 (AJ rfl (AJ rfl (AH (Ek (c:=((min T.2.2 T.1:Nat):Int)) rfl rfl (by split<;>omega)) rfl (AJ rfl (AJ rfl ?_)))))
      refine AH (Ds (c:=((max T.2.2 T.1:Nat):Int)) rfl rfl (by split<;>omega)) rfl (AH (v:=(aG ([(vN (min T.2.2 T.1)),(vN (max T.2.2 T.1))]))) (AU (zs:=BY ((0,0):P2)) (vs:=[(vN (min T.2.2 T.1)),(vN (max T.2.2 T.1))]) (pv:=[(0,(vN (min T.2.2 T.1))),(1,(vN (max T.2.2 T.1)))]) (places:=[(0,1),(1,1)]) Tryz.zeroValue231 Tryz.underlying231 (λw=>by simp [Tryz.sizeOf3]) rfl rfl) rfl (al S1 rfl λb7=>BC rfl Tryz.sizeOf231 rfl (q3 (sL [2,3,16,17,18,5,4,23,9,10,7,8] rfl) (AJ rfl ?_))))
      refine BF 0 KL rfl (AH (v:=(Value.tuple #[(aG (CN ((Ac (CM ts (3*t+2)) ((min T.2.2 T.1,max T.2.2 T.1):P2)).getD (⟨0,0,0,0⟩:E4)))),(Value.bool ((Ac (CM ts (3*t+2)) ((min T.2.2 T.1,max T.2.2 T.1):P2)).isSome))])) (BZ GI 6 (eV:=Lm) (kvs:=CM ts (3*t+2)) (x:=((min T.2.2 T.1,max T.2.2 T.1):P2)) (z0:=(⟨0,0,0,0⟩:E4)) (co:=true) rfl rfl Tryz.underlying230 Tryz.zeroValue91 rfl (FB hn hN _ (by omega)) (DM (by omega) (by omega))) rfl (AJ rfl (AH (AS (v:=(aG (CN ((Ac (CM ts (3*t+2)) ((min T.2.2 T.1,max T.2.2 T.1):P2)).getD (⟨0,0,0,0⟩:E4))))) rfl rfl) rfl (AH (AS (v:=(Value.bool ((Ac (CM ts (3*t+2)) ((min T.2.2 T.1,max T.2.2 T.1):P2)).isSome))) rfl rfl) rfl (al Sr rfl λb8=>?_)))))
      refine BC rfl Tryz.sizeOf91 rfl (asg' rfl (q6 (sL [2,3,16,17,18,5,4,23,9,10,7,8,11] rfl) (q4 (AJ rfl (AH (Bw (c:=(!((Ac (CM ts (3*t+2)) ((min T.2.2 T.1,max T.2.2 T.1):P2)).isSome))) rfl rfl) rfl ?_)))))
      refine AD.nil (AC.subF (sL [2,3,16,17,18,5,4,23,9,10,7,8,48] rfl) (AC.then_ ?_))
      refine AF.jn1 (tg λ(e02:E4)=>e02=(Ac (CM ts (3*t+2)) (min T.2.2 T.1,max T.2.2 T.1)).getD (He (min T.2.2 T.1,max T.2.2 T.1))) (tg λ(e02:E4)=>[(2,(Value.slice none 0 0)),(3,(Value.map (some b1))),(16,(Value.slice x.p ts.length x.c)),(17,(vN ts.length)),(18,(vN t)),(5,(pP b2 0)),(4,(vN t)),(23,(vI 2)),(9,(pP b7 0)),(10,(pP b8 0)),(7,(vN T.2.2)),(8,(vN T.1))]) (tg λ(e02:E4)=>[Ab b8 91 (CN e02),Ab b7 231 ([(vN (min T.2.2 T.1)),(vN (max T.2.2 T.1))]),Ab b6 91 (CN e21),Ab b5 231 ([(vN (min T.2.1 T.2.2)),(vN (max T.2.1 T.2.2))]),Ab b4 91 (CN e20),Ab b3 231 ([(vN (min T.1 T.2.1)),(vN (max T.1 T.2.1))]),Ab b2 53 (Aq T),Bd b1 Dw Lm (CM ts (3*t+2)),AI x.p (rowsL Aq ts)]) ?_ ?_
      ·skip
       refine AF.cond rfl (λhc2=>?_) (λhc2=>?_)
       ·simp only [Bool.and_eq_true,Bool.or_eq_true,Bool.and_eq_false_iff,Bool.or_eq_false_iff,Bool.not_eq_true',Bool.not_eq_false',decide_eq_true_eq,decide_eq_false_iff_not] at hc2
        refine AF.region (AH (v:=(pP b7 0)) (AA rfl Tryz.underlying231 rfl Tryz.sizeOf3 rfl) rfl (BD 1 (vN (min T.2.2 T.1)) Be rfl (AH (v:=(pP b7 1)) (AA rfl Tryz.underlying231 rfl Tryz.sizeOf3 rfl) rfl (BD 1 (vN (max T.2.2 T.1)) Be rfl (AH (v:=(aG ([(vN (min T.2.2 T.1)),(vN (max T.2.2 T.1)),(vI (-1:Int)),(vI (-1:Int))]))) (AU (zs:=CN (⟨0,0,0,0⟩:E4)) (vs:=[(vN (min T.2.2 T.1)),(vN (max T.2.2 T.1)),(vI (-1:Int)),(vI (-1:Int))]) (pv:=[(0,(vN (min T.2.2 T.1))),(1,(vN (max T.2.2 T.1))),(2,(vI (-1:Int))),(3,(vI (-1:Int)))]) (places:=[(0,1),(1,1),(2,1),(3,1)]) Tryz.zeroValue91 Tryz.underlying91 (λw=>by simp [Tryz.sizeOf3]) rfl rfl) rfl ?_)))))
        exact BC rfl Tryz.sizeOf91 rfl (AD.nil (AC.subF (sL [2,3,16,17,18,5,4,23,9,10,7,8] rfl) (AC.join1 (⟨min T.2.2 T.1,max T.2.2 T.1,-1,-1⟩:E4) ((JL (k:=(min T.2.2 T.1,max T.2.2 T.1)) (by simpa using hc2))) (sF rfl) sr)))
       ·simp only [Bool.and_eq_true,Bool.or_eq_true,Bool.and_eq_false_iff,Bool.or_eq_false_iff,Bool.not_eq_true',Bool.not_eq_false',decide_eq_true_eq,decide_eq_false_iff_not] at hc2
        exact AF.skip (AC.join1 ((Ac (CM ts (3*t+2)) ((min T.2.2 T.1,max T.2.2 T.1):P2)).getD (⟨0,0,0,0⟩:E4)) ((JX (by simpa using hc2))) (sF rfl) sr)
      ·intro e02 hJ
       have he2:=hJ
       refine q1 ?_
       refine AF.jn1 (tg λ(e22:E4)=>e22=Er e02 t T.2.2 T.1) (tg λ(e22:E4)=>[(2,(Value.slice none 0 0)),(3,(Value.map (some b1))),(16,(Value.slice x.p ts.length x.c)),(17,(vN ts.length)),(18,(vN t)),(5,(pP b2 0)),(4,(vN t)),(23,(vI 2)),(9,(pP b7 0)),(10,(pP b8 0))]) (tg λ(e22:E4)=>[Ab b8 91 (CN e22),Ab b7 231 ([(vN (min T.2.2 T.1)),(vN (max T.2.2 T.1))]),Ab b6 91 (CN e21),Ab b5 231 ([(vN (min T.2.1 T.2.2)),(vN (max T.2.1 T.2.2))]),Ab b4 91 (CN e20),Ab b3 231 ([(vN (min T.1 T.2.1)),(vN (max T.1 T.2.1))]),Ab b2 53 (Aq T),Bd b1 Dw Lm (CM ts (3*t+2)),AI x.p (rowsL Aq ts)]) ?_ ?_
       ·skip
        refine AF.block (q4 (AJ rfl (AJ rfl (AH (Ad (c:=(decide (T.2.2<T.1))) rfl rfl (CB (a:=T.2.2) (b:=T.1))) rfl (AJ rfl ?_)))))
        refine AD.mid (FM:=[(2,(Value.slice none 0 0)),(3,(Value.map (some b1))),(16,(Value.slice x.p ts.length x.c)),(17,(vN ts.length)),(18,(vN t)),(5,(pP b2 0)),(4,(vN t)),(23,(vI 2)),(9,(pP b7 0)),(10,(pP b8 0)),(7,(vN T.2.2)),(8,(vN T.1)),(55,(vN T.2.2)),(56,(vN T.1)),(57,(Value.bool (decide (T.2.2<T.1)))),(58,(Value.bool (decide (T.2.2<T.1)))),(62,(Value.bool ((decide (T.2.2<T.1))&&(decide (e02.l=(-1:Int))))))]) (LM:=[Ab b8 91 (CN e02),Ab b7 231 ([(vN (min T.2.2 T.1)),(vN (max T.2.2 T.1))]),Ab b6 91 (CN e21),Ab b5 231 ([(vN (min T.2.1 T.2.2)),(vN (max T.2.1 T.2.2))]),Ab b4 91 (CN e20),Ab b3 231 ([(vN (min T.1 T.2.1)),(vN (max T.1 T.2.1))]),Ab b2 53 (Aq T),Bd b1 Dw Lm (CM ts (3*t+2)),AI x.p (rowsL Aq ts)]) 4 ?_ ?_
        ·rcases Bool.eq_false_or_eq_true (decide (T.2.2<T.1)) with hg5|hg5
         ·skip
          refine AD.retell (k:=58) (u:=Value.bool true) rfl (by rw [hg5]) ?_
          have hg5':=hg5
          replace hg5':=of_decide_eq_true hg5'
          exact AD.step (v:=(pP b8 2)) (AB rfl) (AA rfl Tryz.underlying91 rfl Tryz.sizeOf3 rfl) rfl (AY rfl) (AD.step (v:=(vI e02.l)) (AB rfl) (AP (i:=0) (v:=(vI e02.l)) rfl rfl Be.a rfl) rfl (AY rfl) (AD.step (v:=(Value.bool (decide (e02.l=(-1:Int))))) (AB rfl) (BJ (c:=(decide (e02.l=(-1:Int)))) rfl rfl rfl) rfl (AY rfl) (AH (v:=(Value.bool (decide (e02.l=(-1:Int))))) (AT rfl rfl) rfl (AD.nil (AC.mid (sS rfl (sS rfl (sS rfl (sS rfl (sS rfl (sS rfl (sS rfl (sS rfl (sS rfl (sS rfl (sS rfl (sS rfl (sS rfl (sS rfl (sS rfl (sS (by first|rfl|(rw [hg5];rfl)|rw [hg5]) (sS (by first|rfl|(rw [hg5];rfl)|rw [hg5]) (sN)))))))))))))))))) (List.Sublist.refl _))))))
         ·skip
          refine AD.retell (k:=58) (u:=Value.bool false) rfl (by rw [hg5]) ?_
          have hg5':=hg5
          replace hg5':=of_decide_eq_false hg5'
          exact AD.skip (AG rfl) rfl (AY rfl) (AD.skip (AG rfl) rfl (AY rfl) (AD.skip (AG rfl) rfl (AY rfl) (AH (v:=(Value.bool false)) (AV rfl rfl) rfl (AD.nil (AC.mid (sS rfl (sS rfl (sS rfl (sS rfl (sS rfl (sS rfl (sS rfl (sS rfl (sS rfl (sS rfl (sS rfl (sS rfl (sS rfl (sS rfl (sS rfl (sS (by first|rfl|(rw [hg5];rfl)|rw [hg5]) (sS (by first|rfl|(rw [hg5];rfl)|rw [hg5]) (sN)))))))))))))))))) (List.Sublist.refl _))))))
        refine asg' rfl (AD.nil (AC.subF (sL [2,3,16,17,18,5,4,23,9,10,7,8,54] rfl) (AC.then_ ?_)))
        refine AF.cond rfl (λhc3=>?_) (λhc3=>?_)
        ·simp only [Bool.and_eq_true,Bool.or_eq_true,Bool.and_eq_false_iff,Bool.or_eq_false_iff,Bool.not_eq_true',Bool.not_eq_false',decide_eq_true_eq,decide_eq_false_iff_not] at hc3
         refine AF.region (AJ rfl (AH (v:=(pP b8 2)) (AA rfl Tryz.underlying91 rfl Tryz.sizeOf3 rfl) rfl (IM 0 (off:=2) (vs:=[(vN t)]) (cs':=[(vN e02.a),(vN e02.b),(vN t),(vI e02.r)]) (AO rfl) rfl Tryz.sizeOf3 rfl (AD.nil (AC.subF (sL [2,3,16,17,18,5,4,23,9,10,7,8] rfl) ?_)))))
         exact AC.in_normal (AC.join1 (⟨e02.a,e02.b,((t:Nat):Int),e02.r⟩:E4) ((by unfold Er;rw [if_pos (by omega)])) (sF rfl) sr)
        ·simp only [Bool.and_eq_true,Bool.or_eq_true,Bool.and_eq_false_iff,Bool.or_eq_false_iff,Bool.not_eq_true',Bool.not_eq_false',decide_eq_true_eq,decide_eq_false_iff_not] at hc3
         refine q4 (AJ rfl (AJ rfl (AH (Bg (c:=(decide (T.1<T.2.2))) rfl rfl (CB (a:=T.1) (b:=T.2.2))) rfl (AJ rfl ?_))))
         refine AD.mid (FM:=[(2,(Value.slice none 0 0)),(3,(Value.map (some b1))),(16,(Value.slice x.p ts.length x.c)),(17,(vN ts.length)),(18,(vN t)),(5,(pP b2 0)),(4,(vN t)),(23,(vI 2)),(9,(pP b7 0)),(10,(pP b8 0)),(7,(vN T.2.2)),(8,(vN T.1)),(66,(vN T.2.2)),(67,(vN T.1)),(68,(Value.bool (decide (T.1<T.2.2)))),(69,(Value.bool (decide (T.1<T.2.2)))),(73,(Value.bool ((decide (T.1<T.2.2))&&(decide (e02.r=(-1:Int))))))]) (LM:=[Ab b8 91 (CN e02),Ab b7 231 ([(vN (min T.2.2 T.1)),(vN (max T.2.2 T.1))]),Ab b6 91 (CN e21),Ab b5 231 ([(vN (min T.2.1 T.2.2)),(vN (max T.2.1 T.2.2))]),Ab b4 91 (CN e20),Ab b3 231 ([(vN (min T.1 T.2.1)),(vN (max T.1 T.2.1))]),Ab b2 53 (Aq T),Bd b1 Dw Lm (CM ts (3*t+2)),AI x.p (rowsL Aq ts)]) 4 ?_ ?_
         ·rcases Bool.eq_false_or_eq_true (decide (T.1<T.2.2)) with hg6|hg6
          ·skip
           refine AD.retell (k:=69) (u:=Value.bool true) rfl (by rw [hg6]) ?_
           have hg6':=hg6
           replace hg6':=of_decide_eq_true hg6'
           exact AD.step (v:=(pP b8 3)) (AB rfl) (AA rfl Tryz.underlying91 rfl Tryz.sizeOf3 rfl) rfl (AY rfl) (AD.step (v:=(vI e02.r)) (AB rfl) (AP (i:=0) (v:=(vI e02.r)) rfl rfl Be.a rfl) rfl (AY rfl) (AD.step (v:=(Value.bool (decide (e02.r=(-1:Int))))) (AB rfl) (BJ (c:=(decide (e02.r=(-1:Int)))) rfl rfl rfl) rfl (AY rfl) (AH (v:=(Value.bool (decide (e02.r=(-1:Int))))) (AT rfl rfl) rfl (AD.nil (AC.mid (sS rfl (sS rfl (sS rfl (sS rfl (sS rfl (sS rfl (sS rfl (sS rfl (sS rfl (sS rfl (sS rfl (sS rfl (sS rfl (sS rfl (sS rfl (sS (by first|rfl|(rw [hg6];rfl)|rw [hg6]) (sS (by first|rfl|(rw [hg6];rfl)|rw [hg6]) (sN)))))))))))))))))) (List.Sublist.refl _))))))
          ·skip
           refine AD.retell (k:=69) (u:=Value.bool false) rfl (by rw [hg6]) ?_
           have hg6':=hg6
           replace hg6':=of_decide_eq_false hg6'
           exact AD.skip (AG rfl) rfl (AY rfl) (AD.skip (AG rfl) rfl (AY rfl) (AD.skip (AG rfl) rfl (AY rfl) (AH (v:=(Value.bool false)) (AV rfl rfl) rfl (AD.nil (AC.mid (sS rfl (sS rfl (sS rfl (sS rfl (sS rfl (sS rfl (sS rfl (sS rfl (sS rfl (sS rfl (sS rfl (sS rfl (sS rfl (sS rfl (sS rfl (sS (by first|rfl|(rw [hg6];rfl)|rw [hg6]) (sS (by first|rfl|(rw [hg6];rfl)|rw [hg6]) (sN)))))))))))))))))) (List.Sublist.refl _))))))
         refine asg' rfl (AD.nil (AC.subF (sL [2,3,16,17,18,5,4,23,9,10,7,8,65] rfl) (AC.then_ ?_)))
         refine AF.cond rfl (λhc4=>?_) (λhc4=>?_)
         ·simp only [Bool.and_eq_true,Bool.or_eq_true,Bool.and_eq_false_iff,Bool.or_eq_false_iff,Bool.not_eq_true',Bool.not_eq_false',decide_eq_true_eq,decide_eq_false_iff_not] at hc4
          refine AF.region (AJ rfl (AH (v:=(pP b8 3)) (AA rfl Tryz.underlying91 rfl Tryz.sizeOf3 rfl) rfl (IM 0 (off:=3) (vs:=[(vN t)]) (cs':=[(vN e02.a),(vN e02.b),(vI e02.l),(vN t)]) (AO rfl) rfl Tryz.sizeOf3 rfl (AD.nil (AC.subF (sL [2,3,16,17,18,5,4,23,9,10,7,8] rfl) ?_)))))
          exact AC.in_normal (AC.join1 (⟨e02.a,e02.b,e02.l,((t:Nat):Int)⟩:E4) ((by unfold Er;rw [if_neg (by omega),if_pos (by omega)])) (sF rfl) sr)
         ·simp only [Bool.and_eq_true,Bool.or_eq_true,Bool.and_eq_false_iff,Bool.or_eq_false_iff,Bool.not_eq_true',Bool.not_eq_false',decide_eq_true_eq,decide_eq_false_iff_not] at hc4
          exact AF.skip (AC.in_normal (AC.join1 e02 ((by unfold Er;rw [if_neg (by omega),if_neg (by omega)])) (sF rfl) sr))
       ·intro e22 hJ
        have hu2:=hJ
        refine AC.then_ (AF.region (AJ rfl (BF 1 KL rfl (BF 0 Th rfl (AD.mapUpdate GI 7 (kvs:=CM ts (3*t+2)) (x:=((min T.2.2 T.1,max T.2.2 T.1):P2)) (y:=e22) (AO rfl) rfl rfl rfl Tryz.underlying230 rfl (FB hn hN _ (by omega)) (DM (by omega) (by omega)) ?_)))))
        rw [show Az (CM ts (3*t+2)) ((min T.2.2 T.1,max T.2.2 T.1):P2) e22=CM ts (3*t+3) from by rw [hu2,he2,hT];exact (Iw (ts:=ts) (t:=t) (i:=2) (by omega)).symm]
        refine AD.nil (AC.subF (sL [2,3,16,17,18,5,4,23,9,10] rfl) (AC.in_normal (AC.then_ (AF.region (AH (AW (c:=(3:Int)) rfl rfl (by decide)) rfl ?_)))))
        refine AJ rfl (AD.nil (AC.subF (sL [2,3,16,17,18,5,4,23,9,10] rfl) (AC.again (Gd.step (q4 ?_)))))
        refine AH (Ad (c:=false) rfl rfl (by decide)) rfl (AD.nil (q1 (AF.cond_false rfl (AF.exit (AC.then_exit ?_)))))
        refine AC.then_exit (AC.in_exit (AC.in_normal (AC.then_ (AF.region (AH (AW (c:=((t+1:Nat):Int)) rfl rfl (AR (a:=t) (b:=1) (by omega))) rfl ?_)))))
        refine AJ rfl (AD.nil (AC.subF (sL [2,3,16,17,18,5,4,23,9,10] rfl) ?_))
        rw [show 3*t+3=3*(t+1)+0 by omega]
        exact AC.round1 (t+1) (by omega) (by omega) (sF rfl) (sl (sl (sl (sl (sl (sl (sl sr)))))))
 ·replace hc0:=of_decide_eq_false hc0
  have htl:t=ts.length:=by omega
  have hel:=IS (ts:=ts) (3*ts.length)
  refine AF.exit (AC.then_exit (AC.round1_exit (AC.in_exit (q2 (AJ rfl ?_)))))
  rw [show CM ts (3*t+0)=(CM ts (3*ts.length)) by rw [htl,Nat.add_zero]]
  refine st (v:=(vN ((CM ts (3*ts.length)).length))) (Jp 0 (kvs:=(CM ts (3*ts.length))) rfl Tryz.underlying230 rfl) (AY rfl) (AD.make0 X5 rfl rfl (by omega) rfl rfl λbo hbo=>asg' rfl (q6 (sL [2,3,16,17,18,12] rfl) (q4 (AJ rfl ?_))))
  refine AD.range 1 (kvs:=(CM ts (3*ts.length))) (AO rfl) rfl Tryz.underlying230 rfl rfl λb2=>AD.nil (AC.subF (sL [2,3,16,17,18,12,85] rfl) (AC.then_ (AF.block ?_)))
  refine AF.lp4 (tg λ(seen:List Nat) (out:List E4) (p1:Option Addr) (c1:Nat)=>seen.Nodup/\(∀x∈seen,x<(CM ts (3*ts.length)).length)/\out=seen.map (RQ (CM ts (3*ts.length)))/\OwnOk p1 out.length c1/\p1≠none) (tg λ(seen:List Nat) (out:List E4) (p1:Option Addr) (c1:Nat)=>[(2,(Value.slice none 0 0)),(85,(Value.pointer (some ⟨b2,0,none⟩))),(12,(Value.slice p1 out.length c1))]) (tg λ(seen:List Nat) (out:List E4) (p1:Option Addr) (c1:Nat)=>[Xb b2 b1 (CM ts (3*ts.length)).length seen,rowW p1 91 4 out.length c1 (rowsL CN out),Bd b1 Dw Lm (CM ts (3*ts.length)),AI x.p (rowsL Aq ts)]) (tg λ(seen:List Nat) (out:List E4) (p1:Option Addr) (c1:Nat)=>(CM ts (3*ts.length)).length-seen.length) ([]:List Nat) ([]:List E4) (some ⟨bo,0,none⟩) ((CM ts (3*ts.length)).length) (⟨List.nodup_nil,(λx hx=>by cases hx),rfl,hbo,by simp⟩) (sF rfl) sr (λseen out p1 c1 hJ=>?_)
  obtain ⟨hnd,hlt,hou,ho,hpn⟩:=hJ
  refine q4 ?_
  refine AD.next 2 0 (kvs:=(CM ts (3*ts.length))) (seen:=seen) (AO rfl) rfl rfl rfl rfl (λhall=>?_) (λqn kq ve hq hns=>?_)
  ·skip
   refine AH (AS (v:=(Value.bool false)) rfl rfl) rfl (q6 (sL [2,85,12,87] rfl) (AF.cond_false rfl (AF.exit (AC.then_exit (AC.round4_exit ?_)))))
   refine AC.in_exit (q2 (AJ rfl ?_))
   have hpm:out.Perm ((CM ts (3*ts.length)).map (·.2)):=by rw [hou];exact S6 hnd hlt hall
   have hol:out.length=(B4 ts).length:=by rw [Ie];simpa using hpm.length_eq
   have hlo:out.length<=3*ts.length:=by rw [hol,Ie];exact hel
   refine AD.callS 1 (xs:=out) (ys:=B4 ts) (v:=(Value.tuple #[])) (AO rfl) (Ay (args:=[(Value.slice p1 out.length c1),(Value.func (.func 155) #[] #[])]) rfl rfl Tryz.call154) rfl (λw hw=>Rq out _ _ _ 91 ho hpn rfl (by omega) w (hw.holds (i:=1) rfl)) (λzs h1 h2=>Wj hn hN h1 h2 hpm) (λd hd=>by cases hd<;>exact (AY rfl)) (q3 (sL [2,85,12] rfl) (AJ rfl (ck' Tryz.call158 (Ti p1 _ c1 ho.le) rfl (asg' rfl (AD.nil ?_)))))
   exact AC.subF (sL [2,85,12] rfl) (AC.then_ (AF.ret (AN rfl (AQ (v:=(Value.slice p1 out.length out.length)) rfl) (λw hw=>(by rw [<-hol];exact Wg hw 1 rfl ho (by rw [Af Eb,hol]) rfl)))))
  ·skip
   refine AH (AS (v:=(Value.bool true)) rfl rfl) rfl (q6 (sL [2,85,12,87] rfl) (AF.cond_true rfl (AF.skip (AC.then_ (AF.block ?_)))))
   refine q4 ?_
   have hlo:out.length<=3*ts.length:=by rw [hou,List.length_map];exact Nat.le_trans (Fj hnd hlt) hel
   refine AH (v:=(Value.tuple #[(aG (BY kq)),(aG (CN ve))])) (TP 2 0 (enc:=Dw) (eV:=Lm) (kvs:=(CM ts (3*ts.length))) (seen:=seen) (q:=qn) rfl rfl rfl hq) rfl (AH (AS (v:=(aG (CN ve))) rfl rfl) rfl (al Sr rfl λb3=>BC rfl Tryz.sizeOf91 rfl (AD.nil (AC.subF (sL [2,85,12,14] rfl) ?_))))
   refine AC.then_ (AF.region (AJ rfl (BF 0 Th rfl (AD.openV (V:=λb4=>(Value.slice (some ⟨b4,0,none⟩) 1 1)) (T:=91) (cs:=CN ve) (AO rfl) (Am (z:=.agg (CN (⟨0,0,0,0⟩:E4)).toArray) (cs:=CN ve) (pv:=[(0,(aG (CN ve)))]) Tryz.underlying88 Tryz.sizeOf91 Tryz.zeroValue91 (by decide) (by decide) rfl (Ji ve)) rfl (AY rfl) λb4=>AD.appendAt 3 (j:=0) (cs2:=rowsL CN (out++[ve])) X5 rfl ho (Af Eb _) rfl rfl rfl rfl rfl (by decide) (GR (by omega)) (by omega) (by rw [Bz];rfl) rfl λp_1 c_1 ho_1 hne_1=>?_))))
   refine asg' rfl (AD.nil (AC.subF (sL [2,85,12,14] rfl) (AC.in_normal ?_)))
   have hnext:seen.length<(CM ts (3*ts.length)).length:=by have h9:=Fj (l:=seen++[qn]) (n:=(CM ts (3*ts.length)).length) (List.nodup_append.2 ⟨hnd,List.nodup_cons.2 ⟨List.not_mem_nil,List.nodup_nil⟩,λa ha b hb e=>by rw [List.mem_singleton.1 hb] at e;exact hns (e▸ha)⟩) (λx hx=>by rcases List.mem_append.1 hx with h|h;exact hlt x h;rw [List.mem_singleton.1 h];exact (List.getElem?_eq_some_iff.1 hq).1);rw [List.length_append,List.length_singleton] at h9;omega
   rw [show out.length+1=(out++[ve]).length by simp]
   exact AC.round4 (seen++[qn]) (out++[ve]) p_1 c_1 (⟨List.nodup_append.2 ⟨hnd,List.nodup_cons.2 ⟨List.not_mem_nil,List.nodup_nil⟩,λa ha b hb e=>by rw [List.mem_singleton.1 hb] at e;exact hns (e▸ha)⟩,λx hx=>by rcases List.mem_append.1 hx with h|h;exact hlt x h;rw [List.mem_singleton.1 h];exact (List.getElem?_eq_some_iff.1 hq).1,by rw [List.map_append,hou];simp [U4 hq],(by simpa using ho_1),hne_1⟩) (by have h8:=hnext;rw [List.length_append,List.length_singleton];omega) (sF rfl) (sl (sl sr))
end
end Go.Proofs.YtpgncndhhhllfaaGreatDoor
