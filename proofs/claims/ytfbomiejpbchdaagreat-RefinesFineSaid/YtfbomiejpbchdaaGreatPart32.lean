import Derived.Test.YtfbomiejpbchdaaGreatPart06
import Derived.Test.YtfbomiejpbchdaaGreatPart28
import Derived.Test.YtfbomiejpbchdaaGreatPart29
import Derived.Test.YtfbomiejpbchdaaGreatPart31
namespace Go.Proofs.YtfbomiejpbchdaaGreat
open Go Go.RowKit
set_option linter.unusedVariables false
set_option linter.unusedSimpArgs false
section
set_option maxRecDepth 100000
theorem YV:ElemT Tryz.prog 37 110 4 32:=⟨Tryz.underlying37,EX (by kernel_rfl)⟩
theorem G2:NH Tryz.prog 200 Gv NR where
 law:=.of_law (deep_law_laid TM (m:=2) (by decide) (by decide +kernel) (by kernel_rfl) (by kernel_rfl))
 key:=λa h=>Lw Tryz.underlying200 ⟨rfl,rfl⟩ ⟨rfl,rfl⟩ (by decide +kernel) Tryz.underlying3 (by kernel_rfl) (by kernel_rfl) (by kernel_rfl) (by decide +kernel) (Iy h.1) (Iy h.2)
 inj:=λa b h=>KG h
theorem Sx (p:Option Addr) (n cp:Nat) (h:n<=cp) (w:World)  :Calls Tryz.prog 128 #[(Value.slice p n cp)] w (Am w (Value.slice p n n)):=by
 refine Ac (args:=[(Value.slice p n cp)]) Tryz.func128 rfl rfl (Ad rfl) (AG.subF (sL [0] rfl) (q4 (AK rfl (AF.nil (q2 ?_)))))
 refine AO rfl (AO rfl (AJ (v:=(vN n)) (AI rfl Tryz.underlying37) rfl (AO rfl (AJ (v:=(vN n)) (AI rfl Tryz.underlying37) rfl (AJ (v:=(Value.slice p n n)) (EJ (m:=n) rfl rfl rfl Tryz.underlying37 Tryz.sizeOf110 (by omega)) rfl ?_)))))
 exact AK rfl (AF.nil (AC.subF (sL [2] rfl) (AC.then_ (AG.ret (AR rfl (Ai (v:=(Value.slice p n n)) rfl) (λw hw=>⟨rfl,hw.out⟩))))))
theorem JV (x0:E4):Instr.fill (λi=>some (i*4,4)) ((Array.range (1*4)).map ((Value.agg (CL (⟨0,0,0,0⟩:E4)).toArray).cells[·%(Value.agg (CL (⟨0,0,0,0⟩:E4)).toArray).cells.size]!)) [(0,.agg (CL x0).toArray)]=some (CL x0).toArray:=by kernel_rfl
set_option maxHeartbeats 4000000 in
theorem OS (ts:List (Nat×Nat×Nat)) (x:RX (rowsL Al ts) ts.length) (N:Nat) (hn:B5 N ts=true) (hN:N<=4611686018427387904) (hl:ts.length<=1000000000) (w:World) {S:Nat->Prop} (hx:Ro S w x):Calls Tryz.prog 49 #[(Value.slice x.p ts.length x.c)] w (Bp (RX (rowsL CL (BT ts)) (BT ts).length) S w):=by
 have lx:=FS (W:=w) hx
 refine BH (args:=[(Value.slice x.p ts.length x.c)]) (L:=[Ag x.p (rowsL Al ts)]) Tryz.func49 rfl rfl (Ad rfl) (FP hx BY) (AG.subF (sL [0] rfl) (q4 (AK rfl (AF.nil (q2 ?_)))))
 refine AF.makeMap Gv Mz (AN rfl) rfl λb1=>AK rfl (q6 (sL [0,2,3] rfl) (q4 (AO rfl (AJ (v:=(vN ts.length)) (AI rfl Tryz.underlying28) rfl ?_))))
 refine AO rfl (AF.nil (AC.subF (sL [2,3,16,17,18] rfl) (AC.then_ (AG.block ?_))))
 refine AG.lp1 (tg λ(t:Nat)=>t<=ts.length) (tg λ(t:Nat)=>[(2,(Value.slice none 0 0)),(3,(Value.map (some b1))),(16,(Value.slice x.p ts.length x.c)),(17,(vN ts.length)),(18,(vN t))]) (tg λ(t:Nat)=>[C0 b1 Gv Mz (Cf ts (3*t+0)),Ag x.p (rowsL Al ts)]) (tg λ(t:Nat)=>ts.length-t) 0 (Nat.zero_le _) (sF rfl) sr (λt hJ=>?_)
 have ht:=hJ
 refine q4 (AJ (Af (c:=(decide (t<ts.length))) rfl rfl (DL (a:=t) (b:=ts.length))) rfl (AF.nil (q1 ?_)))
 refine AG.cond rfl (λhc0=>?_) (λhc0=>?_)
 ·replace hc0:=of_decide_eq_true hc0
  obtain ⟨T,hT⟩:∃q,q=ts.getD t (0,0,0):=⟨_,rfl⟩
  obtain ⟨g1,g2,g3⟩:=DH (Cv hn hc0)
  rw [<-hT] at g1 g2 g3
  refine AG.skip (q1 (AG.block (q4 (AO rfl (AJ (v:=(pP (pB x.p) (pO x.p+t*3))) (AW (j:=t) rfl rfl x.ok Tryz.underlying28 Tryz.sizeOf76 rfl (by omega)) rfl ?_)))))
  refine AJ (v:=(aG (Al (ts.getD t ((0,0,0):Nat×Nat×Nat))))) (AU (vs:=Al (ts.getD t ((0,0,0):Nat×Nat×Nat))) (i:=1) rfl rfl (BQ.ne x.ok (by omega)) Ip (Au A6 _ _ _ (by omega)) (A6 _)) rfl (AF.retell (k:=22) (u:=(aG (Al T))) rfl (by rw [hT]) (al ON rfl λb2=>AK rfl (Ap rfl Tryz.sizeOf76 rfl (q3 (sL [2,3,16,17,18,5,4] rfl) ?_))))
  refine AO rfl (AF.nil (AC.then_ (AG.block (AG.unroll 4 (Dr.step ?_)))))
  refine q4 (AJ (Af (c:=true) rfl rfl (by decide)) rfl (AF.nil (q1 (AG.cond_true rfl (AG.skip ?_)))))
  refine q1 (AG.block (q4 (AO rfl (AK rfl (q6 (sL [2,3,16,17,18,5,4,23,6] rfl) ?_)))))
  refine Cq [(0,true),(1,true),(2,true),(3,true),(4,true),(5,true),(6,true),(7,true),(8,true),(9,true)] sr (Bc rfl (Av (v:=(pP b2 0)) rfl (AE (j:=0) rfl rfl Tryz.underlying76 Tryz.sizeOf3 rfl (by decide) rfl) (Bg 0 (vN T.1) B4 rfl (Bc rfl (Av rfl (AX (c:=(1:Int)) rfl rfl (by decide)) ?_)))))
  refine Av rfl (CF (c:=(1:Int)) rfl rfl (by decide) (by decide)) (Av (v:=(pP b2 1)) rfl (AE (j:=1) rfl rfl Tryz.underlying76 Tryz.sizeOf3 rfl (by decide) rfl) (Bg 0 (vN T.2.1) B4 rfl (FO rfl (FO rfl (AS.nil ?_)))))
  refine AC.subF (sL [2,3,16,17,18,5,4,23,7,8] rfl) (q2 (AO rfl (AO rfl (AJ (Gq (c:=((min T.1 T.2.1:Nat):Int)) rfl rfl (by split<;>omega)) rfl (AO rfl ?_)))))
  refine AO rfl (AJ (GO (c:=((max T.1 T.2.1:Nat):Int)) rfl rfl (by split<;>omega)) rfl (AJ (v:=(aG ([(vN (min T.1 T.2.1)),(vN (max T.1 T.2.1))]))) (AY (zs:=A_ ((0,0):P2)) (vs:=[(vN (min T.1 T.2.1)),(vN (max T.1 T.2.1))]) (pv:=[(0,(vN (min T.1 T.2.1))),(1,(vN (max T.1 T.2.1)))]) (places:=[(0,1),(1,1)]) Tryz.zeroValue200 Tryz.underlying200 (λw=>by simp [Tryz.sizeOf3]) rfl rfl) rfl (al UK rfl λb3=>Ap rfl Tryz.sizeOf200 rfl (q3 (sL [2,3,16,17,18,5,4,23,7,8,9] rfl) ?_))))
  refine AO rfl (A7 0 L_ rfl (AJ (v:=(Value.tuple #[(aG (CL ((Ar (Cf ts (3*t+0)) ((min T.1 T.2.1,max T.1 T.2.1):P2)).getD (⟨0,0,0,0⟩:E4)))),(Value.bool ((Ar (Cf ts (3*t+0)) ((min T.1 T.2.1,max T.1 T.2.1):P2)).isSome))])) (DO G2 2 (eV:=Mz) (kvs:=Cf ts (3*t+0)) (x:=((min T.1 T.2.1,max T.1 T.2.1):P2)) (z0:=(⟨0,0,0,0⟩:E4)) (co:=true) rfl rfl Tryz.underlying198 Tryz.zeroValue110 rfl (Fg hn hN _ (by omega)) (B0 (by omega) (by omega))) rfl (AO rfl (AJ (AT (v:=(aG (CL ((Ar (Cf ts (3*t+0)) ((min T.1 T.2.1,max T.1 T.2.1):P2)).getD (⟨0,0,0,0⟩:E4))))) rfl rfl) rfl (AJ (AT (v:=(Value.bool ((Ar (Cf ts (3*t+0)) ((min T.1 T.2.1,max T.1 T.2.1):P2)).isSome))) rfl rfl) rfl ?_)))))
  refine al KF rfl λb4=>Ap rfl Tryz.sizeOf110 rfl (AK rfl (q6 (sL [2,3,16,17,18,5,4,23,7,8,9,10,11] rfl) (q4 (AO rfl ?_))))
  refine AJ (Bi (c:=(!((Ar (Cf ts (3*t+0)) ((min T.1 T.2.1,max T.1 T.2.1):P2)).isSome))) rfl rfl) rfl (AF.nil (AC.subF (sL [2,3,16,17,18,5,4,23,7,8,9,10,48] rfl) (AC.then_ ?_)))
  refine AG.jn1 (tg λ(e00:E4)=>e00=(Ar (Cf ts (3*t+0)) (min T.1 T.2.1,max T.1 T.2.1)).getD (Ir (min T.1 T.2.1,max T.1 T.2.1))) (tg λ(e00:E4)=>[(2,(Value.slice none 0 0)),(3,(Value.map (some b1))),(16,(Value.slice x.p ts.length x.c)),(17,(vN ts.length)),(18,(vN t)),(5,(pP b2 0)),(4,(vN t)),(23,(vI 0)),(7,(vN T.1)),(8,(vN T.2.1)),(9,(pP b3 0)),(10,(pP b4 0))]) (tg λ(e00:E4)=>[Ah b4 110 (CL e00),Ah b3 200 ([(vN (min T.1 T.2.1)),(vN (max T.1 T.2.1))]),Ah b2 76 (Al T),C0 b1 Gv Mz (Cf ts (3*t+0)),Ag x.p (rowsL Al ts)]) ?_ ?_
  ·skip
   refine AG.cond rfl (λhc2=>?_) (λhc2=>?_)
   ·simp only [Bool.and_eq_true,Bool.or_eq_true,Bool.and_eq_false_iff,Bool.or_eq_false_iff,Bool.not_eq_true',Bool.not_eq_false',decide_eq_true_eq,decide_eq_false_iff_not] at hc2
    refine AG.region (AJ (v:=(pP b3 0)) (AA rfl Tryz.underlying200 rfl Tryz.sizeOf3 rfl) rfl (BL 1 (vN (min T.1 T.2.1)) B4 rfl (AJ (v:=(pP b3 1)) (AA rfl Tryz.underlying200 rfl Tryz.sizeOf3 rfl) rfl (BL 1 (vN (max T.1 T.2.1)) B4 rfl (AJ (v:=(aG ([(vN (min T.1 T.2.1)),(vN (max T.1 T.2.1)),(vI (-1:Int)),(vI (-1:Int))]))) (AY (zs:=CL (⟨0,0,0,0⟩:E4)) (vs:=[(vN (min T.1 T.2.1)),(vN (max T.1 T.2.1)),(vI (-1:Int)),(vI (-1:Int))]) (pv:=[(0,(vN (min T.1 T.2.1))),(1,(vN (max T.1 T.2.1))),(2,(vI (-1:Int))),(3,(vI (-1:Int)))]) (places:=[(0,1),(1,1),(2,1),(3,1)]) Tryz.zeroValue110 Tryz.underlying110 (λw=>by simp [Tryz.sizeOf3]) rfl rfl) rfl ?_)))))
    exact Ap rfl Tryz.sizeOf110 rfl (AF.nil (AC.subF (sL [2,3,16,17,18,5,4,23,7,8,9,10] rfl) (AC.join1 (⟨min T.1 T.2.1,max T.1 T.2.1,-1,-1⟩:E4) ((Ke (k:=(min T.1 T.2.1,max T.1 T.2.1)) (by simpa using hc2))) (sF rfl) sr)))
   ·simp only [Bool.and_eq_true,Bool.or_eq_true,Bool.and_eq_false_iff,Bool.or_eq_false_iff,Bool.not_eq_true',Bool.not_eq_false',decide_eq_true_eq,decide_eq_false_iff_not] at hc2
    exact AG.skip (AC.join1 ((Ar (Cf ts (3*t+0)) ((min T.1 T.2.1,max T.1 T.2.1):P2)).getD (⟨0,0,0,0⟩:E4)) ((KK (by simpa using hc2))) (sF rfl) sr)
  ·intro e00 hJ
   have he0:=hJ
   refine q1 ?_
   refine AG.jn1 (tg λ(e20:E4)=>e20=Ff e00 t T.1 T.2.1) (tg λ(e20:E4)=>[(2,(Value.slice none 0 0)),(3,(Value.map (some b1))),(16,(Value.slice x.p ts.length x.c)),(17,(vN ts.length)),(18,(vN t)),(5,(pP b2 0)),(4,(vN t)),(23,(vI 0)),(9,(pP b3 0)),(10,(pP b4 0))]) (tg λ(e20:E4)=>[Ah b4 110 (CL e20),Ah b3 200 ([(vN (min T.1 T.2.1)),(vN (max T.1 T.2.1))]),Ah b2 76 (Al T),C0 b1 Gv Mz (Cf ts (3*t+0)),Ag x.p (rowsL Al ts)]) ?_ ?_
   ·skip
    refine AG.block (q4 (AO rfl (AO rfl (AJ (Af (c:=(decide (T.1<T.2.1))) rfl rfl (DL (a:=T.1) (b:=T.2.1))) rfl (AO rfl ?_)))))
    refine AF.mid (FM:=[(2,(Value.slice none 0 0)),(3,(Value.map (some b1))),(16,(Value.slice x.p ts.length x.c)),(17,(vN ts.length)),(18,(vN t)),(5,(pP b2 0)),(4,(vN t)),(23,(vI 0)),(7,(vN T.1)),(8,(vN T.2.1)),(9,(pP b3 0)),(10,(pP b4 0)),(55,(vN T.1)),(56,(vN T.2.1)),(57,(Value.bool (decide (T.1<T.2.1)))),(58,(Value.bool (decide (T.1<T.2.1)))),(62,(Value.bool ((decide (T.1<T.2.1))&&(decide (e00.l=(-1:Int))))))]) (LM:=[Ah b4 110 (CL e00),Ah b3 200 ([(vN (min T.1 T.2.1)),(vN (max T.1 T.2.1))]),Ah b2 76 (Al T),C0 b1 Gv Mz (Cf ts (3*t+0)),Ag x.p (rowsL Al ts)]) 4 ?_ ?_
    ·rcases Bool.eq_false_or_eq_true (decide (T.1<T.2.1)) with hg1|hg1
     ·skip
      refine AF.retell (k:=58) (u:=Value.bool true) rfl (by rw [hg1]) ?_
      have hg1':=hg1
      replace hg1':=of_decide_eq_true hg1'
      exact AF.step (v:=(pP b4 2)) (AB rfl) (AA rfl Tryz.underlying110 rfl Tryz.sizeOf3 rfl) rfl (Ad rfl) (AF.step (v:=(vI e00.l)) (AB rfl) (AM (i:=0) (v:=(vI e00.l)) rfl rfl B4.a rfl) rfl (Ad rfl) (AF.step (v:=(Value.bool (decide (e00.l=(-1:Int))))) (AB rfl) (Be (c:=(decide (e00.l=(-1:Int)))) rfl rfl rfl) rfl (Ad rfl) (AJ (v:=(Value.bool (decide (e00.l=(-1:Int))))) (Aj rfl rfl) rfl (AF.nil (AC.mid (sS rfl (sS rfl (sS rfl (sS rfl (sS rfl (sS rfl (sS rfl (sS rfl (sS rfl (sS rfl (sS rfl (sS rfl (sS rfl (sS rfl (sS rfl (sS (by first|rfl|(rw [hg1];rfl)|rw [hg1]) (sS (by first|rfl|(rw [hg1];rfl)|rw [hg1]) (sN)))))))))))))))))) (List.Sublist.refl _))))))
     ·skip
      refine AF.retell (k:=58) (u:=Value.bool false) rfl (by rw [hg1]) ?_
      have hg1':=hg1
      replace hg1':=of_decide_eq_false hg1'
      exact AF.skip (AP rfl) rfl (Ad rfl) (AF.skip (AP rfl) rfl (Ad rfl) (AF.skip (AP rfl) rfl (Ad rfl) (AJ (v:=(Value.bool false)) (AV rfl rfl) rfl (AF.nil (AC.mid (sS rfl (sS rfl (sS rfl (sS rfl (sS rfl (sS rfl (sS rfl (sS rfl (sS rfl (sS rfl (sS rfl (sS rfl (sS rfl (sS rfl (sS rfl (sS (by first|rfl|(rw [hg1];rfl)|rw [hg1]) (sS (by first|rfl|(rw [hg1];rfl)|rw [hg1]) (sN)))))))))))))))))) (List.Sublist.refl _))))))
    refine AK rfl (AF.nil (AC.subF (sL [2,3,16,17,18,5,4,23,7,8,9,10,54] rfl) (AC.then_ ?_)))
    refine AG.cond rfl (λhc3=>?_) (λhc3=>?_)
    ·simp only [Bool.and_eq_true,Bool.or_eq_true,Bool.and_eq_false_iff,Bool.or_eq_false_iff,Bool.not_eq_true',Bool.not_eq_false',decide_eq_true_eq,decide_eq_false_iff_not] at hc3
     refine AG.region (AO rfl (AJ (v:=(pP b4 2)) (AA rfl Tryz.underlying110 rfl Tryz.sizeOf3 rfl) rfl (GK 0 (off:=2) (vs:=[(vN t)]) (cs':=[(vN e00.a),(vN e00.b),(vN t),(vI e00.r)]) (AN rfl) rfl Tryz.sizeOf3 rfl (AF.nil (AC.subF (sL [2,3,16,17,18,5,4,23,7,8,9,10] rfl) ?_)))))
     exact AC.in_normal (AC.join1 (⟨e00.a,e00.b,((t:Nat):Int),e00.r⟩:E4) ((by unfold Ff;rw [if_pos (by omega)])) (sF rfl) sr)
    ·simp only [Bool.and_eq_true,Bool.or_eq_true,Bool.and_eq_false_iff,Bool.or_eq_false_iff,Bool.not_eq_true',Bool.not_eq_false',decide_eq_true_eq,decide_eq_false_iff_not] at hc3
     refine q4 (AO rfl (AO rfl (AJ (CK (c:=(decide (T.2.1<T.1))) rfl rfl (DL (a:=T.2.1) (b:=T.1))) rfl (AO rfl ?_))))
     refine AF.mid (FM:=[(2,(Value.slice none 0 0)),(3,(Value.map (some b1))),(16,(Value.slice x.p ts.length x.c)),(17,(vN ts.length)),(18,(vN t)),(5,(pP b2 0)),(4,(vN t)),(23,(vI 0)),(7,(vN T.1)),(8,(vN T.2.1)),(9,(pP b3 0)),(10,(pP b4 0)),(66,(vN T.1)),(67,(vN T.2.1)),(68,(Value.bool (decide (T.2.1<T.1)))),(69,(Value.bool (decide (T.2.1<T.1)))),(73,(Value.bool ((decide (T.2.1<T.1))&&(decide (e00.r=(-1:Int))))))]) (LM:=[Ah b4 110 (CL e00),Ah b3 200 ([(vN (min T.1 T.2.1)),(vN (max T.1 T.2.1))]),Ah b2 76 (Al T),C0 b1 Gv Mz (Cf ts (3*t+0)),Ag x.p (rowsL Al ts)]) 4 ?_ ?_
     ·rcases Bool.eq_false_or_eq_true (decide (T.2.1<T.1)) with hg2|hg2
      ·skip
       refine AF.retell (k:=69) (u:=Value.bool true) rfl (by rw [hg2]) ?_
       have hg2':=hg2
       replace hg2':=of_decide_eq_true hg2'
       exact AF.step (v:=(pP b4 3)) (AB rfl) (AA rfl Tryz.underlying110 rfl Tryz.sizeOf3 rfl) rfl (Ad rfl) (AF.step (v:=(vI e00.r)) (AB rfl) (AM (i:=0) (v:=(vI e00.r)) rfl rfl B4.a rfl) rfl (Ad rfl) (AF.step (v:=(Value.bool (decide (e00.r=(-1:Int))))) (AB rfl) (Be (c:=(decide (e00.r=(-1:Int)))) rfl rfl rfl) rfl (Ad rfl) (AJ (v:=(Value.bool (decide (e00.r=(-1:Int))))) (Aj rfl rfl) rfl (AF.nil (AC.mid (sS rfl (sS rfl (sS rfl (sS rfl (sS rfl (sS rfl (sS rfl (sS rfl (sS rfl (sS rfl (sS rfl (sS rfl (sS rfl (sS rfl (sS rfl (sS (by first|rfl|(rw [hg2];rfl)|rw [hg2]) (sS (by first|rfl|(rw [hg2];rfl)|rw [hg2]) (sN)))))))))))))))))) (List.Sublist.refl _))))))
      ·skip
       refine AF.retell (k:=69) (u:=Value.bool false) rfl (by rw [hg2]) ?_
       have hg2':=hg2
       replace hg2':=of_decide_eq_false hg2'
       exact AF.skip (AP rfl) rfl (Ad rfl) (AF.skip (AP rfl) rfl (Ad rfl) (AF.skip (AP rfl) rfl (Ad rfl) (AJ (v:=(Value.bool false)) (AV rfl rfl) rfl (AF.nil (AC.mid (sS rfl (sS rfl (sS rfl (sS rfl (sS rfl (sS rfl (sS rfl (sS rfl (sS rfl (sS rfl (sS rfl (sS rfl (sS rfl (sS rfl (sS rfl (sS (by first|rfl|(rw [hg2];rfl)|rw [hg2]) (sS (by first|rfl|(rw [hg2];rfl)|rw [hg2]) (sN)))))))))))))))))) (List.Sublist.refl _))))))
     refine AK rfl (AF.nil (AC.subF (sL [2,3,16,17,18,5,4,23,7,8,9,10,65] rfl) (AC.then_ ?_)))
     refine AG.cond rfl (λhc4=>?_) (λhc4=>?_)
     ·simp only [Bool.and_eq_true,Bool.or_eq_true,Bool.and_eq_false_iff,Bool.or_eq_false_iff,Bool.not_eq_true',Bool.not_eq_false',decide_eq_true_eq,decide_eq_false_iff_not] at hc4
      refine AG.region (AO rfl (AJ (v:=(pP b4 3)) (AA rfl Tryz.underlying110 rfl Tryz.sizeOf3 rfl) rfl (GK 0 (off:=3) (vs:=[(vN t)]) (cs':=[(vN e00.a),(vN e00.b),(vI e00.l),(vN t)]) (AN rfl) rfl Tryz.sizeOf3 rfl (AF.nil (AC.subF (sL [2,3,16,17,18,5,4,23,7,8,9,10] rfl) ?_)))))
      exact AC.in_normal (AC.join1 (⟨e00.a,e00.b,e00.l,((t:Nat):Int)⟩:E4) ((by unfold Ff;rw [if_neg (by omega),if_pos (by omega)])) (sF rfl) sr)
     ·simp only [Bool.and_eq_true,Bool.or_eq_true,Bool.and_eq_false_iff,Bool.or_eq_false_iff,Bool.not_eq_true',Bool.not_eq_false',decide_eq_true_eq,decide_eq_false_iff_not] at hc4
      exact AG.skip (AC.in_normal (AC.join1 e00 ((by unfold Ff;rw [if_neg (by omega),if_neg (by omega)])) (sF rfl) sr))
   ·intro e20 hJ
    have hu0:=hJ
    refine AC.then_ (AG.region (AO rfl (A7 1 L_ rfl (A7 0 Ko rfl (AF.mapUpdate G2 3 (kvs:=Cf ts (3*t+0)) (x:=((min T.1 T.2.1,max T.1 T.2.1):P2)) (y:=e20) (AN rfl) rfl rfl rfl Tryz.underlying198 rfl (Fg hn hN _ (by omega)) (B0 (by omega) (by omega)) ?_)))))
    rw [show BZ (Cf ts (3*t+0)) ((min T.1 T.2.1,max T.1 T.2.1):P2) e20=Cf ts (3*t+1) from by rw [hu0,he0,hT];exact (Ky (ts:=ts) (t:=t) (i:=0) (by omega)).symm]
    refine AF.nil (AC.subF (sL [2,3,16,17,18,5,4,23,9,10] rfl) (AC.in_normal (AC.then_ (AG.region (AJ (AX (c:=(1:Int)) rfl rfl (by decide)) rfl ?_)))))
    refine AO rfl (AF.nil (AC.subF (sL [2,3,16,17,18,5,4,23,9,10] rfl) (AC.again (Dr.step (q4 ?_)))))
    refine AJ (Af (c:=true) rfl rfl (by decide)) rfl (AF.nil (q1 (AG.cond_true rfl (AG.skip (q1 ?_)))))
    refine AG.block (q4 (AO rfl (AK rfl (q6 (sL [2,3,16,17,18,5,4,23,9,10,6] rfl) (Cq [(0,true),(1,true),(2,true),(3,true),(4,true),(5,true),(6,true),(7,true),(8,true),(9,true)] sr ?_)))))
    refine Bc rfl (Av (v:=(pP b2 1)) rfl (AE (j:=1) rfl rfl Tryz.underlying76 Tryz.sizeOf3 rfl (by decide) rfl) (Bg 2 (vN T.2.1) B4 rfl (Bc rfl (Av rfl (AX (c:=(2:Int)) rfl rfl (by decide)) (Av rfl (CF (c:=(2:Int)) rfl rfl (by decide) (by decide)) ?_)))))
    refine Av (v:=(pP b2 2)) rfl (AE (j:=2) rfl rfl Tryz.underlying76 Tryz.sizeOf3 rfl (by decide) rfl) (Bg 2 (vN T.2.2) B4 rfl (FO rfl (FO rfl (AS.nil (AC.subF (sL [2,3,16,17,18,5,4,23,9,10,7,8] rfl) ?_)))))
    refine q2 (AO rfl (AO rfl (AJ (Gq (c:=((min T.2.1 T.2.2:Nat):Int)) rfl rfl (by split<;>omega)) rfl (AO rfl (AO rfl ?_)))))
    refine AJ (GO (c:=((max T.2.1 T.2.2:Nat):Int)) rfl rfl (by split<;>omega)) rfl (AJ (v:=(aG ([(vN (min T.2.1 T.2.2)),(vN (max T.2.1 T.2.2))]))) (AY (zs:=A_ ((0,0):P2)) (vs:=[(vN (min T.2.1 T.2.2)),(vN (max T.2.1 T.2.2))]) (pv:=[(0,(vN (min T.2.1 T.2.2))),(1,(vN (max T.2.1 T.2.2)))]) (places:=[(0,1),(1,1)]) Tryz.zeroValue200 Tryz.underlying200 (λw=>by simp [Tryz.sizeOf3]) rfl rfl) rfl (al UK rfl λb5=>Ap rfl Tryz.sizeOf200 rfl (q3 (sL [2,3,16,17,18,5,4,23,9,10,7,8] rfl) (AO rfl ?_))))
    refine A7 0 L_ rfl (AJ (v:=(Value.tuple #[(aG (CL ((Ar (Cf ts (3*t+1)) ((min T.2.1 T.2.2,max T.2.1 T.2.2):P2)).getD (⟨0,0,0,0⟩:E4)))),(Value.bool ((Ar (Cf ts (3*t+1)) ((min T.2.1 T.2.2,max T.2.1 T.2.2):P2)).isSome))])) (DO G2 4 (eV:=Mz) (kvs:=Cf ts (3*t+1)) (x:=((min T.2.1 T.2.2,max T.2.1 T.2.2):P2)) (z0:=(⟨0,0,0,0⟩:E4)) (co:=true) rfl rfl Tryz.underlying198 Tryz.zeroValue110 rfl (Fg hn hN _ (by omega)) (B0 (by omega) (by omega))) rfl (AO rfl (AJ (AT (v:=(aG (CL ((Ar (Cf ts (3*t+1)) ((min T.2.1 T.2.2,max T.2.1 T.2.2):P2)).getD (⟨0,0,0,0⟩:E4))))) rfl rfl) rfl (AJ (AT (v:=(Value.bool ((Ar (Cf ts (3*t+1)) ((min T.2.1 T.2.2,max T.2.1 T.2.2):P2)).isSome))) rfl rfl) rfl (al KF rfl λb6=>?_)))))
    refine Ap rfl Tryz.sizeOf110 rfl (AK rfl (q6 (sL [2,3,16,17,18,5,4,23,9,10,7,8,11] rfl) (q4 (AO rfl (AJ (Bi (c:=(!((Ar (Cf ts (3*t+1)) ((min T.2.1 T.2.2,max T.2.1 T.2.2):P2)).isSome))) rfl rfl) rfl ?_)))))
    refine AF.nil (AC.subF (sL [2,3,16,17,18,5,4,23,9,10,7,8,48] rfl) (AC.then_ ?_))
    refine AG.jn1 (tg λ(e01:E4)=>e01=(Ar (Cf ts (3*t+1)) (min T.2.1 T.2.2,max T.2.1 T.2.2)).getD (Ir (min T.2.1 T.2.2,max T.2.1 T.2.2))) (tg λ(e01:E4)=>[(2,(Value.slice none 0 0)),(3,(Value.map (some b1))),(16,(Value.slice x.p ts.length x.c)),(17,(vN ts.length)),(18,(vN t)),(5,(pP b2 0)),(4,(vN t)),(23,(vI 1)),(9,(pP b5 0)),(10,(pP b6 0)),(7,(vN T.2.1)),(8,(vN T.2.2))]) (tg λ(e01:E4)=>[Ah b6 110 (CL e01),Ah b5 200 ([(vN (min T.2.1 T.2.2)),(vN (max T.2.1 T.2.2))]),Ah b4 110 (CL e20),Ah b3 200 ([(vN (min T.1 T.2.1)),(vN (max T.1 T.2.1))]),Ah b2 76 (Al T),C0 b1 Gv Mz (Cf ts (3*t+1)),Ag x.p (rowsL Al ts)]) ?_ ?_
    ·skip
     refine AG.cond rfl (λhc2=>?_) (λhc2=>?_)
     ·simp only [Bool.and_eq_true,Bool.or_eq_true,Bool.and_eq_false_iff,Bool.or_eq_false_iff,Bool.not_eq_true',Bool.not_eq_false',decide_eq_true_eq,decide_eq_false_iff_not] at hc2
      refine AG.region (AJ (v:=(pP b5 0)) (AA rfl Tryz.underlying200 rfl Tryz.sizeOf3 rfl) rfl (BL 1 (vN (min T.2.1 T.2.2)) B4 rfl (AJ (v:=(pP b5 1)) (AA rfl Tryz.underlying200 rfl Tryz.sizeOf3 rfl) rfl (BL 1 (vN (max T.2.1 T.2.2)) B4 rfl (AJ (v:=(aG ([(vN (min T.2.1 T.2.2)),(vN (max T.2.1 T.2.2)),(vI (-1:Int)),(vI (-1:Int))]))) (AY (zs:=CL (⟨0,0,0,0⟩:E4)) (vs:=[(vN (min T.2.1 T.2.2)),(vN (max T.2.1 T.2.2)),(vI (-1:Int)),(vI (-1:Int))]) (pv:=[(0,(vN (min T.2.1 T.2.2))),(1,(vN (max T.2.1 T.2.2))),(2,(vI (-1:Int))),(3,(vI (-1:Int)))]) (places:=[(0,1),(1,1),(2,1),(3,1)]) Tryz.zeroValue110 Tryz.underlying110 (λw=>by simp [Tryz.sizeOf3]) rfl rfl) rfl ?_)))))
      exact Ap rfl Tryz.sizeOf110 rfl (AF.nil (AC.subF (sL [2,3,16,17,18,5,4,23,9,10,7,8] rfl) (AC.join1 (⟨min T.2.1 T.2.2,max T.2.1 T.2.2,-1,-1⟩:E4) ((Ke (k:=(min T.2.1 T.2.2,max T.2.1 T.2.2)) (by simpa using hc2))) (sF rfl) sr)))
     ·simp only [Bool.and_eq_true,Bool.or_eq_true,Bool.and_eq_false_iff,Bool.or_eq_false_iff,Bool.not_eq_true',Bool.not_eq_false',decide_eq_true_eq,decide_eq_false_iff_not] at hc2
      exact AG.skip (AC.join1 ((Ar (Cf ts (3*t+1)) ((min T.2.1 T.2.2,max T.2.1 T.2.2):P2)).getD (⟨0,0,0,0⟩:E4)) ((KK (by simpa using hc2))) (sF rfl) sr)
    ·intro e01 hJ
     have he1:=hJ
     refine q1 ?_
     refine AG.jn1 (tg λ(e21:E4)=>e21=Ff e01 t T.2.1 T.2.2) (tg λ(e21:E4)=>[(2,(Value.slice none 0 0)),(3,(Value.map (some b1))),(16,(Value.slice x.p ts.length x.c)),(17,(vN ts.length)),(18,(vN t)),(5,(pP b2 0)),(4,(vN t)),(23,(vI 1)),(9,(pP b5 0)),(10,(pP b6 0))]) (tg λ(e21:E4)=>[Ah b6 110 (CL e21),Ah b5 200 ([(vN (min T.2.1 T.2.2)),(vN (max T.2.1 T.2.2))]),Ah b4 110 (CL e20),Ah b3 200 ([(vN (min T.1 T.2.1)),(vN (max T.1 T.2.1))]),Ah b2 76 (Al T),C0 b1 Gv Mz (Cf ts (3*t+1)),Ag x.p (rowsL Al ts)]) ?_ ?_
     ·skip
      refine AG.block (q4 (AO rfl (AO rfl (AJ (Af (c:=(decide (T.2.1<T.2.2))) rfl rfl (DL (a:=T.2.1) (b:=T.2.2))) rfl (AO rfl ?_)))))
      refine AF.mid (FM:=[(2,(Value.slice none 0 0)),(3,(Value.map (some b1))),(16,(Value.slice x.p ts.length x.c)),(17,(vN ts.length)),(18,(vN t)),(5,(pP b2 0)),(4,(vN t)),(23,(vI 1)),(9,(pP b5 0)),(10,(pP b6 0)),(7,(vN T.2.1)),(8,(vN T.2.2)),(55,(vN T.2.1)),(56,(vN T.2.2)),(57,(Value.bool (decide (T.2.1<T.2.2)))),(58,(Value.bool (decide (T.2.1<T.2.2)))),(62,(Value.bool ((decide (T.2.1<T.2.2))&&(decide (e01.l=(-1:Int))))))]) (LM:=[Ah b6 110 (CL e01),Ah b5 200 ([(vN (min T.2.1 T.2.2)),(vN (max T.2.1 T.2.2))]),Ah b4 110 (CL e20),Ah b3 200 ([(vN (min T.1 T.2.1)),(vN (max T.1 T.2.1))]),Ah b2 76 (Al T),C0 b1 Gv Mz (Cf ts (3*t+1)),Ag x.p (rowsL Al ts)]) 4 ?_ ?_
      ·rcases Bool.eq_false_or_eq_true (decide (T.2.1<T.2.2)) with hg3|hg3
       ·skip
        refine AF.retell (k:=58) (u:=Value.bool true) rfl (by rw [hg3]) ?_
        have hg3':=hg3
        replace hg3':=of_decide_eq_true hg3'
        exact AF.step (v:=(pP b6 2)) (AB rfl) (AA rfl Tryz.underlying110 rfl Tryz.sizeOf3 rfl) rfl (Ad rfl) (AF.step (v:=(vI e01.l)) (AB rfl) (AM (i:=0) (v:=(vI e01.l)) rfl rfl B4.a rfl) rfl (Ad rfl) (AF.step (v:=(Value.bool (decide (e01.l=(-1:Int))))) (AB rfl) (Be (c:=(decide (e01.l=(-1:Int)))) rfl rfl rfl) rfl (Ad rfl) (AJ (v:=(Value.bool (decide (e01.l=(-1:Int))))) (Aj rfl rfl) rfl (AF.nil (AC.mid (sS rfl (sS rfl (sS rfl (sS rfl (sS rfl (sS rfl (sS rfl (sS rfl (sS rfl (sS rfl (sS rfl (sS rfl (sS rfl (sS rfl (sS rfl (sS (by first|rfl|(rw [hg3];rfl)|rw [hg3]) (sS (by first|rfl|(rw [hg3];rfl)|rw [hg3]) (sN)))))))))))))))))) (List.Sublist.refl _))))))
       ·skip
        refine AF.retell (k:=58) (u:=Value.bool false) rfl (by rw [hg3]) ?_
        have hg3':=hg3
        replace hg3':=of_decide_eq_false hg3'
        exact AF.skip (AP rfl) rfl (Ad rfl) (AF.skip (AP rfl) rfl (Ad rfl) (AF.skip (AP rfl) rfl (Ad rfl) (AJ (v:=(Value.bool false)) (AV rfl rfl) rfl (AF.nil (AC.mid (sS rfl (sS rfl (sS rfl (sS rfl (sS rfl (sS rfl (sS rfl (sS rfl (sS rfl (sS rfl (sS rfl (sS rfl (sS rfl (sS rfl (sS rfl (sS (by first|rfl|(rw [hg3];rfl)|rw [hg3]) (sS (by first|rfl|(rw [hg3];rfl)|rw [hg3]) (sN)))))))))))))))))) (List.Sublist.refl _))))))
      refine AK rfl (AF.nil (AC.subF (sL [2,3,16,17,18,5,4,23,9,10,7,8,54] rfl) (AC.then_ ?_)))
      refine AG.cond rfl (λhc3=>?_) (λhc3=>?_)
      ·simp only [Bool.and_eq_true,Bool.or_eq_true,Bool.and_eq_false_iff,Bool.or_eq_false_iff,Bool.not_eq_true',Bool.not_eq_false',decide_eq_true_eq,decide_eq_false_iff_not] at hc3
       refine AG.region (AO rfl (AJ (v:=(pP b6 2)) (AA rfl Tryz.underlying110 rfl Tryz.sizeOf3 rfl) rfl (GK 0 (off:=2) (vs:=[(vN t)]) (cs':=[(vN e01.a),(vN e01.b),(vN t),(vI e01.r)]) (AN rfl) rfl Tryz.sizeOf3 rfl (AF.nil (AC.subF (sL [2,3,16,17,18,5,4,23,9,10,7,8] rfl) ?_)))))
       exact AC.in_normal (AC.join1 (⟨e01.a,e01.b,((t:Nat):Int),e01.r⟩:E4) ((by unfold Ff;rw [if_pos (by omega)])) (sF rfl) sr)
      ·simp only [Bool.and_eq_true,Bool.or_eq_true,Bool.and_eq_false_iff,Bool.or_eq_false_iff,Bool.not_eq_true',Bool.not_eq_false',decide_eq_true_eq,decide_eq_false_iff_not] at hc3
       refine q4 (AO rfl (AO rfl (AJ (CK (c:=(decide (T.2.2<T.2.1))) rfl rfl (DL (a:=T.2.2) (b:=T.2.1))) rfl (AO rfl ?_))))
       refine AF.mid (FM:=[(2,(Value.slice none 0 0)),(3,(Value.map (some b1))),(16,(Value.slice x.p ts.length x.c)),(17,(vN ts.length)),(18,(vN t)),(5,(pP b2 0)),(4,(vN t)),(23,(vI 1)),(9,(pP b5 0)),(10,(pP b6 0)),(7,(vN T.2.1)),(8,(vN T.2.2)),(66,(vN T.2.1)),(67,(vN T.2.2)),(68,(Value.bool (decide (T.2.2<T.2.1)))),(69,(Value.bool (decide (T.2.2<T.2.1)))),(73,(Value.bool ((decide (T.2.2<T.2.1))&&(decide (e01.r=(-1:Int))))))]) (LM:=[Ah b6 110 (CL e01),Ah b5 200 ([(vN (min T.2.1 T.2.2)),(vN (max T.2.1 T.2.2))]),Ah b4 110 (CL e20),Ah b3 200 ([(vN (min T.1 T.2.1)),(vN (max T.1 T.2.1))]),Ah b2 76 (Al T),C0 b1 Gv Mz (Cf ts (3*t+1)),Ag x.p (rowsL Al ts)]) 4 ?_ ?_
       ·rcases Bool.eq_false_or_eq_true (decide (T.2.2<T.2.1)) with hg4|hg4
        ·skip
         refine AF.retell (k:=69) (u:=Value.bool true) rfl (by rw [hg4]) ?_
         have hg4':=hg4
         replace hg4':=of_decide_eq_true hg4'
         exact AF.step (v:=(pP b6 3)) (AB rfl) (AA rfl Tryz.underlying110 rfl Tryz.sizeOf3 rfl) rfl (Ad rfl) (AF.step (v:=(vI e01.r)) (AB rfl) (AM (i:=0) (v:=(vI e01.r)) rfl rfl B4.a rfl) rfl (Ad rfl) (AF.step (v:=(Value.bool (decide (e01.r=(-1:Int))))) (AB rfl) (Be (c:=(decide (e01.r=(-1:Int)))) rfl rfl rfl) rfl (Ad rfl) (AJ (v:=(Value.bool (decide (e01.r=(-1:Int))))) (Aj rfl rfl) rfl (AF.nil (AC.mid (sS rfl (sS rfl (sS rfl (sS rfl (sS rfl (sS rfl (sS rfl (sS rfl (sS rfl (sS rfl (sS rfl (sS rfl (sS rfl (sS rfl (sS rfl (sS (by first|rfl|(rw [hg4];rfl)|rw [hg4]) (sS (by first|rfl|(rw [hg4];rfl)|rw [hg4]) (sN)))))))))))))))))) (List.Sublist.refl _))))))
        ·skip
         refine AF.retell (k:=69) (u:=Value.bool false) rfl (by rw [hg4]) ?_
         have hg4':=hg4
         replace hg4':=of_decide_eq_false hg4'
         exact AF.skip (AP rfl) rfl (Ad rfl) (AF.skip (AP rfl) rfl (Ad rfl) (AF.skip (AP rfl) rfl (Ad rfl) (AJ (v:=(Value.bool false)) (AV rfl rfl) rfl (AF.nil (AC.mid (sS rfl (sS rfl (sS rfl (sS rfl (sS rfl (sS rfl (sS rfl (sS rfl (sS rfl (sS rfl (sS rfl (sS rfl (sS rfl (sS rfl (sS rfl (sS (by first|rfl|(rw [hg4];rfl)|rw [hg4]) (sS (by first|rfl|(rw [hg4];rfl)|rw [hg4]) (sN)))))))))))))))))) (List.Sublist.refl _))))))
       refine AK rfl (AF.nil (AC.subF (sL [2,3,16,17,18,5,4,23,9,10,7,8,65] rfl) (AC.then_ ?_)))
       refine AG.cond rfl (λhc4=>?_) (λhc4=>?_)
       ·simp only [Bool.and_eq_true,Bool.or_eq_true,Bool.and_eq_false_iff,Bool.or_eq_false_iff,Bool.not_eq_true',Bool.not_eq_false',decide_eq_true_eq,decide_eq_false_iff_not] at hc4
        refine AG.region (AO rfl (AJ (v:=(pP b6 3)) (AA rfl Tryz.underlying110 rfl Tryz.sizeOf3 rfl) rfl (GK 0 (off:=3) (vs:=[(vN t)]) (cs':=[(vN e01.a),(vN e01.b),(vI e01.l),(vN t)]) (AN rfl) rfl Tryz.sizeOf3 rfl (AF.nil (AC.subF (sL [2,3,16,17,18,5,4,23,9,10,7,8] rfl) ?_)))))
        exact AC.in_normal (AC.join1 (⟨e01.a,e01.b,e01.l,((t:Nat):Int)⟩:E4) ((by unfold Ff;rw [if_neg (by omega),if_pos (by omega)])) (sF rfl) sr)
       ·simp only [Bool.and_eq_true,Bool.or_eq_true,Bool.and_eq_false_iff,Bool.or_eq_false_iff,Bool.not_eq_true',Bool.not_eq_false',decide_eq_true_eq,decide_eq_false_iff_not] at hc4
        exact AG.skip (AC.in_normal (AC.join1 e01 ((by unfold Ff;rw [if_neg (by omega),if_neg (by omega)])) (sF rfl) sr))
     ·intro e21 hJ
      have hu1:=hJ
      refine AC.then_ (AG.region (AO rfl (A7 1 L_ rfl (A7 0 Ko rfl (AF.mapUpdate G2 5 (kvs:=Cf ts (3*t+1)) (x:=((min T.2.1 T.2.2,max T.2.1 T.2.2):P2)) (y:=e21) (AN rfl) rfl rfl rfl Tryz.underlying198 rfl (Fg hn hN _ (by omega)) (B0 (by omega) (by omega)) ?_)))))
      rw [show BZ (Cf ts (3*t+1)) ((min T.2.1 T.2.2,max T.2.1 T.2.2):P2) e21=Cf ts (3*t+2) from by rw [hu1,he1,hT];exact (Ky (ts:=ts) (t:=t) (i:=1) (by omega)).symm]
      refine AF.nil (AC.subF (sL [2,3,16,17,18,5,4,23,9,10] rfl) (AC.in_normal (AC.then_ (AG.region (AJ (AX (c:=(2:Int)) rfl rfl (by decide)) rfl ?_)))))
      refine AO rfl (AF.nil (AC.subF (sL [2,3,16,17,18,5,4,23,9,10] rfl) (AC.again (Dr.step (q4 ?_)))))
      refine AJ (Af (c:=true) rfl rfl (by decide)) rfl (AF.nil (q1 (AG.cond_true rfl (AG.skip (q1 ?_)))))
      refine AG.block (q4 (AO rfl (AK rfl (q6 (sL [2,3,16,17,18,5,4,23,9,10,6] rfl) (Cq [(0,true),(1,true),(2,true),(3,true),(4,true),(5,true),(6,true),(7,true),(8,true),(9,true)] sr ?_)))))
      refine Bc rfl (Av (v:=(pP b2 2)) rfl (AE (j:=2) rfl rfl Tryz.underlying76 Tryz.sizeOf3 rfl (by decide) rfl) (Bg 4 (vN T.2.2) B4 rfl (Bc rfl (Av rfl (AX (c:=(3:Int)) rfl rfl (by decide)) (Av rfl (CF (c:=(0:Int)) rfl rfl (by decide) (by decide)) ?_)))))
      refine Av (v:=(pP b2 0)) rfl (AE (j:=0) rfl rfl Tryz.underlying76 Tryz.sizeOf3 rfl (by decide) rfl) (Bg 4 (vN T.1) B4 rfl (FO rfl (FO rfl (AS.nil (AC.subF (sL [2,3,16,17,18,5,4,23,9,10,7,8] rfl) ?_)))))
      refine q2 (AO rfl (AO rfl (AJ (Gq (c:=((min T.2.2 T.1:Nat):Int)) rfl rfl (by split<;>omega)) rfl (AO rfl (AO rfl ?_)))))
      refine AJ (GO (c:=((max T.2.2 T.1:Nat):Int)) rfl rfl (by split<;>omega)) rfl (AJ (v:=(aG ([(vN (min T.2.2 T.1)),(vN (max T.2.2 T.1))]))) (AY (zs:=A_ ((0,0):P2)) (vs:=[(vN (min T.2.2 T.1)),(vN (max T.2.2 T.1))]) (pv:=[(0,(vN (min T.2.2 T.1))),(1,(vN (max T.2.2 T.1)))]) (places:=[(0,1),(1,1)]) Tryz.zeroValue200 Tryz.underlying200 (λw=>by simp [Tryz.sizeOf3]) rfl rfl) rfl (al UK rfl λb7=>Ap rfl Tryz.sizeOf200 rfl (q3 (sL [2,3,16,17,18,5,4,23,9,10,7,8] rfl) (AO rfl ?_))))
      refine A7 0 L_ rfl (AJ (v:=(Value.tuple #[(aG (CL ((Ar (Cf ts (3*t+2)) ((min T.2.2 T.1,max T.2.2 T.1):P2)).getD (⟨0,0,0,0⟩:E4)))),(Value.bool ((Ar (Cf ts (3*t+2)) ((min T.2.2 T.1,max T.2.2 T.1):P2)).isSome))])) (DO G2 6 (eV:=Mz) (kvs:=Cf ts (3*t+2)) (x:=((min T.2.2 T.1,max T.2.2 T.1):P2)) (z0:=(⟨0,0,0,0⟩:E4)) (co:=true) rfl rfl Tryz.underlying198 Tryz.zeroValue110 rfl (Fg hn hN _ (by omega)) (B0 (by omega) (by omega))) rfl (AO rfl (AJ (AT (v:=(aG (CL ((Ar (Cf ts (3*t+2)) ((min T.2.2 T.1,max T.2.2 T.1):P2)).getD (⟨0,0,0,0⟩:E4))))) rfl rfl) rfl (AJ (AT (v:=(Value.bool ((Ar (Cf ts (3*t+2)) ((min T.2.2 T.1,max T.2.2 T.1):P2)).isSome))) rfl rfl) rfl (al KF rfl λb8=>?_)))))
      refine Ap rfl Tryz.sizeOf110 rfl (AK rfl (q6 (sL [2,3,16,17,18,5,4,23,9,10,7,8,11] rfl) (q4 (AO rfl (AJ (Bi (c:=(!((Ar (Cf ts (3*t+2)) ((min T.2.2 T.1,max T.2.2 T.1):P2)).isSome))) rfl rfl) rfl ?_)))))
      refine AF.nil (AC.subF (sL [2,3,16,17,18,5,4,23,9,10,7,8,48] rfl) (AC.then_ ?_))
      refine AG.jn1 (tg λ(e02:E4)=>e02=(Ar (Cf ts (3*t+2)) (min T.2.2 T.1,max T.2.2 T.1)).getD (Ir (min T.2.2 T.1,max T.2.2 T.1))) (tg λ(e02:E4)=>[(2,(Value.slice none 0 0)),(3,(Value.map (some b1))),(16,(Value.slice x.p ts.length x.c)),(17,(vN ts.length)),(18,(vN t)),(5,(pP b2 0)),(4,(vN t)),(23,(vI 2)),(9,(pP b7 0)),(10,(pP b8 0)),(7,(vN T.2.2)),(8,(vN T.1))]) (tg λ(e02:E4)=>[Ah b8 110 (CL e02),Ah b7 200 ([(vN (min T.2.2 T.1)),(vN (max T.2.2 T.1))]),Ah b6 110 (CL e21),Ah b5 200 ([(vN (min T.2.1 T.2.2)),(vN (max T.2.1 T.2.2))]),Ah b4 110 (CL e20),Ah b3 200 ([(vN (min T.1 T.2.1)),(vN (max T.1 T.2.1))]),Ah b2 76 (Al T),C0 b1 Gv Mz (Cf ts (3*t+2)),Ag x.p (rowsL Al ts)]) ?_ ?_
      ·skip
       refine AG.cond rfl (λhc2=>?_) (λhc2=>?_)
       ·simp only [Bool.and_eq_true,Bool.or_eq_true,Bool.and_eq_false_iff,Bool.or_eq_false_iff,Bool.not_eq_true',Bool.not_eq_false',decide_eq_true_eq,decide_eq_false_iff_not] at hc2
        refine AG.region (AJ (v:=(pP b7 0)) (AA rfl Tryz.underlying200 rfl Tryz.sizeOf3 rfl) rfl (BL 1 (vN (min T.2.2 T.1)) B4 rfl (AJ (v:=(pP b7 1)) (AA rfl Tryz.underlying200 rfl Tryz.sizeOf3 rfl) rfl (BL 1 (vN (max T.2.2 T.1)) B4 rfl (AJ (v:=(aG ([(vN (min T.2.2 T.1)),(vN (max T.2.2 T.1)),(vI (-1:Int)),(vI (-1:Int))]))) (AY (zs:=CL (⟨0,0,0,0⟩:E4)) (vs:=[(vN (min T.2.2 T.1)),(vN (max T.2.2 T.1)),(vI (-1:Int)),(vI (-1:Int))]) (pv:=[(0,(vN (min T.2.2 T.1))),(1,(vN (max T.2.2 T.1))),(2,(vI (-1:Int))),(3,(vI (-1:Int)))]) (places:=[(0,1),(1,1),(2,1),(3,1)]) Tryz.zeroValue110 Tryz.underlying110 (λw=>by simp [Tryz.sizeOf3]) rfl rfl) rfl ?_)))))
        exact Ap rfl Tryz.sizeOf110 rfl (AF.nil (AC.subF (sL [2,3,16,17,18,5,4,23,9,10,7,8] rfl) (AC.join1 (⟨min T.2.2 T.1,max T.2.2 T.1,-1,-1⟩:E4) ((Ke (k:=(min T.2.2 T.1,max T.2.2 T.1)) (by simpa using hc2))) (sF rfl) sr)))
       ·simp only [Bool.and_eq_true,Bool.or_eq_true,Bool.and_eq_false_iff,Bool.or_eq_false_iff,Bool.not_eq_true',Bool.not_eq_false',decide_eq_true_eq,decide_eq_false_iff_not] at hc2
        exact AG.skip (AC.join1 ((Ar (Cf ts (3*t+2)) ((min T.2.2 T.1,max T.2.2 T.1):P2)).getD (⟨0,0,0,0⟩:E4)) ((KK (by simpa using hc2))) (sF rfl) sr)
      ·intro e02 hJ
       have he2:=hJ
       refine q1 ?_
       refine AG.jn1 (tg λ(e22:E4)=>e22=Ff e02 t T.2.2 T.1) (tg λ(e22:E4)=>[(2,(Value.slice none 0 0)),(3,(Value.map (some b1))),(16,(Value.slice x.p ts.length x.c)),(17,(vN ts.length)),(18,(vN t)),(5,(pP b2 0)),(4,(vN t)),(23,(vI 2)),(9,(pP b7 0)),(10,(pP b8 0))]) (tg λ(e22:E4)=>[Ah b8 110 (CL e22),Ah b7 200 ([(vN (min T.2.2 T.1)),(vN (max T.2.2 T.1))]),Ah b6 110 (CL e21),Ah b5 200 ([(vN (min T.2.1 T.2.2)),(vN (max T.2.1 T.2.2))]),Ah b4 110 (CL e20),Ah b3 200 ([(vN (min T.1 T.2.1)),(vN (max T.1 T.2.1))]),Ah b2 76 (Al T),C0 b1 Gv Mz (Cf ts (3*t+2)),Ag x.p (rowsL Al ts)]) ?_ ?_
       ·skip
        refine AG.block (q4 (AO rfl (AO rfl (AJ (Af (c:=(decide (T.2.2<T.1))) rfl rfl (DL (a:=T.2.2) (b:=T.1))) rfl (AO rfl ?_)))))
        refine AF.mid (FM:=[(2,(Value.slice none 0 0)),(3,(Value.map (some b1))),(16,(Value.slice x.p ts.length x.c)),(17,(vN ts.length)),(18,(vN t)),(5,(pP b2 0)),(4,(vN t)),(23,(vI 2)),(9,(pP b7 0)),(10,(pP b8 0)),(7,(vN T.2.2)),(8,(vN T.1)),(55,(vN T.2.2)),(56,(vN T.1)),(57,(Value.bool (decide (T.2.2<T.1)))),(58,(Value.bool (decide (T.2.2<T.1)))),(62,(Value.bool ((decide (T.2.2<T.1))&&(decide (e02.l=(-1:Int))))))]) (LM:=[Ah b8 110 (CL e02),Ah b7 200 ([(vN (min T.2.2 T.1)),(vN (max T.2.2 T.1))]),Ah b6 110 (CL e21),Ah b5 200 ([(vN (min T.2.1 T.2.2)),(vN (max T.2.1 T.2.2))]),Ah b4 110 (CL e20),Ah b3 200 ([(vN (min T.1 T.2.1)),(vN (max T.1 T.2.1))]),Ah b2 76 (Al T),C0 b1 Gv Mz (Cf ts (3*t+2)),Ag x.p (rowsL Al ts)]) 4 ?_ ?_
        ·rcases Bool.eq_false_or_eq_true (decide (T.2.2<T.1)) with hg5|hg5
         ·skip
          refine AF.retell (k:=58) (u:=Value.bool true) rfl (by rw [hg5]) ?_
          have hg5':=hg5
          replace hg5':=of_decide_eq_true hg5'
          exact AF.step (v:=(pP b8 2)) (AB rfl) (AA rfl Tryz.underlying110 rfl Tryz.sizeOf3 rfl) rfl (Ad rfl) (AF.step (v:=(vI e02.l)) (AB rfl) (AM (i:=0) (v:=(vI e02.l)) rfl rfl B4.a rfl) rfl (Ad rfl) (AF.step (v:=(Value.bool (decide (e02.l=(-1:Int))))) (AB rfl) (Be (c:=(decide (e02.l=(-1:Int)))) rfl rfl rfl) rfl (Ad rfl) (AJ (v:=(Value.bool (decide (e02.l=(-1:Int))))) (Aj rfl rfl) rfl (AF.nil (AC.mid (sS rfl (sS rfl (sS rfl (sS rfl (sS rfl (sS rfl (sS rfl (sS rfl (sS rfl (sS rfl (sS rfl (sS rfl (sS rfl (sS rfl (sS rfl (sS (by first|rfl|(rw [hg5];rfl)|rw [hg5]) (sS (by first|rfl|(rw [hg5];rfl)|rw [hg5]) (sN)))))))))))))))))) (List.Sublist.refl _))))))
         ·skip
          refine AF.retell (k:=58) (u:=Value.bool false) rfl (by rw [hg5]) ?_
          have hg5':=hg5
          replace hg5':=of_decide_eq_false hg5'
          exact AF.skip (AP rfl) rfl (Ad rfl) (AF.skip (AP rfl) rfl (Ad rfl) (AF.skip (AP rfl) rfl (Ad rfl) (AJ (v:=(Value.bool false)) (AV rfl rfl) rfl (AF.nil (AC.mid (sS rfl (sS rfl (sS rfl (sS rfl (sS rfl (sS rfl (sS rfl (sS rfl (sS rfl (sS rfl (sS rfl (sS rfl (sS rfl (sS rfl (sS rfl (sS (by first|rfl|(rw [hg5];rfl)|rw [hg5]) (sS (by first|rfl|(rw [hg5];rfl)|rw [hg5]) (sN)))))))))))))))))) (List.Sublist.refl _))))))
        refine AK rfl (AF.nil (AC.subF (sL [2,3,16,17,18,5,4,23,9,10,7,8,54] rfl) (AC.then_ ?_)))
        refine AG.cond rfl (λhc3=>?_) (λhc3=>?_)
        ·simp only [Bool.and_eq_true,Bool.or_eq_true,Bool.and_eq_false_iff,Bool.or_eq_false_iff,Bool.not_eq_true',Bool.not_eq_false',decide_eq_true_eq,decide_eq_false_iff_not] at hc3
         refine AG.region (AO rfl (AJ (v:=(pP b8 2)) (AA rfl Tryz.underlying110 rfl Tryz.sizeOf3 rfl) rfl (GK 0 (off:=2) (vs:=[(vN t)]) (cs':=[(vN e02.a),(vN e02.b),(vN t),(vI e02.r)]) (AN rfl) rfl Tryz.sizeOf3 rfl (AF.nil (AC.subF (sL [2,3,16,17,18,5,4,23,9,10,7,8] rfl) ?_)))))
         exact AC.in_normal (AC.join1 (⟨e02.a,e02.b,((t:Nat):Int),e02.r⟩:E4) ((by unfold Ff;rw [if_pos (by omega)])) (sF rfl) sr)
        ·simp only [Bool.and_eq_true,Bool.or_eq_true,Bool.and_eq_false_iff,Bool.or_eq_false_iff,Bool.not_eq_true',Bool.not_eq_false',decide_eq_true_eq,decide_eq_false_iff_not] at hc3
         refine q4 (AO rfl (AO rfl (AJ (CK (c:=(decide (T.1<T.2.2))) rfl rfl (DL (a:=T.1) (b:=T.2.2))) rfl (AO rfl ?_))))
         refine AF.mid (FM:=[(2,(Value.slice none 0 0)),(3,(Value.map (some b1))),(16,(Value.slice x.p ts.length x.c)),(17,(vN ts.length)),(18,(vN t)),(5,(pP b2 0)),(4,(vN t)),(23,(vI 2)),(9,(pP b7 0)),(10,(pP b8 0)),(7,(vN T.2.2)),(8,(vN T.1)),(66,(vN T.2.2)),(67,(vN T.1)),(68,(Value.bool (decide (T.1<T.2.2)))),(69,(Value.bool (decide (T.1<T.2.2)))),(73,(Value.bool ((decide (T.1<T.2.2))&&(decide (e02.r=(-1:Int))))))]) (LM:=[Ah b8 110 (CL e02),Ah b7 200 ([(vN (min T.2.2 T.1)),(vN (max T.2.2 T.1))]),Ah b6 110 (CL e21),Ah b5 200 ([(vN (min T.2.1 T.2.2)),(vN (max T.2.1 T.2.2))]),Ah b4 110 (CL e20),Ah b3 200 ([(vN (min T.1 T.2.1)),(vN (max T.1 T.2.1))]),Ah b2 76 (Al T),C0 b1 Gv Mz (Cf ts (3*t+2)),Ag x.p (rowsL Al ts)]) 4 ?_ ?_
         ·rcases Bool.eq_false_or_eq_true (decide (T.1<T.2.2)) with hg6|hg6
          ·skip
           refine AF.retell (k:=69) (u:=Value.bool true) rfl (by rw [hg6]) ?_
           have hg6':=hg6
           replace hg6':=of_decide_eq_true hg6'
           exact AF.step (v:=(pP b8 3)) (AB rfl) (AA rfl Tryz.underlying110 rfl Tryz.sizeOf3 rfl) rfl (Ad rfl) (AF.step (v:=(vI e02.r)) (AB rfl) (AM (i:=0) (v:=(vI e02.r)) rfl rfl B4.a rfl) rfl (Ad rfl) (AF.step (v:=(Value.bool (decide (e02.r=(-1:Int))))) (AB rfl) (Be (c:=(decide (e02.r=(-1:Int)))) rfl rfl rfl) rfl (Ad rfl) (AJ (v:=(Value.bool (decide (e02.r=(-1:Int))))) (Aj rfl rfl) rfl (AF.nil (AC.mid (sS rfl (sS rfl (sS rfl (sS rfl (sS rfl (sS rfl (sS rfl (sS rfl (sS rfl (sS rfl (sS rfl (sS rfl (sS rfl (sS rfl (sS rfl (sS (by first|rfl|(rw [hg6];rfl)|rw [hg6]) (sS (by first|rfl|(rw [hg6];rfl)|rw [hg6]) (sN)))))))))))))))))) (List.Sublist.refl _))))))
          ·skip
           refine AF.retell (k:=69) (u:=Value.bool false) rfl (by rw [hg6]) ?_
           have hg6':=hg6
           replace hg6':=of_decide_eq_false hg6'
           exact AF.skip (AP rfl) rfl (Ad rfl) (AF.skip (AP rfl) rfl (Ad rfl) (AF.skip (AP rfl) rfl (Ad rfl) (AJ (v:=(Value.bool false)) (AV rfl rfl) rfl (AF.nil (AC.mid (sS rfl (sS rfl (sS rfl (sS rfl (sS rfl (sS rfl (sS rfl (sS rfl (sS rfl (sS rfl (sS rfl (sS rfl (sS rfl (sS rfl (sS rfl (sS (by first|rfl|(rw [hg6];rfl)|rw [hg6]) (sS (by first|rfl|(rw [hg6];rfl)|rw [hg6]) (sN)))))))))))))))))) (List.Sublist.refl _))))))
         refine AK rfl (AF.nil (AC.subF (sL [2,3,16,17,18,5,4,23,9,10,7,8,65] rfl) (AC.then_ ?_)))
         refine AG.cond rfl (λhc4=>?_) (λhc4=>?_)
         ·simp only [Bool.and_eq_true,Bool.or_eq_true,Bool.and_eq_false_iff,Bool.or_eq_false_iff,Bool.not_eq_true',Bool.not_eq_false',decide_eq_true_eq,decide_eq_false_iff_not] at hc4
          refine AG.region (AO rfl (AJ (v:=(pP b8 3)) (AA rfl Tryz.underlying110 rfl Tryz.sizeOf3 rfl) rfl (GK 0 (off:=3) (vs:=[(vN t)]) (cs':=[(vN e02.a),(vN e02.b),(vI e02.l),(vN t)]) (AN rfl) rfl Tryz.sizeOf3 rfl (AF.nil (AC.subF (sL [2,3,16,17,18,5,4,23,9,10,7,8] rfl) ?_)))))
          exact AC.in_normal (AC.join1 (⟨e02.a,e02.b,e02.l,((t:Nat):Int)⟩:E4) ((by unfold Ff;rw [if_neg (by omega),if_pos (by omega)])) (sF rfl) sr)
         ·simp only [Bool.and_eq_true,Bool.or_eq_true,Bool.and_eq_false_iff,Bool.or_eq_false_iff,Bool.not_eq_true',Bool.not_eq_false',decide_eq_true_eq,decide_eq_false_iff_not] at hc4
          exact AG.skip (AC.in_normal (AC.join1 e02 ((by unfold Ff;rw [if_neg (by omega),if_neg (by omega)])) (sF rfl) sr))
       ·intro e22 hJ
        have hu2:=hJ
        refine AC.then_ (AG.region (AO rfl (A7 1 L_ rfl (A7 0 Ko rfl (AF.mapUpdate G2 7 (kvs:=Cf ts (3*t+2)) (x:=((min T.2.2 T.1,max T.2.2 T.1):P2)) (y:=e22) (AN rfl) rfl rfl rfl Tryz.underlying198 rfl (Fg hn hN _ (by omega)) (B0 (by omega) (by omega)) ?_)))))
        rw [show BZ (Cf ts (3*t+2)) ((min T.2.2 T.1,max T.2.2 T.1):P2) e22=Cf ts (3*t+3) from by rw [hu2,he2,hT];exact (Ky (ts:=ts) (t:=t) (i:=2) (by omega)).symm]
        refine AF.nil (AC.subF (sL [2,3,16,17,18,5,4,23,9,10] rfl) (AC.in_normal (AC.then_ (AG.region (AJ (AX (c:=(3:Int)) rfl rfl (by decide)) rfl ?_)))))
        refine AO rfl (AF.nil (AC.subF (sL [2,3,16,17,18,5,4,23,9,10] rfl) (AC.again (Dr.step (q4 ?_)))))
        refine AJ (Af (c:=false) rfl rfl (by decide)) rfl (AF.nil (q1 (AG.cond_false rfl (AG.exit (AC.then_exit ?_)))))
        refine AC.then_exit (AC.in_exit (AC.in_normal (AC.then_ (AG.region (AJ (AX (c:=((t+1:Nat):Int)) rfl rfl (Ab (a:=t) (b:=1) (by omega))) rfl ?_)))))
        refine AO rfl (AF.nil (AC.subF (sL [2,3,16,17,18,5,4,23,9,10] rfl) ?_))
        rw [show 3*t+3=3*(t+1)+0 by omega]
        exact AC.round1 (t+1) (by omega) (by omega) (sF rfl) (sl (sl (sl (sl (sl (sl (sl sr)))))))
 ·replace hc0:=of_decide_eq_false hc0
  have htl:t=ts.length:=by omega
  have hel:=H3 (ts:=ts) (3*ts.length)
  refine AG.exit (AC.then_exit (AC.round1_exit (AC.in_exit (q2 (AO rfl ?_)))))
  rw [show Cf ts (3*t+0)=(Cf ts (3*ts.length)) by rw [htl,Nat.add_zero]]
  refine st (v:=(vN ((Cf ts (3*ts.length)).length))) (PZ 0 (kvs:=(Cf ts (3*ts.length))) rfl Tryz.underlying198 rfl) (Ad rfl) (AF.make0 YV rfl rfl (by omega) rfl rfl λbo hbo=>AK rfl (q6 (sL [2,3,16,17,18,12] rfl) (q4 (AO rfl ?_))))
  refine AF.range 1 (kvs:=(Cf ts (3*ts.length))) (AN rfl) rfl Tryz.underlying198 rfl rfl λb2=>AF.nil (AC.subF (sL [2,3,16,17,18,12,85] rfl) (AC.then_ (AG.block ?_)))
  refine AG.lp4 (tg λ(seen:List Nat) (out:List E4) (p1:Option Addr) (c1:Nat)=>seen.Nodup/\(∀x∈seen,x<(Cf ts (3*ts.length)).length)/\out=seen.map (TP (Cf ts (3*ts.length)))/\OwnOk p1 out.length c1/\p1≠none) (tg λ(seen:List Nat) (out:List E4) (p1:Option Addr) (c1:Nat)=>[(2,(Value.slice none 0 0)),(85,(Value.pointer (some ⟨b2,0,none⟩))),(12,(Value.slice p1 out.length c1))]) (tg λ(seen:List Nat) (out:List E4) (p1:Option Addr) (c1:Nat)=>[ZI b2 b1 (Cf ts (3*ts.length)).length seen,rowW p1 110 4 out.length c1 (rowsL CL out),C0 b1 Gv Mz (Cf ts (3*ts.length)),Ag x.p (rowsL Al ts)]) (tg λ(seen:List Nat) (out:List E4) (p1:Option Addr) (c1:Nat)=>(Cf ts (3*ts.length)).length-seen.length) ([]:List Nat) ([]:List E4) (some ⟨bo,0,none⟩) ((Cf ts (3*ts.length)).length) (⟨List.nodup_nil,(λx hx=>by cases hx),rfl,hbo,by simp⟩) (sF rfl) sr (λseen out p1 c1 hJ=>?_)
  obtain ⟨hnd,hlt,hou,ho,hpn⟩:=hJ
  refine q4 ?_
  refine AF.next 2 0 (kvs:=(Cf ts (3*ts.length))) (seen:=seen) (AN rfl) rfl rfl rfl rfl (λhall=>?_) (λqn kq ve hq hns=>?_)
  ·skip
   refine AJ (AT (v:=(Value.bool false)) rfl rfl) rfl (q6 (sL [2,85,12,87] rfl) (AG.cond_false rfl (AG.exit (AC.then_exit (AC.round4_exit ?_)))))
   refine AC.in_exit (q2 (AO rfl ?_))
   have hpm:out.Perm ((Cf ts (3*ts.length)).map (·.2)):=by rw [hou];exact Ut hnd hlt hall
   have hol:out.length=(BT ts).length:=by rw [IE];simpa using hpm.length_eq
   have hlo:out.length<=3*ts.length:=by rw [hol,IE];exact hel
   refine AF.callS 1 (xs:=out) (ys:=BT ts) (v:=(Value.tuple #[])) (AN rfl) (Aq (args:=[(Value.slice p1 out.length c1),(Value.func (.func 125) #[] #[])]) rfl rfl Tryz.call124) rfl (λw hw=>T8 out _ _ _ 110 ho hpn rfl (by omega) w (hw.holds (i:=1) rfl)) (λzs h1 h2=>YJ hn hN h1 h2 hpm) (λd hd=>by cases hd<;>exact (Ad rfl)) (q3 (sL [2,85,12] rfl) (AO rfl (BU Tryz.call128 (Sx p1 _ c1 ho.le) rfl (AK rfl (AF.nil ?_)))))
   exact AC.subF (sL [2,85,12] rfl) (AC.then_ (AG.ret (AR rfl (Ai (v:=(Value.slice p1 out.length out.length)) rfl) (λw hw=>(by rw [<-hol];exact Zu hw 1 rfl ho (by rw [Ak Dg,hol]) rfl)))))
  ·skip
   refine AJ (AT (v:=(Value.bool true)) rfl rfl) rfl (q6 (sL [2,85,12,87] rfl) (AG.cond_true rfl (AG.skip (AC.then_ (AG.block ?_)))))
   refine q4 ?_
   have hlo:out.length<=3*ts.length:=by rw [hou,List.length_map];exact Nat.le_trans (Gi hnd hlt) hel
   refine AJ (v:=(Value.tuple #[(aG (A_ kq)),(aG (CL ve))])) (TW 2 0 (enc:=Gv) (eV:=Mz) (kvs:=(Cf ts (3*ts.length))) (seen:=seen) (q:=qn) rfl rfl rfl hq) rfl (AJ (AT (v:=(aG (CL ve))) rfl rfl) rfl (al KF rfl λb3=>Ap rfl Tryz.sizeOf110 rfl (AF.nil (AC.subF (sL [2,85,12,14] rfl) ?_))))
   refine AC.then_ (AG.region (AO rfl (A7 0 Ko rfl (AF.openV (V:=λb4=>(Value.slice (some ⟨b4,0,none⟩) 1 1)) (T:=110) (cs:=CL ve) (AN rfl) (BE (z:=.agg (CL (⟨0,0,0,0⟩:E4)).toArray) (cs:=CL ve) (pv:=[(0,(aG (CL ve)))]) Tryz.underlying37 Tryz.sizeOf110 Tryz.zeroValue110 (by decide) (by decide) rfl (JV ve)) rfl (Ad rfl) λb4=>AF.appendAt 3 (j:=0) (cs2:=rowsL CL (out++[ve])) YV rfl ho (Ak Dg _) rfl rfl rfl rfl rfl (by decide) (Kq (by omega)) (by omega) (by rw [BW];rfl) rfl λp_1 c_1 ho_1 hne_1=>?_))))
   refine AK rfl (AF.nil (AC.subF (sL [2,85,12,14] rfl) (AC.in_normal ?_)))
   have hnext:seen.length<(Cf ts (3*ts.length)).length:=by have h9:=Gi (l:=seen++[qn]) (n:=(Cf ts (3*ts.length)).length) (List.nodup_append.2 ⟨hnd,List.nodup_cons.2 ⟨List.not_mem_nil,List.nodup_nil⟩,λa ha b hb e=>by rw [List.mem_singleton.1 hb] at e;exact hns (e▸ha)⟩) (λx hx=>by rcases List.mem_append.1 hx with h|h;exact hlt x h;rw [List.mem_singleton.1 h];exact (List.getElem?_eq_some_iff.1 hq).1);rw [List.length_append,List.length_singleton] at h9;omega
   rw [show out.length+1=(out++[ve]).length by simp]
   exact AC.round4 (seen++[qn]) (out++[ve]) p_1 c_1 (⟨List.nodup_append.2 ⟨hnd,List.nodup_cons.2 ⟨List.not_mem_nil,List.nodup_nil⟩,λa ha b hb e=>by rw [List.mem_singleton.1 hb] at e;exact hns (e▸ha)⟩,λx hx=>by rcases List.mem_append.1 hx with h|h;exact hlt x h;rw [List.mem_singleton.1 h];exact (List.getElem?_eq_some_iff.1 hq).1,by rw [List.map_append,hou];simp [Wp hq],(by simpa using ho_1),hne_1⟩) (by have h8:=hnext;rw [List.length_append,List.length_singleton];omega) (sF rfl) (sl (sl sr))
end
end Go.Proofs.YtfbomiejpbchdaaGreat
