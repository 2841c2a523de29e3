import Derived.Test.YtfbomiejpbchdaaGreatDoorPart06
import Derived.Test.YtfbomiejpbchdaaGreatDoorPart27
import Derived.Test.YtfbomiejpbchdaaGreatDoorPart28
namespace Go.Proofs.YtfbomiejpbchdaaGreatDoor
open Go Go.RowKit Go.Proofs.Tryz
set_option linter.unusedVariables false
set_option linter.unusedSimpArgs false
section
set_option maxRecDepth 100000
theorem Uy:ElemT prog 51 65 4 32:=⟨underlying51,EE (by kernel_rfl)⟩
theorem Fw:NB prog 167 IA N9 where
 law:=.of_law (deep_law_laid Tm (m:=2) (by decide) (by decide +kernel) (by kernel_rfl) (by kernel_rfl))
 key:=λa h=>KI underlying167 ⟨rfl,rfl⟩ ⟨rfl,rfl⟩ (by decide +kernel) underlying3 (by kernel_rfl) (by kernel_rfl) (by kernel_rfl) (by decide +kernel) (LU h.1) (LU h.2)
 inj:=λa b h=>MD h
theorem RY (p:Option Addr) (n cp:Nat) (h:n<=cp) (w:World)  :Calls prog 95 #[(Value.slice p n cp)] w (Am w (Value.slice p n n)):=by
 refine Ac (args:=[(Value.slice p n cp)]) func95 O O (Ab O) (AF.subF (sL [0] O) (q4 (AK O (AE.nil (q2 ?_)))))
 refine AO O (AO O (AG (v:=(vN n)) (AH O underlying51) O (AO O (AG (v:=(vN n)) (AH O underlying51) O (AG (v:=(Value.slice p n n)) (GF (m:=n) O O O underlying51 sizeOf65 Z) O ?_)))))
 exact AK O (AE.nil (AD.subF (sL [2] O) (AD.then_ (AF.ret (AP O (Ad (v:=(Value.slice p n n)) O) (λw hw=>⟨rfl,hw.out⟩))))))
theorem Ih (x0:E4):Instr.fill (λi=>some (i*4,4)) ((Array.range (1*4)).map ((Value.agg (B9 (⟨0,0,0,0⟩:E4)).toArray).cells[·%(Value.agg (B9 (⟨0,0,0,0⟩:E4)).toArray).cells.size]!)) [(0,.agg (B9 x0).toArray)]=some (B9 x0).toArray:=by kernel_rfl
set_option maxHeartbeats 4000000 in
theorem Lf (ts:List (Nat×Nat×Nat)) (x:RX (rowsL Av ts) ts.length) (N:Nat) (hn:By N ts=true) (hN:N<=4611686018427387904) (hl:ts.length<=1000000000) (w:World) {S:Nat->Prop} (hx:Ro S w x):Calls prog 49 #[(Value.slice x.p ts.length x.c)] w (B_ (RX (rowsL B9 (BC ts)) (BC ts).length) S w):=by
 have lx:=Er (W:=w) hx
 refine BI (args:=[(Value.slice x.p ts.length x.c)]) (L:=[Ai x.p (rowsL Av ts)]) func49 O O (Ab O) (En hx BW) (AF.subF (sL [0] O) (q4 (AK O (AE.nil (q2 ?_)))))
 refine AE.makeMap IA K_ (AQ O) O λb1=>AK O (q6 (sL [0,2,3] O) (q4 (AO O (AG (v:=(vN ts.length)) (AH O underlying23) O ?_))))
 refine AO O (AE.nil (AD.subF (sL [2,3,16,17,18] O) (AD.then_ (AF.block ?_))))
 refine AF.lp1 (tg λ(t:Nat)=>t<=ts.length) (tg λ(t:Nat)=>[(2,(Value.slice none 0 0)),(3,(Value.map (some b1))),(16,(Value.slice x.p ts.length x.c)),(17,(vN ts.length)),(18,(vN t))]) (tg λ(t:Nat)=>[DD b1 IA K_ (CS ts (3*t+0)),Ai x.p (rowsL Av ts)]) (tg λ(t:Nat)=>ts.length-t) 0 (Nat.zero_le _) (sF O) sr (λt hJ=>?_)
 have ht:=hJ
 refine q4 (AG (Af (c:=(decide (t<ts.length))) O O (C6 (a:=t) (b:=ts.length))) O (AE.nil (q1 ?_)))
 refine AF.cond O (λhc0=>?_) (λhc0=>?_)
 ·replace hc0:=of_decide_eq_true hc0
  obtain ⟨T,hT⟩:∃q,q=ts.getD t (0,0,0):=⟨_,rfl⟩
  obtain ⟨g1,g2,g3⟩:=DW (Cb hn hc0)
  rw [<-hT] at g1 g2 g3
  refine AF.skip (q1 (AF.block (q4 (AO O (AG (v:=(pP (pB x.p) (pO x.p+t*3))) (AN (j:=t) O O x.ok underlying23 sizeOf79 O Z) O ?_)))))
  refine AG (v:=(aG (Av (ts.getD t ((0,0,0):Nat×Nat×Nat))))) (AW (vs:=Av (ts.getD t ((0,0,0):Nat×Nat×Nat))) (i:=1) O O (BB.ne x.ok Z) JB (Ar BK _ _ _ Z) (BK _)) O (AE.retell (k:=22) (u:=(aG (Av T))) O (by rw [hT]) (al Lu O λb2=>AK O (Au O sizeOf79 O (q3 (sL [2,3,16,17,18,5,4] O) ?_))))
  refine AO O (AE.nil (AD.then_ (AF.block (AF.unroll 4 (E3.step ?_)))))
  refine q4 (AG (Af (c:=true) O O (by decide)) O (AE.nil (q1 (AF.cond_true O (AF.skip ?_)))))
  refine q1 (AF.block (q4 (AO O (AK O (q6 (sL [2,3,16,17,18,5,4,23,6] O) ?_)))))
  refine C4 [(0,true),(1,true),(2,true),(3,true),(4,true),(5,true),(6,true),(7,true),(8,true),(9,true)] sr (Bo O (Ay (v:=(pP b2 0)) O (AC (j:=0) O O underlying79 sizeOf3 O (by decide) O) (Bn 0 (vN T.1) Bs O (Bo O (Ay O (AX (c:=(1:Int)) O O (by decide)) ?_)))))
  refine Ay O (B6 (c:=(1:Int)) O O (by decide) (by decide)) (Ay (v:=(pP b2 1)) O (AC (j:=1) O O underlying79 sizeOf3 O (by decide) O) (Bn 0 (vN T.2.1) Bs O (EZ O (EZ O (AS.nil ?_)))))
  refine AD.subF (sL [2,3,16,17,18,5,4,23,7,8] O) (q2 (AO O (AO O (AG (GL (c:=((min T.1 T.2.1:Nat):Int)) O O (by split<;>omega)) O (AO O ?_)))))
  refine AO O (AG (FS (c:=((max T.1 T.2.1:Nat):Int)) O O (by split<;>omega)) O (AG (v:=(aG ([(vN (min T.1 T.2.1)),(vN (max T.1 T.2.1))]))) (AV (zs:=A7 ((0,0):P2)) (vs:=[(vN (min T.1 T.2.1)),(vN (max T.1 T.2.1))]) (pv:=[(0,(vN (min T.1 T.2.1))),(1,(vN (max T.1 T.2.1)))]) (places:=[(0,1),(1,1)]) zeroValue167 underlying167 (λw=>by simp [sizeOf3]) O O) O (al Qz O λb3=>Au O sizeOf167 O (q3 (sL [2,3,16,17,18,5,4,23,7,8,9] O) ?_))))
  refine AO O (BD 0 KP O (AG (v:=(Value.tuple #[(aG (B9 ((BG (CS ts (3*t+0)) ((min T.1 T.2.1,max T.1 T.2.1):P2)).getD (⟨0,0,0,0⟩:E4)))),(Value.bool ((BG (CS ts (3*t+0)) ((min T.1 T.2.1,max T.1 T.2.1):P2)).isSome))])) (Fs Fw 2 (eV:=K_) (kvs:=CS ts (3*t+0)) (x:=((min T.1 T.2.1,max T.1 T.2.1):P2)) (z0:=(⟨0,0,0,0⟩:E4)) (co:=true) O O underlying165 zeroValue65 O (Ei hn hN _ Z) (DZ Z Z)) O (AO O (AG (AZ (v:=(aG (B9 ((BG (CS ts (3*t+0)) ((min T.1 T.2.1,max T.1 T.2.1):P2)).getD (⟨0,0,0,0⟩:E4))))) O O) O (AG (AZ (v:=(Value.bool ((BG (CS ts (3*t+0)) ((min T.1 T.2.1,max T.1 T.2.1):P2)).isSome))) O O) O ?_)))))
  refine al Rr O λb4=>Au O sizeOf65 O (AK O (q6 (sL [2,3,16,17,18,5,4,23,7,8,9,10,11] O) (q4 (AO O ?_))))
  refine AG (Ba (c:=(!((BG (CS ts (3*t+0)) ((min T.1 T.2.1,max T.1 T.2.1):P2)).isSome))) O O) O (AE.nil (AD.subF (sL [2,3,16,17,18,5,4,23,7,8,9,10,48] O) (AD.then_ ?_)))
  refine AF.jn1 (tg λ(e00:E4)=>e00=(BG (CS ts (3*t+0)) (min T.1 T.2.1,max T.1 T.2.1)).getD (HX (min T.1 T.2.1,max T.1 T.2.1))) (tg λ(e00:E4)=>[(2,(Value.slice none 0 0)),(3,(Value.map (some b1))),(16,(Value.slice x.p ts.length x.c)),(17,(vN ts.length)),(18,(vN t)),(5,(pP b2 0)),(4,(vN t)),(23,(vI 0)),(7,(vN T.1)),(8,(vN T.2.1)),(9,(pP b3 0)),(10,(pP b4 0))]) (tg λ(e00:E4)=>[Ae b4 65 (B9 e00),Ae b3 167 ([(vN (min T.1 T.2.1)),(vN (max T.1 T.2.1))]),Ae b2 79 (Av T),DD b1 IA K_ (CS ts (3*t+0)),Ai x.p (rowsL Av ts)]) ?_ ?_
  ·skip
   refine AF.cond O (λhc2=>?_) (λhc2=>?_)
   ·simp only [Bool.and_eq_true,Bool.or_eq_true,Bool.and_eq_false_iff,Bool.or_eq_false_iff,Bool.not_eq_true',Bool.not_eq_false',decide_eq_true_eq,decide_eq_false_iff_not] at hc2
    refine AF.region (AG (v:=(pP b3 0)) (AA O underlying167 O sizeOf3 O) O (BO 1 (vN (min T.1 T.2.1)) Bs O (AG (v:=(pP b3 1)) (AA O underlying167 O sizeOf3 O) O (BO 1 (vN (max T.1 T.2.1)) Bs O (AG (v:=(aG ([(vN (min T.1 T.2.1)),(vN (max T.1 T.2.1)),(vI (-1:Int)),(vI (-1:Int))]))) (AV (zs:=B9 (⟨0,0,0,0⟩:E4)) (vs:=[(vN (min T.1 T.2.1)),(vN (max T.1 T.2.1)),(vI (-1:Int)),(vI (-1:Int))]) (pv:=[(0,(vN (min T.1 T.2.1))),(1,(vN (max T.1 T.2.1))),(2,(vI (-1:Int))),(3,(vI (-1:Int)))]) (places:=[(0,1),(1,1),(2,1),(3,1)]) zeroValue65 underlying65 (λw=>by simp [sizeOf3]) O O) O ?_)))))
    exact Au O sizeOf65 O (AE.nil (AD.subF (sL [2,3,16,17,18,5,4,23,7,8,9,10] O) (AD.join1 (⟨min T.1 T.2.1,max T.1 T.2.1,-1,-1⟩:E4) ((IX (k:=(min T.1 T.2.1,max T.1 T.2.1)) (by simpa using hc2))) (sF O) sr)))
   ·simp only [Bool.and_eq_true,Bool.or_eq_true,Bool.and_eq_false_iff,Bool.or_eq_false_iff,Bool.not_eq_true',Bool.not_eq_false',decide_eq_true_eq,decide_eq_false_iff_not] at hc2
    exact AF.skip (AD.join1 ((BG (CS ts (3*t+0)) ((min T.1 T.2.1,max T.1 T.2.1):P2)).getD (⟨0,0,0,0⟩:E4)) ((Io (by simpa using hc2))) (sF O) sr)
  ·intro e00 hJ
   have he0:=hJ
   refine q1 ?_
   refine AF.jn1 (tg λ(e20:E4)=>e20=Ej e00 t T.1 T.2.1) (tg λ(e20:E4)=>[(2,(Value.slice none 0 0)),(3,(Value.map (some b1))),(16,(Value.slice x.p ts.length x.c)),(17,(vN ts.length)),(18,(vN t)),(5,(pP b2 0)),(4,(vN t)),(23,(vI 0)),(9,(pP b3 0)),(10,(pP b4 0))]) (tg λ(e20:E4)=>[Ae b4 65 (B9 e20),Ae b3 167 ([(vN (min T.1 T.2.1)),(vN (max T.1 T.2.1))]),Ae b2 79 (Av T),DD b1 IA K_ (CS ts (3*t+0)),Ai x.p (rowsL Av ts)]) ?_ ?_
   ·skip
    refine AF.block (q4 (AO O (AO O (AG (Af (c:=(decide (T.1<T.2.1))) O O (C6 (a:=T.1) (b:=T.2.1))) O (AO O ?_)))))
    refine AE.mid (FM:=[(2,(Value.slice none 0 0)),(3,(Value.map (some b1))),(16,(Value.slice x.p ts.length x.c)),(17,(vN ts.length)),(18,(vN t)),(5,(pP b2 0)),(4,(vN t)),(23,(vI 0)),(7,(vN T.1)),(8,(vN T.2.1)),(9,(pP b3 0)),(10,(pP b4 0)),(55,(vN T.1)),(56,(vN T.2.1)),(57,(Value.bool (decide (T.1<T.2.1)))),(58,(Value.bool (decide (T.1<T.2.1)))),(62,(Value.bool ((decide (T.1<T.2.1))&&(decide (e00.l=(-1:Int))))))]) (LM:=[Ae b4 65 (B9 e00),Ae b3 167 ([(vN (min T.1 T.2.1)),(vN (max T.1 T.2.1))]),Ae b2 79 (Av T),DD b1 IA K_ (CS ts (3*t+0)),Ai x.p (rowsL Av ts)]) 4 ?_ ?_
    ·rcases Bool.eq_false_or_eq_true (decide (T.1<T.2.1)) with hg1|hg1
     ·skip
      refine AE.retell (k:=58) (u:=Value.bool true) O (by rw [hg1]) ?_
      have hg1':=hg1
      replace hg1':=of_decide_eq_true hg1'
      exact AE.step (v:=(pP b4 2)) (AB O) (AA O underlying65 O sizeOf3 O) O (Ab O) (AE.step (v:=(vI e00.l)) (AB O) (AM (i:=0) (v:=(vI e00.l)) O O Bs.a O) O (Ab O) (AE.step (v:=(Value.bool (decide (e00.l=(-1:Int))))) (AB O) (BU (c:=(decide (e00.l=(-1:Int)))) O O O) O (Ab O) (AG (v:=(Value.bool (decide (e00.l=(-1:Int))))) (Ah O O) O (AE.nil (AD.mid (sS O (sS O (sS O (sS O (sS O (sS O (sS O (sS O (sS O (sS O (sS O (sS O (sS O (sS O (sS O (sS (by first|rfl|(rw [hg1];rfl)|rw [hg1]) (sS (by first|rfl|(rw [hg1];rfl)|rw [hg1]) (sN)))))))))))))))))) (List.Sublist.refl _))))))
     ·skip
      refine AE.retell (k:=58) (u:=Value.bool false) O (by rw [hg1]) ?_
      have hg1':=hg1
      replace hg1':=of_decide_eq_false hg1'
      exact AE.skip (AR O) O (Ab O) (AE.skip (AR O) O (Ab O) (AE.skip (AR O) O (Ab O) (AG (v:=(Value.bool false)) (AU O O) O (AE.nil (AD.mid (sS O (sS O (sS O (sS O (sS O (sS O (sS O (sS O (sS O (sS O (sS O (sS O (sS O (sS O (sS O (sS (by first|rfl|(rw [hg1];rfl)|rw [hg1]) (sS (by first|rfl|(rw [hg1];rfl)|rw [hg1]) (sN)))))))))))))))))) (List.Sublist.refl _))))))
    refine AK O (AE.nil (AD.subF (sL [2,3,16,17,18,5,4,23,7,8,9,10,54] O) (AD.then_ ?_)))
    refine AF.cond O (λhc3=>?_) (λhc3=>?_)
    ·simp only [Bool.and_eq_true,Bool.or_eq_true,Bool.and_eq_false_iff,Bool.or_eq_false_iff,Bool.not_eq_true',Bool.not_eq_false',decide_eq_true_eq,decide_eq_false_iff_not] at hc3
     refine AF.region (AO O (AG (v:=(pP b4 2)) (AA O underlying65 O sizeOf3 O) O (F_ 0 (off:=2) (vs:=[(vN t)]) (cs':=[(vN e00.a),(vN e00.b),(vN t),(vI e00.r)]) (AQ O) O sizeOf3 O (AE.nil (AD.subF (sL [2,3,16,17,18,5,4,23,7,8,9,10] O) ?_)))))
     exact AD.in_normal (AD.join1 (⟨e00.a,e00.b,((t:Nat):Int),e00.r⟩:E4) ((by unfold Ej;rw [if_pos Z])) (sF O) sr)
    ·simp only [Bool.and_eq_true,Bool.or_eq_true,Bool.and_eq_false_iff,Bool.or_eq_false_iff,Bool.not_eq_true',Bool.not_eq_false',decide_eq_true_eq,decide_eq_false_iff_not] at hc3
     refine q4 (AO O (AO O (AG (Cx (c:=(decide (T.2.1<T.1))) O O (C6 (a:=T.2.1) (b:=T.1))) O (AO O ?_))))
     refine AE.mid (FM:=[(2,(Value.slice none 0 0)),(3,(Value.map (some b1))),(16,(Value.slice x.p ts.length x.c)),(17,(vN ts.length)),(18,(vN t)),(5,(pP b2 0)),(4,(vN t)),(23,(vI 0)),(7,(vN T.1)),(8,(vN T.2.1)),(9,(pP b3 0)),(10,(pP b4 0)),(66,(vN T.1)),(67,(vN T.2.1)),(68,(Value.bool (decide (T.2.1<T.1)))),(69,(Value.bool (decide (T.2.1<T.1)))),(73,(Value.bool ((decide (T.2.1<T.1))&&(decide (e00.r=(-1:Int))))))]) (LM:=[Ae b4 65 (B9 e00),Ae b3 167 ([(vN (min T.1 T.2.1)),(vN (max T.1 T.2.1))]),Ae b2 79 (Av T),DD b1 IA K_ (CS ts (3*t+0)),Ai x.p (rowsL Av ts)]) 4 ?_ ?_
     ·rcases Bool.eq_false_or_eq_true (decide (T.2.1<T.1)) with hg2|hg2
      ·skip
       refine AE.retell (k:=69) (u:=Value.bool true) O (by rw [hg2]) ?_
       have hg2':=hg2
       replace hg2':=of_decide_eq_true hg2'
       exact AE.step (v:=(pP b4 3)) (AB O) (AA O underlying65 O sizeOf3 O) O (Ab O) (AE.step (v:=(vI e00.r)) (AB O) (AM (i:=0) (v:=(vI e00.r)) O O Bs.a O) O (Ab O) (AE.step (v:=(Value.bool (decide (e00.r=(-1:Int))))) (AB O) (BU (c:=(decide (e00.r=(-1:Int)))) O O O) O (Ab O) (AG (v:=(Value.bool (decide (e00.r=(-1:Int))))) (Ah O O) O (AE.nil (AD.mid (sS O (sS O (sS O (sS O (sS O (sS O (sS O (sS O (sS O (sS O (sS O (sS O (sS O (sS O (sS O (sS (by first|rfl|(rw [hg2];rfl)|rw [hg2]) (sS (by first|rfl|(rw [hg2];rfl)|rw [hg2]) (sN)))))))))))))))))) (List.Sublist.refl _))))))
      ·skip
       refine AE.retell (k:=69) (u:=Value.bool false) O (by rw [hg2]) ?_
       have hg2':=hg2
       replace hg2':=of_decide_eq_false hg2'
       exact AE.skip (AR O) O (Ab O) (AE.skip (AR O) O (Ab O) (AE.skip (AR O) O (Ab O) (AG (v:=(Value.bool false)) (AU O O) O (AE.nil (AD.mid (sS O (sS O (sS O (sS O (sS O (sS O (sS O (sS O (sS O (sS O (sS O (sS O (sS O (sS O (sS O (sS (by first|rfl|(rw [hg2];rfl)|rw [hg2]) (sS (by first|rfl|(rw [hg2];rfl)|rw [hg2]) (sN)))))))))))))))))) (List.Sublist.refl _))))))
     refine AK O (AE.nil (AD.subF (sL [2,3,16,17,18,5,4,23,7,8,9,10,65] O) (AD.then_ ?_)))
     refine AF.cond O (λhc4=>?_) (λhc4=>?_)
     ·simp only [Bool.and_eq_true,Bool.or_eq_true,Bool.and_eq_false_iff,Bool.or_eq_false_iff,Bool.not_eq_true',Bool.not_eq_false',decide_eq_true_eq,decide_eq_false_iff_not] at hc4
      refine AF.region (AO O (AG (v:=(pP b4 3)) (AA O underlying65 O sizeOf3 O) O (F_ 0 (off:=3) (vs:=[(vN t)]) (cs':=[(vN e00.a),(vN e00.b),(vI e00.l),(vN t)]) (AQ O) O sizeOf3 O (AE.nil (AD.subF (sL [2,3,16,17,18,5,4,23,7,8,9,10] O) ?_)))))
      exact AD.in_normal (AD.join1 (⟨e00.a,e00.b,e00.l,((t:Nat):Int)⟩:E4) ((by unfold Ej;rw [if_neg Z,if_pos Z])) (sF O) sr)
     ·simp only [Bool.and_eq_true,Bool.or_eq_true,Bool.and_eq_false_iff,Bool.or_eq_false_iff,Bool.not_eq_true',Bool.not_eq_false',decide_eq_true_eq,decide_eq_false_iff_not] at hc4
      exact AF.skip (AD.in_normal (AD.join1 e00 ((by unfold Ej;rw [if_neg Z,if_neg Z])) (sF O) sr))
   ·intro e20 hJ
    have hu0:=hJ
    refine AD.then_ (AF.region (AO O (BD 1 KP O (BD 0 Lt O (AE.mapUpdate Fw 3 (kvs:=CS ts (3*t+0)) (x:=((min T.1 T.2.1,max T.1 T.2.1):P2)) (y:=e20) (AQ O) O O O underlying165 O (Ei hn hN _ Z) (DZ Z Z) ?_)))))
    rw [show Be (CS ts (3*t+0)) ((min T.1 T.2.1,max T.1 T.2.1):P2) e20=CS ts (3*t+1) from by rw [hu0,he0,hT];exact (Ir (ts:=ts) (t:=t) (i:=0) Z).symm]
    refine AE.nil (AD.subF (sL [2,3,16,17,18,5,4,23,9,10] O) (AD.in_normal (AD.then_ (AF.region (AG (AX (c:=(1:Int)) O O (by decide)) O ?_)))))
    refine AO O (AE.nil (AD.subF (sL [2,3,16,17,18,5,4,23,9,10] O) (AD.again (E3.step (q4 ?_)))))
    refine AG (Af (c:=true) O O (by decide)) O (AE.nil (q1 (AF.cond_true O (AF.skip (q1 ?_)))))
    refine AF.block (q4 (AO O (AK O (q6 (sL [2,3,16,17,18,5,4,23,9,10,6] O) (C4 [(0,true),(1,true),(2,true),(3,true),(4,true),(5,true),(6,true),(7,true),(8,true),(9,true)] sr ?_)))))
    refine Bo O (Ay (v:=(pP b2 1)) O (AC (j:=1) O O underlying79 sizeOf3 O (by decide) O) (Bn 2 (vN T.2.1) Bs O (Bo O (Ay O (AX (c:=(2:Int)) O O (by decide)) (Ay O (B6 (c:=(2:Int)) O O (by decide) (by decide)) ?_)))))
    refine Ay (v:=(pP b2 2)) O (AC (j:=2) O O underlying79 sizeOf3 O (by decide) O) (Bn 2 (vN T.2.2) Bs O (EZ O (EZ O (AS.nil (AD.subF (sL [2,3,16,17,18,5,4,23,9,10,7,8] O) ?_)))))
    refine q2 (AO O (AO O (AG (GL (c:=((min T.2.1 T.2.2:Nat):Int)) O O (by split<;>omega)) O (AO O (AO O ?_)))))
    refine AG (FS (c:=((max T.2.1 T.2.2:Nat):Int)) O O (by split<;>omega)) O (AG (v:=(aG ([(vN (min T.2.1 T.2.2)),(vN (max T.2.1 T.2.2))]))) (AV (zs:=A7 ((0,0):P2)) (vs:=[(vN (min T.2.1 T.2.2)),(vN (max T.2.1 T.2.2))]) (pv:=[(0,(vN (min T.2.1 T.2.2))),(1,(vN (max T.2.1 T.2.2)))]) (places:=[(0,1),(1,1)]) zeroValue167 underlying167 (λw=>by simp [sizeOf3]) O O) O (al Qz O λb5=>Au O sizeOf167 O (q3 (sL [2,3,16,17,18,5,4,23,9,10,7,8] O) (AO O ?_))))
    refine BD 0 KP O (AG (v:=(Value.tuple #[(aG (B9 ((BG (CS ts (3*t+1)) ((min T.2.1 T.2.2,max T.2.1 T.2.2):P2)).getD (⟨0,0,0,0⟩:E4)))),(Value.bool ((BG (CS ts (3*t+1)) ((min T.2.1 T.2.2,max T.2.1 T.2.2):P2)).isSome))])) (Fs Fw 4 (eV:=K_) (kvs:=CS ts (3*t+1)) (x:=((min T.2.1 T.2.2,max T.2.1 T.2.2):P2)) (z0:=(⟨0,0,0,0⟩:E4)) (co:=true) O O underlying165 zeroValue65 O (Ei hn hN _ Z) (DZ Z Z)) O (AO O (AG (AZ (v:=(aG (B9 ((BG (CS ts (3*t+1)) ((min T.2.1 T.2.2,max T.2.1 T.2.2):P2)).getD (⟨0,0,0,0⟩:E4))))) O O) O (AG (AZ (v:=(Value.bool ((BG (CS ts (3*t+1)) ((min T.2.1 T.2.2,max T.2.1 T.2.2):P2)).isSome))) O O) O (al Rr O λb6=>?_)))))
    refine Au O sizeOf65 O (AK O (q6 (sL [2,3,16,17,18,5,4,23,9,10,7,8,11] O) (q4 (AO O (AG (Ba (c:=(!((BG (CS ts (3*t+1)) ((min T.2.1 T.2.2,max T.2.1 T.2.2):P2)).isSome))) O O) O ?_)))))
    refine AE.nil (AD.subF (sL [2,3,16,17,18,5,4,23,9,10,7,8,48] O) (AD.then_ ?_))
    refine AF.jn1 (tg λ(e01:E4)=>e01=(BG (CS ts (3*t+1)) (min T.2.1 T.2.2,max T.2.1 T.2.2)).getD (HX (min T.2.1 T.2.2,max T.2.1 T.2.2))) (tg λ(e01:E4)=>[(2,(Value.slice none 0 0)),(3,(Value.map (some b1))),(16,(Value.slice x.p ts.length x.c)),(17,(vN ts.length)),(18,(vN t)),(5,(pP b2 0)),(4,(vN t)),(23,(vI 1)),(9,(pP b5 0)),(10,(pP b6 0)),(7,(vN T.2.1)),(8,(vN T.2.2))]) (tg λ(e01:E4)=>[Ae b6 65 (B9 e01),Ae b5 167 ([(vN (min T.2.1 T.2.2)),(vN (max T.2.1 T.2.2))]),Ae b4 65 (B9 e20),Ae b3 167 ([(vN (min T.1 T.2.1)),(vN (max T.1 T.2.1))]),Ae b2 79 (Av T),DD b1 IA K_ (CS ts (3*t+1)),Ai x.p (rowsL Av ts)]) ?_ ?_
    ·skip
     refine AF.cond O (λhc2=>?_) (λhc2=>?_)
     ·simp only [Bool.and_eq_true,Bool.or_eq_true,Bool.and_eq_false_iff,Bool.or_eq_false_iff,Bool.not_eq_true',Bool.not_eq_false',decide_eq_true_eq,decide_eq_false_iff_not] at hc2
      refine AF.region (AG (v:=(pP b5 0)) (AA O underlying167 O sizeOf3 O) O (BO 1 (vN (min T.2.1 T.2.2)) Bs O (AG (v:=(pP b5 1)) (AA O underlying167 O sizeOf3 O) O (BO 1 (vN (max T.2.1 T.2.2)) Bs O (AG (v:=(aG ([(vN (min T.2.1 T.2.2)),(vN (max T.2.1 T.2.2)),(vI (-1:Int)),(vI (-1:Int))]))) (AV (zs:=B9 (⟨0,0,0,0⟩:E4)) (vs:=[(vN (min T.2.1 T.2.2)),(vN (max T.2.1 T.2.2)),(vI (-1:Int)),(vI (-1:Int))]) (pv:=[(0,(vN (min T.2.1 T.2.2))),(1,(vN (max T.2.1 T.2.2))),(2,(vI (-1:Int))),(3,(vI (-1:Int)))]) (places:=[(0,1),(1,1),(2,1),(3,1)]) zeroValue65 underlying65 (λw=>by simp [sizeOf3]) O O) O ?_)))))
      exact Au O sizeOf65 O (AE.nil (AD.subF (sL [2,3,16,17,18,5,4,23,9,10,7,8] O) (AD.join1 (⟨min T.2.1 T.2.2,max T.2.1 T.2.2,-1,-1⟩:E4) ((IX (k:=(min T.2.1 T.2.2,max T.2.1 T.2.2)) (by simpa using hc2))) (sF O) sr)))
     ·simp only [Bool.and_eq_true,Bool.or_eq_true,Bool.and_eq_false_iff,Bool.or_eq_false_iff,Bool.not_eq_true',Bool.not_eq_false',decide_eq_true_eq,decide_eq_false_iff_not] at hc2
      exact AF.skip (AD.join1 ((BG (CS ts (3*t+1)) ((min T.2.1 T.2.2,max T.2.1 T.2.2):P2)).getD (⟨0,0,0,0⟩:E4)) ((Io (by simpa using hc2))) (sF O) sr)
    ·intro e01 hJ
     have he1:=hJ
     refine q1 ?_
     refine AF.jn1 (tg λ(e21:E4)=>e21=Ej e01 t T.2.1 T.2.2) (tg λ(e21:E4)=>[(2,(Value.slice none 0 0)),(3,(Value.map (some b1))),(16,(Value.slice x.p ts.length x.c)),(17,(vN ts.length)),(18,(vN t)),(5,(pP b2 0)),(4,(vN t)),(23,(vI 1)),(9,(pP b5 0)),(10,(pP b6 0))]) (tg λ(e21:E4)=>[Ae b6 65 (B9 e21),Ae b5 167 ([(vN (min T.2.1 T.2.2)),(vN (max T.2.1 T.2.2))]),Ae b4 65 (B9 e20),Ae b3 167 ([(vN (min T.1 T.2.1)),(vN (max T.1 T.2.1))]),Ae b2 79 (Av T),DD b1 IA K_ (CS ts (3*t+1)),Ai x.p (rowsL Av ts)]) ?_ ?_
     ·skip
      refine AF.block (q4 (AO O (AO O (AG (Af (c:=(decide (T.2.1<T.2.2))) O O (C6 (a:=T.2.1) (b:=T.2.2))) O (AO O ?_)))))
      refine AE.mid (FM:=[(2,(Value.slice none 0 0)),(3,(Value.map (some b1))),(16,(Value.slice x.p ts.length x.c)),(17,(vN ts.length)),(18,(vN t)),(5,(pP b2 0)),(4,(vN t)),(23,(vI 1)),(9,(pP b5 0)),(10,(pP b6 0)),(7,(vN T.2.1)),(8,(vN T.2.2)),(55,(vN T.2.1)),(56,(vN T.2.2)),(57,(Value.bool (decide (T.2.1<T.2.2)))),(58,(Value.bool (decide (T.2.1<T.2.2)))),(62,(Value.bool ((decide (T.2.1<T.2.2))&&(decide (e01.l=(-1:Int))))))]) (LM:=[Ae b6 65 (B9 e01),Ae b5 167 ([(vN (min T.2.1 T.2.2)),(vN (max T.2.1 T.2.2))]),Ae b4 65 (B9 e20),Ae b3 167 ([(vN (min T.1 T.2.1)),(vN (max T.1 T.2.1))]),Ae b2 79 (Av T),DD b1 IA K_ (CS ts (3*t+1)),Ai x.p (rowsL Av ts)]) 4 ?_ ?_
      ·rcases Bool.eq_false_or_eq_true (decide (T.2.1<T.2.2)) with hg3|hg3
       ·skip
        refine AE.retell (k:=58) (u:=Value.bool true) O (by rw [hg3]) ?_
        have hg3':=hg3
        replace hg3':=of_decide_eq_true hg3'
        exact AE.step (v:=(pP b6 2)) (AB O) (AA O underlying65 O sizeOf3 O) O (Ab O) (AE.step (v:=(vI e01.l)) (AB O) (AM (i:=0) (v:=(vI e01.l)) O O Bs.a O) O (Ab O) (AE.step (v:=(Value.bool (decide (e01.l=(-1:Int))))) (AB O) (BU (c:=(decide (e01.l=(-1:Int)))) O O O) O (Ab O) (AG (v:=(Value.bool (decide (e01.l=(-1:Int))))) (Ah O O) O (AE.nil (AD.mid (sS O (sS O (sS O (sS O (sS O (sS O (sS O (sS O (sS O (sS O (sS O (sS O (sS O (sS O (sS O (sS (by first|rfl|(rw [hg3];rfl)|rw [hg3]) (sS (by first|rfl|(rw [hg3];rfl)|rw [hg3]) (sN)))))))))))))))))) (List.Sublist.refl _))))))
       ·skip
        refine AE.retell (k:=58) (u:=Value.bool false) O (by rw [hg3]) ?_
        have hg3':=hg3
        replace hg3':=of_decide_eq_false hg3'
        exact AE.skip (AR O) O (Ab O) (AE.skip (AR O) O (Ab O) (AE.skip (AR O) O (Ab O) (AG (v:=(Value.bool false)) (AU O O) O (AE.nil (AD.mid (sS O (sS O (sS O (sS O (sS O (sS O (sS O (sS O (sS O (sS O (sS O (sS O (sS O (sS O (sS O (sS (by first|rfl|(rw [hg3];rfl)|rw [hg3]) (sS (by first|rfl|(rw [hg3];rfl)|rw [hg3]) (sN)))))))))))))))))) (List.Sublist.refl _))))))
      refine AK O (AE.nil (AD.subF (sL [2,3,16,17,18,5,4,23,9,10,7,8,54] O) (AD.then_ ?_)))
      refine AF.cond O (λhc3=>?_) (λhc3=>?_)
      ·simp only [Bool.and_eq_true,Bool.or_eq_true,Bool.and_eq_false_iff,Bool.or_eq_false_iff,Bool.not_eq_true',Bool.not_eq_false',decide_eq_true_eq,decide_eq_false_iff_not] at hc3
       refine AF.region (AO O (AG (v:=(pP b6 2)) (AA O underlying65 O sizeOf3 O) O (F_ 0 (off:=2) (vs:=[(vN t)]) (cs':=[(vN e01.a),(vN e01.b),(vN t),(vI e01.r)]) (AQ O) O sizeOf3 O (AE.nil (AD.subF (sL [2,3,16,17,18,5,4,23,9,10,7,8] O) ?_)))))
       exact AD.in_normal (AD.join1 (⟨e01.a,e01.b,((t:Nat):Int),e01.r⟩:E4) ((by unfold Ej;rw [if_pos Z])) (sF O) sr)
      ·simp only [Bool.and_eq_true,Bool.or_eq_true,Bool.and_eq_false_iff,Bool.or_eq_false_iff,Bool.not_eq_true',Bool.not_eq_false',decide_eq_true_eq,decide_eq_false_iff_not] at hc3
       refine q4 (AO O (AO O (AG (Cx (c:=(decide (T.2.2<T.2.1))) O O (C6 (a:=T.2.2) (b:=T.2.1))) O (AO O ?_))))
       refine AE.mid (FM:=[(2,(Value.slice none 0 0)),(3,(Value.map (some b1))),(16,(Value.slice x.p ts.length x.c)),(17,(vN ts.length)),(18,(vN t)),(5,(pP b2 0)),(4,(vN t)),(23,(vI 1)),(9,(pP b5 0)),(10,(pP b6 0)),(7,(vN T.2.1)),(8,(vN T.2.2)),(66,(vN T.2.1)),(67,(vN T.2.2)),(68,(Value.bool (decide (T.2.2<T.2.1)))),(69,(Value.bool (decide (T.2.2<T.2.1)))),(73,(Value.bool ((decide (T.2.2<T.2.1))&&(decide (e01.r=(-1:Int))))))]) (LM:=[Ae b6 65 (B9 e01),Ae b5 167 ([(vN (min T.2.1 T.2.2)),(vN (max T.2.1 T.2.2))]),Ae b4 65 (B9 e20),Ae b3 167 ([(vN (min T.1 T.2.1)),(vN (max T.1 T.2.1))]),Ae b2 79 (Av T),DD b1 IA K_ (CS ts (3*t+1)),Ai x.p (rowsL Av ts)]) 4 ?_ ?_
       ·rcases Bool.eq_false_or_eq_true (decide (T.2.2<T.2.1)) with hg4|hg4
        ·skip
         refine AE.retell (k:=69) (u:=Value.bool true) O (by rw [hg4]) ?_
         have hg4':=hg4
         replace hg4':=of_decide_eq_true hg4'
         exact AE.step (v:=(pP b6 3)) (AB O) (AA O underlying65 O sizeOf3 O) O (Ab O) (AE.step (v:=(vI e01.r)) (AB O) (AM (i:=0) (v:=(vI e01.r)) O O Bs.a O) O (Ab O) (AE.step (v:=(Value.bool (decide (e01.r=(-1:Int))))) (AB O) (BU (c:=(decide (e01.r=(-1:Int)))) O O O) O (Ab O) (AG (v:=(Value.bool (decide (e01.r=(-1:Int))))) (Ah O O) O (AE.nil (AD.mid (sS O (sS O (sS O (sS O (sS O (sS O (sS O (sS O (sS O (sS O (sS O (sS O (sS O (sS O (sS O (sS (by first|rfl|(rw [hg4];rfl)|rw [hg4]) (sS (by first|rfl|(rw [hg4];rfl)|rw [hg4]) (sN)))))))))))))))))) (List.Sublist.refl _))))))
        ·skip
         refine AE.retell (k:=69) (u:=Value.bool false) O (by rw [hg4]) ?_
         have hg4':=hg4
         replace hg4':=of_decide_eq_false hg4'
         exact AE.skip (AR O) O (Ab O) (AE.skip (AR O) O (Ab O) (AE.skip (AR O) O (Ab O) (AG (v:=(Value.bool false)) (AU O O) O (AE.nil (AD.mid (sS O (sS O (sS O (sS O (sS O (sS O (sS O (sS O (sS O (sS O (sS O (sS O (sS O (sS O (sS O (sS (by first|rfl|(rw [hg4];rfl)|rw [hg4]) (sS (by first|rfl|(rw [hg4];rfl)|rw [hg4]) (sN)))))))))))))))))) (List.Sublist.refl _))))))
       refine AK O (AE.nil (AD.subF (sL [2,3,16,17,18,5,4,23,9,10,7,8,65] O) (AD.then_ ?_)))
       refine AF.cond O (λhc4=>?_) (λhc4=>?_)
       ·simp only [Bool.and_eq_true,Bool.or_eq_true,Bool.and_eq_false_iff,Bool.or_eq_false_iff,Bool.not_eq_true',Bool.not_eq_false',decide_eq_true_eq,decide_eq_false_iff_not] at hc4
        refine AF.region (AO O (AG (v:=(pP b6 3)) (AA O underlying65 O sizeOf3 O) O (F_ 0 (off:=3) (vs:=[(vN t)]) (cs':=[(vN e01.a),(vN e01.b),(vI e01.l),(vN t)]) (AQ O) O sizeOf3 O (AE.nil (AD.subF (sL [2,3,16,17,18,5,4,23,9,10,7,8] O) ?_)))))
        exact AD.in_normal (AD.join1 (⟨e01.a,e01.b,e01.l,((t:Nat):Int)⟩:E4) ((by unfold Ej;rw [if_neg Z,if_pos Z])) (sF O) sr)
       ·simp only [Bool.and_eq_true,Bool.or_eq_true,Bool.and_eq_false_iff,Bool.or_eq_false_iff,Bool.not_eq_true',Bool.not_eq_false',decide_eq_true_eq,decide_eq_false_iff_not] at hc4
        exact AF.skip (AD.in_normal (AD.join1 e01 ((by unfold Ej;rw [if_neg Z,if_neg Z])) (sF O) sr))
     ·intro e21 hJ
      have hu1:=hJ
      refine AD.then_ (AF.region (AO O (BD 1 KP O (BD 0 Lt O (AE.mapUpdate Fw 5 (kvs:=CS ts (3*t+1)) (x:=((min T.2.1 T.2.2,max T.2.1 T.2.2):P2)) (y:=e21) (AQ O) O O O underlying165 O (Ei hn hN _ Z) (DZ Z Z) ?_)))))
      rw [show Be (CS ts (3*t+1)) ((min T.2.1 T.2.2,max T.2.1 T.2.2):P2) e21=CS ts (3*t+2) from by rw [hu1,he1,hT];exact (Ir (ts:=ts) (t:=t) (i:=1) Z).symm]
      refine AE.nil (AD.subF (sL [2,3,16,17,18,5,4,23,9,10] O) (AD.in_normal (AD.then_ (AF.region (AG (AX (c:=(2:Int)) O O (by decide)) O ?_)))))
      refine AO O (AE.nil (AD.subF (sL [2,3,16,17,18,5,4,23,9,10] O) (AD.again (E3.step (q4 ?_)))))
      refine AG (Af (c:=true) O O (by decide)) O (AE.nil (q1 (AF.cond_true O (AF.skip (q1 ?_)))))
      refine AF.block (q4 (AO O (AK O (q6 (sL [2,3,16,17,18,5,4,23,9,10,6] O) (C4 [(0,true),(1,true),(2,true),(3,true),(4,true),(5,true),(6,true),(7,true),(8,true),(9,true)] sr ?_)))))
      refine Bo O (Ay (v:=(pP b2 2)) O (AC (j:=2) O O underlying79 sizeOf3 O (by decide) O) (Bn 4 (vN T.2.2) Bs O (Bo O (Ay O (AX (c:=(3:Int)) O O (by decide)) (Ay O (B6 (c:=(0:Int)) O O (by decide) (by decide)) ?_)))))
      refine Ay (v:=(pP b2 0)) O (AC (j:=0) O O underlying79 sizeOf3 O (by decide) O) (Bn 4 (vN T.1) Bs O (EZ O (EZ O (AS.nil (AD.subF (sL [2,3,16,17,18,5,4,23,9,10,7,8] O) ?_)))))
      refine q2 (AO O (AO O (AG (GL (c:=((min T.2.2 T.1:Nat):Int)) O O (by split<;>omega)) O (AO O (AO O ?_)))))
      refine AG (FS (c:=((max T.2.2 T.1:Nat):Int)) O O (by split<;>omega)) O (AG (v:=(aG ([(vN (min T.2.2 T.1)),(vN (max T.2.2 T.1))]))) (AV (zs:=A7 ((0,0):P2)) (vs:=[(vN (min T.2.2 T.1)),(vN (max T.2.2 T.1))]) (pv:=[(0,(vN (min T.2.2 T.1))),(1,(vN (max T.2.2 T.1)))]) (places:=[(0,1),(1,1)]) zeroValue167 underlying167 (λw=>by simp [sizeOf3]) O O) O (al Qz O λb7=>Au O sizeOf167 O (q3 (sL [2,3,16,17,18,5,4,23,9,10,7,8] O) (AO O ?_))))
      refine BD 0 KP O (AG (v:=(Value.tuple #[(aG (B9 ((BG (CS ts (3*t+2)) ((min T.2.2 T.1,max T.2.2 T.1):P2)).getD (⟨0,0,0,0⟩:E4)))),(Value.bool ((BG (CS ts (3*t+2)) ((min T.2.2 T.1,max T.2.2 T.1):P2)).isSome))])) (Fs Fw 6 (eV:=K_) (kvs:=CS ts (3*t+2)) (x:=((min T.2.2 T.1,max T.2.2 T.1):P2)) (z0:=(⟨0,0,0,0⟩:E4)) (co:=true) O O underlying165 zeroValue65 O (Ei hn hN _ Z) (DZ Z Z)) O (AO O (AG (AZ (v:=(aG (B9 ((BG (CS ts (3*t+2)) ((min T.2.2 T.1,max T.2.2 T.1):P2)).getD (⟨0,0,0,0⟩:E4))))) O O) O (AG (AZ (v:=(Value.bool ((BG (CS ts (3*t+2)) ((min T.2.2 T.1,max T.2.2 T.1):P2)).isSome))) O O) O (al Rr O λb8=>?_)))))
      refine Au O sizeOf65 O (AK O (q6 (sL [2,3,16,17,18,5,4,23,9,10,7,8,11] O) (q4 (AO O (AG (Ba (c:=(!((BG (CS ts (3*t+2)) ((min T.2.2 T.1,max T.2.2 T.1):P2)).isSome))) O O) O ?_)))))
      refine AE.nil (AD.subF (sL [2,3,16,17,18,5,4,23,9,10,7,8,48] O) (AD.then_ ?_))
      refine AF.jn1 (tg λ(e02:E4)=>e02=(BG (CS ts (3*t+2)) (min T.2.2 T.1,max T.2.2 T.1)).getD (HX (min T.2.2 T.1,max T.2.2 T.1))) (tg λ(e02:E4)=>[(2,(Value.slice none 0 0)),(3,(Value.map (some b1))),(16,(Value.slice x.p ts.length x.c)),(17,(vN ts.length)),(18,(vN t)),(5,(pP b2 0)),(4,(vN t)),(23,(vI 2)),(9,(pP b7 0)),(10,(pP b8 0)),(7,(vN T.2.2)),(8,(vN T.1))]) (tg λ(e02:E4)=>[Ae b8 65 (B9 e02),Ae b7 167 ([(vN (min T.2.2 T.1)),(vN (max T.2.2 T.1))]),Ae b6 65 (B9 e21),Ae b5 167 ([(vN (min T.2.1 T.2.2)),(vN (max T.2.1 T.2.2))]),Ae b4 65 (B9 e20),Ae b3 167 ([(vN (min T.1 T.2.1)),(vN (max T.1 T.2.1))]),Ae b2 79 (Av T),DD b1 IA K_ (CS ts (3*t+2)),Ai x.p (rowsL Av ts)]) ?_ ?_
      ·skip
       refine AF.cond O (λhc2=>?_) (λhc2=>?_)
       ·simp only [Bool.and_eq_true,Bool.or_eq_true,Bool.and_eq_false_iff,Bool.or_eq_false_iff,Bool.not_eq_true',Bool.not_eq_false',decide_eq_true_eq,decide_eq_false_iff_not] at hc2
        refine AF.region (AG (v:=(pP b7 0)) (AA O underlying167 O sizeOf3 O) O (BO 1 (vN (min T.2.2 T.1)) Bs O (AG (v:=(pP b7 1)) (AA O underlying167 O sizeOf3 O) O (BO 1 (vN (max T.2.2 T.1)) Bs O (AG (v:=(aG ([(vN (min T.2.2 T.1)),(vN (max T.2.2 T.1)),(vI (-1:Int)),(vI (-1:Int))]))) (AV (zs:=B9 (⟨0,0,0,0⟩:E4)) (vs:=[(vN (min T.2.2 T.1)),(vN (max T.2.2 T.1)),(vI (-1:Int)),(vI (-1:Int))]) (pv:=[(0,(vN (min T.2.2 T.1))),(1,(vN (max T.2.2 T.1))),(2,(vI (-1:Int))),(3,(vI (-1:Int)))]) (places:=[(0,1),(1,1),(2,1),(3,1)]) zeroValue65 underlying65 (λw=>by simp [sizeOf3]) O O) O ?_)))))
        exact Au O sizeOf65 O (AE.nil (AD.subF (sL [2,3,16,17,18,5,4,23,9,10,7,8] O) (AD.join1 (⟨min T.2.2 T.1,max T.2.2 T.1,-1,-1⟩:E4) ((IX (k:=(min T.2.2 T.1,max T.2.2 T.1)) (by simpa using hc2))) (sF O) sr)))
       ·simp only [Bool.and_eq_true,Bool.or_eq_true,Bool.and_eq_false_iff,Bool.or_eq_false_iff,Bool.not_eq_true',Bool.not_eq_false',decide_eq_true_eq,decide_eq_false_iff_not] at hc2
        exact AF.skip (AD.join1 ((BG (CS ts (3*t+2)) ((min T.2.2 T.1,max T.2.2 T.1):P2)).getD (⟨0,0,0,0⟩:E4)) ((Io (by simpa using hc2))) (sF O) sr)
      ·intro e02 hJ
       have he2:=hJ
       refine q1 ?_
       refine AF.jn1 (tg λ(e22:E4)=>e22=Ej e02 t T.2.2 T.1) (tg λ(e22:E4)=>[(2,(Value.slice none 0 0)),(3,(Value.map (some b1))),(16,(Value.slice x.p ts.length x.c)),(17,(vN ts.length)),(18,(vN t)),(5,(pP b2 0)),(4,(vN t)),(23,(vI 2)),(9,(pP b7 0)),(10,(pP b8 0))]) (tg λ(e22:E4)=>[Ae b8 65 (B9 e22),Ae b7 167 ([(vN (min T.2.2 T.1)),(vN (max T.2.2 T.1))]),Ae b6 65 (B9 e21),Ae b5 167 ([(vN (min T.2.1 T.2.2)),(vN (max T.2.1 T.2.2))]),Ae b4 65 (B9 e20),Ae b3 167 ([(vN (min T.1 T.2.1)),(vN (max T.1 T.2.1))]),Ae b2 79 (Av T),DD b1 IA K_ (CS ts (3*t+2)),Ai x.p (rowsL Av ts)]) ?_ ?_
       ·skip
        refine AF.block (q4 (AO O (AO O (AG (Af (c:=(decide (T.2.2<T.1))) O O (C6 (a:=T.2.2) (b:=T.1))) O (AO O ?_)))))
        refine AE.mid (FM:=[(2,(Value.slice none 0 0)),(3,(Value.map (some b1))),(16,(Value.slice x.p ts.length x.c)),(17,(vN ts.length)),(18,(vN t)),(5,(pP b2 0)),(4,(vN t)),(23,(vI 2)),(9,(pP b7 0)),(10,(pP b8 0)),(7,(vN T.2.2)),(8,(vN T.1)),(55,(vN T.2.2)),(56,(vN T.1)),(57,(Value.bool (decide (T.2.2<T.1)))),(58,(Value.bool (decide (T.2.2<T.1)))),(62,(Value.bool ((decide (T.2.2<T.1))&&(decide (e02.l=(-1:Int))))))]) (LM:=[Ae b8 65 (B9 e02),Ae b7 167 ([(vN (min T.2.2 T.1)),(vN (max T.2.2 T.1))]),Ae b6 65 (B9 e21),Ae b5 167 ([(vN (min T.2.1 T.2.2)),(vN (max T.2.1 T.2.2))]),Ae b4 65 (B9 e20),Ae b3 167 ([(vN (min T.1 T.2.1)),(vN (max T.1 T.2.1))]),Ae b2 79 (Av T),DD b1 IA K_ (CS ts (3*t+2)),Ai x.p (rowsL Av ts)]) 4 ?_ ?_
        ·rcases Bool.eq_false_or_eq_true (decide (T.2.2<T.1)) with hg5|hg5
         ·skip
          refine AE.retell (k:=58) (u:=Value.bool true) O (by rw [hg5]) ?_
          have hg5':=hg5
          replace hg5':=of_decide_eq_true hg5'
          exact AE.step (v:=(pP b8 2)) (AB O) (AA O underlying65 O sizeOf3 O) O (Ab O) (AE.step (v:=(vI e02.l)) (AB O) (AM (i:=0) (v:=(vI e02.l)) O O Bs.a O) O (Ab O) (AE.step (v:=(Value.bool (decide (e02.l=(-1:Int))))) (AB O) (BU (c:=(decide (e02.l=(-1:Int)))) O O O) O (Ab O) (AG (v:=(Value.bool (decide (e02.l=(-1:Int))))) (Ah O O) O (AE.nil (AD.mid (sS O (sS O (sS O (sS O (sS O (sS O (sS O (sS O (sS O (sS O (sS O (sS O (sS O (sS O (sS O (sS (by first|rfl|(rw [hg5];rfl)|rw [hg5]) (sS (by first|rfl|(rw [hg5];rfl)|rw [hg5]) (sN)))))))))))))))))) (List.Sublist.refl _))))))
         ·skip
          refine AE.retell (k:=58) (u:=Value.bool false) O (by rw [hg5]) ?_
          have hg5':=hg5
          replace hg5':=of_decide_eq_false hg5'
          exact AE.skip (AR O) O (Ab O) (AE.skip (AR O) O (Ab O) (AE.skip (AR O) O (Ab O) (AG (v:=(Value.bool false)) (AU O O) O (AE.nil (AD.mid (sS O (sS O (sS O (sS O (sS O (sS O (sS O (sS O (sS O (sS O (sS O (sS O (sS O (sS O (sS O (sS (by first|rfl|(rw [hg5];rfl)|rw [hg5]) (sS (by first|rfl|(rw [hg5];rfl)|rw [hg5]) (sN)))))))))))))))))) (List.Sublist.refl _))))))
        refine AK O (AE.nil (AD.subF (sL [2,3,16,17,18,5,4,23,9,10,7,8,54] O) (AD.then_ ?_)))
        refine AF.cond O (λhc3=>?_) (λhc3=>?_)
        ·simp only [Bool.and_eq_true,Bool.or_eq_true,Bool.and_eq_false_iff,Bool.or_eq_false_iff,Bool.not_eq_true',Bool.not_eq_false',decide_eq_true_eq,decide_eq_false_iff_not] at hc3
         refine AF.region (AO O (AG (v:=(pP b8 2)) (AA O underlying65 O sizeOf3 O) O (F_ 0 (off:=2) (vs:=[(vN t)]) (cs':=[(vN e02.a),(vN e02.b),(vN t),(vI e02.r)]) (AQ O) O sizeOf3 O (AE.nil (AD.subF (sL [2,3,16,17,18,5,4,23,9,10,7,8] O) ?_)))))
         exact AD.in_normal (AD.join1 (⟨e02.a,e02.b,((t:Nat):Int),e02.r⟩:E4) ((by unfold Ej;rw [if_pos Z])) (sF O) sr)
        ·simp only [Bool.and_eq_true,Bool.or_eq_true,Bool.and_eq_false_iff,Bool.or_eq_false_iff,Bool.not_eq_true',Bool.not_eq_false',decide_eq_true_eq,decide_eq_false_iff_not] at hc3
         refine q4 (AO O (AO O (AG (Cx (c:=(decide (T.1<T.2.2))) O O (C6 (a:=T.1) (b:=T.2.2))) O (AO O ?_))))
         refine AE.mid (FM:=[(2,(Value.slice none 0 0)),(3,(Value.map (some b1))),(16,(Value.slice x.p ts.length x.c)),(17,(vN ts.length)),(18,(vN t)),(5,(pP b2 0)),(4,(vN t)),(23,(vI 2)),(9,(pP b7 0)),(10,(pP b8 0)),(7,(vN T.2.2)),(8,(vN T.1)),(66,(vN T.2.2)),(67,(vN T.1)),(68,(Value.bool (decide (T.1<T.2.2)))),(69,(Value.bool (decide (T.1<T.2.2)))),(73,(Value.bool ((decide (T.1<T.2.2))&&(decide (e02.r=(-1:Int))))))]) (LM:=[Ae b8 65 (B9 e02),Ae b7 167 ([(vN (min T.2.2 T.1)),(vN (max T.2.2 T.1))]),Ae b6 65 (B9 e21),Ae b5 167 ([(vN (min T.2.1 T.2.2)),(vN (max T.2.1 T.2.2))]),Ae b4 65 (B9 e20),Ae b3 167 ([(vN (min T.1 T.2.1)),(vN (max T.1 T.2.1))]),Ae b2 79 (Av T),DD b1 IA K_ (CS ts (3*t+2)),Ai x.p (rowsL Av ts)]) 4 ?_ ?_
         ·rcases Bool.eq_false_or_eq_true (decide (T.1<T.2.2)) with hg6|hg6
          ·skip
           refine AE.retell (k:=69) (u:=Value.bool true) O (by rw [hg6]) ?_
           have hg6':=hg6
           replace hg6':=of_decide_eq_true hg6'
           exact AE.step (v:=(pP b8 3)) (AB O) (AA O underlying65 O sizeOf3 O) O (Ab O) (AE.step (v:=(vI e02.r)) (AB O) (AM (i:=0) (v:=(vI e02.r)) O O Bs.a O) O (Ab O) (AE.step (v:=(Value.bool (decide (e02.r=(-1:Int))))) (AB O) (BU (c:=(decide (e02.r=(-1:Int)))) O O O) O (Ab O) (AG (v:=(Value.bool (decide (e02.r=(-1:Int))))) (Ah O O) O (AE.nil (AD.mid (sS O (sS O (sS O (sS O (sS O (sS O (sS O (sS O (sS O (sS O (sS O (sS O (sS O (sS O (sS O (sS (by first|rfl|(rw [hg6];rfl)|rw [hg6]) (sS (by first|rfl|(rw [hg6];rfl)|rw [hg6]) (sN)))))))))))))))))) (List.Sublist.refl _))))))
          ·skip
           refine AE.retell (k:=69) (u:=Value.bool false) O (by rw [hg6]) ?_
           have hg6':=hg6
           replace hg6':=of_decide_eq_false hg6'
           exact AE.skip (AR O) O (Ab O) (AE.skip (AR O) O (Ab O) (AE.skip (AR O) O (Ab O) (AG (v:=(Value.bool false)) (AU O O) O (AE.nil (AD.mid (sS O (sS O (sS O (sS O (sS O (sS O (sS O (sS O (sS O (sS O (sS O (sS O (sS O (sS O (sS O (sS (by first|rfl|(rw [hg6];rfl)|rw [hg6]) (sS (by first|rfl|(rw [hg6];rfl)|rw [hg6]) (sN)))))))))))))))))) (List.Sublist.refl _))))))
         refine AK O (AE.nil (AD.subF (sL [2,3,16,17,18,5,4,23,9,10,7,8,65] O) (AD.then_ ?_)))
         refine AF.cond O (λhc4=>?_) (λhc4=>?_)
         ·simp only [Bool.and_eq_true,Bool.or_eq_true,Bool.and_eq_false_iff,Bool.or_eq_false_iff,Bool.not_eq_true',Bool.not_eq_false',decide_eq_true_eq,decide_eq_false_iff_not] at hc4
          refine AF.region (AO O (AG (v:=(pP b8 3)) (AA O underlying65 O sizeOf3 O) O (F_ 0 (off:=3) (vs:=[(vN t)]) (cs':=[(vN e02.a),(vN e02.b),(vI e02.l),(vN t)]) (AQ O) O sizeOf3 O (AE.nil (AD.subF (sL [2,3,16,17,18,5,4,23,9,10,7,8] O) ?_)))))
          exact AD.in_normal (AD.join1 (⟨e02.a,e02.b,e02.l,((t:Nat):Int)⟩:E4) ((by unfold Ej;rw [if_neg Z,if_pos Z])) (sF O) sr)
         ·simp only [Bool.and_eq_true,Bool.or_eq_true,Bool.and_eq_false_iff,Bool.or_eq_false_iff,Bool.not_eq_true',Bool.not_eq_false',decide_eq_true_eq,decide_eq_false_iff_not] at hc4
          exact AF.skip (AD.in_normal (AD.join1 e02 ((by unfold Ej;rw [if_neg Z,if_neg Z])) (sF O) sr))
       ·intro e22 hJ
        have hu2:=hJ
        refine AD.then_ (AF.region (AO O (BD 1 KP O (BD 0 Lt O (AE.mapUpdate Fw 7 (kvs:=CS ts (3*t+2)) (x:=((min T.2.2 T.1,max T.2.2 T.1):P2)) (y:=e22) (AQ O) O O O underlying165 O (Ei hn hN _ Z) (DZ Z Z) ?_)))))
        rw [show Be (CS ts (3*t+2)) ((min T.2.2 T.1,max T.2.2 T.1):P2) e22=CS ts (3*t+3) from by rw [hu2,he2,hT];exact (Ir (ts:=ts) (t:=t) (i:=2) Z).symm]
        refine AE.nil (AD.subF (sL [2,3,16,17,18,5,4,23,9,10] O) (AD.in_normal (AD.then_ (AF.region (AG (AX (c:=(3:Int)) O O (by decide)) O ?_)))))
        refine AO O (AE.nil (AD.subF (sL [2,3,16,17,18,5,4,23,9,10] O) (AD.again (E3.step (q4 ?_)))))
        refine AG (Af (c:=false) O O (by decide)) O (AE.nil (q1 (AF.cond_false O (AF.exit (AD.then_exit ?_)))))
        refine AD.then_exit (AD.in_exit (AD.in_normal (AD.then_ (AF.region (AG (AX (c:=((t+1:Nat):Int)) O O (AY (a:=t) (b:=1) Z)) O ?_)))))
        refine AO O (AE.nil (AD.subF (sL [2,3,16,17,18,5,4,23,9,10] O) ?_))
        rw [show 3*t+3=3*(t+1)+0 by omega]
        exact AD.round1 (t+1) Z Z (sF O) (sl (sl (sl (sl (sl (sl (sl sr)))))))
 ·replace hc0:=of_decide_eq_false hc0
  have htl:t=ts.length:=by omega
  have hel:=IE (ts:=ts) (3*ts.length)
  refine AF.exit (AD.then_exit (AD.round1_exit (AD.in_exit (q2 (AO O ?_)))))
  rw [show CS ts (3*t+0)=(CS ts (3*ts.length)) by rw [htl,Nat.add_zero]]
  refine st (v:=(vN ((CS ts (3*ts.length)).length))) (NN 0 (kvs:=(CS ts (3*ts.length))) O underlying165 O) (Ab O) (AE.make0 Uy O O Z O O λbo hbo=>AK O (q6 (sL [2,3,16,17,18,12] O) (q4 (AO O ?_))))
  refine AE.range 1 (kvs:=(CS ts (3*ts.length))) (AQ O) O underlying165 O O λb2=>AE.nil (AD.subF (sL [2,3,16,17,18,12,85] O) (AD.then_ (AF.block ?_)))
  refine AF.lp4 (tg λ(seen:List Nat) (out:List E4) (p1:Option Addr) (c1:Nat)=>seen.Nodup/\(∀x∈seen,x<(CS ts (3*ts.length)).length)/\out=seen.map (RT (CS ts (3*ts.length)))/\OwnOk p1 out.length c1/\p1≠none) (tg λ(seen:List Nat) (out:List E4) (p1:Option Addr) (c1:Nat)=>[(2,(Value.slice none 0 0)),(85,(Value.pointer (some ⟨b2,0,none⟩))),(12,(Value.slice p1 out.length c1))]) (tg λ(seen:List Nat) (out:List E4) (p1:Option Addr) (c1:Nat)=>[Uu b2 b1 (CS ts (3*ts.length)).length seen,rowW p1 65 4 out.length c1 (rowsL B9 out),DD b1 IA K_ (CS ts (3*ts.length)),Ai x.p (rowsL Av ts)]) (tg λ(seen:List Nat) (out:List E4) (p1:Option Addr) (c1:Nat)=>(CS ts (3*ts.length)).length-seen.length) ([]:List Nat) ([]:List E4) (some ⟨bo,0,none⟩) ((CS ts (3*ts.length)).length) (⟨List.nodup_nil,(λx hx=>by cases hx),rfl,hbo,by simp⟩) (sF O) sr (λseen out p1 c1 hJ=>?_)
  obtain ⟨hnd,hlt,hou,ho,hpn⟩:=hJ
  refine q4 ?_
  refine AE.next 2 0 (kvs:=(CS ts (3*ts.length))) (seen:=seen) (AQ O) O O O O (λhall=>?_) (λqn kq ve hq hns=>?_)
  ·skip
   refine AG (AZ (v:=(Value.bool false)) O O) O (q6 (sL [2,85,12,87] O) (AF.cond_false O (AF.exit (AD.then_exit (AD.round4_exit ?_)))))
   refine AD.in_exit (q2 (AO O ?_))
   have hpm:out.Perm ((CS ts (3*ts.length)).map (·.2)):=by rw [hou];exact Qc hnd hlt hall
   have hol:out.length=(BC ts).length:=by rw [IK];simpa using hpm.length_eq
   have hlo:out.length<=3*ts.length:=by rw [hol,IK];exact hel
   refine AE.callS 1 (xs:=out) (ys:=BC ts) (v:=(Value.tuple #[])) (AQ O) (Aw (args:=[(Value.slice p1 out.length c1),(Value.func (.func 92) #[] #[])]) O O call91) O (λw hw=>RV out _ _ _ 65 ho hpn O Z w (hw.holds (i:=1) O)) (λzs h1 h2=>UB hn hN h1 h2 hpm) (λd hd=>by cases hd<;>exact (Ab O)) (q3 (sL [2,85,12] O) (AO O (BV call95 (RY p1 _ c1 ho.le) O (AK O (AE.nil ?_)))))
   exact AD.subF (sL [2,85,12] O) (AD.then_ (AF.ret (AP O (Ad (v:=(Value.slice p1 out.length out.length)) O) (λw hw=>(by rw [<-hol];exact Vm hw 1 O ho (by rw [An BT,hol]) O)))))
  ·skip
   refine AG (AZ (v:=(Value.bool true)) O O) O (q6 (sL [2,85,12,87] O) (AF.cond_true O (AF.skip (AD.then_ (AF.block ?_)))))
   refine q4 ?_
   have hlo:out.length<=3*ts.length:=by rw [hou,List.length_map];exact Nat.le_trans (I0 hnd hlt) hel
   refine AG (v:=(Value.tuple #[(aG (A7 kq)),(aG (B9 ve))])) (Pr 2 0 (enc:=IA) (eV:=K_) (kvs:=(CS ts (3*ts.length))) (seen:=seen) (q:=qn) O O O hq) O (AG (AZ (v:=(aG (B9 ve))) O O) O (al Rr O λb3=>Au O sizeOf65 O (AE.nil (AD.subF (sL [2,85,12,14] O) ?_))))
   refine AD.then_ (AF.region (AO O (BD 0 Lt O (AE.openV (V:=λb4=>(Value.slice (some ⟨b4,0,none⟩) 1 1)) (T:=65) (cs:=B9 ve) (AQ O) (BA (z:=.agg (B9 (⟨0,0,0,0⟩:E4)).toArray) (cs:=B9 ve) (pv:=[(0,(aG (B9 ve)))]) underlying51 sizeOf65 zeroValue65 (by decide) (by decide) O (Ih ve)) O (Ab O) λb4=>AE.appendAt 3 (j:=0) (cs2:=rowsL B9 (out++[ve])) Uy O ho (An BT _) O O O O O (by decide) (Ka Z) Z (by rw [Bb];rfl) O λp_1 c_1 ho_1 hne_1=>?_))))
   refine AK O (AE.nil (AD.subF (sL [2,85,12,14] O) (AD.in_normal ?_)))
   have hnext:seen.length<(CS ts (3*ts.length)).length:=by have h9:=I0 (l:=seen++[qn]) (n:=(CS ts (3*ts.length)).length) (List.nodup_append.2 ⟨hnd,List.nodup_cons.2 ⟨List.not_mem_nil,List.nodup_nil⟩,λa ha b hb e=>by rw [List.mem_singleton.1 hb] at e;exact hns (e▸ha)⟩) (λx hx=>by rcases List.mem_append.1 hx with h|h;exact hlt x h;rw [List.mem_singleton.1 h];exact (List.getElem?_eq_some_iff.1 hq).1);rw [List.length_append,List.length_singleton] at h9;omega
   rw [show out.length+1=(out++[ve]).length by simp]
   exact AD.round4 (seen++[qn]) (out++[ve]) p_1 c_1 (⟨List.nodup_append.2 ⟨hnd,List.nodup_cons.2 ⟨List.not_mem_nil,List.nodup_nil⟩,λa ha b hb e=>by rw [List.mem_singleton.1 hb] at e;exact hns (e▸ha)⟩,λx hx=>by rcases List.mem_append.1 hx with h|h;exact hlt x h;rw [List.mem_singleton.1 h];exact (List.getElem?_eq_some_iff.1 hq).1,by rw [List.map_append,hou];simp [TQ hq],(by simpa using ho_1),hne_1⟩) (by have h8:=hnext;rw [List.length_append,List.length_singleton];omega) (sF O) (sl (sl sr))
end
end Go.Proofs.YtfbomiejpbchdaaGreatDoor
