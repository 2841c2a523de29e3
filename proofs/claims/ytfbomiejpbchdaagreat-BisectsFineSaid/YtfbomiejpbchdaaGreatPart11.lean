import Derived.Test.YtfbomiejpbchdaaGreatPart06
import Derived.Test.YtfbomiejpbchdaaGreatPart10
namespace Go.Proofs.YtfbomiejpbchdaaGreat
open Go Go.RowKit Go.Proofs.Tryz
set_option linter.unusedVariables false
set_option linter.unusedSimpArgs false
section
set_option maxRecDepth 100000
theorem UP (a b:Nat) (ha:nw a<=1099511627776) (hb:nw b<=1099511627776) (w:World)  :Calls prog 194 #[(aG (Aa a)),(aG (Aa b))] w (Av w (vI (Fy a b))):=by
 refine Ag (args:=[(aG (Aa a)),(aG (Aa b))]) func194 O O (Ab O) (AF.subF (sL [0,1] O) (q4 (Bo (cs:=Aa a) O λb1=>Bo (cs:=Aa b) O λb2=>AO O ?_)))
 refine q6 (sL [2,3,4] O) (q4 (AI (v:=(pP b1 1)) (AA O underlying47 O sizeOf9 O) O (BK 1 (Value.string (Bv a)) Sv O (AI (CG (c:=(decide (a<18446744073709551616))) O O Cx) O (AR O ?_)))))
 refine AE.mid (FM:=[(2,(pP b1 0)),(3,(pP b2 0)),(4,(vI 0)),(5,(pP b1 1)),(6,(Value.string (Bv a))),(7,(Value.bool (decide (a<18446744073709551616)))),(8,(Value.bool (decide (a<18446744073709551616)))),(12,(Value.bool ((decide (a<18446744073709551616))&&(decide (b<18446744073709551616)))))]) (LM:=[Af b2 47 (Aa b),Af b1 47 (Aa a)]) 4 ?_ ?_
 ·rcases Bool.eq_false_or_eq_true (decide (a<18446744073709551616)) with hg1|hg1
  ·skip
   refine AE.retell (k:=8) (u:=Value.bool true) O (by rw [hg1]) ?_
   have hg1':=hg1
   replace hg1':=of_decide_eq_true hg1'
   exact AE.step (v:=(pP b2 1)) (AB O) (AA O underlying47 O sizeOf9 O) O (Ab O) (AE.step (v:=(Value.string (Bv b))) (AB O) (AK (i:=0) (v:=(Value.string (Bv b))) O O Sv.a O) O (Ab O) (AE.step (v:=(Value.bool (decide (b<18446744073709551616)))) (AB O) (CG (c:=(decide (b<18446744073709551616))) O O Cx) O (Ab O) (AI (v:=(Value.bool (decide (b<18446744073709551616)))) (Ah O O) O (AE.nil (AC.mid (sS O (sS O (sS O (sS O (sS O (sS O (sS (by first|rfl|(rw [hg1];rfl)|rw [hg1]) (sS (by first|rfl|(rw [hg1];rfl)|rw [hg1]) (sN))))))))) (List.Sublist.refl _))))))
  ·skip
   refine AE.retell (k:=8) (u:=Value.bool false) O (by rw [hg1]) ?_
   have hg1':=hg1
   replace hg1':=of_decide_eq_false hg1'
   exact AE.skip (AL O) O (Ab O) (AE.skip (AL O) O (Ab O) (AE.skip (AL O) O (Ab O) (AI (v:=(Value.bool false)) (AS O O) O (AE.nil (AC.mid (sS O (sS O (sS O (sS O (sS O (sS O (sS (by first|rfl|(rw [hg1];rfl)|rw [hg1]) (sS (by first|rfl|(rw [hg1];rfl)|rw [hg1]) (sN))))))))) (List.Sublist.refl _))))))
 refine AE.nil (AC.subF (sL [2,3,4,12] O) (AC.then_ ?_))
 refine AF.jn0 (tg True) (tg [(2,(pP b1 0)),(3,(pP b2 0))]) (tg [Af b2 47 (Aa b),Af b1 47 (Aa a)]) ?_ ?_
 ·skip
  refine AF.cond O (λhc0=>?_) (λhc0=>?_)
  ·simp only [Bool.and_eq_true,Bool.or_eq_true,Bool.and_eq_false_iff,Bool.or_eq_false_iff,Bool.not_eq_true',Bool.not_eq_false',decide_eq_true_eq,decide_eq_false_iff_not] at hc0
   refine AF.seq (AF.block (q4 (AI (v:=(pP b1 0)) (AA O underlying47 O sizeOf45 O) O (BK 1 (vK .u64 (CJ a)) HV O (AE.retell (k:=15) (u:=(vK .u64 a)) O (by rw [Bs hc0.1]) ?_)))))
   refine AI (v:=(pP b2 0)) (AA O underlying47 O sizeOf45 O) O (BK 0 (vK .u64 (CJ b)) HV O (AE.retell (k:=17) (u:=(vK .u64 b)) O (by rw [Bs hc0.2]) (AI (Am (c:=(decide (a<b))) O O (C6 (a:=a) (b:=b))) O (AO O (AE.nil ?_)))))
   refine AC.subF (sL [2,3,4,13] O) (AC.then_ ?_)
   refine AF.cond O (λhc1=>?_) (λhc1=>?_)
   ·replace hc1:=of_decide_eq_true hc1
    have hz:Fy a b = -1:=if_pos hc1
    refine q4 (AO O (AE.nil (AC.then_ (AF.ret (AC.in_ret ?_)))))
    exact AC.then_ret (AC.join0_ret (AC.then_ret (AT O (Ak (v:=(vI (-1:Int))) O) (λw hw=>⟨by rw [hz],hw.out⟩))))
   ·replace hc1:=of_decide_eq_false hc1
    refine q4 (AI (v:=(pP b1 0)) (AA O underlying47 O sizeOf45 O) O (BK 1 (vK .u64 (CJ a)) HV O (AE.retell (k:=21) (u:=(vK .u64 a)) O (by rw [Bs hc0.1]) (AI (v:=(pP b2 0)) (AA O underlying47 O sizeOf45 O) O (BK 0 (vK .u64 (CJ b)) HV O ?_)))))
    refine AE.retell (k:=23) (u:=(vK .u64 b)) O (by rw [Bs hc0.2]) (AI (Cj (c:=(decide (b<a))) O O (C6 (a:=b) (b:=a))) O (AO O (AE.nil (AC.subF (sL [2,3,4,19] O) (AC.then_ ?_)))))
    refine AF.cond O (λhc2=>?_) (λhc2=>?_)
    ·replace hc2:=of_decide_eq_true hc2
     have hz:Fy a b=1:=by unfold Fy;rw [if_neg Z,if_neg Z]
     refine q4 (AO O (AE.nil (AC.then_ (AF.ret (AC.in_ret ?_)))))
     exact AC.then_ret (AC.join0_ret (AC.then_ret (AT O (Ak (v:=(vI 1)) O) (λw hw=>⟨by rw [hz],hw.out⟩))))
    ·replace hc2:=of_decide_eq_false hc2
     have hz:Fy a b=0:=Qq.2 Z
     refine AF.skip (AC.in_normal (q2 (AO O (AE.nil (AC.then_ ?_)))))
     exact AF.ret (AC.join0_ret (AC.then_ret (AT O (Ak (v:=(vI 0)) O) (λw hw=>⟨by rw [hz],hw.out⟩))))
  ·simp only [Bool.and_eq_true,Bool.or_eq_true,Bool.and_eq_false_iff,Bool.or_eq_false_iff,Bool.not_eq_true',Bool.not_eq_false',decide_eq_true_eq,decide_eq_false_iff_not] at hc0
   exact AF.skip (AC.join0  (trivial) (sF O) sr)
 ·intro hJ
  refine q1 (Cu [(0,true),(2,true),(1,false),(3,false),(4,false),(5,true)] sr (EW 1 CK O (EW 0 CK O (AV.imp O (AE.callB (V:=λb3=>(Value.slice (some ⟨b3,0,none⟩) (nw a) ((A_ a).length))) (T:=101) (cs:=Au (A_ a)) (AM O) (A8 (args:=[(aG (Aa a))]) O O call150) (λw hw=>DV a Z w) O (Ab O) λb3=>?_)))))
  refine AV.back (sl sr) (AV.imp O (AE.callB (V:=λb4=>(Value.slice (some ⟨b4,0,none⟩) (nw b) ((A_ b).length))) (T:=101) (cs:=Au (A_ b)) (AM O) (A8 (args:=[(aG (Aa b))]) O O call150) (λw hw=>DV b Z w) O (Ab O) λb4=>AV.back (sl (sl sr)) (AV.imp O (Ew call237 (λw hw=>YF a b _ _ _ _ Z Z w (hw.get (i:=1) O) (hw.get (i:=0) O)) O ?_))))
  exact AV.back (sl (sl sr)) (Ev O (AV.nil (AC.subF (sL [2,3,4] O) (AC.then_ (AF.ret (AT O (Ak (v:=(vI (Fy a b))) O) (λw hw=>⟨rfl,hw.out⟩)))))))
theorem TY (a b:Nat) (ha:nw a<=1099511627776) (hb:nw b<=1099511627776) (w:World)  :Calls prog 151 #[(aG (Aa a)),(aG (Aa b))] w (Av w (aG (Aa (a+b)))):=by
 have hla:=CX a
 have hlb:=CX b
 refine Ag (args:=[(aG (Aa a)),(aG (Aa b))]) func151 O O (Ab O) (AF.subF (sL [0,1] O) (q4 (Bo (cs:=Aa a) O λb1=>Bo (cs:=Aa b) O λb2=>al GY O λb3=>?_)))
 refine q6 (sL [2,3,4] O) (q4 (AI (v:=(pP b1 1)) (AA O underlying47 O sizeOf9 O) O (BK 2 (Value.string (Bv a)) Sv O (AI (CG (c:=(decide (a<18446744073709551616))) O O Cx) O (AR O ?_)))))
 refine AE.mid (FM:=[(2,(pP b1 0)),(3,(pP b2 0)),(4,(pP b3 0)),(13,(pP b1 1)),(14,(Value.string (Bv a))),(15,(Value.bool (decide (a<18446744073709551616)))),(16,(Value.bool (decide (a<18446744073709551616)))),(20,(Value.bool ((decide (a<18446744073709551616))&&(decide (b<18446744073709551616)))))]) (LM:=[Af b3 47 (Aa 0),Af b2 47 (Aa b),Af b1 47 (Aa a)]) 4 ?_ ?_
 ·rcases Bool.eq_false_or_eq_true (decide (a<18446744073709551616)) with hg1|hg1
  ·skip
   refine AE.retell (k:=16) (u:=Value.bool true) O (by rw [hg1]) ?_
   have hg1':=hg1
   replace hg1':=of_decide_eq_true hg1'
   exact AE.step (v:=(pP b2 1)) (AB O) (AA O underlying47 O sizeOf9 O) O (Ab O) (AE.step (v:=(Value.string (Bv b))) (AB O) (AK (i:=1) (v:=(Value.string (Bv b))) O O Sv.a O) O (Ab O) (AE.step (v:=(Value.bool (decide (b<18446744073709551616)))) (AB O) (CG (c:=(decide (b<18446744073709551616))) O O Cx) O (Ab O) (AI (v:=(Value.bool (decide (b<18446744073709551616)))) (Ah O O) O (AE.nil (AC.mid (sS O (sS O (sS O (sS O (sS O (sS O (sS (by first|rfl|(rw [hg1];rfl)|rw [hg1]) (sS (by first|rfl|(rw [hg1];rfl)|rw [hg1]) (sN))))))))) (List.Sublist.refl _))))))
  ·skip
   refine AE.retell (k:=16) (u:=Value.bool false) O (by rw [hg1]) ?_
   have hg1':=hg1
   replace hg1':=of_decide_eq_false hg1'
   exact AE.skip (AL O) O (Ab O) (AE.skip (AL O) O (Ab O) (AE.skip (AL O) O (Ab O) (AI (v:=(Value.bool false)) (AS O O) O (AE.nil (AC.mid (sS O (sS O (sS O (sS O (sS O (sS O (sS (by first|rfl|(rw [hg1];rfl)|rw [hg1]) (sS (by first|rfl|(rw [hg1];rfl)|rw [hg1]) (sN))))))))) (List.Sublist.refl _))))))
 refine AE.nil (AC.subF (sL [2,3,4,20] O) (AC.then_ ?_))
 refine AF.jn0 (tg True) (tg [(2,(pP b1 0)),(3,(pP b2 0)),(4,(pP b3 0))]) (tg [Af b3 47 (Aa 0),Af b2 47 (Aa b),Af b1 47 (Aa a)]) ?_ ?_
 ·skip
  refine AF.cond O (λhc0=>?_) (λhc0=>?_)
  ·simp only [Bool.and_eq_true,Bool.or_eq_true,Bool.and_eq_false_iff,Bool.or_eq_false_iff,Bool.not_eq_true',Bool.not_eq_false',decide_eq_true_eq,decide_eq_false_iff_not] at hc0
   refine q4 (AI (v:=(pP b1 0)) (AA O underlying47 O sizeOf45 O) O (BK 2 (vK .u64 (CJ a)) HV O (AE.retell (k:=23) (u:=(vK .u64 a)) O (by rw [Bs hc0.1]) (AI (v:=(pP b2 0)) (AA O underlying47 O sizeOf45 O) O (BK 1 (vK .u64 (CJ b)) HV O ?_)))))
   refine AE.retell (k:=25) (u:=(vK .u64 b)) O (by rw [Bs hc0.2]) (AI (v:=(Value.tuple #[(vK .u64 ((a+b+0)%18446744073709551616)),(vK .u64 ((a+b+0)/18446744073709551616))])) (SU (args:=[(vK .u64 a),(vK .u64 b),(Value.int .u64 (0:Int))]) O O (λw=>RU func199 (by kernel_rfl) (by kernel_rfl) (by kernel_rfl) (by kernel_rfl) a b 0 Z w)) O (AR O (AI (AU (v:=(vK .u64 ((a+b+0)%18446744073709551616))) O O) O (AI (AU (v:=(vK .u64 ((a+b+0)/18446744073709551616))) O O) O (AO O ?_)))))
   refine AO O (q3 (sL [2,3,4,5,6] O) (AR O (AI (BS (c:=(decide (((a+b+0)/18446744073709551616)=0))) O O (Ot (a:=(a+b+0)/18446744073709551616) (b:=0))) O (AE.nil (AC.subF (sL [2,3,4,5,30] O) ?_)))))
   refine AC.then_ ?_
   refine AF.cond O (λhc1=>?_) (λhc1=>?_)
   ·replace hc1:=of_decide_eq_true hc1
    refine q4 (AR O (AI (v:=(aG ([(vK .u64 ((a+b+0)%18446744073709551616)),(Value.string (Bv 0))]))) (Ad (zs:=Aa 0) (vs:=[(vK .u64 ((a+b+0)%18446744073709551616)),(Value.string (Bv 0))]) (pv:=[(0,(vK .u64 ((a+b+0)%18446744073709551616)))]) (places:=[(0,1),(1,1)]) zeroValue47 underlying47 (λw=>by simp [sizeOf9,sizeOf45]) O O) O (AE.retell (k:=32) (u:=(aG (Aa (a+b)))) O (by rw [Dp Z,show (a+b+0)%18446744073709551616=a+b by omega];rfl) (Aq O sizeOf47 O (AE.nil ?_)))))
    exact AC.subF (sL [2,3,4] O) (AC.then_ (AF.ret (AC.join0_ret (AC.then_ret (AT O (A7 (i:=0) (cs:=Aa (a+b)) O O isAgg47 sizeOf47 O) (λw hw=>⟨rfl,hw.out⟩))))))
   ·replace hc1:=of_decide_eq_false hc1
    exact AF.skip (AC.join0  (trivial) (sF O) sr)
  ·simp only [Bool.and_eq_true,Bool.or_eq_true,Bool.and_eq_false_iff,Bool.or_eq_false_iff,Bool.not_eq_true',Bool.not_eq_false',decide_eq_true_eq,decide_eq_false_iff_not] at hc0
   exact AF.skip (AC.join0  (trivial) (sF O) sr)
 ·intro hJ
  refine q1 (Cu [(0,true),(2,true),(1,false),(3,false),(4,true),(5,true)] sr (EW 2 CK O (EW 1 CK O (AV.imp O (AE.callB (V:=λb4=>(Value.slice (some ⟨b4,0,none⟩) (nw a) ((A_ a).length))) (T:=101) (cs:=Au (A_ a)) (AM O) (A8 (args:=[(aG (Aa a))]) O O call150) (λw hw=>DV a Z w) O (Ab O) λb4=>?_)))))
  refine AV.back (sl sr) (AV.imp O (AE.callB (V:=λb5=>(Value.slice (some ⟨b5,0,none⟩) (nw b) ((A_ b).length))) (T:=101) (cs:=Au (A_ b)) (AM O) (A8 (args:=[(aG (Aa b))]) O O call150) (λw hw=>DV b Z w) O (Ab O) λb5=>AV.back (sl (sl sr)) (Ev O (Ev O ?_))))
  refine AV.nil (AC.subF (sL [2,3,4,7,8] O) (q1 (q4 (AR O (AI (v:=(vN (nw a))) (AG O underlying232) O ?_)))))
  refine AR O (AI (v:=(vN (nw b))) (AG O underlying232) O (AI (Am (c:=(decide ((nw a)<(nw b)))) O O (C6 (a:=nw a) (b:=nw b))) O (AE.nil (AC.subF (sL [2,3,4,7,8,41] O) (AC.then_ ?_)))))
  refine AF.cond O (λhc2=>?_) (λhc2=>?_)
  ·replace hc2:=of_decide_eq_true hc2
   refine AF.region (AR O (AR O (AO O (AO O (q3 (sL [2,3,4,7,8] O) ?_)))))
   refine AR O (AI (v:=(vN (nw b))) (AG O underlying232) O (AI (AY (c:=(((nw b)+1:Nat):Int)) O O (AX (a:=nw b) (b:=1) Z)) O (AE.openV (V:=λb6=>(Value.slice (some ⟨b6,0,none⟩) ((nw b)+1) ((nw b)+1))) (T:=101) (cs:=Au (List.replicate ((nw b)+1) 0)) (AM O) (DW (m:=(nw b)+1) (c:=(nw b)+1) O O Z Z) O (Ab O) λb6=>AO O (q3 (sL [2,3,4,7,8,9] O) ?_))))
   refine AR O (AR O (AE.copy_u32 (i:=0) (j:=1) (ns:=Au (AP b)) (cs':=Au (AP b++(List.replicate (nw b+1) 0).drop (AP b).length)) (L':=[Af b6 101 (Au (AP b++(List.replicate (nw b+1) 0).drop (AP b).length)),Af b5 101 (Au (A_ b)),Af b4 101 (Au (A_ a)),Af b3 47 (Aa 0),Af b2 47 (Aa b),Af b1 47 (Aa a)]) O (AM O) O O O O (by rw [MO,IL]) (BV _) (OF _) Z (by rw [BV];simp;try omega) (OH _ _) O (Ab O) (q3 (sL [2,3,4,7,8,9] O) (AO O (AE.nil ?_)))))
   refine q1 (q4 (AR O (AI (v:=(vN ((nw b)+1))) (AG O underlying232) O (AR O (AE.nil ?_)))))
   refine AC.subF (sL [2,3,4,7,8,9,10,52,53] O) (AC.then_ (AF.block ?_))
   refine AF.lp3 (tg λ(i:Nat) (os:List Nat) (c:Nat)=>i<=nw b+1/\os.length=nw b+1/\W32 os/\c<=1/\val os+c*4294967296^i=b+val ((AP a).take i)) (tg λ(i:Nat) (os:List Nat) (c:Nat)=>[(4,(pP b3 0)),(8,(Value.slice (some ⟨b4,0,none⟩) (nw a) ((A_ a).length))),(9,(Value.slice (some ⟨b6,0,none⟩) ((nw b)+1) ((nw b)+1))),(52,(vN ((nw b)+1))),(53,(vN i)),(10,(vK .u32 c))]) (tg λ(i:Nat) (os:List Nat) (c:Nat)=>[Af b6 101 (Au os),Af b5 101 (Au (A_ b)),Af b4 101 (Au (A_ a)),Af b3 47 (Aa 0),Af b2 47 (Aa b),Af b1 47 (Aa a)]) (tg λ(i:Nat) (os:List Nat) (c:Nat)=>nw b+1-i) 0 (AP b++(List.replicate (nw b+1) 0).drop (AP b).length) 0 (⟨Nat.zero_le _,(F5 b 1).1,(F5 b 1).2.1,Z,by rw [(F5 b 1).2.2];simp [val]⟩) (sF O) sr (λi os c hJ=>?_)
   obtain ⟨hi,hl,hw32,hcc,hv⟩:=hJ
   refine q4 (AI (Am (c:=(decide (i<((nw b)+1)))) O O (C6 (a:=i) (b:=(nw b)+1))) O (AE.nil (q1 ?_)))
   refine AF.cond O (λhc3=>?_) (λhc3=>?_)
   ·replace hc3:=of_decide_eq_true hc3
    refine AF.skip (q1 (AF.block (q4 (AR O (AO O ?_)))))
    refine q3 (sL [4,8,9,52,53,10,11] O) (AO O (AE.nil (q1 (q4 (AR O ?_)))))
    refine AR O (AI (v:=(vN (nw a))) (AG O underlying232) O (AI (Am (c:=(decide (i<(nw a)))) O O (C6 (a:=i) (b:=nw a))) O (AE.nil (AC.subF (sL [4,8,9,52,53,10,11,12,59] O) (AC.then_ ?_)))))
    refine AF.jn0 (tg True) (tg [(4,(pP b3 0)),(8,(Value.slice (some ⟨b4,0,none⟩) (nw a) ((A_ a).length))),(9,(Value.slice (some ⟨b6,0,none⟩) ((nw b)+1) ((nw b)+1))),(52,(vN ((nw b)+1))),(53,(vN i)),(10,(vK .u32 c)),(11,(vN i)),(12,(vK .u32 ((AP a).getD i 0)))]) (tg [Af b6 101 (Au os),Af b5 101 (Au (A_ b)),Af b4 101 (Au (A_ a)),Af b3 47 (Aa 0),Af b2 47 (Aa b),Af b1 47 (Aa a)]) ?_ ?_
    ·skip
     refine AF.cond O (λhc4=>?_) (λhc4=>?_)
     ·replace hc4:=of_decide_eq_true hc4
      refine AF.region (AR O (AR O (AI (v:=(pP b4 i)) (AN (j:=i) O O underlying232 sizeOf101 O Z (by simp)) O ?_)))
      have hx1:(A_ a).getD i 0<4294967296:=W32.getD (CY a) i
      exact AI (AK (i:=2) (v:=(vK .u32 ((A_ a).getD i 0))) O O isAgg101 (BO (xs:=A_ a) (j:=i) Z)) O (AE.retell (k:=63) (u:=(vK .u32 ((AP a).getD i 0))) O (by rw [Df hc4]) (AO O (AE.nil (AC.subF (sL [4,8,9,52,53,10,11,12] O) (AC.join0  (trivial) (sF O) sr)))))
     ·replace hc4:=of_decide_eq_false hc4
      exact AF.skip (AC.retell (k:=12) (u:=Value.int .u32 (((AP a).getD i 0:Nat):Int)) O (by rw [En hc4];rfl) (AC.join0  (trivial) (sF O) sr))
    ·intro hJ
     refine AC.then_ (AF.region (AR O (AR O (AR O (AR O ?_)))))
     refine AI (v:=(pP b6 i)) (AN (j:=i) O O underlying232 sizeOf101 O Z (by simp)) O ?_
     have hx2:os.getD i 0<4294967296:=W32.getD hw32 i
     refine AI (AK (i:=0) (v:=(vK .u32 (os.getD i 0))) O O isAgg101 (BO (xs:=os) (j:=i) Z)) O (AR O (AR O ?_))
     have hya:=(Bz a).getD i
     have hyb:=(Bz b).getD i
     refine BW call200 (LG (os.getD i 0) ((AP a).getD i 0) c Z Z Z) O (AR O (AI (AU (v:=(vK .u32 (((os.getD i 0)+((AP a).getD i 0)+c)%4294967296))) O O) O (AI (AU (v:=(vK .u32 (((os.getD i 0)+((AP a).getD i 0)+c)/4294967296))) O O) O (AI (v:=(pP b6 i)) (AN (j:=i) O O underlying232 sizeOf101 O Z (by simp)) O (AE.store' (i:=0) (off:=i) (vs:=[(vK .u32 (((os.getD i 0)+((AP a).getD i 0)+c)%4294967296))]) (cs':=Au (os.set i (((os.getD i 0)+((AP a).getD i 0)+c)%4294967296))) (L':=[Af b6 101 (Au (os.set i (((os.getD i 0)+((AP a).getD i 0)+c)%4294967296))),Af b5 101 (Au (A_ b)),Af b4 101 (Au (A_ a)),Af b3 47 (Aa 0),Af b2 47 (Aa b),Af b1 47 (Aa a)]) (AM O) O O O O O sizeOf101 O (Cm (BV _) Z) (CQ Z) O ?_)))))
     refine AO O (AE.nil (AC.subF (sL [4,8,9,52,53,10,11,12] O) (AC.in_normal (AC.then_ (AF.region ?_)))))
     exact AI (AY (c:=((i+1:Nat):Int)) O O (AX (a:=i) (b:=1) Z)) O (AR O (AE.nil (AC.subF (sL [4,8,9,52,53,10,11,12] O) (AC.round3 (i+1) (os.set i ((os.getD i 0+(AP a).getD i 0+c)%4294967296)) ((os.getD i 0+(AP a).getD i 0+c)/4294967296) (⟨Z,by rw [List.length_set];exact hl,W32.set hw32 Z i,Z,OE hl hc3 hv⟩) Z (sF O) sr))))
   ·replace hc3:=of_decide_eq_false hc3
    refine AF.exit (AC.then_exit (AC.round3_exit (AC.in_exit (q2 (AR O ?_)))))
    refine Ew call149 (λw hw=>JM _ ((nw b)+1) ((nw b)+1) os hw32 (by first|omega|(rw [rowN_length];omega)|simp|(simp;omega)) (by first|omega|simp|(simp;omega)) (by first|omega|simp|(simp;omega)) w (hw.get (i:=0) O)) O (AE.retell (k:=79) (u:=(aG (Aa (a+b)))) O (by rw [List.take_of_length_le (show os.length<=nw b+1 by omega),Oc (X:=b) (Y:=a) (c:=c) (i:=i) hl hw32 Z (Ub Z) (by rw [hv,DT Z]),Nat.add_comm]) (Ka O sizeOf47 O (AE.nil (AC.subF (sL [4,8,9,52,53,10] O) (AC.then_ ?_)))))
    exact AF.ret (AT O (A7 (i:=3) (cs:=Aa (a+b)) O O isAgg47 sizeOf47 O) (λw hw=>⟨rfl,hw.out⟩))
  ·replace hc2:=of_decide_eq_false hc2
   refine AF.skip (q2 (AR O (AI (v:=(vN (nw a))) (AG O underlying232) O (AI (AY (c:=(((nw a)+1:Nat):Int)) O O (AX (a:=nw a) (b:=1) Z)) O (AE.openV (V:=λb6=>(Value.slice (some ⟨b6,0,none⟩) ((nw a)+1) ((nw a)+1))) (T:=101) (cs:=Au (List.replicate ((nw a)+1) 0)) (AM O) (DW (m:=(nw a)+1) (c:=(nw a)+1) O O Z Z) O (Ab O) λb6=>?_)))))
   refine AO O (q3 (sL [2,3,4,7,8,9] O) (AR O (AR O (AE.copy_u32 (i:=0) (j:=2) (ns:=Au (AP a)) (cs':=Au (AP a++(List.replicate (nw a+1) 0).drop (AP a).length)) (L':=[Af b6 101 (Au (AP a++(List.replicate (nw a+1) 0).drop (AP a).length)),Af b5 101 (Au (A_ b)),Af b4 101 (Au (A_ a)),Af b3 47 (Aa 0),Af b2 47 (Aa b),Af b1 47 (Aa a)]) O (AM O) O O O O (by rw [MO,IL]) (BV _) (OF _) Z (by rw [BV];simp;try omega) (OH _ _) O (Ab O) (q3 (sL [2,3,4,7,8,9] O) ?_)))))
   refine AO O (AE.nil (q1 (q4 (AR O (AI (v:=(vN ((nw a)+1))) (AG O underlying232) O ?_)))))
   refine AR O (AE.nil (AC.subF (sL [2,3,4,7,8,9,10,52,53] O) (AC.then_ (AF.block ?_))))
   refine AF.lp3 (tg λ(i:Nat) (os:List Nat) (c:Nat)=>i<=nw a+1/\os.length=nw a+1/\W32 os/\c<=1/\val os+c*4294967296^i=a+val ((AP b).take i)) (tg λ(i:Nat) (os:List Nat) (c:Nat)=>[(4,(pP b3 0)),(8,(Value.slice (some ⟨b5,0,none⟩) (nw b) ((A_ b).length))),(9,(Value.slice (some ⟨b6,0,none⟩) ((nw a)+1) ((nw a)+1))),(52,(vN ((nw a)+1))),(53,(vN i)),(10,(vK .u32 c))]) (tg λ(i:Nat) (os:List Nat) (c:Nat)=>[Af b6 101 (Au os),Af b5 101 (Au (A_ b)),Af b4 101 (Au (A_ a)),Af b3 47 (Aa 0),Af b2 47 (Aa b),Af b1 47 (Aa a)]) (tg λ(i:Nat) (os:List Nat) (c:Nat)=>nw a+1-i) 0 (AP a++(List.replicate (nw a+1) 0).drop (AP a).length) 0 (⟨Nat.zero_le _,(F5 a 1).1,(F5 a 1).2.1,Z,by rw [(F5 a 1).2.2];simp [val]⟩) (sF O) sr (λi os c hJ=>?_)
   obtain ⟨hi,hl,hw32,hcc,hv⟩:=hJ
   refine q4 (AI (Am (c:=(decide (i<((nw a)+1)))) O O (C6 (a:=i) (b:=(nw a)+1))) O (AE.nil (q1 ?_)))
   refine AF.cond O (λhc3=>?_) (λhc3=>?_)
   ·replace hc3:=of_decide_eq_true hc3
    refine AF.skip (q1 (AF.block (q4 (AR O (AO O ?_)))))
    refine q3 (sL [4,8,9,52,53,10,11] O) (AO O (AE.nil (q1 (q4 (AR O ?_)))))
    refine AR O (AI (v:=(vN (nw b))) (AG O underlying232) O (AI (Am (c:=(decide (i<(nw b)))) O O (C6 (a:=i) (b:=nw b))) O (AE.nil (AC.subF (sL [4,8,9,52,53,10,11,12,59] O) (AC.then_ ?_)))))
    refine AF.jn0 (tg True) (tg [(4,(pP b3 0)),(8,(Value.slice (some ⟨b5,0,none⟩) (nw b) ((A_ b).length))),(9,(Value.slice (some ⟨b6,0,none⟩) ((nw a)+1) ((nw a)+1))),(52,(vN ((nw a)+1))),(53,(vN i)),(10,(vK .u32 c)),(11,(vN i)),(12,(vK .u32 ((AP b).getD i 0)))]) (tg [Af b6 101 (Au os),Af b5 101 (Au (A_ b)),Af b4 101 (Au (A_ a)),Af b3 47 (Aa 0),Af b2 47 (Aa b),Af b1 47 (Aa a)]) ?_ ?_
    ·skip
     refine AF.cond O (λhc4=>?_) (λhc4=>?_)
     ·replace hc4:=of_decide_eq_true hc4
      refine AF.region (AR O (AR O (AI (v:=(pP b5 i)) (AN (j:=i) O O underlying232 sizeOf101 O Z (by simp)) O ?_)))
      have hx3:(A_ b).getD i 0<4294967296:=W32.getD (CY b) i
      exact AI (AK (i:=1) (v:=(vK .u32 ((A_ b).getD i 0))) O O isAgg101 (BO (xs:=A_ b) (j:=i) Z)) O (AE.retell (k:=63) (u:=(vK .u32 ((AP b).getD i 0))) O (by rw [Df hc4]) (AO O (AE.nil (AC.subF (sL [4,8,9,52,53,10,11,12] O) (AC.join0  (trivial) (sF O) sr)))))
     ·replace hc4:=of_decide_eq_false hc4
      exact AF.skip (AC.retell (k:=12) (u:=Value.int .u32 (((AP b).getD i 0:Nat):Int)) O (by rw [En hc4];rfl) (AC.join0  (trivial) (sF O) sr))
    ·intro hJ
     refine AC.then_ (AF.region (AR O (AR O (AR O (AR O ?_)))))
     refine AI (v:=(pP b6 i)) (AN (j:=i) O O underlying232 sizeOf101 O Z (by simp)) O ?_
     have hx4:os.getD i 0<4294967296:=W32.getD hw32 i
     refine AI (AK (i:=0) (v:=(vK .u32 (os.getD i 0))) O O isAgg101 (BO (xs:=os) (j:=i) Z)) O (AR O (AR O ?_))
     have hya:=(Bz a).getD i
     have hyb:=(Bz b).getD i
     refine BW call200 (LG (os.getD i 0) ((AP b).getD i 0) c Z Z Z) O (AR O (AI (AU (v:=(vK .u32 (((os.getD i 0)+((AP b).getD i 0)+c)%4294967296))) O O) O (AI (AU (v:=(vK .u32 (((os.getD i 0)+((AP b).getD i 0)+c)/4294967296))) O O) O (AI (v:=(pP b6 i)) (AN (j:=i) O O underlying232 sizeOf101 O Z (by simp)) O (AE.store' (i:=0) (off:=i) (vs:=[(vK .u32 (((os.getD i 0)+((AP b).getD i 0)+c)%4294967296))]) (cs':=Au (os.set i (((os.getD i 0)+((AP b).getD i 0)+c)%4294967296))) (L':=[Af b6 101 (Au (os.set i (((os.getD i 0)+((AP b).getD i 0)+c)%4294967296))),Af b5 101 (Au (A_ b)),Af b4 101 (Au (A_ a)),Af b3 47 (Aa 0),Af b2 47 (Aa b),Af b1 47 (Aa a)]) (AM O) O O O O O sizeOf101 O (Cm (BV _) Z) (CQ Z) O ?_)))))
     refine AO O (AE.nil (AC.subF (sL [4,8,9,52,53,10,11,12] O) (AC.in_normal (AC.then_ (AF.region ?_)))))
     exact AI (AY (c:=((i+1:Nat):Int)) O O (AX (a:=i) (b:=1) Z)) O (AR O (AE.nil (AC.subF (sL [4,8,9,52,53,10,11,12] O) (AC.round3 (i+1) (os.set i ((os.getD i 0+(AP b).getD i 0+c)%4294967296)) ((os.getD i 0+(AP b).getD i 0+c)/4294967296) (⟨Z,by rw [List.length_set];exact hl,W32.set hw32 Z i,Z,OE hl hc3 hv⟩) Z (sF O) sr))))
   ·replace hc3:=of_decide_eq_false hc3
    refine AF.exit (AC.then_exit (AC.round3_exit (AC.in_exit (q2 (AR O ?_)))))
    refine Ew call149 (λw hw=>JM _ ((nw a)+1) ((nw a)+1) os hw32 (by first|omega|(rw [rowN_length];omega)|simp|(simp;omega)) (by first|omega|simp|(simp;omega)) (by first|omega|simp|(simp;omega)) w (hw.get (i:=0) O)) O (AE.retell (k:=79) (u:=(aG (Aa (a+b)))) O (by rw [List.take_of_length_le (show os.length<=nw a+1 by omega),Oc (X:=a) (Y:=b) (c:=c) (i:=i) hl hw32 Z (Ub Z) (by rw [hv,DT Z])]) (Ka O sizeOf47 O (AE.nil (AC.subF (sL [4,8,9,52,53,10] O) (AC.then_ ?_)))))
    exact AF.ret (AT O (A7 (i:=3) (cs:=Aa (a+b)) O O isAgg47 sizeOf47 O) (λw hw=>⟨rfl,hw.out⟩))
end
end Go.Proofs.YtfbomiejpbchdaaGreat
