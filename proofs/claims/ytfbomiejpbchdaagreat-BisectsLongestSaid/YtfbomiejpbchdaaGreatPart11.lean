import Derived.Test.YtfbomiejpbchdaaGreatPart06
import Derived.Test.YtfbomiejpbchdaaGreatPart10
namespace Go.Proofs.YtfbomiejpbchdaaGreat
open Go Go.RowKit Go.Proofs.Tryz
set_option linter.unusedVariables false
set_option linter.unusedSimpArgs false
section
set_option maxRecDepth 100000
theorem Ud (a b:Nat) (ha:nw a<=1099511627776) (hb:nw b<=1099511627776) (w:World)  :Calls prog 194 #[(aG (Ab a)),(aG (Ab b))] w (Aq w (vI (Fp a b))):=by
 refine Ae (args:=[(aG (Ab a)),(aG (Ab b))]) func194 O O (Ac O) (AF.subF (sL [0,1] O) (q4 (Bg (cs:=Ab a) O λb1=>Bg (cs:=Ab b) O λb2=>AL O ?_)))
 refine q6 (sL [2,3,4] O) (q4 (AH (v:=(pP b1 1)) (AA O underlying47 O sizeOf9 O) O (BJ 1 (Value.string (Bp a)) SU O (AH (CJ (c:=(decide (a<18446744073709551616))) O O Cy) O (AS O ?_)))))
 refine AE.mid (FM:=[(2,(pP b1 0)),(3,(pP b2 0)),(4,(vI 0)),(5,(pP b1 1)),(6,(Value.string (Bp a))),(7,(Value.bool (decide (a<18446744073709551616)))),(8,(Value.bool (decide (a<18446744073709551616)))),(12,(Value.bool ((decide (a<18446744073709551616))&&(decide (b<18446744073709551616)))))]) (LM:=[Ag b2 47 (Ab b),Ag b1 47 (Ab a)]) 4 ?_ ?_
 ·rcases Bool.eq_false_or_eq_true (decide (a<18446744073709551616)) with hg1|hg1
  ·skip
   refine AE.retell (k:=8) (u:=Value.bool true) O (by rw [hg1]) ?_
   have hg1':=hg1
   replace hg1':=of_decide_eq_true hg1'
   exact AE.step (v:=(pP b2 1)) (AB O) (AA O underlying47 O sizeOf9 O) O (Ac O) (AE.step (v:=(Value.string (Bp b))) (AB O) (AI (i:=0) (v:=(Value.string (Bp b))) O O SU.a O) O (Ac O) (AE.step (v:=(Value.bool (decide (b<18446744073709551616)))) (AB O) (CJ (c:=(decide (b<18446744073709551616))) O O Cy) O (Ac O) (AH (v:=(Value.bool (decide (b<18446744073709551616)))) (Aj O O) O (AE.nil (AD.mid (sS O (sS O (sS O (sS O (sS O (sS O (sS (by first|rfl|(rw [hg1];rfl)|rw [hg1]) (sS (by first|rfl|(rw [hg1];rfl)|rw [hg1]) (sN))))))))) (List.Sublist.refl _))))))
  ·skip
   refine AE.retell (k:=8) (u:=Value.bool false) O (by rw [hg1]) ?_
   have hg1':=hg1
   replace hg1':=of_decide_eq_false hg1'
   exact AE.skip (AN O) O (Ac O) (AE.skip (AN O) O (Ac O) (AE.skip (AN O) O (Ac O) (AH (v:=(Value.bool false)) (AV O O) O (AE.nil (AD.mid (sS O (sS O (sS O (sS O (sS O (sS O (sS (by first|rfl|(rw [hg1];rfl)|rw [hg1]) (sS (by first|rfl|(rw [hg1];rfl)|rw [hg1]) (sN))))))))) (List.Sublist.refl _))))))
 refine AE.nil (AD.subF (sL [2,3,4,12] O) (AD.then_ ?_))
 refine AF.jn0 (tg True) (tg [(2,(pP b1 0)),(3,(pP b2 0))]) (tg [Ag b2 47 (Ab b),Ag b1 47 (Ab a)]) ?_ ?_
 ·skip
  refine AF.cond O (λhc0=>?_) (λhc0=>?_)
  ·simp only [Bool.and_eq_true,Bool.or_eq_true,Bool.and_eq_false_iff,Bool.or_eq_false_iff,Bool.not_eq_true',Bool.not_eq_false',decide_eq_true_eq,decide_eq_false_iff_not] at hc0
   refine AF.seq (AF.block (q4 (AH (v:=(pP b1 0)) (AA O underlying47 O sizeOf45 O) O (BJ 1 (vK .u64 (CK a)) HF O (AE.retell (k:=15) (u:=(vK .u64 a)) O (by rw [Bo hc0.1]) ?_)))))
   refine AH (v:=(pP b2 0)) (AA O underlying47 O sizeOf45 O) O (BJ 0 (vK .u64 (CK b)) HF O (AE.retell (k:=17) (u:=(vK .u64 b)) O (by rw [Bo hc0.2]) (AH (Ak (c:=(decide (a<b))) O O (C1 (a:=a) (b:=b))) O (AL O (AE.nil ?_)))))
   refine AD.subF (sL [2,3,4,13] O) (AD.then_ ?_)
   refine AF.cond O (λhc1=>?_) (λhc1=>?_)
   ·replace hc1:=of_decide_eq_true hc1
    have hz:Fp a b = -1:=if_pos hc1
    refine q4 (AL O (AE.nil (AD.then_ (AF.ret (AD.in_ret ?_)))))
    exact AD.then_ret (AD.join0_ret (AD.then_ret (AR O (Ai (v:=(vI (-1:Int))) O) (λw hw=>⟨by rw [hz],hw.out⟩))))
   ·replace hc1:=of_decide_eq_false hc1
    refine q4 (AH (v:=(pP b1 0)) (AA O underlying47 O sizeOf45 O) O (BJ 1 (vK .u64 (CK a)) HF O (AE.retell (k:=21) (u:=(vK .u64 a)) O (by rw [Bo hc0.1]) (AH (v:=(pP b2 0)) (AA O underlying47 O sizeOf45 O) O (BJ 0 (vK .u64 (CK b)) HF O ?_)))))
    refine AE.retell (k:=23) (u:=(vK .u64 b)) O (by rw [Bo hc0.2]) (AH (CW (c:=(decide (b<a))) O O (C1 (a:=b) (b:=a))) O (AL O (AE.nil (AD.subF (sL [2,3,4,19] O) (AD.then_ ?_)))))
    refine AF.cond O (λhc2=>?_) (λhc2=>?_)
    ·replace hc2:=of_decide_eq_true hc2
     have hz:Fp a b=1:=by unfold Fp;rw [if_neg Z,if_neg Z]
     refine q4 (AL O (AE.nil (AD.then_ (AF.ret (AD.in_ret ?_)))))
     exact AD.then_ret (AD.join0_ret (AD.then_ret (AR O (Ai (v:=(vI 1)) O) (λw hw=>⟨by rw [hz],hw.out⟩))))
    ·replace hc2:=of_decide_eq_false hc2
     have hz:Fp a b=0:=Pw.2 Z
     refine AF.skip (AD.in_normal (q2 (AL O (AE.nil (AD.then_ ?_)))))
     exact AF.ret (AD.join0_ret (AD.then_ret (AR O (Ai (v:=(vI 0)) O) (λw hw=>⟨by rw [hz],hw.out⟩))))
  ·simp only [Bool.and_eq_true,Bool.or_eq_true,Bool.and_eq_false_iff,Bool.or_eq_false_iff,Bool.not_eq_true',Bool.not_eq_false',decide_eq_true_eq,decide_eq_false_iff_not] at hc0
   exact AF.skip (AD.join0  (trivial) (sF O) sr)
 ·intro hJ
  refine q1 (Cm [(0,true),(2,true),(1,false),(3,false),(4,false),(5,true)] sr (En 1 CL O (En 0 CL O (AT.imp O (AE.callB (V:=λb3=>(Value.slice (some ⟨b3,0,none⟩) (nw a) ((A9 a).length))) (T:=101) (cs:=Av (A9 a)) (AK O) (A_ (args:=[(aG (Ab a))]) O O call150) (λw hw=>DD a Z w) O (Ac O) λb3=>?_)))))
  refine AT.back (sl sr) (AT.imp O (AE.callB (V:=λb4=>(Value.slice (some ⟨b4,0,none⟩) (nw b) ((A9 b).length))) (T:=101) (cs:=Av (A9 b)) (AK O) (A_ (args:=[(aG (Ab b))]) O O call150) (λw hw=>DD b Z w) O (Ac O) λb4=>AT.back (sl (sl sr)) (AT.imp O (Ee call237 (λw hw=>Ya a b _ _ _ _ Z Z w (hw.get (i:=1) O) (hw.get (i:=0) O)) O ?_))))
  exact AT.back (sl (sl sr)) (Eg O (AT.nil (AD.subF (sL [2,3,4] O) (AD.then_ (AF.ret (AR O (Ai (v:=(vI (Fp a b))) O) (λw hw=>⟨rfl,hw.out⟩)))))))
theorem Ss (a b:Nat) (ha:nw a<=1099511627776) (hb:nw b<=1099511627776) (w:World)  :Calls prog 151 #[(aG (Ab a)),(aG (Ab b))] w (Aq w (aG (Ab (a+b)))):=by
 have hla:=CQ a
 have hlb:=CQ b
 refine Ae (args:=[(aG (Ab a)),(aG (Ab b))]) func151 O O (Ac O) (AF.subF (sL [0,1] O) (q4 (Bg (cs:=Ab a) O λb1=>Bg (cs:=Ab b) O λb2=>al F5 O λb3=>?_)))
 refine q6 (sL [2,3,4] O) (q4 (AH (v:=(pP b1 1)) (AA O underlying47 O sizeOf9 O) O (BJ 2 (Value.string (Bp a)) SU O (AH (CJ (c:=(decide (a<18446744073709551616))) O O Cy) O (AS O ?_)))))
 refine AE.mid (FM:=[(2,(pP b1 0)),(3,(pP b2 0)),(4,(pP b3 0)),(13,(pP b1 1)),(14,(Value.string (Bp a))),(15,(Value.bool (decide (a<18446744073709551616)))),(16,(Value.bool (decide (a<18446744073709551616)))),(20,(Value.bool ((decide (a<18446744073709551616))&&(decide (b<18446744073709551616)))))]) (LM:=[Ag b3 47 (Ab 0),Ag b2 47 (Ab b),Ag b1 47 (Ab a)]) 4 ?_ ?_
 ·rcases Bool.eq_false_or_eq_true (decide (a<18446744073709551616)) with hg1|hg1
  ·skip
   refine AE.retell (k:=16) (u:=Value.bool true) O (by rw [hg1]) ?_
   have hg1':=hg1
   replace hg1':=of_decide_eq_true hg1'
   exact AE.step (v:=(pP b2 1)) (AB O) (AA O underlying47 O sizeOf9 O) O (Ac O) (AE.step (v:=(Value.string (Bp b))) (AB O) (AI (i:=1) (v:=(Value.string (Bp b))) O O SU.a O) O (Ac O) (AE.step (v:=(Value.bool (decide (b<18446744073709551616)))) (AB O) (CJ (c:=(decide (b<18446744073709551616))) O O Cy) O (Ac O) (AH (v:=(Value.bool (decide (b<18446744073709551616)))) (Aj O O) O (AE.nil (AD.mid (sS O (sS O (sS O (sS O (sS O (sS O (sS (by first|rfl|(rw [hg1];rfl)|rw [hg1]) (sS (by first|rfl|(rw [hg1];rfl)|rw [hg1]) (sN))))))))) (List.Sublist.refl _))))))
  ·skip
   refine AE.retell (k:=16) (u:=Value.bool false) O (by rw [hg1]) ?_
   have hg1':=hg1
   replace hg1':=of_decide_eq_false hg1'
   exact AE.skip (AN O) O (Ac O) (AE.skip (AN O) O (Ac O) (AE.skip (AN O) O (Ac O) (AH (v:=(Value.bool false)) (AV O O) O (AE.nil (AD.mid (sS O (sS O (sS O (sS O (sS O (sS O (sS (by first|rfl|(rw [hg1];rfl)|rw [hg1]) (sS (by first|rfl|(rw [hg1];rfl)|rw [hg1]) (sN))))))))) (List.Sublist.refl _))))))
 refine AE.nil (AD.subF (sL [2,3,4,20] O) (AD.then_ ?_))
 refine AF.jn0 (tg True) (tg [(2,(pP b1 0)),(3,(pP b2 0)),(4,(pP b3 0))]) (tg [Ag b3 47 (Ab 0),Ag b2 47 (Ab b),Ag b1 47 (Ab a)]) ?_ ?_
 ·skip
  refine AF.cond O (λhc0=>?_) (λhc0=>?_)
  ·simp only [Bool.and_eq_true,Bool.or_eq_true,Bool.and_eq_false_iff,Bool.or_eq_false_iff,Bool.not_eq_true',Bool.not_eq_false',decide_eq_true_eq,decide_eq_false_iff_not] at hc0
   refine q4 (AH (v:=(pP b1 0)) (AA O underlying47 O sizeOf45 O) O (BJ 2 (vK .u64 (CK a)) HF O (AE.retell (k:=23) (u:=(vK .u64 a)) O (by rw [Bo hc0.1]) (AH (v:=(pP b2 0)) (AA O underlying47 O sizeOf45 O) O (BJ 1 (vK .u64 (CK b)) HF O ?_)))))
   refine AE.retell (k:=25) (u:=(vK .u64 b)) O (by rw [Bo hc0.2]) (AH (v:=(Value.tuple #[(vK .u64 ((a+b+0)%18446744073709551616)),(vK .u64 ((a+b+0)/18446744073709551616))])) (Rj (args:=[(vK .u64 a),(vK .u64 b),(Value.int .u64 (0:Int))]) O O (λw=>R4 func199 (by kernel_rfl) (by kernel_rfl) (by kernel_rfl) (by kernel_rfl) a b 0 Z w)) O (AS O (AH (AZ (v:=(vK .u64 ((a+b+0)%18446744073709551616))) O O) O (AH (AZ (v:=(vK .u64 ((a+b+0)/18446744073709551616))) O O) O (AL O ?_)))))
   refine AL O (q3 (sL [2,3,4,5,6] O) (AS O (AH (BY (c:=(decide (((a+b+0)/18446744073709551616)=0))) O O (Oa (a:=(a+b+0)/18446744073709551616) (b:=0))) O (AE.nil (AD.subF (sL [2,3,4,5,30] O) ?_)))))
   refine AD.then_ ?_
   refine AF.cond O (λhc1=>?_) (λhc1=>?_)
   ·replace hc1:=of_decide_eq_true hc1
    refine q4 (AS O (AH (v:=(aG ([(vK .u64 ((a+b+0)%18446744073709551616)),(Value.string (Bp 0))]))) (Ad (zs:=Ab 0) (vs:=[(vK .u64 ((a+b+0)%18446744073709551616)),(Value.string (Bp 0))]) (pv:=[(0,(vK .u64 ((a+b+0)%18446744073709551616)))]) (places:=[(0,1),(1,1)]) zeroValue47 underlying47 (λw=>by simp [sizeOf9,sizeOf45]) O O) O (AE.retell (k:=32) (u:=(aG (Ab (a+b)))) O (by rw [Dl Z,show (a+b+0)%18446744073709551616=a+b by omega];rfl) (Aw O sizeOf47 O (AE.nil ?_)))))
    exact AD.subF (sL [2,3,4] O) (AD.then_ (AF.ret (AD.join0_ret (AD.then_ret (AR O (Az (i:=0) (cs:=Ab (a+b)) O O isAgg47 sizeOf47 O) (λw hw=>⟨rfl,hw.out⟩))))))
   ·replace hc1:=of_decide_eq_false hc1
    exact AF.skip (AD.join0  (trivial) (sF O) sr)
  ·simp only [Bool.and_eq_true,Bool.or_eq_true,Bool.and_eq_false_iff,Bool.or_eq_false_iff,Bool.not_eq_true',Bool.not_eq_false',decide_eq_true_eq,decide_eq_false_iff_not] at hc0
   exact AF.skip (AD.join0  (trivial) (sF O) sr)
 ·intro hJ
  refine q1 (Cm [(0,true),(2,true),(1,false),(3,false),(4,true),(5,true)] sr (En 2 CL O (En 1 CL O (AT.imp O (AE.callB (V:=λb4=>(Value.slice (some ⟨b4,0,none⟩) (nw a) ((A9 a).length))) (T:=101) (cs:=Av (A9 a)) (AK O) (A_ (args:=[(aG (Ab a))]) O O call150) (λw hw=>DD a Z w) O (Ac O) λb4=>?_)))))
  refine AT.back (sl sr) (AT.imp O (AE.callB (V:=λb5=>(Value.slice (some ⟨b5,0,none⟩) (nw b) ((A9 b).length))) (T:=101) (cs:=Av (A9 b)) (AK O) (A_ (args:=[(aG (Ab b))]) O O call150) (λw hw=>DD b Z w) O (Ac O) λb5=>AT.back (sl (sl sr)) (Eg O (Eg O ?_))))
  refine AT.nil (AD.subF (sL [2,3,4,7,8] O) (q1 (q4 (AS O (AH (v:=(vN (nw a))) (AG O underlying232) O ?_)))))
  refine AS O (AH (v:=(vN (nw b))) (AG O underlying232) O (AH (Ak (c:=(decide ((nw a)<(nw b)))) O O (C1 (a:=nw a) (b:=nw b))) O (AE.nil (AD.subF (sL [2,3,4,7,8,41] O) (AD.then_ ?_)))))
  refine AF.cond O (λhc2=>?_) (λhc2=>?_)
  ·replace hc2:=of_decide_eq_true hc2
   refine AF.region (AS O (AS O (AL O (AL O (q3 (sL [2,3,4,7,8] O) ?_)))))
   refine AS O (AH (v:=(vN (nw b))) (AG O underlying232) O (AH (AW (c:=(((nw b)+1:Nat):Int)) O O (AX (a:=nw b) (b:=1) Z)) O (AE.openV (V:=λb6=>(Value.slice (some ⟨b6,0,none⟩) ((nw b)+1) ((nw b)+1))) (T:=101) (cs:=Av (List.replicate ((nw b)+1) 0)) (AK O) (DN (m:=(nw b)+1) (c:=(nw b)+1) O O Z Z) O (Ac O) λb6=>AL O (q3 (sL [2,3,4,7,8,9] O) ?_))))
   refine AS O (AS O (AE.copy_u32 (i:=0) (j:=1) (ns:=Av (AP b)) (cs':=Av (AP b++(List.replicate (nw b+1) 0).drop (AP b).length)) (L':=[Ag b6 101 (Av (AP b++(List.replicate (nw b+1) 0).drop (AP b).length)),Ag b5 101 (Av (A9 b)),Ag b4 101 (Av (A9 a)),Ag b3 47 (Ab 0),Ag b2 47 (Ab b),Ag b1 47 (Ab a)]) O (AK O) O O O O (by rw [Lx,H4]) (BS _) (Nn _) Z (by rw [BS];simp;try omega) (Ng _ _) O (Ac O) (q3 (sL [2,3,4,7,8,9] O) (AL O (AE.nil ?_)))))
   refine q1 (q4 (AS O (AH (v:=(vN ((nw b)+1))) (AG O underlying232) O (AS O (AE.nil ?_)))))
   refine AD.subF (sL [2,3,4,7,8,9,10,52,53] O) (AD.then_ (AF.block ?_))
   refine AF.lp3 (tg λ(i:Nat) (os:List Nat) (c:Nat)=>i<=nw b+1/\os.length=nw b+1/\W32 os/\c<=1/\val os+c*4294967296^i=b+val ((AP a).take i)) (tg λ(i:Nat) (os:List Nat) (c:Nat)=>[(4,(pP b3 0)),(8,(Value.slice (some ⟨b4,0,none⟩) (nw a) ((A9 a).length))),(9,(Value.slice (some ⟨b6,0,none⟩) ((nw b)+1) ((nw b)+1))),(52,(vN ((nw b)+1))),(53,(vN i)),(10,(vK .u32 c))]) (tg λ(i:Nat) (os:List Nat) (c:Nat)=>[Ag b6 101 (Av os),Ag b5 101 (Av (A9 b)),Ag b4 101 (Av (A9 a)),Ag b3 47 (Ab 0),Ag b2 47 (Ab b),Ag b1 47 (Ab a)]) (tg λ(i:Nat) (os:List Nat) (c:Nat)=>nw b+1-i) 0 (AP b++(List.replicate (nw b+1) 0).drop (AP b).length) 0 (⟨Nat.zero_le _,(Fh b 1).1,(Fh b 1).2.1,Z,by rw [(Fh b 1).2.2];simp [val]⟩) (sF O) sr (λi os c hJ=>?_)
   obtain ⟨hi,hl,hw32,hcc,hv⟩:=hJ
   refine q4 (AH (Ak (c:=(decide (i<((nw b)+1)))) O O (C1 (a:=i) (b:=(nw b)+1))) O (AE.nil (q1 ?_)))
   refine AF.cond O (λhc3=>?_) (λhc3=>?_)
   ·replace hc3:=of_decide_eq_true hc3
    refine AF.skip (q1 (AF.block (q4 (AS O (AL O ?_)))))
    refine q3 (sL [4,8,9,52,53,10,11] O) (AL O (AE.nil (q1 (q4 (AS O ?_)))))
    refine AS O (AH (v:=(vN (nw a))) (AG O underlying232) O (AH (Ak (c:=(decide (i<(nw a)))) O O (C1 (a:=i) (b:=nw a))) O (AE.nil (AD.subF (sL [4,8,9,52,53,10,11,12,59] O) (AD.then_ ?_)))))
    refine AF.jn0 (tg True) (tg [(4,(pP b3 0)),(8,(Value.slice (some ⟨b4,0,none⟩) (nw a) ((A9 a).length))),(9,(Value.slice (some ⟨b6,0,none⟩) ((nw b)+1) ((nw b)+1))),(52,(vN ((nw b)+1))),(53,(vN i)),(10,(vK .u32 c)),(11,(vN i)),(12,(vK .u32 ((AP a).getD i 0)))]) (tg [Ag b6 101 (Av os),Ag b5 101 (Av (A9 b)),Ag b4 101 (Av (A9 a)),Ag b3 47 (Ab 0),Ag b2 47 (Ab b),Ag b1 47 (Ab a)]) ?_ ?_
    ·skip
     refine AF.cond O (λhc4=>?_) (λhc4=>?_)
     ·replace hc4:=of_decide_eq_true hc4
      refine AF.region (AS O (AS O (AH (v:=(pP b4 i)) (AM (j:=i) O O underlying232 sizeOf101 O Z (by simp)) O ?_)))
      have hx1:(A9 a).getD i 0<4294967296:=W32.getD (CT a) i
      exact AH (AI (i:=2) (v:=(vK .u32 ((A9 a).getD i 0))) O O isAgg101 (BP (xs:=A9 a) (j:=i) Z)) O (AE.retell (k:=63) (u:=(vK .u32 ((AP a).getD i 0))) O (by rw [Dg hc4]) (AL O (AE.nil (AD.subF (sL [4,8,9,52,53,10,11,12] O) (AD.join0  (trivial) (sF O) sr)))))
     ·replace hc4:=of_decide_eq_false hc4
      exact AF.skip (AD.retell (k:=12) (u:=Value.int .u32 (((AP a).getD i 0:Nat):Int)) O (by rw [EZ hc4];rfl) (AD.join0  (trivial) (sF O) sr))
    ·intro hJ
     refine AD.then_ (AF.region (AS O (AS O (AS O (AS O ?_)))))
     refine AH (v:=(pP b6 i)) (AM (j:=i) O O underlying232 sizeOf101 O Z (by simp)) O ?_
     have hx2:os.getD i 0<4294967296:=W32.getD hw32 i
     refine AH (AI (i:=0) (v:=(vK .u32 (os.getD i 0))) O O isAgg101 (BP (xs:=os) (j:=i) Z)) O (AS O (AS O ?_))
     have hya:=(Bw a).getD i
     have hyb:=(Bw b).getD i
     refine BR call200 (KA (os.getD i 0) ((AP a).getD i 0) c Z Z Z) O (AS O (AH (AZ (v:=(vK .u32 (((os.getD i 0)+((AP a).getD i 0)+c)%4294967296))) O O) O (AH (AZ (v:=(vK .u32 (((os.getD i 0)+((AP a).getD i 0)+c)/4294967296))) O O) O (AH (v:=(pP b6 i)) (AM (j:=i) O O underlying232 sizeOf101 O Z (by simp)) O (AE.store' (i:=0) (off:=i) (vs:=[(vK .u32 (((os.getD i 0)+((AP a).getD i 0)+c)%4294967296))]) (cs':=Av (os.set i (((os.getD i 0)+((AP a).getD i 0)+c)%4294967296))) (L':=[Ag b6 101 (Av (os.set i (((os.getD i 0)+((AP a).getD i 0)+c)%4294967296))),Ag b5 101 (Av (A9 b)),Ag b4 101 (Av (A9 a)),Ag b3 47 (Ab 0),Ag b2 47 (Ab b),Ag b1 47 (Ab a)]) (AK O) O O O O O sizeOf101 O (Cl (BS _) Z) (CO Z) O ?_)))))
     refine AL O (AE.nil (AD.subF (sL [4,8,9,52,53,10,11,12] O) (AD.in_normal (AD.then_ (AF.region ?_)))))
     exact AH (AW (c:=((i+1:Nat):Int)) O O (AX (a:=i) (b:=1) Z)) O (AS O (AE.nil (AD.subF (sL [4,8,9,52,53,10,11,12] O) (AD.round3 (i+1) (os.set i ((os.getD i 0+(AP a).getD i 0+c)%4294967296)) ((os.getD i 0+(AP a).getD i 0+c)/4294967296) (⟨Z,by rw [List.length_set];exact hl,W32.set hw32 Z i,Z,Ny hl hc3 hv⟩) Z (sF O) sr))))
   ·replace hc3:=of_decide_eq_false hc3
    refine AF.exit (AD.then_exit (AD.round3_exit (AD.in_exit (q2 (AS O ?_)))))
    refine Ee call149 (λw hw=>Iz _ ((nw b)+1) ((nw b)+1) os hw32 (by first|omega|(rw [rowN_length];omega)|simp|(simp;omega)) (by first|omega|simp|(simp;omega)) (by first|omega|simp|(simp;omega)) w (hw.get (i:=0) O)) O (AE.retell (k:=79) (u:=(aG (Ab (a+b)))) O (by rw [List.take_of_length_le (show os.length<=nw b+1 by omega),OT (X:=b) (Y:=a) (c:=c) (i:=i) hl hw32 Z (U6 Z) (by rw [hv,DL Z]),Nat.add_comm]) (IF O sizeOf47 O (AE.nil (AD.subF (sL [4,8,9,52,53,10] O) (AD.then_ ?_)))))
    exact AF.ret (AR O (Az (i:=3) (cs:=Ab (a+b)) O O isAgg47 sizeOf47 O) (λw hw=>⟨rfl,hw.out⟩))
  ·replace hc2:=of_decide_eq_false hc2
   refine AF.skip (q2 (AS O (AH (v:=(vN (nw a))) (AG O underlying232) O (AH (AW (c:=(((nw a)+1:Nat):Int)) O O (AX (a:=nw a) (b:=1) Z)) O (AE.openV (V:=λb6=>(Value.slice (some ⟨b6,0,none⟩) ((nw a)+1) ((nw a)+1))) (T:=101) (cs:=Av (List.replicate ((nw a)+1) 0)) (AK O) (DN (m:=(nw a)+1) (c:=(nw a)+1) O O Z Z) O (Ac O) λb6=>?_)))))
   refine AL O (q3 (sL [2,3,4,7,8,9] O) (AS O (AS O (AE.copy_u32 (i:=0) (j:=2) (ns:=Av (AP a)) (cs':=Av (AP a++(List.replicate (nw a+1) 0).drop (AP a).length)) (L':=[Ag b6 101 (Av (AP a++(List.replicate (nw a+1) 0).drop (AP a).length)),Ag b5 101 (Av (A9 b)),Ag b4 101 (Av (A9 a)),Ag b3 47 (Ab 0),Ag b2 47 (Ab b),Ag b1 47 (Ab a)]) O (AK O) O O O O (by rw [Lx,H4]) (BS _) (Nn _) Z (by rw [BS];simp;try omega) (Ng _ _) O (Ac O) (q3 (sL [2,3,4,7,8,9] O) ?_)))))
   refine AL O (AE.nil (q1 (q4 (AS O (AH (v:=(vN ((nw a)+1))) (AG O underlying232) O ?_)))))
   refine AS O (AE.nil (AD.subF (sL [2,3,4,7,8,9,10,52,53] O) (AD.then_ (AF.block ?_))))
   refine AF.lp3 (tg λ(i:Nat) (os:List Nat) (c:Nat)=>i<=nw a+1/\os.length=nw a+1/\W32 os/\c<=1/\val os+c*4294967296^i=a+val ((AP b).take i)) (tg λ(i:Nat) (os:List Nat) (c:Nat)=>[(4,(pP b3 0)),(8,(Value.slice (some ⟨b5,0,none⟩) (nw b) ((A9 b).length))),(9,(Value.slice (some ⟨b6,0,none⟩) ((nw a)+1) ((nw a)+1))),(52,(vN ((nw a)+1))),(53,(vN i)),(10,(vK .u32 c))]) (tg λ(i:Nat) (os:List Nat) (c:Nat)=>[Ag b6 101 (Av os),Ag b5 101 (Av (A9 b)),Ag b4 101 (Av (A9 a)),Ag b3 47 (Ab 0),Ag b2 47 (Ab b),Ag b1 47 (Ab a)]) (tg λ(i:Nat) (os:List Nat) (c:Nat)=>nw a+1-i) 0 (AP a++(List.replicate (nw a+1) 0).drop (AP a).length) 0 (⟨Nat.zero_le _,(Fh a 1).1,(Fh a 1).2.1,Z,by rw [(Fh a 1).2.2];simp [val]⟩) (sF O) sr (λi os c hJ=>?_)
   obtain ⟨hi,hl,hw32,hcc,hv⟩:=hJ
   refine q4 (AH (Ak (c:=(decide (i<((nw a)+1)))) O O (C1 (a:=i) (b:=(nw a)+1))) O (AE.nil (q1 ?_)))
   refine AF.cond O (λhc3=>?_) (λhc3=>?_)
   ·replace hc3:=of_decide_eq_true hc3
    refine AF.skip (q1 (AF.block (q4 (AS O (AL O ?_)))))
    refine q3 (sL [4,8,9,52,53,10,11] O) (AL O (AE.nil (q1 (q4 (AS O ?_)))))
    refine AS O (AH (v:=(vN (nw b))) (AG O underlying232) O (AH (Ak (c:=(decide (i<(nw b)))) O O (C1 (a:=i) (b:=nw b))) O (AE.nil (AD.subF (sL [4,8,9,52,53,10,11,12,59] O) (AD.then_ ?_)))))
    refine AF.jn0 (tg True) (tg [(4,(pP b3 0)),(8,(Value.slice (some ⟨b5,0,none⟩) (nw b) ((A9 b).length))),(9,(Value.slice (some ⟨b6,0,none⟩) ((nw a)+1) ((nw a)+1))),(52,(vN ((nw a)+1))),(53,(vN i)),(10,(vK .u32 c)),(11,(vN i)),(12,(vK .u32 ((AP b).getD i 0)))]) (tg [Ag b6 101 (Av os),Ag b5 101 (Av (A9 b)),Ag b4 101 (Av (A9 a)),Ag b3 47 (Ab 0),Ag b2 47 (Ab b),Ag b1 47 (Ab a)]) ?_ ?_
    ·skip
     refine AF.cond O (λhc4=>?_) (λhc4=>?_)
     ·replace hc4:=of_decide_eq_true hc4
      refine AF.region (AS O (AS O (AH (v:=(pP b5 i)) (AM (j:=i) O O underlying232 sizeOf101 O Z (by simp)) O ?_)))
      have hx3:(A9 b).getD i 0<4294967296:=W32.getD (CT b) i
      exact AH (AI (i:=1) (v:=(vK .u32 ((A9 b).getD i 0))) O O isAgg101 (BP (xs:=A9 b) (j:=i) Z)) O (AE.retell (k:=63) (u:=(vK .u32 ((AP b).getD i 0))) O (by rw [Dg hc4]) (AL O (AE.nil (AD.subF (sL [4,8,9,52,53,10,11,12] O) (AD.join0  (trivial) (sF O) sr)))))
     ·replace hc4:=of_decide_eq_false hc4
      exact AF.skip (AD.retell (k:=12) (u:=Value.int .u32 (((AP b).getD i 0:Nat):Int)) O (by rw [EZ hc4];rfl) (AD.join0  (trivial) (sF O) sr))
    ·intro hJ
     refine AD.then_ (AF.region (AS O (AS O (AS O (AS O ?_)))))
     refine AH (v:=(pP b6 i)) (AM (j:=i) O O underlying232 sizeOf101 O Z (by simp)) O ?_
     have hx4:os.getD i 0<4294967296:=W32.getD hw32 i
     refine AH (AI (i:=0) (v:=(vK .u32 (os.getD i 0))) O O isAgg101 (BP (xs:=os) (j:=i) Z)) O (AS O (AS O ?_))
     have hya:=(Bw a).getD i
     have hyb:=(Bw b).getD i
     refine BR call200 (KA (os.getD i 0) ((AP b).getD i 0) c Z Z Z) O (AS O (AH (AZ (v:=(vK .u32 (((os.getD i 0)+((AP b).getD i 0)+c)%4294967296))) O O) O (AH (AZ (v:=(vK .u32 (((os.getD i 0)+((AP b).getD i 0)+c)/4294967296))) O O) O (AH (v:=(pP b6 i)) (AM (j:=i) O O underlying232 sizeOf101 O Z (by simp)) O (AE.store' (i:=0) (off:=i) (vs:=[(vK .u32 (((os.getD i 0)+((AP b).getD i 0)+c)%4294967296))]) (cs':=Av (os.set i (((os.getD i 0)+((AP b).getD i 0)+c)%4294967296))) (L':=[Ag b6 101 (Av (os.set i (((os.getD i 0)+((AP b).getD i 0)+c)%4294967296))),Ag b5 101 (Av (A9 b)),Ag b4 101 (Av (A9 a)),Ag b3 47 (Ab 0),Ag b2 47 (Ab b),Ag b1 47 (Ab a)]) (AK O) O O O O O sizeOf101 O (Cl (BS _) Z) (CO Z) O ?_)))))
     refine AL O (AE.nil (AD.subF (sL [4,8,9,52,53,10,11,12] O) (AD.in_normal (AD.then_ (AF.region ?_)))))
     exact AH (AW (c:=((i+1:Nat):Int)) O O (AX (a:=i) (b:=1) Z)) O (AS O (AE.nil (AD.subF (sL [4,8,9,52,53,10,11,12] O) (AD.round3 (i+1) (os.set i ((os.getD i 0+(AP b).getD i 0+c)%4294967296)) ((os.getD i 0+(AP b).getD i 0+c)/4294967296) (⟨Z,by rw [List.length_set];exact hl,W32.set hw32 Z i,Z,Ny hl hc3 hv⟩) Z (sF O) sr))))
   ·replace hc3:=of_decide_eq_false hc3
    refine AF.exit (AD.then_exit (AD.round3_exit (AD.in_exit (q2 (AS O ?_)))))
    refine Ee call149 (λw hw=>Iz _ ((nw a)+1) ((nw a)+1) os hw32 (by first|omega|(rw [rowN_length];omega)|simp|(simp;omega)) (by first|omega|simp|(simp;omega)) (by first|omega|simp|(simp;omega)) w (hw.get (i:=0) O)) O (AE.retell (k:=79) (u:=(aG (Ab (a+b)))) O (by rw [List.take_of_length_le (show os.length<=nw a+1 by omega),OT (X:=a) (Y:=b) (c:=c) (i:=i) hl hw32 Z (U6 Z) (by rw [hv,DL Z])]) (IF O sizeOf47 O (AE.nil (AD.subF (sL [4,8,9,52,53,10] O) (AD.then_ ?_)))))
    exact AF.ret (AR O (Az (i:=3) (cs:=Ab (a+b)) O O isAgg47 sizeOf47 O) (λw hw=>⟨rfl,hw.out⟩))
end
end Go.Proofs.YtfbomiejpbchdaaGreat
