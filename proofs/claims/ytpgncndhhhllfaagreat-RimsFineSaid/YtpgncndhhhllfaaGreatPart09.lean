import Derived.Test.YtpgncndhhhllfaaGreatPart03
import Derived.Test.YtpgncndhhhllfaaGreatPart08
namespace Go.Proofs.YtpgncndhhhllfaaGreat
open Go Go.RowKit Go.Proofs.Tryz
set_option linter.unusedVariables false
set_option linter.unusedSimpArgs false
section
set_option maxRecDepth 100000
theorem Ur (a b:Nat) (ha:nw a<=1099511627776) (hb:nw b<=1099511627776) (w:World)  :Calls prog 137 #[(aG (Ag a)),(aG (Ag b))] w (A9 w (vI (DP a b))):=by
 refine Aq (args:=[(aG (Ag a)),(aG (Ag b))]) func137 O O (Ad O) (AE.subF (sL [0,1] O) (q4 (Ca (cs:=Ag a) O λb1=>Ca (cs:=Ag b) O λb2=>AI O (q6 (sL [2,3,4] O) (q4 (AJ (v:=(pP b1 1)) (AB O underlying58 O sizeOf9 O) O (BE 1 (Value.string (Bn a)) WU O (AJ (B_ (c:=(decide (a<18446744073709551616))) O O Cp) O (AM O ?_)))))))))
 refine AC.mid (FM:=[(2,(pP b1 0)),(3,(pP b2 0)),(4,(vI 0)),(5,(pP b1 1)),(6,(Value.string (Bn a))),(7,(Value.bool (decide (a<18446744073709551616)))),(8,(Value.bool (decide (a<18446744073709551616)))),(12,(Value.bool ((decide (a<18446744073709551616))&&(decide (b<18446744073709551616)))))]) (LM:=[Af b2 58 (Ag b),Af b1 58 (Ag a)]) 4 ?_ ?_
 ·rcases Bool.eq_false_or_eq_true (decide (a<18446744073709551616)) with hg1|hg1
  ·skip
   refine AC.retell (k:=8) (u:=Value.bool true) O (by rw [hg1]) ?_
   have hg1':=hg1
   replace hg1':=of_decide_eq_true hg1'
   exact AC.step (v:=(pP b2 1)) (AA O) (AB O underlying58 O sizeOf9 O) O (Ad O) (AC.step (v:=(Value.string (Bn b))) (AA O) (AS (i:=0) (v:=(Value.string (Bn b))) O O WU.a O) O (Ad O) (AC.step (v:=(Value.bool (decide (b<18446744073709551616)))) (AA O) (B_ (c:=(decide (b<18446744073709551616))) O O Cp) O (Ad O) (AJ (v:=(Value.bool (decide (b<18446744073709551616)))) (AW O O) O (AC.nil (OkQ.mid (sS O (sS O (sS O (sS O (sS O (sS O (sS (by first|rfl|(rw [hg1];rfl)|rw [hg1]) (sS (by first|rfl|(rw [hg1];rfl)|rw [hg1]) (sN))))))))) (List.Sublist.refl _))))))
  ·skip
   refine AC.retell (k:=8) (u:=Value.bool false) O (by rw [hg1]) ?_
   have hg1':=hg1
   replace hg1':=of_decide_eq_false hg1'
   exact AC.skip (AH O) O (Ad O) (AC.skip (AH O) O (Ad O) (AC.skip (AH O) O (Ad O) (AJ (v:=(Value.bool false)) (AT O O) O (AC.nil (OkQ.mid (sS O (sS O (sS O (sS O (sS O (sS O (sS (by first|rfl|(rw [hg1];rfl)|rw [hg1]) (sS (by first|rfl|(rw [hg1];rfl)|rw [hg1]) (sN))))))))) (List.Sublist.refl _))))))
 refine AC.nil (OkQ.subF (sL [2,3,4,12] O) (OkQ.then_ ?_))
 refine AE.jn0 (tg True) (tg [(2,(pP b1 0)),(3,(pP b2 0))]) (tg [Af b2 58 (Ag b),Af b1 58 (Ag a)]) ?_ ?_
 ·skip
  refine AE.cond O (λhc0=>?_) (λhc0=>?_)
  ·simp only [Bool.and_eq_true,Bool.or_eq_true,Bool.and_eq_false_iff,Bool.or_eq_false_iff,Bool.not_eq_true',Bool.not_eq_false',decide_eq_true_eq,decide_eq_false_iff_not] at hc0
   refine AE.seq (AE.block (q4 (AJ (v:=(pP b1 0)) (AB O underlying58 O sizeOf56 O) O (BE 1 (vK .u64 (CC a)) G_ O (AC.retell (k:=15) (u:=(vK .u64 a)) O (by rw [Bm hc0.1]) (AJ (v:=(pP b2 0)) (AB O underlying58 O sizeOf56 O) O (BE 0 (vK .u64 (CC b)) G_ O (AC.retell (k:=17) (u:=(vK .u64 b)) O (by rw [Bm hc0.2]) (AJ (Ac (c:=(decide (a<b))) O O (CD (a:=a) (b:=b))) O (AI O (AC.nil ?_)))))))))))
   refine OkQ.subF (sL [2,3,4,13] O) (OkQ.then_ ?_)
   refine AE.cond O (λhc1=>?_) (λhc1=>?_)
   ·replace hc1:=of_decide_eq_true hc1
    have hz:DP a b = -1:=if_pos hc1
    exact q4 (AI O (AC.nil (OkQ.then_ (AE.ret (OkQ.in_ret (OkQ.then_ret (OkQ.join0_ret (OkQ.then_ret (AV O (Ah (v:=(vI (-1:Int))) O) (λw hw=>⟨by rw [hz],hw.out⟩))))))))))
   ·replace hc1:=of_decide_eq_false hc1
    refine q4 (AJ (v:=(pP b1 0)) (AB O underlying58 O sizeOf56 O) O (BE 1 (vK .u64 (CC a)) G_ O (AC.retell (k:=21) (u:=(vK .u64 a)) O (by rw [Bm hc0.1]) (AJ (v:=(pP b2 0)) (AB O underlying58 O sizeOf56 O) O (BE 0 (vK .u64 (CC b)) G_ O (AC.retell (k:=23) (u:=(vK .u64 b)) O (by rw [Bm hc0.2]) (AJ (CY (c:=(decide (b<a))) O O (CD (a:=b) (b:=a))) O (AI O (AC.nil (OkQ.subF (sL [2,3,4,19] O) (OkQ.then_ ?_)))))))))))
    refine AE.cond O (λhc2=>?_) (λhc2=>?_)
    ·replace hc2:=of_decide_eq_true hc2
     have hz:DP a b=1:=by unfold DP;rw [if_neg Z,if_neg Z]
     exact q4 (AI O (AC.nil (OkQ.then_ (AE.ret (OkQ.in_ret (OkQ.then_ret (OkQ.join0_ret (OkQ.then_ret (AV O (Ah (v:=(vI 1)) O) (λw hw=>⟨by rw [hz],hw.out⟩))))))))))
    ·replace hc2:=of_decide_eq_false hc2
     have hz:DP a b=0:=NO.2 Z
     exact AE.skip (OkQ.in_normal (q2 (AI O (AC.nil (OkQ.then_ (AE.ret (OkQ.join0_ret (OkQ.then_ret (AV O (Ah (v:=(vI 0)) O) (λw hw=>⟨by rw [hz],hw.out⟩))))))))))
  ·simp only [Bool.and_eq_true,Bool.or_eq_true,Bool.and_eq_false_iff,Bool.or_eq_false_iff,Bool.not_eq_true',Bool.not_eq_false',decide_eq_true_eq,decide_eq_false_iff_not] at hc0
   exact AE.skip (OkQ.join0  (trivial) (sF O) sr)
 ·intro hJ
  refine q1 (Ck [(0,true),(2,true),(1,false),(3,false),(4,false),(5,true)] sr (G6 1 Cq O (G6 0 Cq O (OkE.imp O (AC.callB (V:=λb3=>(Value.slice (some ⟨b3,0,none⟩) (nw a) ((A8 a).length))) (T:=50) (cs:=Au (A8 a)) (AP O) (A_ (args:=[(aG (Ag a))]) O O call138) (λw hw=>DD a Z w) O (Ad O) λb3=>OkE.back (sl sr) (OkE.imp O (AC.callB (V:=λb4=>(Value.slice (some ⟨b4,0,none⟩) (nw b) ((A8 b).length))) (T:=50) (cs:=Au (A8 b)) (AP O) (A_ (args:=[(aG (Ag b))]) O O call138) (λw hw=>DD b Z w) O (Ad O) λb4=>OkE.back (sl (sl sr)) (OkE.imp O (DS call155 (λw hw=>ZQ a b _ _ _ _ Z Z w (hw.get (i:=1) O) (hw.get (i:=0) O)) O ?_)))))))))
  exact OkE.back (sl (sl sr)) (pS' O (OkE.nil (OkQ.subF (sL [2,3,4] O) (OkQ.then_ (AE.ret (AV O (Ah (v:=(vI (DP a b))) O) (λw hw=>⟨rfl,hw.out⟩)))))))
theorem aE (a b:Nat) (ha:nw a<=1099511627776) (hb:nw b<=1099511627776) (w:World)  :Calls prog 114 #[(aG (Ag a)),(aG (Ag b))] w (A9 w (aG (Ag (a+b)))):=by
 have hla:=CO a
 have hlb:=CO b
 refine Aq (args:=[(aG (Ag a)),(aG (Ag b))]) func114 O O (Ad O) (AE.subF (sL [0,1] O) (q4 (Ca (cs:=Ag a) O λb1=>Ca (cs:=Ag b) O λb2=>al GS O λb3=>q6 (sL [2,3,4] O) (q4 (AJ (v:=(pP b1 1)) (AB O underlying58 O sizeOf9 O) O (BE 2 (Value.string (Bn a)) WU O (AJ (B_ (c:=(decide (a<18446744073709551616))) O O Cp) O (AM O ?_))))))))
 refine AC.mid (FM:=[(2,(pP b1 0)),(3,(pP b2 0)),(4,(pP b3 0)),(13,(pP b1 1)),(14,(Value.string (Bn a))),(15,(Value.bool (decide (a<18446744073709551616)))),(16,(Value.bool (decide (a<18446744073709551616)))),(20,(Value.bool ((decide (a<18446744073709551616))&&(decide (b<18446744073709551616)))))]) (LM:=[Af b3 58 (Ag 0),Af b2 58 (Ag b),Af b1 58 (Ag a)]) 4 ?_ ?_
 ·rcases Bool.eq_false_or_eq_true (decide (a<18446744073709551616)) with hg1|hg1
  ·skip
   refine AC.retell (k:=16) (u:=Value.bool true) O (by rw [hg1]) ?_
   have hg1':=hg1
   replace hg1':=of_decide_eq_true hg1'
   exact AC.step (v:=(pP b2 1)) (AA O) (AB O underlying58 O sizeOf9 O) O (Ad O) (AC.step (v:=(Value.string (Bn b))) (AA O) (AS (i:=1) (v:=(Value.string (Bn b))) O O WU.a O) O (Ad O) (AC.step (v:=(Value.bool (decide (b<18446744073709551616)))) (AA O) (B_ (c:=(decide (b<18446744073709551616))) O O Cp) O (Ad O) (AJ (v:=(Value.bool (decide (b<18446744073709551616)))) (AW O O) O (AC.nil (OkQ.mid (sS O (sS O (sS O (sS O (sS O (sS O (sS (by first|rfl|(rw [hg1];rfl)|rw [hg1]) (sS (by first|rfl|(rw [hg1];rfl)|rw [hg1]) (sN))))))))) (List.Sublist.refl _))))))
  ·skip
   refine AC.retell (k:=16) (u:=Value.bool false) O (by rw [hg1]) ?_
   have hg1':=hg1
   replace hg1':=of_decide_eq_false hg1'
   exact AC.skip (AH O) O (Ad O) (AC.skip (AH O) O (Ad O) (AC.skip (AH O) O (Ad O) (AJ (v:=(Value.bool false)) (AT O O) O (AC.nil (OkQ.mid (sS O (sS O (sS O (sS O (sS O (sS O (sS (by first|rfl|(rw [hg1];rfl)|rw [hg1]) (sS (by first|rfl|(rw [hg1];rfl)|rw [hg1]) (sN))))))))) (List.Sublist.refl _))))))
 refine AC.nil (OkQ.subF (sL [2,3,4,20] O) (OkQ.then_ ?_))
 refine AE.jn0 (tg True) (tg [(2,(pP b1 0)),(3,(pP b2 0)),(4,(pP b3 0))]) (tg [Af b3 58 (Ag 0),Af b2 58 (Ag b),Af b1 58 (Ag a)]) ?_ ?_
 ·skip
  refine AE.cond O (λhc0=>?_) (λhc0=>?_)
  ·simp only [Bool.and_eq_true,Bool.or_eq_true,Bool.and_eq_false_iff,Bool.or_eq_false_iff,Bool.not_eq_true',Bool.not_eq_false',decide_eq_true_eq,decide_eq_false_iff_not] at hc0
   refine q4 (AJ (v:=(pP b1 0)) (AB O underlying58 O sizeOf56 O) O (BE 2 (vK .u64 (CC a)) G_ O (AC.retell (k:=23) (u:=(vK .u64 a)) O (by rw [Bm hc0.1]) (AJ (v:=(pP b2 0)) (AB O underlying58 O sizeOf56 O) O (BE 1 (vK .u64 (CC b)) G_ O (AC.retell (k:=25) (u:=(vK .u64 b)) O (by rw [Bm hc0.2]) (AJ (v:=(Value.tuple #[(vK .u64 ((a+b+0)%18446744073709551616)),(vK .u64 ((a+b+0)/18446744073709551616))])) (SA (args:=[(vK .u64 a),(vK .u64 b),(Value.int .u64 (0:Int))]) O O (λw=>S3 func143 (by kernel_rfl) (by kernel_rfl) (by kernel_rfl) (by kernel_rfl) a b 0 Z w)) O (AM O (AJ (Ab (v:=(vK .u64 ((a+b+0)%18446744073709551616))) O O) O (AJ (Ab (v:=(vK .u64 ((a+b+0)/18446744073709551616))) O O) O (AI O ?_)))))))))))
   refine AI O (q3 (sL [2,3,4,5,6] O) (AM O (AJ (BQ (c:=(decide (((a+b+0)/18446744073709551616)=0))) O O (JC (a:=(a+b+0)/18446744073709551616) (b:=0))) O (AC.nil (OkQ.subF (sL [2,3,4,5,30] O) (OkQ.then_ ?_))))))
   refine AE.cond O (λhc1=>?_) (λhc1=>?_)
   ·replace hc1:=of_decide_eq_true hc1
    exact q4 (AM O (AJ (v:=(aG ([(vK .u64 ((a+b+0)%18446744073709551616)),(Value.string (Bn 0))]))) (AY (zs:=Ag 0) (vs:=[(vK .u64 ((a+b+0)%18446744073709551616)),(Value.string (Bn 0))]) (pv:=[(0,(vK .u64 ((a+b+0)%18446744073709551616)))]) (places:=[(0,1),(1,1)]) zeroValue58 underlying58 (λw=>by simp [sizeOf9,sizeOf56]) O O) O (AC.retell (k:=32) (u:=(aG (Ag (a+b)))) O (by rw [De Z,show (a+b+0)%18446744073709551616=a+b by omega];rfl) (BN O sizeOf58 O (AC.nil (OkQ.subF (sL [2,3,4] O) (OkQ.then_ (AE.ret (OkQ.join0_ret (OkQ.then_ret (AV O (BP (i:=0) (cs:=Ag (a+b)) O O isAgg58 sizeOf58 O) (λw hw=>⟨rfl,hw.out⟩))))))))))))
   ·replace hc1:=of_decide_eq_false hc1
    exact AE.skip (OkQ.join0  (trivial) (sF O) sr)
  ·simp only [Bool.and_eq_true,Bool.or_eq_true,Bool.and_eq_false_iff,Bool.or_eq_false_iff,Bool.not_eq_true',Bool.not_eq_false',decide_eq_true_eq,decide_eq_false_iff_not] at hc0
   exact AE.skip (OkQ.join0  (trivial) (sF O) sr)
 ·intro hJ
  refine q1 (Ck [(0,true),(2,true),(1,false),(3,false),(4,true),(5,true)] sr (G6 2 Cq O (G6 1 Cq O (OkE.imp O (AC.callB (V:=λb4=>(Value.slice (some ⟨b4,0,none⟩) (nw a) ((A8 a).length))) (T:=50) (cs:=Au (A8 a)) (AP O) (A_ (args:=[(aG (Ag a))]) O O call138) (λw hw=>DD a Z w) O (Ad O) λb4=>OkE.back (sl sr) (OkE.imp O (AC.callB (V:=λb5=>(Value.slice (some ⟨b5,0,none⟩) (nw b) ((A8 b).length))) (T:=50) (cs:=Au (A8 b)) (AP O) (A_ (args:=[(aG (Ag b))]) O O call138) (λw hw=>DD b Z w) O (Ad O) λb5=>OkE.back (sl (sl sr)) (pS' O (pS' O ?_)))))))))
  refine OkE.nil (OkQ.subF (sL [2,3,4,7,8] O) (q1 (q4 (AM O (AJ (v:=(vN (nw a))) (AF O underlying224) O (AM O (AJ (v:=(vN (nw b))) (AF O underlying224) O (AJ (Ac (c:=(decide ((nw a)<(nw b)))) O O (CD (a:=nw a) (b:=nw b))) O (AC.nil (OkQ.subF (sL [2,3,4,7,8,41] O) (OkQ.then_ ?_)))))))))))
  refine AE.cond O (λhc2=>?_) (λhc2=>?_)
  ·replace hc2:=of_decide_eq_true hc2
   refine AE.region (AM O (AM O (AI O (AI O (q3 (sL [2,3,4,7,8] O) (AM O (AJ (v:=(vN (nw b))) (AF O underlying224) O (AJ (AQ (c:=(((nw b)+1:Nat):Int)) O O (AN (a:=nw b) (b:=1) Z)) O (AC.openV (V:=λb6=>(Value.slice (some ⟨b6,0,none⟩) ((nw b)+1) ((nw b)+1))) (T:=50) (cs:=Au (List.replicate ((nw b)+1) 0)) (AP O) (DG (m:=(nw b)+1) (c:=(nw b)+1) O O Z Z) O (Ad O) λb6=>AI O (q3 (sL [2,3,4,7,8,9] O) ?_))))))))))
   refine AM O (AM O (AC.copy_u32 (i:=0) (j:=1) (ns:=Au (AR b)) (cs':=Au (AR b++(List.replicate (nw b+1) 0).drop (AR b).length)) (L':=[Af b6 50 (Au (AR b++(List.replicate (nw b+1) 0).drop (AR b).length)),Af b5 50 (Au (A8 b)),Af b4 50 (Au (A8 a)),Af b3 58 (Ag 0),Af b2 58 (Ag b),Af b1 58 (Ag a)]) O (AP O) O O O O (by rw [MJ,Hj]) (BV _) (OP _) Z (by rw [BV];simp;try omega) (OV _ _) O (Ad O) (q3 (sL [2,3,4,7,8,9] O) (AI O (AC.nil (q1 (q4 (AM O (AJ (v:=(vN ((nw b)+1))) (AF O underlying224) O (AM O (AC.nil ?_)))))))))))
   refine OkQ.subF (sL [2,3,4,7,8,9,10,52,53] O) (OkQ.then_ (AE.block ?_))
   refine AE.lp3 (tg λ(i:Nat) (os:List Nat) (c:Nat)=>i<=nw b+1/\os.length=nw b+1/\W32 os/\c<=1/\val os+c*4294967296^i=b+val ((AR a).take i)) (tg λ(i:Nat) (os:List Nat) (c:Nat)=>[(4,(pP b3 0)),(8,(Value.slice (some ⟨b4,0,none⟩) (nw a) ((A8 a).length))),(9,(Value.slice (some ⟨b6,0,none⟩) ((nw b)+1) ((nw b)+1))),(52,(vN ((nw b)+1))),(53,(vN i)),(10,(vK .u32 c))]) (tg λ(i:Nat) (os:List Nat) (c:Nat)=>[Af b6 50 (Au os),Af b5 50 (Au (A8 b)),Af b4 50 (Au (A8 a)),Af b3 58 (Ag 0),Af b2 58 (Ag b),Af b1 58 (Ag a)]) (tg λ(i:Nat) (os:List Nat) (c:Nat)=>nw b+1-i) 0 (AR b++(List.replicate (nw b+1) 0).drop (AR b).length) 0 (⟨Nat.zero_le _,(FU b 1).1,(FU b 1).2.1,Z,by rw [(FU b 1).2.2];simp [val]⟩) (sF O) sr (λi os c hJ=>?_)
   obtain ⟨hi,hl,hw32,hcc,hv⟩:=hJ
   refine q4 (AJ (Ac (c:=(decide (i<((nw b)+1)))) O O (CD (a:=i) (b:=(nw b)+1))) O (AC.nil (q1 ?_)))
   refine AE.cond O (λhc3=>?_) (λhc3=>?_)
   ·replace hc3:=of_decide_eq_true hc3
    refine AE.skip (q1 (AE.block (q4 (AM O (AI O (q3 (sL [4,8,9,52,53,10,11] O) (AI O (AC.nil (q1 (q4 (AM O ?_)))))))))))
    refine AM O (AJ (v:=(vN (nw a))) (AF O underlying224) O (AJ (Ac (c:=(decide (i<(nw a)))) O O (CD (a:=i) (b:=nw a))) O (AC.nil (OkQ.subF (sL [4,8,9,52,53,10,11,12,59] O) (OkQ.then_ ?_)))))
    refine AE.jn0 (tg True) (tg [(4,(pP b3 0)),(8,(Value.slice (some ⟨b4,0,none⟩) (nw a) ((A8 a).length))),(9,(Value.slice (some ⟨b6,0,none⟩) ((nw b)+1) ((nw b)+1))),(52,(vN ((nw b)+1))),(53,(vN i)),(10,(vK .u32 c)),(11,(vN i)),(12,(vK .u32 ((AR a).getD i 0)))]) (tg [Af b6 50 (Au os),Af b5 50 (Au (A8 b)),Af b4 50 (Au (A8 a)),Af b3 58 (Ag 0),Af b2 58 (Ag b),Af b1 58 (Ag a)]) ?_ ?_
    ·skip
     refine AE.cond O (λhc4=>?_) (λhc4=>?_)
     ·replace hc4:=of_decide_eq_true hc4
      refine AE.region (AM O (AM O (AJ (v:=(pP b4 i)) (AO (j:=i) O O underlying224 sizeOf50 O Z (by simp)) O ?_)))
      have hx1:(A8 a).getD i 0<4294967296:=W32.getD (CS a) i
      exact AJ (AS (i:=2) (v:=(vK .u32 ((A8 a).getD i 0))) O O isAgg50 (BO (xs:=A8 a) (j:=i) Z)) O (AC.retell (k:=63) (u:=(vK .u32 ((AR a).getD i 0))) O (by rw [DZ hc4]) (AI O (AC.nil (OkQ.subF (sL [4,8,9,52,53,10,11,12] O) (OkQ.join0  (trivial) (sF O) sr)))))
     ·replace hc4:=of_decide_eq_false hc4
      exact AE.skip (OkQ.retell (k:=12) (u:=Value.int .u32 (((AR a).getD i 0:Nat):Int)) O (by rw [EX hc4];rfl) (OkQ.join0  (trivial) (sF O) sr))
    ·intro hJ
     refine OkQ.then_ (AE.region (AM O (AM O (AM O (AM O (AJ (v:=(pP b6 i)) (AO (j:=i) O O underlying224 sizeOf50 O Z (by simp)) O ?_))))))
     have hx2:os.getD i 0<4294967296:=W32.getD hw32 i
     refine AJ (AS (i:=0) (v:=(vK .u32 (os.getD i 0))) O O isAgg50 (BO (xs:=os) (j:=i) Z)) O (AM O (AM O ?_))
     have hya:=(Bv a).getD i
     have hyb:=(Bv b).getD i
     refine ck' call144 (Kn (os.getD i 0) ((AR a).getD i 0) c Z Z Z) O (AM O (AJ (Ab (v:=(vK .u32 (((os.getD i 0)+((AR a).getD i 0)+c)%4294967296))) O O) O (AJ (Ab (v:=(vK .u32 (((os.getD i 0)+((AR a).getD i 0)+c)/4294967296))) O O) O (AJ (v:=(pP b6 i)) (AO (j:=i) O O underlying224 sizeOf50 O Z (by simp)) O (AC.store' (i:=0) (off:=i) (vs:=[(vK .u32 (((os.getD i 0)+((AR a).getD i 0)+c)%4294967296))]) (cs':=Au (os.set i (((os.getD i 0)+((AR a).getD i 0)+c)%4294967296))) (L':=[Af b6 50 (Au (os.set i (((os.getD i 0)+((AR a).getD i 0)+c)%4294967296))),Af b5 50 (Au (A8 b)),Af b4 50 (Au (A8 a)),Af b3 58 (Ag 0),Af b2 58 (Ag b),Af b1 58 (Ag a)]) (AP O) O O O O O sizeOf50 O (Ch (BV _) Z) (CK Z) O (AI O (AC.nil (OkQ.subF (sL [4,8,9,52,53,10,11,12] O) (OkQ.in_normal (OkQ.then_ (AE.region ?_)))))))))))
     exact AJ (AQ (c:=((i+1:Nat):Int)) O O (AN (a:=i) (b:=1) Z)) O (AM O (AC.nil (OkQ.subF (sL [4,8,9,52,53,10,11,12] O) (OkQ.round3 (i+1) (os.set i ((os.getD i 0+(AR a).getD i 0+c)%4294967296)) ((os.getD i 0+(AR a).getD i 0+c)/4294967296) (⟨Z,by rw [List.length_set];exact hl,W32.set hw32 Z i,Z,N8 hl hc3 hv⟩) Z (sF O) sr))))
   ·replace hc3:=of_decide_eq_false hc3
    refine AE.exit (OkQ.then_exit (OkQ.round3_exit (OkQ.in_exit (q2 (AM O (DS call140 (λw hw=>JH _ ((nw b)+1) ((nw b)+1) os hw32 (by first|omega|(rw [rowN_length];omega)|simp|(simp;omega)) (by first|omega|simp|(simp;omega)) (by first|omega|simp|(simp;omega)) w (hw.get (i:=0) O)) O (AC.retell (k:=79) (u:=(aG (Ag (a+b)))) O (by rw [List.take_of_length_le (show os.length<=nw b+1 by omega),O4 (X:=b) (Y:=a) (c:=c) (i:=i) hl hw32 Z (UQ Z) (by rw [hv,DJ Z]),Nat.add_comm]) (Nx O sizeOf58 O (AC.nil (OkQ.subF (sL [4,8,9,52,53,10] O) (OkQ.then_ ?_)))))))))))
    exact AE.ret (AV O (BP (i:=3) (cs:=Ag (a+b)) O O isAgg58 sizeOf58 O) (λw hw=>⟨rfl,hw.out⟩))
  ·replace hc2:=of_decide_eq_false hc2
   refine AE.skip (q2 (AM O (AJ (v:=(vN (nw a))) (AF O underlying224) O (AJ (AQ (c:=(((nw a)+1:Nat):Int)) O O (AN (a:=nw a) (b:=1) Z)) O (AC.openV (V:=λb6=>(Value.slice (some ⟨b6,0,none⟩) ((nw a)+1) ((nw a)+1))) (T:=50) (cs:=Au (List.replicate ((nw a)+1) 0)) (AP O) (DG (m:=(nw a)+1) (c:=(nw a)+1) O O Z Z) O (Ad O) λb6=>AI O (q3 (sL [2,3,4,7,8,9] O) (AM O (AM O (AC.copy_u32 (i:=0) (j:=2) (ns:=Au (AR a)) (cs':=Au (AR a++(List.replicate (nw a+1) 0).drop (AR a).length)) (L':=[Af b6 50 (Au (AR a++(List.replicate (nw a+1) 0).drop (AR a).length)),Af b5 50 (Au (A8 b)),Af b4 50 (Au (A8 a)),Af b3 58 (Ag 0),Af b2 58 (Ag b),Af b1 58 (Ag a)]) O (AP O) O O O O (by rw [MJ,Hj]) (BV _) (OP _) Z (by rw [BV];simp;try omega) (OV _ _) O (Ad O) (q3 (sL [2,3,4,7,8,9] O) ?_))))))))))
   refine AI O (AC.nil (q1 (q4 (AM O (AJ (v:=(vN ((nw a)+1))) (AF O underlying224) O (AM O (AC.nil (OkQ.subF (sL [2,3,4,7,8,9,10,52,53] O) (OkQ.then_ (AE.block ?_))))))))))
   refine AE.lp3 (tg λ(i:Nat) (os:List Nat) (c:Nat)=>i<=nw a+1/\os.length=nw a+1/\W32 os/\c<=1/\val os+c*4294967296^i=a+val ((AR b).take i)) (tg λ(i:Nat) (os:List Nat) (c:Nat)=>[(4,(pP b3 0)),(8,(Value.slice (some ⟨b5,0,none⟩) (nw b) ((A8 b).length))),(9,(Value.slice (some ⟨b6,0,none⟩) ((nw a)+1) ((nw a)+1))),(52,(vN ((nw a)+1))),(53,(vN i)),(10,(vK .u32 c))]) (tg λ(i:Nat) (os:List Nat) (c:Nat)=>[Af b6 50 (Au os),Af b5 50 (Au (A8 b)),Af b4 50 (Au (A8 a)),Af b3 58 (Ag 0),Af b2 58 (Ag b),Af b1 58 (Ag a)]) (tg λ(i:Nat) (os:List Nat) (c:Nat)=>nw a+1-i) 0 (AR a++(List.replicate (nw a+1) 0).drop (AR a).length) 0 (⟨Nat.zero_le _,(FU a 1).1,(FU a 1).2.1,Z,by rw [(FU a 1).2.2];simp [val]⟩) (sF O) sr (λi os c hJ=>?_)
   obtain ⟨hi,hl,hw32,hcc,hv⟩:=hJ
   refine q4 (AJ (Ac (c:=(decide (i<((nw a)+1)))) O O (CD (a:=i) (b:=(nw a)+1))) O (AC.nil (q1 ?_)))
   refine AE.cond O (λhc3=>?_) (λhc3=>?_)
   ·replace hc3:=of_decide_eq_true hc3
    refine AE.skip (q1 (AE.block (q4 (AM O (AI O (q3 (sL [4,8,9,52,53,10,11] O) (AI O (AC.nil (q1 (q4 (AM O ?_)))))))))))
    refine AM O (AJ (v:=(vN (nw b))) (AF O underlying224) O (AJ (Ac (c:=(decide (i<(nw b)))) O O (CD (a:=i) (b:=nw b))) O (AC.nil (OkQ.subF (sL [4,8,9,52,53,10,11,12,59] O) (OkQ.then_ ?_)))))
    refine AE.jn0 (tg True) (tg [(4,(pP b3 0)),(8,(Value.slice (some ⟨b5,0,none⟩) (nw b) ((A8 b).length))),(9,(Value.slice (some ⟨b6,0,none⟩) ((nw a)+1) ((nw a)+1))),(52,(vN ((nw a)+1))),(53,(vN i)),(10,(vK .u32 c)),(11,(vN i)),(12,(vK .u32 ((AR b).getD i 0)))]) (tg [Af b6 50 (Au os),Af b5 50 (Au (A8 b)),Af b4 50 (Au (A8 a)),Af b3 58 (Ag 0),Af b2 58 (Ag b),Af b1 58 (Ag a)]) ?_ ?_
    ·skip
     refine AE.cond O (λhc4=>?_) (λhc4=>?_)
     ·replace hc4:=of_decide_eq_true hc4
      refine AE.region (AM O (AM O (AJ (v:=(pP b5 i)) (AO (j:=i) O O underlying224 sizeOf50 O Z (by simp)) O ?_)))
      have hx3:(A8 b).getD i 0<4294967296:=W32.getD (CS b) i
      exact AJ (AS (i:=1) (v:=(vK .u32 ((A8 b).getD i 0))) O O isAgg50 (BO (xs:=A8 b) (j:=i) Z)) O (AC.retell (k:=63) (u:=(vK .u32 ((AR b).getD i 0))) O (by rw [DZ hc4]) (AI O (AC.nil (OkQ.subF (sL [4,8,9,52,53,10,11,12] O) (OkQ.join0  (trivial) (sF O) sr)))))
     ·replace hc4:=of_decide_eq_false hc4
      exact AE.skip (OkQ.retell (k:=12) (u:=Value.int .u32 (((AR b).getD i 0:Nat):Int)) O (by rw [EX hc4];rfl) (OkQ.join0  (trivial) (sF O) sr))
    ·intro hJ
     refine OkQ.then_ (AE.region (AM O (AM O (AM O (AM O (AJ (v:=(pP b6 i)) (AO (j:=i) O O underlying224 sizeOf50 O Z (by simp)) O ?_))))))
     have hx4:os.getD i 0<4294967296:=W32.getD hw32 i
     refine AJ (AS (i:=0) (v:=(vK .u32 (os.getD i 0))) O O isAgg50 (BO (xs:=os) (j:=i) Z)) O (AM O (AM O ?_))
     have hya:=(Bv a).getD i
     have hyb:=(Bv b).getD i
     refine ck' call144 (Kn (os.getD i 0) ((AR b).getD i 0) c Z Z Z) O (AM O (AJ (Ab (v:=(vK .u32 (((os.getD i 0)+((AR b).getD i 0)+c)%4294967296))) O O) O (AJ (Ab (v:=(vK .u32 (((os.getD i 0)+((AR b).getD i 0)+c)/4294967296))) O O) O (AJ (v:=(pP b6 i)) (AO (j:=i) O O underlying224 sizeOf50 O Z (by simp)) O (AC.store' (i:=0) (off:=i) (vs:=[(vK .u32 (((os.getD i 0)+((AR b).getD i 0)+c)%4294967296))]) (cs':=Au (os.set i (((os.getD i 0)+((AR b).getD i 0)+c)%4294967296))) (L':=[Af b6 50 (Au (os.set i (((os.getD i 0)+((AR b).getD i 0)+c)%4294967296))),Af b5 50 (Au (A8 b)),Af b4 50 (Au (A8 a)),Af b3 58 (Ag 0),Af b2 58 (Ag b),Af b1 58 (Ag a)]) (AP O) O O O O O sizeOf50 O (Ch (BV _) Z) (CK Z) O (AI O (AC.nil (OkQ.subF (sL [4,8,9,52,53,10,11,12] O) (OkQ.in_normal (OkQ.then_ (AE.region ?_)))))))))))
     exact AJ (AQ (c:=((i+1:Nat):Int)) O O (AN (a:=i) (b:=1) Z)) O (AM O (AC.nil (OkQ.subF (sL [4,8,9,52,53,10,11,12] O) (OkQ.round3 (i+1) (os.set i ((os.getD i 0+(AR b).getD i 0+c)%4294967296)) ((os.getD i 0+(AR b).getD i 0+c)/4294967296) (⟨Z,by rw [List.length_set];exact hl,W32.set hw32 Z i,Z,N8 hl hc3 hv⟩) Z (sF O) sr))))
   ·replace hc3:=of_decide_eq_false hc3
    refine AE.exit (OkQ.then_exit (OkQ.round3_exit (OkQ.in_exit (q2 (AM O (DS call140 (λw hw=>JH _ ((nw a)+1) ((nw a)+1) os hw32 (by first|omega|(rw [rowN_length];omega)|simp|(simp;omega)) (by first|omega|simp|(simp;omega)) (by first|omega|simp|(simp;omega)) w (hw.get (i:=0) O)) O (AC.retell (k:=79) (u:=(aG (Ag (a+b)))) O (by rw [List.take_of_length_le (show os.length<=nw a+1 by omega),O4 (X:=a) (Y:=b) (c:=c) (i:=i) hl hw32 Z (UQ Z) (by rw [hv,DJ Z])]) (Nx O sizeOf58 O (AC.nil (OkQ.subF (sL [4,8,9,52,53,10] O) (OkQ.then_ ?_)))))))))))
    exact AE.ret (AV O (BP (i:=3) (cs:=Ag (a+b)) O O isAgg58 sizeOf58 O) (λw hw=>⟨rfl,hw.out⟩))
end
end Go.Proofs.YtpgncndhhhllfaaGreat
