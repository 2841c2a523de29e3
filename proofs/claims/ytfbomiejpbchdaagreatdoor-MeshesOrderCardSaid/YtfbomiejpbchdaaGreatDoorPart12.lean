import Derived.Test.YtfbomiejpbchdaaGreatDoorPart06
import Derived.Test.YtfbomiejpbchdaaGreatDoorPart11
namespace Go.Proofs.YtfbomiejpbchdaaGreatDoor
open Go Go.RowKit Go.Proofs.Tryz
set_option linter.unusedVariables false
set_option linter.unusedSimpArgs false
section
set_option maxRecDepth 100000
theorem Sn (a b:Nat) (ha:nw a<=1099511627776) (hb:nw b<=1099511627776) (w:World)  :Calls prog 139 #[(aG (AU a)),(aG (AU b))] w (Ak w (vI (E9 a b))):=by
 refine Ab (args:=[(aG (AU a)),(aG (AU b))]) func139 O O (Ad O) (AF.subF (sL [0,1] O) (q4 (Bk (cs:=AU a) O λb1=>Bk (cs:=AU b) O λb2=>AJ O ?_)))
 refine q6 (sL [2,3,4] O) (q4 (AH (v:=(pP b1 1)) (AA O underlying55 O sizeOf9 O) O (BN 1 (Value.string (Bf a)) Qu O (AH (Bh (c:=(decide (a<18446744073709551616))) O O CT) O (AP O ?_)))))
 refine AE.mid (FM:=[(2,(pP b1 0)),(3,(pP b2 0)),(4,(vI 0)),(5,(pP b1 1)),(6,(Value.string (Bf a))),(7,(Value.bool (decide (a<18446744073709551616)))),(8,(Value.bool (decide (a<18446744073709551616)))),(12,(Value.bool ((decide (a<18446744073709551616))&&(decide (b<18446744073709551616)))))]) (LM:=[Ae b2 55 (AU b),Ae b1 55 (AU a)]) 4 ?_ ?_
 ·rcases Bool.eq_false_or_eq_true (decide (a<18446744073709551616)) with hg1|hg1
  ·skip
   refine AE.retell (k:=8) (u:=Value.bool true) O (by rw [hg1]) ?_
   have hg1':=hg1
   replace hg1':=of_decide_eq_true hg1'
   exact AE.step (v:=(pP b2 1)) (AB O) (AA O underlying55 O sizeOf9 O) O (Ad O) (AE.step (v:=(Value.string (Bf b))) (AB O) (AM (i:=0) (v:=(Value.string (Bf b))) O O Qu.a O) O (Ad O) (AE.step (v:=(Value.bool (decide (b<18446744073709551616)))) (AB O) (Bh (c:=(decide (b<18446744073709551616))) O O CT) O (Ad O) (AH (v:=(Value.bool (decide (b<18446744073709551616)))) (Al O O) O (AE.nil (AD.mid (sS O (sS O (sS O (sS O (sS O (sS O (sS (by first|rfl|(rw [hg1];rfl)|rw [hg1]) (sS (by first|rfl|(rw [hg1];rfl)|rw [hg1]) (sN))))))))) (List.Sublist.refl _))))))
  ·skip
   refine AE.retell (k:=8) (u:=Value.bool false) O (by rw [hg1]) ?_
   have hg1':=hg1
   replace hg1':=of_decide_eq_false hg1'
   exact AE.skip (AV O) O (Ad O) (AE.skip (AV O) O (Ad O) (AE.skip (AV O) O (Ad O) (AH (v:=(Value.bool false)) (AW O O) O (AE.nil (AD.mid (sS O (sS O (sS O (sS O (sS O (sS O (sS (by first|rfl|(rw [hg1];rfl)|rw [hg1]) (sS (by first|rfl|(rw [hg1];rfl)|rw [hg1]) (sN))))))))) (List.Sublist.refl _))))))
 refine AE.nil (AD.subF (sL [2,3,4,12] O) (AD.then_ ?_))
 refine AF.jn0 (tg True) (tg [(2,(pP b1 0)),(3,(pP b2 0))]) (tg [Ae b2 55 (AU b),Ae b1 55 (AU a)]) ?_ ?_
 ·skip
  refine AF.cond O (λhc0=>?_) (λhc0=>?_)
  ·simp only [Bool.and_eq_true,Bool.or_eq_true,Bool.and_eq_false_iff,Bool.or_eq_false_iff,Bool.not_eq_true',Bool.not_eq_false',decide_eq_true_eq,decide_eq_false_iff_not] at hc0
   refine AF.seq (AF.block (q4 (AH (v:=(pP b1 0)) (AA O underlying55 O sizeOf53 O) O (BN 1 (vK .u64 (Bx a)) Fw O (AE.retell (k:=15) (u:=(vK .u64 a)) O (by rw [Be hc0.1]) ?_)))))
   refine AH (v:=(pP b2 0)) (AA O underlying55 O sizeOf53 O) O (BN 0 (vK .u64 (Bx b)) Fw O (AE.retell (k:=17) (u:=(vK .u64 b)) O (by rw [Be hc0.2]) (AH (Af (c:=(decide (a<b))) O O (DB (a:=a) (b:=b))) O (AJ O (AE.nil ?_)))))
   refine AD.subF (sL [2,3,4,13] O) (AD.then_ ?_)
   refine AF.cond O (λhc1=>?_) (λhc1=>?_)
   ·replace hc1:=of_decide_eq_true hc1
    have hz:E9 a b = -1:=if_pos hc1
    refine q4 (AJ O (AE.nil (AD.then_ (AF.ret (AD.in_ret ?_)))))
    exact AD.then_ret (AD.join0_ret (AD.then_ret (AN O (Ac (v:=(vI (-1:Int))) O) (λw hw=>⟨by rw [hz],hw.out⟩))))
   ·replace hc1:=of_decide_eq_false hc1
    refine q4 (AH (v:=(pP b1 0)) (AA O underlying55 O sizeOf53 O) O (BN 1 (vK .u64 (Bx a)) Fw O (AE.retell (k:=21) (u:=(vK .u64 a)) O (by rw [Be hc0.1]) (AH (v:=(pP b2 0)) (AA O underlying55 O sizeOf53 O) O (BN 0 (vK .u64 (Bx b)) Fw O ?_)))))
    refine AE.retell (k:=23) (u:=(vK .u64 b)) O (by rw [Be hc0.2]) (AH (Cx (c:=(decide (b<a))) O O (DB (a:=b) (b:=a))) O (AJ O (AE.nil (AD.subF (sL [2,3,4,19] O) (AD.then_ ?_)))))
    refine AF.cond O (λhc2=>?_) (λhc2=>?_)
    ·replace hc2:=of_decide_eq_true hc2
     have hz:E9 a b=1:=by unfold E9;rw [if_neg Z,if_neg Z]
     refine q4 (AJ O (AE.nil (AD.then_ (AF.ret (AD.in_ret ?_)))))
     exact AD.then_ret (AD.join0_ret (AD.then_ret (AN O (Ac (v:=(vI 1)) O) (λw hw=>⟨by rw [hz],hw.out⟩))))
    ·replace hc2:=of_decide_eq_false hc2
     have hz:E9 a b=0:=Om.2 Z
     refine AF.skip (AD.in_normal (q2 (AJ O (AE.nil (AD.then_ ?_)))))
     exact AF.ret (AD.join0_ret (AD.then_ret (AN O (Ac (v:=(vI 0)) O) (λw hw=>⟨by rw [hz],hw.out⟩))))
  ·simp only [Bool.and_eq_true,Bool.or_eq_true,Bool.and_eq_false_iff,Bool.or_eq_false_iff,Bool.not_eq_true',Bool.not_eq_false',decide_eq_true_eq,decide_eq_false_iff_not] at hc0
   exact AF.skip (AD.join0  (trivial) (sF O) sr)
 ·intro hJ
  refine q1 (DA [(0,true),(2,true),(1,false),(3,false),(4,false),(5,true)] sr (E7 1 Bz O (E7 0 Bz O (AS.imp O (AE.callB (V:=λb3=>(Value.slice (some ⟨b3,0,none⟩) (nw a) ((Au a).length))) (T:=83) (cs:=Ai (Au a)) (AQ O) (Ax (args:=[(aG (AU a))]) O O call108) (λw hw=>C3 a Z w) O (Ad O) λb3=>?_)))))
  refine AS.back (sl sr) (AS.imp O (AE.callB (V:=λb4=>(Value.slice (some ⟨b4,0,none⟩) (nw b) ((Au b).length))) (T:=83) (cs:=Ai (Au b)) (AQ O) (Ax (args:=[(aG (AU b))]) O O call108) (λw hw=>C3 b Z w) O (Ad O) λb4=>AS.back (sl (sl sr)) (AS.imp O (Ef call182 (λw hw=>WB a b _ _ _ _ Z Z w (hw.get (i:=1) O) (hw.get (i:=0) O)) O ?_))))
  exact AS.back (sl (sl sr)) (Ez O (AS.nil (AD.subF (sL [2,3,4] O) (AD.then_ (AF.ret (AN O (Ac (v:=(vI (E9 a b))) O) (λw hw=>⟨rfl,hw.out⟩)))))))
theorem RG (a b:Nat) (ha:nw a<=1099511627776) (hb:nw b<=1099511627776) (w:World)  :Calls prog 104 #[(aG (AU a)),(aG (AU b))] w (Ak w (aG (AU (a+b)))):=by
 have hla:=CH a
 have hlb:=CH b
 refine Ab (args:=[(aG (AU a)),(aG (AU b))]) func104 O O (Ad O) (AF.subF (sL [0,1] O) (q4 (Bk (cs:=AU a) O λb1=>Bk (cs:=AU b) O λb2=>al FR O λb3=>?_)))
 refine q6 (sL [2,3,4] O) (q4 (AH (v:=(pP b1 1)) (AA O underlying55 O sizeOf9 O) O (BN 2 (Value.string (Bf a)) Qu O (AH (Bh (c:=(decide (a<18446744073709551616))) O O CT) O (AP O ?_)))))
 refine AE.mid (FM:=[(2,(pP b1 0)),(3,(pP b2 0)),(4,(pP b3 0)),(13,(pP b1 1)),(14,(Value.string (Bf a))),(15,(Value.bool (decide (a<18446744073709551616)))),(16,(Value.bool (decide (a<18446744073709551616)))),(20,(Value.bool ((decide (a<18446744073709551616))&&(decide (b<18446744073709551616)))))]) (LM:=[Ae b3 55 (AU 0),Ae b2 55 (AU b),Ae b1 55 (AU a)]) 4 ?_ ?_
 ·rcases Bool.eq_false_or_eq_true (decide (a<18446744073709551616)) with hg1|hg1
  ·skip
   refine AE.retell (k:=16) (u:=Value.bool true) O (by rw [hg1]) ?_
   have hg1':=hg1
   replace hg1':=of_decide_eq_true hg1'
   exact AE.step (v:=(pP b2 1)) (AB O) (AA O underlying55 O sizeOf9 O) O (Ad O) (AE.step (v:=(Value.string (Bf b))) (AB O) (AM (i:=1) (v:=(Value.string (Bf b))) O O Qu.a O) O (Ad O) (AE.step (v:=(Value.bool (decide (b<18446744073709551616)))) (AB O) (Bh (c:=(decide (b<18446744073709551616))) O O CT) O (Ad O) (AH (v:=(Value.bool (decide (b<18446744073709551616)))) (Al O O) O (AE.nil (AD.mid (sS O (sS O (sS O (sS O (sS O (sS O (sS (by first|rfl|(rw [hg1];rfl)|rw [hg1]) (sS (by first|rfl|(rw [hg1];rfl)|rw [hg1]) (sN))))))))) (List.Sublist.refl _))))))
  ·skip
   refine AE.retell (k:=16) (u:=Value.bool false) O (by rw [hg1]) ?_
   have hg1':=hg1
   replace hg1':=of_decide_eq_false hg1'
   exact AE.skip (AV O) O (Ad O) (AE.skip (AV O) O (Ad O) (AE.skip (AV O) O (Ad O) (AH (v:=(Value.bool false)) (AW O O) O (AE.nil (AD.mid (sS O (sS O (sS O (sS O (sS O (sS O (sS (by first|rfl|(rw [hg1];rfl)|rw [hg1]) (sS (by first|rfl|(rw [hg1];rfl)|rw [hg1]) (sN))))))))) (List.Sublist.refl _))))))
 refine AE.nil (AD.subF (sL [2,3,4,20] O) (AD.then_ ?_))
 refine AF.jn0 (tg True) (tg [(2,(pP b1 0)),(3,(pP b2 0)),(4,(pP b3 0))]) (tg [Ae b3 55 (AU 0),Ae b2 55 (AU b),Ae b1 55 (AU a)]) ?_ ?_
 ·skip
  refine AF.cond O (λhc0=>?_) (λhc0=>?_)
  ·simp only [Bool.and_eq_true,Bool.or_eq_true,Bool.and_eq_false_iff,Bool.or_eq_false_iff,Bool.not_eq_true',Bool.not_eq_false',decide_eq_true_eq,decide_eq_false_iff_not] at hc0
   refine q4 (AH (v:=(pP b1 0)) (AA O underlying55 O sizeOf53 O) O (BN 2 (vK .u64 (Bx a)) Fw O (AE.retell (k:=23) (u:=(vK .u64 a)) O (by rw [Be hc0.1]) (AH (v:=(pP b2 0)) (AA O underlying55 O sizeOf53 O) O (BN 1 (vK .u64 (Bx b)) Fw O ?_)))))
   refine AE.retell (k:=25) (u:=(vK .u64 b)) O (by rw [Be hc0.2]) (AH (v:=(Value.tuple #[(vK .u64 ((a+b+0)%18446744073709551616)),(vK .u64 ((a+b+0)/18446744073709551616))])) (Qj (args:=[(vK .u64 a),(vK .u64 b),(Value.int .u64 (0:Int))]) O O (λw=>QA func143 (by kernel_rfl) (by kernel_rfl) (by kernel_rfl) (by kernel_rfl) a b 0 Z w)) O (AP O (AH (Aa (v:=(vK .u64 ((a+b+0)%18446744073709551616))) O O) O (AH (Aa (v:=(vK .u64 ((a+b+0)/18446744073709551616))) O O) O (AJ O ?_)))))
   refine AJ O (q3 (sL [2,3,4,5,6] O) (AP O (AH (BZ (c:=(decide (((a+b+0)/18446744073709551616)=0))) O O (NU (a:=(a+b+0)/18446744073709551616) (b:=0))) O (AE.nil (AD.subF (sL [2,3,4,5,30] O) ?_)))))
   refine AD.then_ ?_
   refine AF.cond O (λhc1=>?_) (λhc1=>?_)
   ·replace hc1:=of_decide_eq_true hc1
    refine q4 (AP O (AH (v:=(aG ([(vK .u64 ((a+b+0)%18446744073709551616)),(Value.string (Bf 0))]))) (AT (zs:=AU 0) (vs:=[(vK .u64 ((a+b+0)%18446744073709551616)),(Value.string (Bf 0))]) (pv:=[(0,(vK .u64 ((a+b+0)%18446744073709551616)))]) (places:=[(0,1),(1,1)]) zeroValue55 underlying55 (λw=>by simp [sizeOf9,sizeOf53]) O O) O (AE.retell (k:=32) (u:=(aG (AU (a+b)))) O (by rw [DO Z,show (a+b+0)%18446744073709551616=a+b by omega];rfl) (Aq O sizeOf55 O (AE.nil ?_)))))
    exact AD.subF (sL [2,3,4] O) (AD.then_ (AF.ret (AD.join0_ret (AD.then_ret (AN O (A7 (i:=0) (cs:=AU (a+b)) O O isAgg55 sizeOf55 O) (λw hw=>⟨rfl,hw.out⟩))))))
   ·replace hc1:=of_decide_eq_false hc1
    exact AF.skip (AD.join0  (trivial) (sF O) sr)
  ·simp only [Bool.and_eq_true,Bool.or_eq_true,Bool.and_eq_false_iff,Bool.or_eq_false_iff,Bool.not_eq_true',Bool.not_eq_false',decide_eq_true_eq,decide_eq_false_iff_not] at hc0
   exact AF.skip (AD.join0  (trivial) (sF O) sr)
 ·intro hJ
  refine q1 (DA [(0,true),(2,true),(1,false),(3,false),(4,true),(5,true)] sr (E7 2 Bz O (E7 1 Bz O (AS.imp O (AE.callB (V:=λb4=>(Value.slice (some ⟨b4,0,none⟩) (nw a) ((Au a).length))) (T:=83) (cs:=Ai (Au a)) (AQ O) (Ax (args:=[(aG (AU a))]) O O call108) (λw hw=>C3 a Z w) O (Ad O) λb4=>?_)))))
  refine AS.back (sl sr) (AS.imp O (AE.callB (V:=λb5=>(Value.slice (some ⟨b5,0,none⟩) (nw b) ((Au b).length))) (T:=83) (cs:=Ai (Au b)) (AQ O) (Ax (args:=[(aG (AU b))]) O O call108) (λw hw=>C3 b Z w) O (Ad O) λb5=>AS.back (sl (sl sr)) (Ez O (Ez O ?_))))
  refine AS.nil (AD.subF (sL [2,3,4,7,8] O) (q1 (q4 (AP O (AH (v:=(vN (nw a))) (AG O underlying187) O ?_)))))
  refine AP O (AH (v:=(vN (nw b))) (AG O underlying187) O (AH (Af (c:=(decide ((nw a)<(nw b)))) O O (DB (a:=nw a) (b:=nw b))) O (AE.nil (AD.subF (sL [2,3,4,7,8,41] O) (AD.then_ ?_)))))
  refine AF.cond O (λhc2=>?_) (λhc2=>?_)
  ·replace hc2:=of_decide_eq_true hc2
   refine AF.region (AP O (AP O (AJ O (AJ O (q3 (sL [2,3,4,7,8] O) ?_)))))
   refine AP O (AH (v:=(vN (nw b))) (AG O underlying187) O (AH (AX (c:=(((nw b)+1:Nat):Int)) O O (AZ (a:=nw b) (b:=1) Z)) O (AE.openV (V:=λb6=>(Value.slice (some ⟨b6,0,none⟩) ((nw b)+1) ((nw b)+1))) (T:=83) (cs:=Ai (List.replicate ((nw b)+1) 0)) (AQ O) (Cw (m:=(nw b)+1) (c:=(nw b)+1) O O Z Z) O (Ad O) λb6=>AJ O (q3 (sL [2,3,4,7,8,9] O) ?_))))
   refine AP O (AP O (AE.copy_u32 (i:=0) (j:=1) (ns:=Ai (AL b)) (cs':=Ai (AL b++(List.replicate (nw b+1) 0).drop (AL b).length)) (L':=[Ae b6 83 (Ai (AL b++(List.replicate (nw b+1) 0).drop (AL b).length)),Ae b5 83 (Ai (Au b)),Ae b4 83 (Ai (Au a)),Ae b3 55 (AU 0),Ae b2 55 (AU b),Ae b1 55 (AU a)]) O (AQ O) O O O O (by rw [LT,HO]) (BP _) (NB _) Z (by rw [BP];simp;try omega) (Mt _ _) O (Ad O) (q3 (sL [2,3,4,7,8,9] O) (AJ O (AE.nil ?_)))))
   refine q1 (q4 (AP O (AH (v:=(vN ((nw b)+1))) (AG O underlying187) O (AP O (AE.nil ?_)))))
   refine AD.subF (sL [2,3,4,7,8,9,10,52,53] O) (AD.then_ (AF.block ?_))
   refine AF.lp3 (tg λ(i:Nat) (os:List Nat) (c:Nat)=>i<=nw b+1/\os.length=nw b+1/\W32 os/\c<=1/\val os+c*4294967296^i=b+val ((AL a).take i)) (tg λ(i:Nat) (os:List Nat) (c:Nat)=>[(4,(pP b3 0)),(8,(Value.slice (some ⟨b4,0,none⟩) (nw a) ((Au a).length))),(9,(Value.slice (some ⟨b6,0,none⟩) ((nw b)+1) ((nw b)+1))),(52,(vN ((nw b)+1))),(53,(vN i)),(10,(vK .u32 c))]) (tg λ(i:Nat) (os:List Nat) (c:Nat)=>[Ae b6 83 (Ai os),Ae b5 83 (Ai (Au b)),Ae b4 83 (Ai (Au a)),Ae b3 55 (AU 0),Ae b2 55 (AU b),Ae b1 55 (AU a)]) (tg λ(i:Nat) (os:List Nat) (c:Nat)=>nw b+1-i) 0 (AL b++(List.replicate (nw b+1) 0).drop (AL b).length) 0 (⟨Nat.zero_le _,(FA b 1).1,(FA b 1).2.1,Z,by rw [(FA b 1).2.2];simp [val]⟩) (sF O) sr (λi os c hJ=>?_)
   obtain ⟨hi,hl,hw32,hcc,hv⟩:=hJ
   refine q4 (AH (Af (c:=(decide (i<((nw b)+1)))) O O (DB (a:=i) (b:=(nw b)+1))) O (AE.nil (q1 ?_)))
   refine AF.cond O (λhc3=>?_) (λhc3=>?_)
   ·replace hc3:=of_decide_eq_true hc3
    refine AF.skip (q1 (AF.block (q4 (AP O (AJ O ?_)))))
    refine q3 (sL [4,8,9,52,53,10,11] O) (AJ O (AE.nil (q1 (q4 (AP O ?_)))))
    refine AP O (AH (v:=(vN (nw a))) (AG O underlying187) O (AH (Af (c:=(decide (i<(nw a)))) O O (DB (a:=i) (b:=nw a))) O (AE.nil (AD.subF (sL [4,8,9,52,53,10,11,12,59] O) (AD.then_ ?_)))))
    refine AF.jn0 (tg True) (tg [(4,(pP b3 0)),(8,(Value.slice (some ⟨b4,0,none⟩) (nw a) ((Au a).length))),(9,(Value.slice (some ⟨b6,0,none⟩) ((nw b)+1) ((nw b)+1))),(52,(vN ((nw b)+1))),(53,(vN i)),(10,(vK .u32 c)),(11,(vN i)),(12,(vK .u32 ((AL a).getD i 0)))]) (tg [Ae b6 83 (Ai os),Ae b5 83 (Ai (Au b)),Ae b4 83 (Ai (Au a)),Ae b3 55 (AU 0),Ae b2 55 (AU b),Ae b1 55 (AU a)]) ?_ ?_
    ·skip
     refine AF.cond O (λhc4=>?_) (λhc4=>?_)
     ·replace hc4:=of_decide_eq_true hc4
      refine AF.region (AP O (AP O (AH (v:=(pP b4 i)) (AI (j:=i) O O underlying187 sizeOf83 O Z (by simp)) O ?_)))
      have hx1:(Au a).getD i 0<4294967296:=W32.getD (CM a) i
      exact AH (AM (i:=2) (v:=(vK .u32 ((Au a).getD i 0))) O O isAgg83 (BI (xs:=Au a) (j:=i) Z)) O (AE.retell (k:=63) (u:=(vK .u32 ((AL a).getD i 0))) O (by rw [DI hc4]) (AJ O (AE.nil (AD.subF (sL [4,8,9,52,53,10,11,12] O) (AD.join0  (trivial) (sF O) sr)))))
     ·replace hc4:=of_decide_eq_false hc4
      exact AF.skip (AD.retell (k:=12) (u:=Value.int .u32 (((AL a).getD i 0:Nat):Int)) O (by rw [D1 hc4];rfl) (AD.join0  (trivial) (sF O) sr))
    ·intro hJ
     refine AD.then_ (AF.region (AP O (AP O (AP O (AP O ?_)))))
     refine AH (v:=(pP b6 i)) (AI (j:=i) O O underlying187 sizeOf83 O Z (by simp)) O ?_
     have hx2:os.getD i 0<4294967296:=W32.getD hw32 i
     refine AH (AM (i:=0) (v:=(vK .u32 (os.getD i 0))) O O isAgg83 (BI (xs:=os) (j:=i) Z)) O (AP O (AP O ?_))
     have hya:=(Bm a).getD i
     have hyb:=(Bm b).getD i
     refine BS call144 (JN (os.getD i 0) ((AL a).getD i 0) c Z Z Z) O (AP O (AH (Aa (v:=(vK .u32 (((os.getD i 0)+((AL a).getD i 0)+c)%4294967296))) O O) O (AH (Aa (v:=(vK .u32 (((os.getD i 0)+((AL a).getD i 0)+c)/4294967296))) O O) O (AH (v:=(pP b6 i)) (AI (j:=i) O O underlying187 sizeOf83 O Z (by simp)) O (AE.store' (i:=0) (off:=i) (vs:=[(vK .u32 (((os.getD i 0)+((AL a).getD i 0)+c)%4294967296))]) (cs':=Ai (os.set i (((os.getD i 0)+((AL a).getD i 0)+c)%4294967296))) (L':=[Ae b6 83 (Ai (os.set i (((os.getD i 0)+((AL a).getD i 0)+c)%4294967296))),Ae b5 83 (Ai (Au b)),Ae b4 83 (Ai (Au a)),Ae b3 55 (AU 0),Ae b2 55 (AU b),Ae b1 55 (AU a)]) (AQ O) O O O O O sizeOf83 O (CW (BP _) Z) (CC Z) O ?_)))))
     refine AJ O (AE.nil (AD.subF (sL [4,8,9,52,53,10,11,12] O) (AD.in_normal (AD.then_ (AF.region ?_)))))
     exact AH (AX (c:=((i+1:Nat):Int)) O O (AZ (a:=i) (b:=1) Z)) O (AP O (AE.nil (AD.subF (sL [4,8,9,52,53,10,11,12] O) (AD.round3 (i+1) (os.set i ((os.getD i 0+(AL a).getD i 0+c)%4294967296)) ((os.getD i 0+(AL a).getD i 0+c)/4294967296) (⟨Z,by rw [List.length_set];exact hl,W32.set hw32 Z i,Z,NC hl hc3 hv⟩) Z (sF O) sr))))
   ·replace hc3:=of_decide_eq_false hc3
    refine AF.exit (AD.then_exit (AD.round3_exit (AD.in_exit (q2 (AP O ?_)))))
    refine Ef call107 (λw hw=>IZ _ ((nw b)+1) ((nw b)+1) os hw32 (by first|omega|(rw [rowN_length];omega)|simp|(simp;omega)) (by first|omega|simp|(simp;omega)) (by first|omega|simp|(simp;omega)) w (hw.get (i:=0) O)) O (AE.retell (k:=79) (u:=(aG (AU (a+b)))) O (by rw [List.take_of_length_le (show os.length<=nw b+1 by omega),M9 (X:=b) (Y:=a) (c:=c) (i:=i) hl hw32 Z (TT Z) (by rw [hv,Cz Z]),Nat.add_comm]) (IJ O sizeOf55 O (AE.nil (AD.subF (sL [4,8,9,52,53,10] O) (AD.then_ ?_)))))
    exact AF.ret (AN O (A7 (i:=3) (cs:=AU (a+b)) O O isAgg55 sizeOf55 O) (λw hw=>⟨rfl,hw.out⟩))
  ·replace hc2:=of_decide_eq_false hc2
   refine AF.skip (q2 (AP O (AH (v:=(vN (nw a))) (AG O underlying187) O (AH (AX (c:=(((nw a)+1:Nat):Int)) O O (AZ (a:=nw a) (b:=1) Z)) O (AE.openV (V:=λb6=>(Value.slice (some ⟨b6,0,none⟩) ((nw a)+1) ((nw a)+1))) (T:=83) (cs:=Ai (List.replicate ((nw a)+1) 0)) (AQ O) (Cw (m:=(nw a)+1) (c:=(nw a)+1) O O Z Z) O (Ad O) λb6=>?_)))))
   refine AJ O (q3 (sL [2,3,4,7,8,9] O) (AP O (AP O (AE.copy_u32 (i:=0) (j:=2) (ns:=Ai (AL a)) (cs':=Ai (AL a++(List.replicate (nw a+1) 0).drop (AL a).length)) (L':=[Ae b6 83 (Ai (AL a++(List.replicate (nw a+1) 0).drop (AL a).length)),Ae b5 83 (Ai (Au b)),Ae b4 83 (Ai (Au a)),Ae b3 55 (AU 0),Ae b2 55 (AU b),Ae b1 55 (AU a)]) O (AQ O) O O O O (by rw [LT,HO]) (BP _) (NB _) Z (by rw [BP];simp;try omega) (Mt _ _) O (Ad O) (q3 (sL [2,3,4,7,8,9] O) ?_)))))
   refine AJ O (AE.nil (q1 (q4 (AP O (AH (v:=(vN ((nw a)+1))) (AG O underlying187) O ?_)))))
   refine AP O (AE.nil (AD.subF (sL [2,3,4,7,8,9,10,52,53] O) (AD.then_ (AF.block ?_))))
   refine AF.lp3 (tg λ(i:Nat) (os:List Nat) (c:Nat)=>i<=nw a+1/\os.length=nw a+1/\W32 os/\c<=1/\val os+c*4294967296^i=a+val ((AL b).take i)) (tg λ(i:Nat) (os:List Nat) (c:Nat)=>[(4,(pP b3 0)),(8,(Value.slice (some ⟨b5,0,none⟩) (nw b) ((Au b).length))),(9,(Value.slice (some ⟨b6,0,none⟩) ((nw a)+1) ((nw a)+1))),(52,(vN ((nw a)+1))),(53,(vN i)),(10,(vK .u32 c))]) (tg λ(i:Nat) (os:List Nat) (c:Nat)=>[Ae b6 83 (Ai os),Ae b5 83 (Ai (Au b)),Ae b4 83 (Ai (Au a)),Ae b3 55 (AU 0),Ae b2 55 (AU b),Ae b1 55 (AU a)]) (tg λ(i:Nat) (os:List Nat) (c:Nat)=>nw a+1-i) 0 (AL a++(List.replicate (nw a+1) 0).drop (AL a).length) 0 (⟨Nat.zero_le _,(FA a 1).1,(FA a 1).2.1,Z,by rw [(FA a 1).2.2];simp [val]⟩) (sF O) sr (λi os c hJ=>?_)
   obtain ⟨hi,hl,hw32,hcc,hv⟩:=hJ
   refine q4 (AH (Af (c:=(decide (i<((nw a)+1)))) O O (DB (a:=i) (b:=(nw a)+1))) O (AE.nil (q1 ?_)))
   refine AF.cond O (λhc3=>?_) (λhc3=>?_)
   ·replace hc3:=of_decide_eq_true hc3
    refine AF.skip (q1 (AF.block (q4 (AP O (AJ O ?_)))))
    refine q3 (sL [4,8,9,52,53,10,11] O) (AJ O (AE.nil (q1 (q4 (AP O ?_)))))
    refine AP O (AH (v:=(vN (nw b))) (AG O underlying187) O (AH (Af (c:=(decide (i<(nw b)))) O O (DB (a:=i) (b:=nw b))) O (AE.nil (AD.subF (sL [4,8,9,52,53,10,11,12,59] O) (AD.then_ ?_)))))
    refine AF.jn0 (tg True) (tg [(4,(pP b3 0)),(8,(Value.slice (some ⟨b5,0,none⟩) (nw b) ((Au b).length))),(9,(Value.slice (some ⟨b6,0,none⟩) ((nw a)+1) ((nw a)+1))),(52,(vN ((nw a)+1))),(53,(vN i)),(10,(vK .u32 c)),(11,(vN i)),(12,(vK .u32 ((AL b).getD i 0)))]) (tg [Ae b6 83 (Ai os),Ae b5 83 (Ai (Au b)),Ae b4 83 (Ai (Au a)),Ae b3 55 (AU 0),Ae b2 55 (AU b),Ae b1 55 (AU a)]) ?_ ?_
    ·skip
     refine AF.cond O (λhc4=>?_) (λhc4=>?_)
     ·replace hc4:=of_decide_eq_true hc4
      refine AF.region (AP O (AP O (AH (v:=(pP b5 i)) (AI (j:=i) O O underlying187 sizeOf83 O Z (by simp)) O ?_)))
      have hx3:(Au b).getD i 0<4294967296:=W32.getD (CM b) i
      exact AH (AM (i:=1) (v:=(vK .u32 ((Au b).getD i 0))) O O isAgg83 (BI (xs:=Au b) (j:=i) Z)) O (AE.retell (k:=63) (u:=(vK .u32 ((AL b).getD i 0))) O (by rw [DI hc4]) (AJ O (AE.nil (AD.subF (sL [4,8,9,52,53,10,11,12] O) (AD.join0  (trivial) (sF O) sr)))))
     ·replace hc4:=of_decide_eq_false hc4
      exact AF.skip (AD.retell (k:=12) (u:=Value.int .u32 (((AL b).getD i 0:Nat):Int)) O (by rw [D1 hc4];rfl) (AD.join0  (trivial) (sF O) sr))
    ·intro hJ
     refine AD.then_ (AF.region (AP O (AP O (AP O (AP O ?_)))))
     refine AH (v:=(pP b6 i)) (AI (j:=i) O O underlying187 sizeOf83 O Z (by simp)) O ?_
     have hx4:os.getD i 0<4294967296:=W32.getD hw32 i
     refine AH (AM (i:=0) (v:=(vK .u32 (os.getD i 0))) O O isAgg83 (BI (xs:=os) (j:=i) Z)) O (AP O (AP O ?_))
     have hya:=(Bm a).getD i
     have hyb:=(Bm b).getD i
     refine BS call144 (JN (os.getD i 0) ((AL b).getD i 0) c Z Z Z) O (AP O (AH (Aa (v:=(vK .u32 (((os.getD i 0)+((AL b).getD i 0)+c)%4294967296))) O O) O (AH (Aa (v:=(vK .u32 (((os.getD i 0)+((AL b).getD i 0)+c)/4294967296))) O O) O (AH (v:=(pP b6 i)) (AI (j:=i) O O underlying187 sizeOf83 O Z (by simp)) O (AE.store' (i:=0) (off:=i) (vs:=[(vK .u32 (((os.getD i 0)+((AL b).getD i 0)+c)%4294967296))]) (cs':=Ai (os.set i (((os.getD i 0)+((AL b).getD i 0)+c)%4294967296))) (L':=[Ae b6 83 (Ai (os.set i (((os.getD i 0)+((AL b).getD i 0)+c)%4294967296))),Ae b5 83 (Ai (Au b)),Ae b4 83 (Ai (Au a)),Ae b3 55 (AU 0),Ae b2 55 (AU b),Ae b1 55 (AU a)]) (AQ O) O O O O O sizeOf83 O (CW (BP _) Z) (CC Z) O ?_)))))
     refine AJ O (AE.nil (AD.subF (sL [4,8,9,52,53,10,11,12] O) (AD.in_normal (AD.then_ (AF.region ?_)))))
     exact AH (AX (c:=((i+1:Nat):Int)) O O (AZ (a:=i) (b:=1) Z)) O (AP O (AE.nil (AD.subF (sL [4,8,9,52,53,10,11,12] O) (AD.round3 (i+1) (os.set i ((os.getD i 0+(AL b).getD i 0+c)%4294967296)) ((os.getD i 0+(AL b).getD i 0+c)/4294967296) (⟨Z,by rw [List.length_set];exact hl,W32.set hw32 Z i,Z,NC hl hc3 hv⟩) Z (sF O) sr))))
   ·replace hc3:=of_decide_eq_false hc3
    refine AF.exit (AD.then_exit (AD.round3_exit (AD.in_exit (q2 (AP O ?_)))))
    refine Ef call107 (λw hw=>IZ _ ((nw a)+1) ((nw a)+1) os hw32 (by first|omega|(rw [rowN_length];omega)|simp|(simp;omega)) (by first|omega|simp|(simp;omega)) (by first|omega|simp|(simp;omega)) w (hw.get (i:=0) O)) O (AE.retell (k:=79) (u:=(aG (AU (a+b)))) O (by rw [List.take_of_length_le (show os.length<=nw a+1 by omega),M9 (X:=a) (Y:=b) (c:=c) (i:=i) hl hw32 Z (TT Z) (by rw [hv,Cz Z])]) (IJ O sizeOf55 O (AE.nil (AD.subF (sL [4,8,9,52,53,10] O) (AD.then_ ?_)))))
    exact AF.ret (AN O (A7 (i:=3) (cs:=AU (a+b)) O O isAgg55 sizeOf55 O) (λw hw=>⟨rfl,hw.out⟩))
end
end Go.Proofs.YtfbomiejpbchdaaGreatDoor
