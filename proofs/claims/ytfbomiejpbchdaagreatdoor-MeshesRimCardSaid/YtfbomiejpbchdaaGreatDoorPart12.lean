import Derived.Test.YtfbomiejpbchdaaGreatDoorPart06
import Derived.Test.YtfbomiejpbchdaaGreatDoorPart11
namespace Go.Proofs.YtfbomiejpbchdaaGreatDoor
open Go Go.RowKit Go.Proofs.Tryz
set_option linter.unusedVariables false
set_option linter.unusedSimpArgs false
section
set_option maxRecDepth 100000
theorem Q4 (a b:Nat) (ha:nw a<=1099511627776) (hb:nw b<=1099511627776) (w:World)  :Calls prog 139 #[(aG (AT a)),(aG (AT b))] w (Am w (vI (Ev a b))):=by
 refine Ac (args:=[(aG (AT a)),(aG (AT b))]) func139 O O (Ab O) (AF.subF (sL [0,1] O) (q4 (Bq (cs:=AT a) O λb1=>Bq (cs:=AT b) O λb2=>AK O ?_)))
 refine q6 (sL [2,3,4] O) (q4 (AG (v:=(pP b1 1)) (AA O underlying55 O sizeOf9 O) O (BO 1 (Value.string (Bj a)) Pa O (AG (Bk (c:=(decide (a<18446744073709551616))) O O CR) O (AO O ?_)))))
 refine AE.mid (FM:=[(2,(pP b1 0)),(3,(pP b2 0)),(4,(vI 0)),(5,(pP b1 1)),(6,(Value.string (Bj a))),(7,(Value.bool (decide (a<18446744073709551616)))),(8,(Value.bool (decide (a<18446744073709551616)))),(12,(Value.bool ((decide (a<18446744073709551616))&&(decide (b<18446744073709551616)))))]) (LM:=[Ae b2 55 (AT b),Ae b1 55 (AT a)]) 4 ?_ ?_
 ·rcases Bool.eq_false_or_eq_true (decide (a<18446744073709551616)) with hg1|hg1
  ·skip
   refine AE.retell (k:=8) (u:=Value.bool true) O (by rw [hg1]) ?_
   have hg1':=hg1
   replace hg1':=of_decide_eq_true hg1'
   exact AE.step (v:=(pP b2 1)) (AB O) (AA O underlying55 O sizeOf9 O) O (Ab O) (AE.step (v:=(Value.string (Bj b))) (AB O) (AM (i:=0) (v:=(Value.string (Bj b))) O O Pa.a O) O (Ab O) (AE.step (v:=(Value.bool (decide (b<18446744073709551616)))) (AB O) (Bk (c:=(decide (b<18446744073709551616))) O O CR) O (Ab O) (AG (v:=(Value.bool (decide (b<18446744073709551616)))) (Ah O O) O (AE.nil (AD.mid (sS O (sS O (sS O (sS O (sS O (sS O (sS (by first|rfl|(rw [hg1];rfl)|rw [hg1]) (sS (by first|rfl|(rw [hg1];rfl)|rw [hg1]) (sN))))))))) (List.Sublist.refl _))))))
  ·skip
   refine AE.retell (k:=8) (u:=Value.bool false) O (by rw [hg1]) ?_
   have hg1':=hg1
   replace hg1':=of_decide_eq_false hg1'
   exact AE.skip (AR O) O (Ab O) (AE.skip (AR O) O (Ab O) (AE.skip (AR O) O (Ab O) (AG (v:=(Value.bool false)) (AU O O) O (AE.nil (AD.mid (sS O (sS O (sS O (sS O (sS O (sS O (sS (by first|rfl|(rw [hg1];rfl)|rw [hg1]) (sS (by first|rfl|(rw [hg1];rfl)|rw [hg1]) (sN))))))))) (List.Sublist.refl _))))))
 refine AE.nil (AD.subF (sL [2,3,4,12] O) (AD.then_ ?_))
 refine AF.jn0 (tg True) (tg [(2,(pP b1 0)),(3,(pP b2 0))]) (tg [Ae b2 55 (AT b),Ae b1 55 (AT a)]) ?_ ?_
 ·skip
  refine AF.cond O (λhc0=>?_) (λhc0=>?_)
  ·simp only [Bool.and_eq_true,Bool.or_eq_true,Bool.and_eq_false_iff,Bool.or_eq_false_iff,Bool.not_eq_true',Bool.not_eq_false',decide_eq_true_eq,decide_eq_false_iff_not] at hc0
   refine AF.seq (AF.block (q4 (AG (v:=(pP b1 0)) (AA O underlying55 O sizeOf53 O) O (BO 1 (vK .u64 (Bw a)) Fd O (AE.retell (k:=15) (u:=(vK .u64 a)) O (by rw [Bf hc0.1]) ?_)))))
   refine AG (v:=(pP b2 0)) (AA O underlying55 O sizeOf53 O) O (BO 0 (vK .u64 (Bw b)) Fd O (AE.retell (k:=17) (u:=(vK .u64 b)) O (by rw [Bf hc0.2]) (AG (Af (c:=(decide (a<b))) O O (C6 (a:=a) (b:=b))) O (AK O (AE.nil ?_)))))
   refine AD.subF (sL [2,3,4,13] O) (AD.then_ ?_)
   refine AF.cond O (λhc1=>?_) (λhc1=>?_)
   ·replace hc1:=of_decide_eq_true hc1
    have hz:Ev a b = -1:=if_pos hc1
    refine q4 (AK O (AE.nil (AD.then_ (AF.ret (AD.in_ret ?_)))))
    exact AD.then_ret (AD.join0_ret (AD.then_ret (AP O (Ad (v:=(vI (-1:Int))) O) (λw hw=>⟨by rw [hz],hw.out⟩))))
   ·replace hc1:=of_decide_eq_false hc1
    refine q4 (AG (v:=(pP b1 0)) (AA O underlying55 O sizeOf53 O) O (BO 1 (vK .u64 (Bw a)) Fd O (AE.retell (k:=21) (u:=(vK .u64 a)) O (by rw [Bf hc0.1]) (AG (v:=(pP b2 0)) (AA O underlying55 O sizeOf53 O) O (BO 0 (vK .u64 (Bw b)) Fd O ?_)))))
    refine AE.retell (k:=23) (u:=(vK .u64 b)) O (by rw [Bf hc0.2]) (AG (Cx (c:=(decide (b<a))) O O (C6 (a:=b) (b:=a))) O (AK O (AE.nil (AD.subF (sL [2,3,4,19] O) (AD.then_ ?_)))))
    refine AF.cond O (λhc2=>?_) (λhc2=>?_)
    ·replace hc2:=of_decide_eq_true hc2
     have hz:Ev a b=1:=by unfold Ev;rw [if_neg Z,if_neg Z]
     refine q4 (AK O (AE.nil (AD.then_ (AF.ret (AD.in_ret ?_)))))
     exact AD.then_ret (AD.join0_ret (AD.then_ret (AP O (Ad (v:=(vI 1)) O) (λw hw=>⟨by rw [hz],hw.out⟩))))
    ·replace hc2:=of_decide_eq_false hc2
     have hz:Ev a b=0:=Nl.2 Z
     refine AF.skip (AD.in_normal (q2 (AK O (AE.nil (AD.then_ ?_)))))
     exact AF.ret (AD.join0_ret (AD.then_ret (AP O (Ad (v:=(vI 0)) O) (λw hw=>⟨by rw [hz],hw.out⟩))))
  ·simp only [Bool.and_eq_true,Bool.or_eq_true,Bool.and_eq_false_iff,Bool.or_eq_false_iff,Bool.not_eq_true',Bool.not_eq_false',decide_eq_true_eq,decide_eq_false_iff_not] at hc0
   exact AF.skip (AD.join0  (trivial) (sF O) sr)
 ·intro hJ
  refine q1 (C4 [(0,true),(2,true),(1,false),(3,false),(4,false),(5,true)] sr (Es 1 Bv O (Es 0 Bv O (AS.imp O (AE.callB (V:=λb3=>(Value.slice (some ⟨b3,0,none⟩) (nw a) ((Ax a).length))) (T:=83) (cs:=Ak (Ax a)) (AQ O) (Aw (args:=[(aG (AT a))]) O O call108) (λw hw=>Cp a Z w) O (Ab O) λb3=>?_)))))
  refine AS.back (sl sr) (AS.imp O (AE.callB (V:=λb4=>(Value.slice (some ⟨b4,0,none⟩) (nw b) ((Ax b).length))) (T:=83) (cs:=Ak (Ax b)) (AQ O) (Aw (args:=[(aG (AT b))]) O O call108) (λw hw=>Cp b Z w) O (Ab O) λb4=>AS.back (sl (sl sr)) (AS.imp O (ET call182 (λw hw=>UK a b _ _ _ _ Z Z w (hw.get (i:=1) O) (hw.get (i:=0) O)) O ?_))))
  exact AS.back (sl (sl sr)) (EZ O (AS.nil (AD.subF (sL [2,3,4] O) (AD.then_ (AF.ret (AP O (Ad (v:=(vI (Ev a b))) O) (λw hw=>⟨rfl,hw.out⟩)))))))
theorem Qn (a b:Nat) (ha:nw a<=1099511627776) (hb:nw b<=1099511627776) (w:World)  :Calls prog 104 #[(aG (AT a)),(aG (AT b))] w (Am w (aG (AT (a+b)))):=by
 have hla:=CD a
 have hlb:=CD b
 refine Ac (args:=[(aG (AT a)),(aG (AT b))]) func104 O O (Ab O) (AF.subF (sL [0,1] O) (q4 (Bq (cs:=AT a) O λb1=>Bq (cs:=AT b) O λb2=>al E7 O λb3=>?_)))
 refine q6 (sL [2,3,4] O) (q4 (AG (v:=(pP b1 1)) (AA O underlying55 O sizeOf9 O) O (BO 2 (Value.string (Bj a)) Pa O (AG (Bk (c:=(decide (a<18446744073709551616))) O O CR) O (AO O ?_)))))
 refine AE.mid (FM:=[(2,(pP b1 0)),(3,(pP b2 0)),(4,(pP b3 0)),(13,(pP b1 1)),(14,(Value.string (Bj a))),(15,(Value.bool (decide (a<18446744073709551616)))),(16,(Value.bool (decide (a<18446744073709551616)))),(20,(Value.bool ((decide (a<18446744073709551616))&&(decide (b<18446744073709551616)))))]) (LM:=[Ae b3 55 (AT 0),Ae b2 55 (AT b),Ae b1 55 (AT a)]) 4 ?_ ?_
 ·rcases Bool.eq_false_or_eq_true (decide (a<18446744073709551616)) with hg1|hg1
  ·skip
   refine AE.retell (k:=16) (u:=Value.bool true) O (by rw [hg1]) ?_
   have hg1':=hg1
   replace hg1':=of_decide_eq_true hg1'
   exact AE.step (v:=(pP b2 1)) (AB O) (AA O underlying55 O sizeOf9 O) O (Ab O) (AE.step (v:=(Value.string (Bj b))) (AB O) (AM (i:=1) (v:=(Value.string (Bj b))) O O Pa.a O) O (Ab O) (AE.step (v:=(Value.bool (decide (b<18446744073709551616)))) (AB O) (Bk (c:=(decide (b<18446744073709551616))) O O CR) O (Ab O) (AG (v:=(Value.bool (decide (b<18446744073709551616)))) (Ah O O) O (AE.nil (AD.mid (sS O (sS O (sS O (sS O (sS O (sS O (sS (by first|rfl|(rw [hg1];rfl)|rw [hg1]) (sS (by first|rfl|(rw [hg1];rfl)|rw [hg1]) (sN))))))))) (List.Sublist.refl _))))))
  ·skip
   refine AE.retell (k:=16) (u:=Value.bool false) O (by rw [hg1]) ?_
   have hg1':=hg1
   replace hg1':=of_decide_eq_false hg1'
   exact AE.skip (AR O) O (Ab O) (AE.skip (AR O) O (Ab O) (AE.skip (AR O) O (Ab O) (AG (v:=(Value.bool false)) (AU O O) O (AE.nil (AD.mid (sS O (sS O (sS O (sS O (sS O (sS O (sS (by first|rfl|(rw [hg1];rfl)|rw [hg1]) (sS (by first|rfl|(rw [hg1];rfl)|rw [hg1]) (sN))))))))) (List.Sublist.refl _))))))
 refine AE.nil (AD.subF (sL [2,3,4,20] O) (AD.then_ ?_))
 refine AF.jn0 (tg True) (tg [(2,(pP b1 0)),(3,(pP b2 0)),(4,(pP b3 0))]) (tg [Ae b3 55 (AT 0),Ae b2 55 (AT b),Ae b1 55 (AT a)]) ?_ ?_
 ·skip
  refine AF.cond O (λhc0=>?_) (λhc0=>?_)
  ·simp only [Bool.and_eq_true,Bool.or_eq_true,Bool.and_eq_false_iff,Bool.or_eq_false_iff,Bool.not_eq_true',Bool.not_eq_false',decide_eq_true_eq,decide_eq_false_iff_not] at hc0
   refine q4 (AG (v:=(pP b1 0)) (AA O underlying55 O sizeOf53 O) O (BO 2 (vK .u64 (Bw a)) Fd O (AE.retell (k:=23) (u:=(vK .u64 a)) O (by rw [Bf hc0.1]) (AG (v:=(pP b2 0)) (AA O underlying55 O sizeOf53 O) O (BO 1 (vK .u64 (Bw b)) Fd O ?_)))))
   refine AE.retell (k:=25) (u:=(vK .u64 b)) O (by rw [Bf hc0.2]) (AG (v:=(Value.tuple #[(vK .u64 ((a+b+0)%18446744073709551616)),(vK .u64 ((a+b+0)/18446744073709551616))])) (O9 (args:=[(vK .u64 a),(vK .u64 b),(Value.int .u64 (0:Int))]) O O (λw=>Oj func143 (by kernel_rfl) (by kernel_rfl) (by kernel_rfl) (by kernel_rfl) a b 0 Z w)) O (AO O (AG (AZ (v:=(vK .u64 ((a+b+0)%18446744073709551616))) O O) O (AG (AZ (v:=(vK .u64 ((a+b+0)/18446744073709551616))) O O) O (AK O ?_)))))
   refine AK O (q3 (sL [2,3,4,5,6] O) (AO O (AG (BU (c:=(decide (((a+b+0)/18446744073709551616)=0))) O O (MY (a:=(a+b+0)/18446744073709551616) (b:=0))) O (AE.nil (AD.subF (sL [2,3,4,5,30] O) ?_)))))
   refine AD.then_ ?_
   refine AF.cond O (λhc1=>?_) (λhc1=>?_)
   ·replace hc1:=of_decide_eq_true hc1
    refine q4 (AO O (AG (v:=(aG ([(vK .u64 ((a+b+0)%18446744073709551616)),(Value.string (Bj 0))]))) (AV (zs:=AT 0) (vs:=[(vK .u64 ((a+b+0)%18446744073709551616)),(Value.string (Bj 0))]) (pv:=[(0,(vK .u64 ((a+b+0)%18446744073709551616)))]) (places:=[(0,1),(1,1)]) zeroValue55 underlying55 (λw=>by simp [sizeOf9,sizeOf53]) O O) O (AE.retell (k:=32) (u:=(aG (AT (a+b)))) O (by rw [DF Z,show (a+b+0)%18446744073709551616=a+b by omega];rfl) (Au O sizeOf55 O (AE.nil ?_)))))
    exact AD.subF (sL [2,3,4] O) (AD.then_ (AF.ret (AD.join0_ret (AD.then_ret (AP O (A8 (i:=0) (cs:=AT (a+b)) O O isAgg55 sizeOf55 O) (λw hw=>⟨rfl,hw.out⟩))))))
   ·replace hc1:=of_decide_eq_false hc1
    exact AF.skip (AD.join0  (trivial) (sF O) sr)
  ·simp only [Bool.and_eq_true,Bool.or_eq_true,Bool.and_eq_false_iff,Bool.or_eq_false_iff,Bool.not_eq_true',Bool.not_eq_false',decide_eq_true_eq,decide_eq_false_iff_not] at hc0
   exact AF.skip (AD.join0  (trivial) (sF O) sr)
 ·intro hJ
  refine q1 (C4 [(0,true),(2,true),(1,false),(3,false),(4,true),(5,true)] sr (Es 2 Bv O (Es 1 Bv O (AS.imp O (AE.callB (V:=λb4=>(Value.slice (some ⟨b4,0,none⟩) (nw a) ((Ax a).length))) (T:=83) (cs:=Ak (Ax a)) (AQ O) (Aw (args:=[(aG (AT a))]) O O call108) (λw hw=>Cp a Z w) O (Ab O) λb4=>?_)))))
  refine AS.back (sl sr) (AS.imp O (AE.callB (V:=λb5=>(Value.slice (some ⟨b5,0,none⟩) (nw b) ((Ax b).length))) (T:=83) (cs:=Ak (Ax b)) (AQ O) (Aw (args:=[(aG (AT b))]) O O call108) (λw hw=>Cp b Z w) O (Ab O) λb5=>AS.back (sl (sl sr)) (EZ O (EZ O ?_))))
  refine AS.nil (AD.subF (sL [2,3,4,7,8] O) (q1 (q4 (AO O (AG (v:=(vN (nw a))) (AH O underlying187) O ?_)))))
  refine AO O (AG (v:=(vN (nw b))) (AH O underlying187) O (AG (Af (c:=(decide ((nw a)<(nw b)))) O O (C6 (a:=nw a) (b:=nw b))) O (AE.nil (AD.subF (sL [2,3,4,7,8,41] O) (AD.then_ ?_)))))
  refine AF.cond O (λhc2=>?_) (λhc2=>?_)
  ·replace hc2:=of_decide_eq_true hc2
   refine AF.region (AO O (AO O (AK O (AK O (q3 (sL [2,3,4,7,8] O) ?_)))))
   refine AO O (AG (v:=(vN (nw b))) (AH O underlying187) O (AG (AX (c:=(((nw b)+1:Nat):Int)) O O (AY (a:=nw b) (b:=1) Z)) O (AE.openV (V:=λb6=>(Value.slice (some ⟨b6,0,none⟩) ((nw b)+1) ((nw b)+1))) (T:=83) (cs:=Ak (List.replicate ((nw b)+1) 0)) (AQ O) (Cv (m:=(nw b)+1) (c:=(nw b)+1) O O Z Z) O (Ab O) λb6=>AK O (q3 (sL [2,3,4,7,8,9] O) ?_))))
   refine AO O (AO O (AE.copy_u32 (i:=0) (j:=1) (ns:=Ak (AL b)) (cs':=Ak (AL b++(List.replicate (nw b+1) 0).drop (AL b).length)) (L':=[Ae b6 83 (Ak (AL b++(List.replicate (nw b+1) 0).drop (AL b).length)),Ae b5 83 (Ak (Ax b)),Ae b4 83 (Ak (Ax a)),Ae b3 55 (AT 0),Ae b2 55 (AT b),Ae b1 55 (AT a)]) O (AQ O) O O O O (by rw [Jy,G8]) (BR _) (MU _) Z (by rw [BR];simp;try omega) (Lc _ _) O (Ab O) (q3 (sL [2,3,4,7,8,9] O) (AK O (AE.nil ?_)))))
   refine q1 (q4 (AO O (AG (v:=(vN ((nw b)+1))) (AH O underlying187) O (AO O (AE.nil ?_)))))
   refine AD.subF (sL [2,3,4,7,8,9,10,52,53] O) (AD.then_ (AF.block ?_))
   refine AF.lp3 (tg λ(i:Nat) (os:List Nat) (c:Nat)=>i<=nw b+1/\os.length=nw b+1/\W32 os/\c<=1/\val os+c*4294967296^i=b+val ((AL a).take i)) (tg λ(i:Nat) (os:List Nat) (c:Nat)=>[(4,(pP b3 0)),(8,(Value.slice (some ⟨b4,0,none⟩) (nw a) ((Ax a).length))),(9,(Value.slice (some ⟨b6,0,none⟩) ((nw b)+1) ((nw b)+1))),(52,(vN ((nw b)+1))),(53,(vN i)),(10,(vK .u32 c))]) (tg λ(i:Nat) (os:List Nat) (c:Nat)=>[Ae b6 83 (Ak os),Ae b5 83 (Ak (Ax b)),Ae b4 83 (Ak (Ax a)),Ae b3 55 (AT 0),Ae b2 55 (AT b),Ae b1 55 (AT a)]) (tg λ(i:Nat) (os:List Nat) (c:Nat)=>nw b+1-i) 0 (AL b++(List.replicate (nw b+1) 0).drop (AL b).length) 0 (⟨Nat.zero_le _,(Ep b 1).1,(Ep b 1).2.1,Z,by rw [(Ep b 1).2.2];simp [val]⟩) (sF O) sr (λi os c hJ=>?_)
   obtain ⟨hi,hl,hw32,hcc,hv⟩:=hJ
   refine q4 (AG (Af (c:=(decide (i<((nw b)+1)))) O O (C6 (a:=i) (b:=(nw b)+1))) O (AE.nil (q1 ?_)))
   refine AF.cond O (λhc3=>?_) (λhc3=>?_)
   ·replace hc3:=of_decide_eq_true hc3
    refine AF.skip (q1 (AF.block (q4 (AO O (AK O ?_)))))
    refine q3 (sL [4,8,9,52,53,10,11] O) (AK O (AE.nil (q1 (q4 (AO O ?_)))))
    refine AO O (AG (v:=(vN (nw a))) (AH O underlying187) O (AG (Af (c:=(decide (i<(nw a)))) O O (C6 (a:=i) (b:=nw a))) O (AE.nil (AD.subF (sL [4,8,9,52,53,10,11,12,59] O) (AD.then_ ?_)))))
    refine AF.jn0 (tg True) (tg [(4,(pP b3 0)),(8,(Value.slice (some ⟨b4,0,none⟩) (nw a) ((Ax a).length))),(9,(Value.slice (some ⟨b6,0,none⟩) ((nw b)+1) ((nw b)+1))),(52,(vN ((nw b)+1))),(53,(vN i)),(10,(vK .u32 c)),(11,(vN i)),(12,(vK .u32 ((AL a).getD i 0)))]) (tg [Ae b6 83 (Ak os),Ae b5 83 (Ak (Ax b)),Ae b4 83 (Ak (Ax a)),Ae b3 55 (AT 0),Ae b2 55 (AT b),Ae b1 55 (AT a)]) ?_ ?_
    ·skip
     refine AF.cond O (λhc4=>?_) (λhc4=>?_)
     ·replace hc4:=of_decide_eq_true hc4
      refine AF.region (AO O (AO O (AG (v:=(pP b4 i)) (AJ (j:=i) O O underlying187 sizeOf83 O Z (by simp)) O ?_)))
      have hx1:(Ax a).getD i 0<4294967296:=W32.getD (CE a) i
      exact AG (AM (i:=2) (v:=(vK .u32 ((Ax a).getD i 0))) O O isAgg83 (BJ (xs:=Ax a) (j:=i) Z)) O (AE.retell (k:=63) (u:=(vK .u32 ((AL a).getD i 0))) O (by rw [DA hc4]) (AK O (AE.nil (AD.subF (sL [4,8,9,52,53,10,11,12] O) (AD.join0  (trivial) (sF O) sr)))))
     ·replace hc4:=of_decide_eq_false hc4
      exact AF.skip (AD.retell (k:=12) (u:=Value.int .u32 (((AL a).getD i 0:Nat):Int)) O (by rw [Du hc4];rfl) (AD.join0  (trivial) (sF O) sr))
    ·intro hJ
     refine AD.then_ (AF.region (AO O (AO O (AO O (AO O ?_)))))
     refine AG (v:=(pP b6 i)) (AJ (j:=i) O O underlying187 sizeOf83 O Z (by simp)) O ?_
     have hx2:os.getD i 0<4294967296:=W32.getD hw32 i
     refine AG (AM (i:=0) (v:=(vK .u32 (os.getD i 0))) O O isAgg83 (BJ (xs:=os) (j:=i) Z)) O (AO O (AO O ?_))
     have hya:=(Bp a).getD i
     have hyb:=(Bp b).getD i
     refine BV call144 (JV (os.getD i 0) ((AL a).getD i 0) c Z Z Z) O (AO O (AG (AZ (v:=(vK .u32 (((os.getD i 0)+((AL a).getD i 0)+c)%4294967296))) O O) O (AG (AZ (v:=(vK .u32 (((os.getD i 0)+((AL a).getD i 0)+c)/4294967296))) O O) O (AG (v:=(pP b6 i)) (AJ (j:=i) O O underlying187 sizeOf83 O Z (by simp)) O (AE.store' (i:=0) (off:=i) (vs:=[(vK .u32 (((os.getD i 0)+((AL a).getD i 0)+c)%4294967296))]) (cs':=Ak (os.set i (((os.getD i 0)+((AL a).getD i 0)+c)%4294967296))) (L':=[Ae b6 83 (Ak (os.set i (((os.getD i 0)+((AL a).getD i 0)+c)%4294967296))),Ae b5 83 (Ak (Ax b)),Ae b4 83 (Ak (Ax a)),Ae b3 55 (AT 0),Ae b2 55 (AT b),Ae b1 55 (AT a)]) (AQ O) O O O O O sizeOf83 O (CU (BR _) Z) (B7 Z) O ?_)))))
     refine AK O (AE.nil (AD.subF (sL [4,8,9,52,53,10,11,12] O) (AD.in_normal (AD.then_ (AF.region ?_)))))
     exact AG (AX (c:=((i+1:Nat):Int)) O O (AY (a:=i) (b:=1) Z)) O (AO O (AE.nil (AD.subF (sL [4,8,9,52,53,10,11,12] O) (AD.round3 (i+1) (os.set i ((os.getD i 0+(AL a).getD i 0+c)%4294967296)) ((os.getD i 0+(AL a).getD i 0+c)/4294967296) (⟨Z,by rw [List.length_set];exact hl,W32.set hw32 Z i,Z,Lh hl hc3 hv⟩) Z (sF O) sr))))
   ·replace hc3:=of_decide_eq_false hc3
    refine AF.exit (AD.then_exit (AD.round3_exit (AD.in_exit (q2 (AO O ?_)))))
    refine ET call107 (λw hw=>Hy _ ((nw b)+1) ((nw b)+1) os hw32 (by first|omega|(rw [rowN_length];omega)|simp|(simp;omega)) (by first|omega|simp|(simp;omega)) (by first|omega|simp|(simp;omega)) w (hw.get (i:=0) O)) O (AE.retell (k:=79) (u:=(aG (AT (a+b)))) O (by rw [List.take_of_length_le (show os.length<=nw b+1 by omega),L2 (X:=b) (Y:=a) (c:=c) (i:=i) hl hw32 Z (Rz Z) (by rw [hv,Cu Z]),Nat.add_comm]) (Is O sizeOf55 O (AE.nil (AD.subF (sL [4,8,9,52,53,10] O) (AD.then_ ?_)))))
    exact AF.ret (AP O (A8 (i:=3) (cs:=AT (a+b)) O O isAgg55 sizeOf55 O) (λw hw=>⟨rfl,hw.out⟩))
  ·replace hc2:=of_decide_eq_false hc2
   refine AF.skip (q2 (AO O (AG (v:=(vN (nw a))) (AH O underlying187) O (AG (AX (c:=(((nw a)+1:Nat):Int)) O O (AY (a:=nw a) (b:=1) Z)) O (AE.openV (V:=λb6=>(Value.slice (some ⟨b6,0,none⟩) ((nw a)+1) ((nw a)+1))) (T:=83) (cs:=Ak (List.replicate ((nw a)+1) 0)) (AQ O) (Cv (m:=(nw a)+1) (c:=(nw a)+1) O O Z Z) O (Ab O) λb6=>?_)))))
   refine AK O (q3 (sL [2,3,4,7,8,9] O) (AO O (AO O (AE.copy_u32 (i:=0) (j:=2) (ns:=Ak (AL a)) (cs':=Ak (AL a++(List.replicate (nw a+1) 0).drop (AL a).length)) (L':=[Ae b6 83 (Ak (AL a++(List.replicate (nw a+1) 0).drop (AL a).length)),Ae b5 83 (Ak (Ax b)),Ae b4 83 (Ak (Ax a)),Ae b3 55 (AT 0),Ae b2 55 (AT b),Ae b1 55 (AT a)]) O (AQ O) O O O O (by rw [Jy,G8]) (BR _) (MU _) Z (by rw [BR];simp;try omega) (Lc _ _) O (Ab O) (q3 (sL [2,3,4,7,8,9] O) ?_)))))
   refine AK O (AE.nil (q1 (q4 (AO O (AG (v:=(vN ((nw a)+1))) (AH O underlying187) O ?_)))))
   refine AO O (AE.nil (AD.subF (sL [2,3,4,7,8,9,10,52,53] O) (AD.then_ (AF.block ?_))))
   refine AF.lp3 (tg λ(i:Nat) (os:List Nat) (c:Nat)=>i<=nw a+1/\os.length=nw a+1/\W32 os/\c<=1/\val os+c*4294967296^i=a+val ((AL b).take i)) (tg λ(i:Nat) (os:List Nat) (c:Nat)=>[(4,(pP b3 0)),(8,(Value.slice (some ⟨b5,0,none⟩) (nw b) ((Ax b).length))),(9,(Value.slice (some ⟨b6,0,none⟩) ((nw a)+1) ((nw a)+1))),(52,(vN ((nw a)+1))),(53,(vN i)),(10,(vK .u32 c))]) (tg λ(i:Nat) (os:List Nat) (c:Nat)=>[Ae b6 83 (Ak os),Ae b5 83 (Ak (Ax b)),Ae b4 83 (Ak (Ax a)),Ae b3 55 (AT 0),Ae b2 55 (AT b),Ae b1 55 (AT a)]) (tg λ(i:Nat) (os:List Nat) (c:Nat)=>nw a+1-i) 0 (AL a++(List.replicate (nw a+1) 0).drop (AL a).length) 0 (⟨Nat.zero_le _,(Ep a 1).1,(Ep a 1).2.1,Z,by rw [(Ep a 1).2.2];simp [val]⟩) (sF O) sr (λi os c hJ=>?_)
   obtain ⟨hi,hl,hw32,hcc,hv⟩:=hJ
   refine q4 (AG (Af (c:=(decide (i<((nw a)+1)))) O O (C6 (a:=i) (b:=(nw a)+1))) O (AE.nil (q1 ?_)))
   refine AF.cond O (λhc3=>?_) (λhc3=>?_)
   ·replace hc3:=of_decide_eq_true hc3
    refine AF.skip (q1 (AF.block (q4 (AO O (AK O ?_)))))
    refine q3 (sL [4,8,9,52,53,10,11] O) (AK O (AE.nil (q1 (q4 (AO O ?_)))))
    refine AO O (AG (v:=(vN (nw b))) (AH O underlying187) O (AG (Af (c:=(decide (i<(nw b)))) O O (C6 (a:=i) (b:=nw b))) O (AE.nil (AD.subF (sL [4,8,9,52,53,10,11,12,59] O) (AD.then_ ?_)))))
    refine AF.jn0 (tg True) (tg [(4,(pP b3 0)),(8,(Value.slice (some ⟨b5,0,none⟩) (nw b) ((Ax b).length))),(9,(Value.slice (some ⟨b6,0,none⟩) ((nw a)+1) ((nw a)+1))),(52,(vN ((nw a)+1))),(53,(vN i)),(10,(vK .u32 c)),(11,(vN i)),(12,(vK .u32 ((AL b).getD i 0)))]) (tg [Ae b6 83 (Ak os),Ae b5 83 (Ak (Ax b)),Ae b4 83 (Ak (Ax a)),Ae b3 55 (AT 0),Ae b2 55 (AT b),Ae b1 55 (AT a)]) ?_ ?_
    ·skip
     refine AF.cond O (λhc4=>?_) (λhc4=>?_)
     ·replace hc4:=of_decide_eq_true hc4
      refine AF.region (AO O (AO O (AG (v:=(pP b5 i)) (AJ (j:=i) O O underlying187 sizeOf83 O Z (by simp)) O ?_)))
      have hx3:(Ax b).getD i 0<4294967296:=W32.getD (CE b) i
      exact AG (AM (i:=1) (v:=(vK .u32 ((Ax b).getD i 0))) O O isAgg83 (BJ (xs:=Ax b) (j:=i) Z)) O (AE.retell (k:=63) (u:=(vK .u32 ((AL b).getD i 0))) O (by rw [DA hc4]) (AK O (AE.nil (AD.subF (sL [4,8,9,52,53,10,11,12] O) (AD.join0  (trivial) (sF O) sr)))))
     ·replace hc4:=of_decide_eq_false hc4
      exact AF.skip (AD.retell (k:=12) (u:=Value.int .u32 (((AL b).getD i 0:Nat):Int)) O (by rw [Du hc4];rfl) (AD.join0  (trivial) (sF O) sr))
    ·intro hJ
     refine AD.then_ (AF.region (AO O (AO O (AO O (AO O ?_)))))
     refine AG (v:=(pP b6 i)) (AJ (j:=i) O O underlying187 sizeOf83 O Z (by simp)) O ?_
     have hx4:os.getD i 0<4294967296:=W32.getD hw32 i
     refine AG (AM (i:=0) (v:=(vK .u32 (os.getD i 0))) O O isAgg83 (BJ (xs:=os) (j:=i) Z)) O (AO O (AO O ?_))
     have hya:=(Bp a).getD i
     have hyb:=(Bp b).getD i
     refine BV call144 (JV (os.getD i 0) ((AL b).getD i 0) c Z Z Z) O (AO O (AG (AZ (v:=(vK .u32 (((os.getD i 0)+((AL b).getD i 0)+c)%4294967296))) O O) O (AG (AZ (v:=(vK .u32 (((os.getD i 0)+((AL b).getD i 0)+c)/4294967296))) O O) O (AG (v:=(pP b6 i)) (AJ (j:=i) O O underlying187 sizeOf83 O Z (by simp)) O (AE.store' (i:=0) (off:=i) (vs:=[(vK .u32 (((os.getD i 0)+((AL b).getD i 0)+c)%4294967296))]) (cs':=Ak (os.set i (((os.getD i 0)+((AL b).getD i 0)+c)%4294967296))) (L':=[Ae b6 83 (Ak (os.set i (((os.getD i 0)+((AL b).getD i 0)+c)%4294967296))),Ae b5 83 (Ak (Ax b)),Ae b4 83 (Ak (Ax a)),Ae b3 55 (AT 0),Ae b2 55 (AT b),Ae b1 55 (AT a)]) (AQ O) O O O O O sizeOf83 O (CU (BR _) Z) (B7 Z) O ?_)))))
     refine AK O (AE.nil (AD.subF (sL [4,8,9,52,53,10,11,12] O) (AD.in_normal (AD.then_ (AF.region ?_)))))
     exact AG (AX (c:=((i+1:Nat):Int)) O O (AY (a:=i) (b:=1) Z)) O (AO O (AE.nil (AD.subF (sL [4,8,9,52,53,10,11,12] O) (AD.round3 (i+1) (os.set i ((os.getD i 0+(AL b).getD i 0+c)%4294967296)) ((os.getD i 0+(AL b).getD i 0+c)/4294967296) (⟨Z,by rw [List.length_set];exact hl,W32.set hw32 Z i,Z,Lh hl hc3 hv⟩) Z (sF O) sr))))
   ·replace hc3:=of_decide_eq_false hc3
    refine AF.exit (AD.then_exit (AD.round3_exit (AD.in_exit (q2 (AO O ?_)))))
    refine ET call107 (λw hw=>Hy _ ((nw a)+1) ((nw a)+1) os hw32 (by first|omega|(rw [rowN_length];omega)|simp|(simp;omega)) (by first|omega|simp|(simp;omega)) (by first|omega|simp|(simp;omega)) w (hw.get (i:=0) O)) O (AE.retell (k:=79) (u:=(aG (AT (a+b)))) O (by rw [List.take_of_length_le (show os.length<=nw a+1 by omega),L2 (X:=a) (Y:=b) (c:=c) (i:=i) hl hw32 Z (Rz Z) (by rw [hv,Cu Z])]) (Is O sizeOf55 O (AE.nil (AD.subF (sL [4,8,9,52,53,10] O) (AD.then_ ?_)))))
    exact AF.ret (AP O (A8 (i:=3) (cs:=AT (a+b)) O O isAgg55 sizeOf55 O) (λw hw=>⟨rfl,hw.out⟩))
end
end Go.Proofs.YtfbomiejpbchdaaGreatDoor
