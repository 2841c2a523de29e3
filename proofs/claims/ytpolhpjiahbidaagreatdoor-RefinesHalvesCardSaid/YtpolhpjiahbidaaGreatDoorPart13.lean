import Derived.Test.YtpolhpjiahbidaaGreatDoorPart05
import Derived.Test.YtpolhpjiahbidaaGreatDoorPart12
namespace Go.Proofs.YtpolhpjiahbidaaGreatDoor
open Go Go.RowKit Go.Proofs.Tryz
set_option linter.unusedVariables false
set_option linter.unusedSimpArgs false
section
set_option maxRecDepth 100000
theorem Ri (a b:Nat) (ha:nw a<=1099511627776) (hb:nw b<=1099511627776) (w:World)  :Calls Tryz.prog 242 #[(aG (AS a)),(aG (AS b))] w (Ai w (vI (Cp a b))):=by
 refine AZ (args:=[(aG (AS a)),(aG (AS b))]) Tryz.func242 rfl rfl (AK rfl) (OkC.subF (sL [0,1] rfl) (q4 (Bg (cs:=AS a) rfl λb1=>Bg (cs:=AS b) rfl λb2=>asg' rfl (q6 (sL [2,3,4] rfl) (q4 (AG (v:=(pP b1 1)) (AA rfl Tryz.underlying71 rfl Tryz.sizeOf9 rfl) rfl (Aw 1 (Value.string (Bd a)) Q5 rfl (AG (Bf (c:=(decide (a<18446744073709551616))) rfl rfl CI) rfl (AO rfl ?_)))))))))
 refine OkL.mid (FM:=[(2,(pP b1 0)),(3,(pP b2 0)),(4,(vI 0)),(5,(pP b1 1)),(6,(Value.string (Bd a))),(7,(Value.bool (decide (a<18446744073709551616)))),(8,(Value.bool (decide (a<18446744073709551616)))),(12,(Value.bool ((decide (a<18446744073709551616))&&(decide (b<18446744073709551616)))))]) (LM:=[AX b2 71 (AS b),AX b1 71 (AS a)]) 4 ?_ ?_
 ·rcases Bool.eq_false_or_eq_true (decide (a<18446744073709551616)) with hg1|hg1
  ·skip
   refine OkL.retell (k:=8) (u:=Value.bool true) rfl (by rw [hg1]) ?_
   have hg1':=hg1
   replace hg1':=of_decide_eq_true hg1'
   exact OkL.step (v:=(pP b2 1)) (AB rfl) (AA rfl Tryz.underlying71 rfl Tryz.sizeOf9 rfl) rfl (AK rfl) (OkL.step (v:=(Value.string (Bd b))) (AB rfl) (AE (i:=0) (v:=(Value.string (Bd b))) rfl rfl Q5.a rfl) rfl (AK rfl) (OkL.step (v:=(Value.bool (decide (b<18446744073709551616)))) (AB rfl) (Bf (c:=(decide (b<18446744073709551616))) rfl rfl CI) rfl (AK rfl) (AG (v:=(Value.bool (decide (b<18446744073709551616)))) (AN rfl rfl) rfl (OkL.nil (OkQ.mid (sS rfl (sS rfl (sS rfl (sS rfl (sS rfl (sS rfl (sS (by first|rfl|(rw [hg1];rfl)|rw [hg1]) (sS (by first|rfl|(rw [hg1];rfl)|rw [hg1]) (sN))))))))) (List.Sublist.refl _))))))
  ·skip
   refine OkL.retell (k:=8) (u:=Value.bool false) rfl (by rw [hg1]) ?_
   have hg1':=hg1
   replace hg1':=of_decide_eq_false hg1'
   exact OkL.skip (AC rfl) rfl (AK rfl) (OkL.skip (AC rfl) rfl (AK rfl) (OkL.skip (AC rfl) rfl (AK rfl) (AG (v:=(Value.bool false)) (AJ rfl rfl) rfl (OkL.nil (OkQ.mid (sS rfl (sS rfl (sS rfl (sS rfl (sS rfl (sS rfl (sS (by first|rfl|(rw [hg1];rfl)|rw [hg1]) (sS (by first|rfl|(rw [hg1];rfl)|rw [hg1]) (sN))))))))) (List.Sublist.refl _))))))
 refine OkL.nil (OkQ.subF (sL [2,3,4,12] rfl) (OkQ.then_ ?_))
 refine OkC.jn0 (tg True) (tg [(2,(pP b1 0)),(3,(pP b2 0))]) (tg [AX b2 71 (AS b),AX b1 71 (AS a)]) ?_ ?_
 ·skip
  refine OkC.cond rfl (λhc0=>?_) (λhc0=>?_)
  ·simp only [Bool.and_eq_true,Bool.or_eq_true,Bool.and_eq_false_iff,Bool.or_eq_false_iff,Bool.not_eq_true',Bool.not_eq_false',decide_eq_true_eq,decide_eq_false_iff_not] at hc0
   refine OkC.seq (OkC.block (q4 (AG (v:=(pP b1 0)) (AA rfl Tryz.underlying71 rfl Tryz.sizeOf69 rfl) rfl (Aw 1 (vK .u64 (Bo a)) F9 rfl (OkL.retell (k:=15) (u:=(vK .u64 a)) rfl (by rw [BY hc0.1]) (AG (v:=(pP b2 0)) (AA rfl Tryz.underlying71 rfl Tryz.sizeOf69 rfl) rfl (Aw 0 (vK .u64 (Bo b)) F9 rfl (OkL.retell (k:=17) (u:=(vK .u64 b)) rfl (by rw [BY hc0.2]) (AG (Af (c:=(decide (a<b))) rfl rfl (B9 (a:=a) (b:=b))) rfl (asg' rfl (OkL.nil ?_)))))))))))
   refine OkQ.subF (sL [2,3,4,13] rfl) (OkQ.then_ ?_)
   refine OkC.cond rfl (λhc1=>?_) (λhc1=>?_)
   ·replace hc1:=of_decide_eq_true hc1
    have hz:Cp a b = -1:=if_pos hc1
    exact q4 (asg' rfl (OkL.nil (OkQ.then_ (OkC.ret (OkQ.in_ret (OkQ.then_ret (OkQ.join0_ret (OkQ.then_ret (ret_one rfl (rd_tmp (v:=(vI (-1:Int))) rfl) (λw hw=>⟨by rw [hz],hw.out⟩))))))))))
   ·replace hc1:=of_decide_eq_false hc1
    refine q4 (AG (v:=(pP b1 0)) (AA rfl Tryz.underlying71 rfl Tryz.sizeOf69 rfl) rfl (Aw 1 (vK .u64 (Bo a)) F9 rfl (OkL.retell (k:=21) (u:=(vK .u64 a)) rfl (by rw [BY hc0.1]) (AG (v:=(pP b2 0)) (AA rfl Tryz.underlying71 rfl Tryz.sizeOf69 rfl) rfl (Aw 0 (vK .u64 (Bo b)) F9 rfl (OkL.retell (k:=23) (u:=(vK .u64 b)) rfl (by rw [BY hc0.2]) (AG (B6 (c:=(decide (b<a))) rfl rfl (B9 (a:=b) (b:=a))) rfl (asg' rfl (OkL.nil (OkQ.subF (sL [2,3,4,19] rfl) (OkQ.then_ ?_)))))))))))
    refine OkC.cond rfl (λhc2=>?_) (λhc2=>?_)
    ·replace hc2:=of_decide_eq_true hc2
     have hz:Cp a b=1:=by unfold Cp;rw [if_neg (by omega),if_neg (by omega)]
     exact q4 (asg' rfl (OkL.nil (OkQ.then_ (OkC.ret (OkQ.in_ret (OkQ.then_ret (OkQ.join0_ret (OkQ.then_ret (ret_one rfl (rd_tmp (v:=(vI 1)) rfl) (λw hw=>⟨by rw [hz],hw.out⟩))))))))))
    ·replace hc2:=of_decide_eq_false hc2
     have hz:Cp a b=0:=Lc.2 (by omega)
     exact OkC.skip (OkQ.in_normal (q2 (asg' rfl (OkL.nil (OkQ.then_ (OkC.ret (OkQ.join0_ret (OkQ.then_ret (ret_one rfl (rd_tmp (v:=(vI 0)) rfl) (λw hw=>⟨by rw [hz],hw.out⟩))))))))))
  ·simp only [Bool.and_eq_true,Bool.or_eq_true,Bool.and_eq_false_iff,Bool.or_eq_false_iff,Bool.not_eq_true',Bool.not_eq_false',decide_eq_true_eq,decide_eq_false_iff_not] at hc0
   exact OkC.skip (OkQ.join0  (trivial) (sF rfl) sr)
 ·intro hJ
  refine q1 (CV [(0,true),(2,true),(1,false),(3,false),(4,false),(5,true)] sr (Ec 1 Bw rfl (Ec 0 Bw rfl (OkE.imp rfl (OkL.callB (V:=λb3=>(Value.slice (some ⟨b3,0,none⟩) (nw a) ((Am a).length))) (T:=92) (cs:=Ae (Am a)) (AP rfl) (Ap (args:=[(aG (AS a))]) rfl rfl Tryz.call187) (λw hw=>Cu a (by omega) w) rfl (AK rfl) λb3=>OkE.back (sl sr) (OkE.imp rfl (OkL.callB (V:=λb4=>(Value.slice (some ⟨b4,0,none⟩) (nw b) ((Am b).length))) (T:=92) (cs:=Ae (Am b)) (AP rfl) (Ap (args:=[(aG (AS b))]) rfl rfl Tryz.call187) (λw hw=>Cu b (by omega) w) rfl (AK rfl) λb4=>OkE.back (sl (sl sr)) (OkE.imp rfl (Cq Tryz.call271 (λw hw=>Wf a b _ _ _ _ (by omega) (by omega) w (hw.get (i:=1) rfl) (hw.get (i:=0) rfl)) rfl ?_)))))))))
  exact OkE.back (sl (sl sr)) (pS' rfl (OkE.nil (OkQ.subF (sL [2,3,4] rfl) (OkQ.then_ (OkC.ret (ret_one rfl (rd_tmp (v:=(vI (Cp a b))) rfl) (λw hw=>⟨rfl,hw.out⟩)))))))
theorem SD (a b:Nat) (ha:nw a<=1099511627776) (hb:nw b<=1099511627776) (w:World)  :Calls Tryz.prog 194 #[(aG (AS a)),(aG (AS b))] w (Ai w (aG (AS (a+b)))):=by
 have hla:=B1 a
 have hlb:=B1 b
 refine AZ (args:=[(aG (AS a)),(aG (AS b))]) Tryz.func194 rfl rfl (AK rfl) (OkC.subF (sL [0,1] rfl) (q4 (Bg (cs:=AS a) rfl λb1=>Bg (cs:=AS b) rfl λb2=>al FV rfl λb3=>q6 (sL [2,3,4] rfl) (q4 (AG (v:=(pP b1 1)) (AA rfl Tryz.underlying71 rfl Tryz.sizeOf9 rfl) rfl (Aw 2 (Value.string (Bd a)) Q5 rfl (AG (Bf (c:=(decide (a<18446744073709551616))) rfl rfl CI) rfl (AO rfl ?_))))))))
 refine OkL.mid (FM:=[(2,(pP b1 0)),(3,(pP b2 0)),(4,(pP b3 0)),(13,(pP b1 1)),(14,(Value.string (Bd a))),(15,(Value.bool (decide (a<18446744073709551616)))),(16,(Value.bool (decide (a<18446744073709551616)))),(20,(Value.bool ((decide (a<18446744073709551616))&&(decide (b<18446744073709551616)))))]) (LM:=[AX b3 71 (AS 0),AX b2 71 (AS b),AX b1 71 (AS a)]) 4 ?_ ?_
 ·rcases Bool.eq_false_or_eq_true (decide (a<18446744073709551616)) with hg1|hg1
  ·skip
   refine OkL.retell (k:=16) (u:=Value.bool true) rfl (by rw [hg1]) ?_
   have hg1':=hg1
   replace hg1':=of_decide_eq_true hg1'
   exact OkL.step (v:=(pP b2 1)) (AB rfl) (AA rfl Tryz.underlying71 rfl Tryz.sizeOf9 rfl) rfl (AK rfl) (OkL.step (v:=(Value.string (Bd b))) (AB rfl) (AE (i:=1) (v:=(Value.string (Bd b))) rfl rfl Q5.a rfl) rfl (AK rfl) (OkL.step (v:=(Value.bool (decide (b<18446744073709551616)))) (AB rfl) (Bf (c:=(decide (b<18446744073709551616))) rfl rfl CI) rfl (AK rfl) (AG (v:=(Value.bool (decide (b<18446744073709551616)))) (AN rfl rfl) rfl (OkL.nil (OkQ.mid (sS rfl (sS rfl (sS rfl (sS rfl (sS rfl (sS rfl (sS (by first|rfl|(rw [hg1];rfl)|rw [hg1]) (sS (by first|rfl|(rw [hg1];rfl)|rw [hg1]) (sN))))))))) (List.Sublist.refl _))))))
  ·skip
   refine OkL.retell (k:=16) (u:=Value.bool false) rfl (by rw [hg1]) ?_
   have hg1':=hg1
   replace hg1':=of_decide_eq_false hg1'
   exact OkL.skip (AC rfl) rfl (AK rfl) (OkL.skip (AC rfl) rfl (AK rfl) (OkL.skip (AC rfl) rfl (AK rfl) (AG (v:=(Value.bool false)) (AJ rfl rfl) rfl (OkL.nil (OkQ.mid (sS rfl (sS rfl (sS rfl (sS rfl (sS rfl (sS rfl (sS (by first|rfl|(rw [hg1];rfl)|rw [hg1]) (sS (by first|rfl|(rw [hg1];rfl)|rw [hg1]) (sN))))))))) (List.Sublist.refl _))))))
 refine OkL.nil (OkQ.subF (sL [2,3,4,20] rfl) (OkQ.then_ ?_))
 refine OkC.jn0 (tg True) (tg [(2,(pP b1 0)),(3,(pP b2 0)),(4,(pP b3 0))]) (tg [AX b3 71 (AS 0),AX b2 71 (AS b),AX b1 71 (AS a)]) ?_ ?_
 ·skip
  refine OkC.cond rfl (λhc0=>?_) (λhc0=>?_)
  ·simp only [Bool.and_eq_true,Bool.or_eq_true,Bool.and_eq_false_iff,Bool.or_eq_false_iff,Bool.not_eq_true',Bool.not_eq_false',decide_eq_true_eq,decide_eq_false_iff_not] at hc0
   refine q4 (AG (v:=(pP b1 0)) (AA rfl Tryz.underlying71 rfl Tryz.sizeOf69 rfl) rfl (Aw 2 (vK .u64 (Bo a)) F9 rfl (OkL.retell (k:=23) (u:=(vK .u64 a)) rfl (by rw [BY hc0.1]) (AG (v:=(pP b2 0)) (AA rfl Tryz.underlying71 rfl Tryz.sizeOf69 rfl) rfl (Aw 1 (vK .u64 (Bo b)) F9 rfl (OkL.retell (k:=25) (u:=(vK .u64 b)) rfl (by rw [BY hc0.2]) (AG (v:=(Value.tuple #[(vK .u64 ((a+b+0)%18446744073709551616)),(vK .u64 ((a+b+0)/18446744073709551616))])) (P1 (args:=[(vK .u64 a),(vK .u64 b),(Value.int .u64 (0:Int))]) rfl rfl (λw=>Qj Tryz.func239 (by kernel_rfl) (by kernel_rfl) (by kernel_rfl) (by kernel_rfl) a b 0 (by omega) w)) rfl (AO rfl (AG (AV (v:=(vK .u64 ((a+b+0)%18446744073709551616))) rfl rfl) rfl (AG (AV (v:=(vK .u64 ((a+b+0)/18446744073709551616))) rfl rfl) rfl (asg' rfl ?_)))))))))))
   refine asg' rfl (q3 (sL [2,3,4,5,6] rfl) (AO rfl (AG (BE (c:=(decide (((a+b+0)/18446744073709551616)=0))) rfl rfl (L5 (a:=(a+b+0)/18446744073709551616) (b:=0))) rfl (OkL.nil (OkQ.subF (sL [2,3,4,5,30] rfl) (OkQ.then_ ?_))))))
   refine OkC.cond rfl (λhc1=>?_) (λhc1=>?_)
   ·replace hc1:=of_decide_eq_true hc1
    exact q4 (AO rfl (AG (v:=(aG ([(vK .u64 ((a+b+0)%18446744073709551616)),(Value.string (Bd 0))]))) (AR (zs:=AS 0) (vs:=[(vK .u64 ((a+b+0)%18446744073709551616)),(Value.string (Bd 0))]) (pv:=[(0,(vK .u64 ((a+b+0)%18446744073709551616)))]) (places:=[(0,1),(1,1)]) Tryz.zeroValue71 Tryz.underlying71 (λw=>by simp [Tryz.sizeOf9,Tryz.sizeOf69]) rfl rfl) rfl (OkL.retell (k:=32) (u:=(aG (AS (a+b)))) rfl (by rw [DG (by omega),show (a+b+0)%18446744073709551616=a+b by omega];rfl) (Ay rfl Tryz.sizeOf71 rfl (OkL.nil (OkQ.subF (sL [2,3,4] rfl) (OkQ.then_ (OkC.ret (OkQ.join0_ret (OkQ.then_ret (ret_one rfl (Aj (i:=0) (cs:=AS (a+b)) rfl rfl Tryz.isAgg71 Tryz.sizeOf71 rfl) (λw hw=>⟨rfl,hw.out⟩))))))))))))
   ·replace hc1:=of_decide_eq_false hc1
    exact OkC.skip (OkQ.join0  (trivial) (sF rfl) sr)
  ·simp only [Bool.and_eq_true,Bool.or_eq_true,Bool.and_eq_false_iff,Bool.or_eq_false_iff,Bool.not_eq_true',Bool.not_eq_false',decide_eq_true_eq,decide_eq_false_iff_not] at hc0
   exact OkC.skip (OkQ.join0  (trivial) (sF rfl) sr)
 ·intro hJ
  refine q1 (CV [(0,true),(2,true),(1,false),(3,false),(4,true),(5,true)] sr (Ec 2 Bw rfl (Ec 1 Bw rfl (OkE.imp rfl (OkL.callB (V:=λb4=>(Value.slice (some ⟨b4,0,none⟩) (nw a) ((Am a).length))) (T:=92) (cs:=Ae (Am a)) (AP rfl) (Ap (args:=[(aG (AS a))]) rfl rfl Tryz.call187) (λw hw=>Cu a (by omega) w) rfl (AK rfl) λb4=>OkE.back (sl sr) (OkE.imp rfl (OkL.callB (V:=λb5=>(Value.slice (some ⟨b5,0,none⟩) (nw b) ((Am b).length))) (T:=92) (cs:=Ae (Am b)) (AP rfl) (Ap (args:=[(aG (AS b))]) rfl rfl Tryz.call187) (λw hw=>Cu b (by omega) w) rfl (AK rfl) λb5=>OkE.back (sl (sl sr)) (pS' rfl (pS' rfl ?_)))))))))
  refine OkE.nil (OkQ.subF (sL [2,3,4,7,8] rfl) (q1 (q4 (AO rfl (AG (v:=(vN (nw a))) (AD rfl Tryz.underlying255) rfl (AO rfl (AG (v:=(vN (nw b))) (AD rfl Tryz.underlying255) rfl (AG (Af (c:=(decide ((nw a)<(nw b)))) rfl rfl (B9 (a:=nw a) (b:=nw b))) rfl (OkL.nil (OkQ.subF (sL [2,3,4,7,8,41] rfl) (OkQ.then_ ?_)))))))))))
  refine OkC.cond rfl (λhc2=>?_) (λhc2=>?_)
  ·replace hc2:=of_decide_eq_true hc2
   refine OkC.region (AO rfl (AO rfl (asg' rfl (asg' rfl (q3 (sL [2,3,4,7,8] rfl) (AO rfl (AG (v:=(vN (nw b))) (AD rfl Tryz.underlying255) rfl (AG (AY (c:=(((nw b)+1:Nat):Int)) rfl rfl (AT (a:=nw b) (b:=1) (by omega))) rfl (OkL.openV (V:=λb6=>(Value.slice (some ⟨b6,0,none⟩) ((nw b)+1) ((nw b)+1))) (T:=92) (cs:=Ae (List.replicate ((nw b)+1) 0)) (AP rfl) (Cv (m:=(nw b)+1) (c:=(nw b)+1) rfl rfl (by omega) (by omega)) rfl (AK rfl) λb6=>asg' rfl (q3 (sL [2,3,4,7,8,9] rfl) ?_))))))))))
   refine AO rfl (AO rfl (OkL.copy_u32 (i:=0) (j:=1) (ns:=Ae (AM b)) (cs':=Ae (AM b++(List.replicate (nw b+1) 0).drop (AM b).length)) (L':=[AX b6 92 (Ae (AM b++(List.replicate (nw b+1) 0).drop (AM b).length)),AX b5 92 (Ae (Am b)),AX b4 92 (Ae (Am a)),AX b3 71 (AS 0),AX b2 71 (AS b),AX b1 71 (AS a)]) rfl (AP rfl) rfl rfl rfl rfl (by rw [KT,Hd]) (BI _) (MM _) (by omega) (by rw [BI];simp;try omega) (MC _ _) rfl (AK rfl) (q3 (sL [2,3,4,7,8,9] rfl) (asg' rfl (OkL.nil (q1 (q4 (AO rfl (AG (v:=(vN ((nw b)+1))) (AD rfl Tryz.underlying255) rfl (AO rfl (OkL.nil ?_)))))))))))
   refine OkQ.subF (sL [2,3,4,7,8,9,10,52,53] rfl) (OkQ.then_ (OkC.block ?_))
   refine OkC.lp3 (tg λ(i:Nat) (os:List Nat) (c:Nat)=>i<=nw b+1/\os.length=nw b+1/\W32 os/\c<=1/\val os+c*4294967296^i=b+val ((AM a).take i)) (tg λ(i:Nat) (os:List Nat) (c:Nat)=>[(4,(pP b3 0)),(8,(Value.slice (some ⟨b4,0,none⟩) (nw a) ((Am a).length))),(9,(Value.slice (some ⟨b6,0,none⟩) ((nw b)+1) ((nw b)+1))),(52,(vN ((nw b)+1))),(53,(vN i)),(10,(vK .u32 c))]) (tg λ(i:Nat) (os:List Nat) (c:Nat)=>[AX b6 92 (Ae os),AX b5 92 (Ae (Am b)),AX b4 92 (Ae (Am a)),AX b3 71 (AS 0),AX b2 71 (AS b),AX b1 71 (AS a)]) (tg λ(i:Nat) (os:List Nat) (c:Nat)=>nw b+1-i) 0 (AM b++(List.replicate (nw b+1) 0).drop (AM b).length) 0 (⟨Nat.zero_le _,(E7 b 1).1,(E7 b 1).2.1,by omega,by rw [(E7 b 1).2.2];simp [val]⟩) (sF rfl) sr (λi os c hJ=>?_)
   obtain ⟨hi,hl,hw32,hcc,hv⟩:=hJ
   refine q4 (AG (Af (c:=(decide (i<((nw b)+1)))) rfl rfl (B9 (a:=i) (b:=(nw b)+1))) rfl (OkL.nil (q1 ?_)))
   refine OkC.cond rfl (λhc3=>?_) (λhc3=>?_)
   ·replace hc3:=of_decide_eq_true hc3
    refine OkC.skip (q1 (OkC.block (q4 (AO rfl (asg' rfl (q3 (sL [4,8,9,52,53,10,11] rfl) (asg' rfl (OkL.nil (q1 (q4 (AO rfl ?_)))))))))))
    refine AO rfl (AG (v:=(vN (nw a))) (AD rfl Tryz.underlying255) rfl (AG (Af (c:=(decide (i<(nw a)))) rfl rfl (B9 (a:=i) (b:=nw a))) rfl (OkL.nil (OkQ.subF (sL [4,8,9,52,53,10,11,12,59] rfl) (OkQ.then_ ?_)))))
    refine OkC.jn0 (tg True) (tg [(4,(pP b3 0)),(8,(Value.slice (some ⟨b4,0,none⟩) (nw a) ((Am a).length))),(9,(Value.slice (some ⟨b6,0,none⟩) ((nw b)+1) ((nw b)+1))),(52,(vN ((nw b)+1))),(53,(vN i)),(10,(vK .u32 c)),(11,(vN i)),(12,(vK .u32 ((AM a).getD i 0)))]) (tg [AX b6 92 (Ae os),AX b5 92 (Ae (Am b)),AX b4 92 (Ae (Am a)),AX b3 71 (AS 0),AX b2 71 (AS b),AX b1 71 (AS a)]) ?_ ?_
    ·skip
     refine OkC.cond rfl (λhc4=>?_) (λhc4=>?_)
     ·replace hc4:=of_decide_eq_true hc4
      refine OkC.region (AO rfl (AO rfl (AG (v:=(pP b4 i)) (AL (j:=i) rfl rfl Tryz.underlying255 Tryz.sizeOf92 rfl (by omega) (by simp)) rfl ?_)))
      have hx1:(Am a).getD i 0<4294967296:=W32.getD (B2 a) i
      exact AG (AE (i:=2) (v:=(vK .u32 ((Am a).getD i 0))) rfl rfl Tryz.isAgg92 (A6 (xs:=Am a) (j:=i) (by omega))) rfl (OkL.retell (k:=63) (u:=(vK .u32 ((AM a).getD i 0))) rfl (by rw [DA hc4]) (asg' rfl (OkL.nil (OkQ.subF (sL [4,8,9,52,53,10,11,12] rfl) (OkQ.join0  (trivial) (sF rfl) sr)))))
     ·replace hc4:=of_decide_eq_false hc4
      exact OkC.skip (OkQ.retell (k:=12) (u:=Value.int .u32 (((AM a).getD i 0:Nat):Int)) rfl (by rw [D1 hc4];rfl) (OkQ.join0  (trivial) (sF rfl) sr))
    ·intro hJ
     refine OkQ.then_ (OkC.region (AO rfl (AO rfl (AO rfl (AO rfl (AG (v:=(pP b6 i)) (AL (j:=i) rfl rfl Tryz.underlying255 Tryz.sizeOf92 rfl (by omega) (by simp)) rfl ?_))))))
     have hx2:os.getD i 0<4294967296:=W32.getD hw32 i
     refine AG (AE (i:=0) (v:=(vK .u32 (os.getD i 0))) rfl rfl Tryz.isAgg92 (A6 (xs:=os) (j:=i) (by omega))) rfl (AO rfl (AO rfl ?_))
     have hya:=(Bh a).getD i
     have hyb:=(Bh b).getD i
     refine ck' Tryz.call240 (Ja (os.getD i 0) ((AM a).getD i 0) c (by omega) (by omega) (by omega)) rfl (AO rfl (AG (AV (v:=(vK .u32 (((os.getD i 0)+((AM a).getD i 0)+c)%4294967296))) rfl rfl) rfl (AG (AV (v:=(vK .u32 (((os.getD i 0)+((AM a).getD i 0)+c)/4294967296))) rfl rfl) rfl (AG (v:=(pP b6 i)) (AL (j:=i) rfl rfl Tryz.underlying255 Tryz.sizeOf92 rfl (by omega) (by simp)) rfl (OkL.store' (i:=0) (off:=i) (vs:=[(vK .u32 (((os.getD i 0)+((AM a).getD i 0)+c)%4294967296))]) (cs':=Ae (os.set i (((os.getD i 0)+((AM a).getD i 0)+c)%4294967296))) (L':=[AX b6 92 (Ae (os.set i (((os.getD i 0)+((AM a).getD i 0)+c)%4294967296))),AX b5 92 (Ae (Am b)),AX b4 92 (Ae (Am a)),AX b3 71 (AS 0),AX b2 71 (AS b),AX b1 71 (AS a)]) (AP rfl) rfl rfl rfl rfl rfl Tryz.sizeOf92 rfl (CM (BI _) (by omega)) (B0 (by omega)) rfl (asg' rfl (OkL.nil (OkQ.subF (sL [4,8,9,52,53,10,11,12] rfl) (OkQ.in_normal (OkQ.then_ (OkC.region ?_)))))))))))
     exact AG (AY (c:=((i+1:Nat):Int)) rfl rfl (AT (a:=i) (b:=1) (by omega))) rfl (AO rfl (OkL.nil (OkQ.subF (sL [4,8,9,52,53,10,11,12] rfl) (OkQ.round3 (i+1) (os.set i ((os.getD i 0+(AM a).getD i 0+c)%4294967296)) ((os.getD i 0+(AM a).getD i 0+c)/4294967296) (⟨by omega,by rw [List.length_set];exact hl,W32.set hw32 (by omega) i,by omega,NQ hl hc3 hv⟩) (by omega) (sF rfl) sr))))
   ·replace hc3:=of_decide_eq_false hc3
    refine OkC.exit (OkQ.then_exit (OkQ.round3_exit (OkQ.in_exit (q2 (AO rfl (Cq Tryz.call206 (λw hw=>II _ ((nw b)+1) ((nw b)+1) os hw32 (by first|omega|(rw [rowN_length];omega)|simp|(simp;omega)) (by first|omega|simp|(simp;omega)) (by first|omega|simp|(simp;omega)) w (hw.get (i:=0) rfl)) rfl (OkL.retell (k:=79) (u:=(aG (AS (a+b)))) rfl (by rw [List.take_of_length_le (show os.length<=nw b+1 by omega),Ml (X:=b) (Y:=a) (c:=c) (i:=i) hl hw32 (by omega) (SP (by omega)) (by rw [hv,Cz (by omega)]),Nat.add_comm]) (ML rfl Tryz.sizeOf71 rfl (OkL.nil (OkQ.subF (sL [4,8,9,52,53,10] rfl) (OkQ.then_ ?_)))))))))))
    exact OkC.ret (ret_one rfl (Aj (i:=3) (cs:=AS (a+b)) rfl rfl Tryz.isAgg71 Tryz.sizeOf71 rfl) (λw hw=>⟨rfl,hw.out⟩))
  ·replace hc2:=of_decide_eq_false hc2
   refine OkC.skip (q2 (AO rfl (AG (v:=(vN (nw a))) (AD rfl Tryz.underlying255) rfl (AG (AY (c:=(((nw a)+1:Nat):Int)) rfl rfl (AT (a:=nw a) (b:=1) (by omega))) rfl (OkL.openV (V:=λb6=>(Value.slice (some ⟨b6,0,none⟩) ((nw a)+1) ((nw a)+1))) (T:=92) (cs:=Ae (List.replicate ((nw a)+1) 0)) (AP rfl) (Cv (m:=(nw a)+1) (c:=(nw a)+1) rfl rfl (by omega) (by omega)) rfl (AK rfl) λb6=>asg' rfl (q3 (sL [2,3,4,7,8,9] rfl) (AO rfl (AO rfl (OkL.copy_u32 (i:=0) (j:=2) (ns:=Ae (AM a)) (cs':=Ae (AM a++(List.replicate (nw a+1) 0).drop (AM a).length)) (L':=[AX b6 92 (Ae (AM a++(List.replicate (nw a+1) 0).drop (AM a).length)),AX b5 92 (Ae (Am b)),AX b4 92 (Ae (Am a)),AX b3 71 (AS 0),AX b2 71 (AS b),AX b1 71 (AS a)]) rfl (AP rfl) rfl rfl rfl rfl (by rw [KT,Hd]) (BI _) (MM _) (by omega) (by rw [BI];simp;try omega) (MC _ _) rfl (AK rfl) (q3 (sL [2,3,4,7,8,9] rfl) ?_))))))))))
   refine asg' rfl (OkL.nil (q1 (q4 (AO rfl (AG (v:=(vN ((nw a)+1))) (AD rfl Tryz.underlying255) rfl (AO rfl (OkL.nil (OkQ.subF (sL [2,3,4,7,8,9,10,52,53] rfl) (OkQ.then_ (OkC.block ?_))))))))))
   refine OkC.lp3 (tg λ(i:Nat) (os:List Nat) (c:Nat)=>i<=nw a+1/\os.length=nw a+1/\W32 os/\c<=1/\val os+c*4294967296^i=a+val ((AM b).take i)) (tg λ(i:Nat) (os:List Nat) (c:Nat)=>[(4,(pP b3 0)),(8,(Value.slice (some ⟨b5,0,none⟩) (nw b) ((Am b).length))),(9,(Value.slice (some ⟨b6,0,none⟩) ((nw a)+1) ((nw a)+1))),(52,(vN ((nw a)+1))),(53,(vN i)),(10,(vK .u32 c))]) (tg λ(i:Nat) (os:List Nat) (c:Nat)=>[AX b6 92 (Ae os),AX b5 92 (Ae (Am b)),AX b4 92 (Ae (Am a)),AX b3 71 (AS 0),AX b2 71 (AS b),AX b1 71 (AS a)]) (tg λ(i:Nat) (os:List Nat) (c:Nat)=>nw a+1-i) 0 (AM a++(List.replicate (nw a+1) 0).drop (AM a).length) 0 (⟨Nat.zero_le _,(E7 a 1).1,(E7 a 1).2.1,by omega,by rw [(E7 a 1).2.2];simp [val]⟩) (sF rfl) sr (λi os c hJ=>?_)
   obtain ⟨hi,hl,hw32,hcc,hv⟩:=hJ
   refine q4 (AG (Af (c:=(decide (i<((nw a)+1)))) rfl rfl (B9 (a:=i) (b:=(nw a)+1))) rfl (OkL.nil (q1 ?_)))
   refine OkC.cond rfl (λhc3=>?_) (λhc3=>?_)
   ·replace hc3:=of_decide_eq_true hc3
    refine OkC.skip (q1 (OkC.block (q4 (AO rfl (asg' rfl (q3 (sL [4,8,9,52,53,10,11] rfl) (asg' rfl (OkL.nil (q1 (q4 (AO rfl ?_)))))))))))
    refine AO rfl (AG (v:=(vN (nw b))) (AD rfl Tryz.underlying255) rfl (AG (Af (c:=(decide (i<(nw b)))) rfl rfl (B9 (a:=i) (b:=nw b))) rfl (OkL.nil (OkQ.subF (sL [4,8,9,52,53,10,11,12,59] rfl) (OkQ.then_ ?_)))))
    refine OkC.jn0 (tg True) (tg [(4,(pP b3 0)),(8,(Value.slice (some ⟨b5,0,none⟩) (nw b) ((Am b).length))),(9,(Value.slice (some ⟨b6,0,none⟩) ((nw a)+1) ((nw a)+1))),(52,(vN ((nw a)+1))),(53,(vN i)),(10,(vK .u32 c)),(11,(vN i)),(12,(vK .u32 ((AM b).getD i 0)))]) (tg [AX b6 92 (Ae os),AX b5 92 (Ae (Am b)),AX b4 92 (Ae (Am a)),AX b3 71 (AS 0),AX b2 71 (AS b),AX b1 71 (AS a)]) ?_ ?_
    ·skip
     refine OkC.cond rfl (λhc4=>?_) (λhc4=>?_)
     ·replace hc4:=of_decide_eq_true hc4
      refine OkC.region (AO rfl (AO rfl (AG (v:=(pP b5 i)) (AL (j:=i) rfl rfl Tryz.underlying255 Tryz.sizeOf92 rfl (by omega) (by simp)) rfl ?_)))
      have hx3:(Am b).getD i 0<4294967296:=W32.getD (B2 b) i
      exact AG (AE (i:=1) (v:=(vK .u32 ((Am b).getD i 0))) rfl rfl Tryz.isAgg92 (A6 (xs:=Am b) (j:=i) (by omega))) rfl (OkL.retell (k:=63) (u:=(vK .u32 ((AM b).getD i 0))) rfl (by rw [DA hc4]) (asg' rfl (OkL.nil (OkQ.subF (sL [4,8,9,52,53,10,11,12] rfl) (OkQ.join0  (trivial) (sF rfl) sr)))))
     ·replace hc4:=of_decide_eq_false hc4
      exact OkC.skip (OkQ.retell (k:=12) (u:=Value.int .u32 (((AM b).getD i 0:Nat):Int)) rfl (by rw [D1 hc4];rfl) (OkQ.join0  (trivial) (sF rfl) sr))
    ·intro hJ
     refine OkQ.then_ (OkC.region (AO rfl (AO rfl (AO rfl (AO rfl (AG (v:=(pP b6 i)) (AL (j:=i) rfl rfl Tryz.underlying255 Tryz.sizeOf92 rfl (by omega) (by simp)) rfl ?_))))))
     have hx4:os.getD i 0<4294967296:=W32.getD hw32 i
     refine AG (AE (i:=0) (v:=(vK .u32 (os.getD i 0))) rfl rfl Tryz.isAgg92 (A6 (xs:=os) (j:=i) (by omega))) rfl (AO rfl (AO rfl ?_))
     have hya:=(Bh a).getD i
     have hyb:=(Bh b).getD i
     refine ck' Tryz.call240 (Ja (os.getD i 0) ((AM b).getD i 0) c (by omega) (by omega) (by omega)) rfl (AO rfl (AG (AV (v:=(vK .u32 (((os.getD i 0)+((AM b).getD i 0)+c)%4294967296))) rfl rfl) rfl (AG (AV (v:=(vK .u32 (((os.getD i 0)+((AM b).getD i 0)+c)/4294967296))) rfl rfl) rfl (AG (v:=(pP b6 i)) (AL (j:=i) rfl rfl Tryz.underlying255 Tryz.sizeOf92 rfl (by omega) (by simp)) rfl (OkL.store' (i:=0) (off:=i) (vs:=[(vK .u32 (((os.getD i 0)+((AM b).getD i 0)+c)%4294967296))]) (cs':=Ae (os.set i (((os.getD i 0)+((AM b).getD i 0)+c)%4294967296))) (L':=[AX b6 92 (Ae (os.set i (((os.getD i 0)+((AM b).getD i 0)+c)%4294967296))),AX b5 92 (Ae (Am b)),AX b4 92 (Ae (Am a)),AX b3 71 (AS 0),AX b2 71 (AS b),AX b1 71 (AS a)]) (AP rfl) rfl rfl rfl rfl rfl Tryz.sizeOf92 rfl (CM (BI _) (by omega)) (B0 (by omega)) rfl (asg' rfl (OkL.nil (OkQ.subF (sL [4,8,9,52,53,10,11,12] rfl) (OkQ.in_normal (OkQ.then_ (OkC.region ?_)))))))))))
     exact AG (AY (c:=((i+1:Nat):Int)) rfl rfl (AT (a:=i) (b:=1) (by omega))) rfl (AO rfl (OkL.nil (OkQ.subF (sL [4,8,9,52,53,10,11,12] rfl) (OkQ.round3 (i+1) (os.set i ((os.getD i 0+(AM b).getD i 0+c)%4294967296)) ((os.getD i 0+(AM b).getD i 0+c)/4294967296) (⟨by omega,by rw [List.length_set];exact hl,W32.set hw32 (by omega) i,by omega,NQ hl hc3 hv⟩) (by omega) (sF rfl) sr))))
   ·replace hc3:=of_decide_eq_false hc3
    refine OkC.exit (OkQ.then_exit (OkQ.round3_exit (OkQ.in_exit (q2 (AO rfl (Cq Tryz.call206 (λw hw=>II _ ((nw a)+1) ((nw a)+1) os hw32 (by first|omega|(rw [rowN_length];omega)|simp|(simp;omega)) (by first|omega|simp|(simp;omega)) (by first|omega|simp|(simp;omega)) w (hw.get (i:=0) rfl)) rfl (OkL.retell (k:=79) (u:=(aG (AS (a+b)))) rfl (by rw [List.take_of_length_le (show os.length<=nw a+1 by omega),Ml (X:=a) (Y:=b) (c:=c) (i:=i) hl hw32 (by omega) (SP (by omega)) (by rw [hv,Cz (by omega)])]) (ML rfl Tryz.sizeOf71 rfl (OkL.nil (OkQ.subF (sL [4,8,9,52,53,10] rfl) (OkQ.then_ ?_)))))))))))
    exact OkC.ret (ret_one rfl (Aj (i:=3) (cs:=AS (a+b)) rfl rfl Tryz.isAgg71 Tryz.sizeOf71 rfl) (λw hw=>⟨rfl,hw.out⟩))
end
end Go.Proofs.YtpolhpjiahbidaaGreatDoor
