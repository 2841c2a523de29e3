import Derived.Test.YtpolhpjiahbidaaGreatDoorPart05
import Derived.Test.YtpolhpjiahbidaaGreatDoorPart09
namespace Go.Proofs.YtpolhpjiahbidaaGreatDoor
open Go Go.RowKit Go.Proofs.Tryz
set_option linter.unusedVariables false
set_option linter.unusedSimpArgs false
section
set_option maxRecDepth 100000
theorem S2 (a b:Nat) (ha:nw a<=1099511627776) (hb:nw b<=1099511627776) (w:World)  :Calls prog 242 #[(aG (AS a)),(aG (AS b))] w (Ah w (vI (Cu a b))):=by
 refine Ab (args:=[(aG (AS a)),(aG (AS b))]) func242 O O (AI O) (OkC.subF (sL [0,1] O) (q4 (Be (cs:=AS a) O λb1=>Be (cs:=AS b) O λb2=>asg' O (q6 (sL [2,3,4] O) (q4 (AH (v:=(pP b1 1)) (AA O underlying71 O sizeOf9 O) O (Au 1 (Value.string (Bc a)) SB O (AH (Bg (c:=(decide (a<18446744073709551616))) O O CJ) O (AM O ?_)))))))))
 refine OkL.mid (FM:=[(2,(pP b1 0)),(3,(pP b2 0)),(4,(vI 0)),(5,(pP b1 1)),(6,(Value.string (Bc a))),(7,(Value.bool (decide (a<18446744073709551616)))),(8,(Value.bool (decide (a<18446744073709551616)))),(12,(Value.bool ((decide (a<18446744073709551616))&&(decide (b<18446744073709551616)))))]) (LM:=[AU b2 71 (AS b),AU b1 71 (AS a)]) 4 ?_ ?_
 ·rcases Bool.eq_false_or_eq_true (decide (a<18446744073709551616)) with hg1|hg1
  ·skip
   refine OkL.retell (k:=8) (u:=Value.bool true) O (by rw [hg1]) ?_
   have hg1':=hg1
   replace hg1':=of_decide_eq_true hg1'
   exact OkL.step (v:=(pP b2 1)) (AB O) (AA O underlying71 O sizeOf9 O) O (AI O) (OkL.step (v:=(Value.string (Bc b))) (AB O) (AF (i:=0) (v:=(Value.string (Bc b))) O O SB.a O) O (AI O) (OkL.step (v:=(Value.bool (decide (b<18446744073709551616)))) (AB O) (Bg (c:=(decide (b<18446744073709551616))) O O CJ) O (AI O) (AH (v:=(Value.bool (decide (b<18446744073709551616)))) (AO O O) O (OkL.nil (OkQ.mid (sS O (sS O (sS O (sS O (sS O (sS O (sS (by first|rfl|(rw [hg1];rfl)|rw [hg1]) (sS (by first|rfl|(rw [hg1];rfl)|rw [hg1]) (sN))))))))) (List.Sublist.refl _))))))
  ·skip
   refine OkL.retell (k:=8) (u:=Value.bool false) O (by rw [hg1]) ?_
   have hg1':=hg1
   replace hg1':=of_decide_eq_false hg1'
   exact OkL.skip (AC O) O (AI O) (OkL.skip (AC O) O (AI O) (OkL.skip (AC O) O (AI O) (AH (v:=(Value.bool false)) (AJ O O) O (OkL.nil (OkQ.mid (sS O (sS O (sS O (sS O (sS O (sS O (sS (by first|rfl|(rw [hg1];rfl)|rw [hg1]) (sS (by first|rfl|(rw [hg1];rfl)|rw [hg1]) (sN))))))))) (List.Sublist.refl _))))))
 refine OkL.nil (OkQ.subF (sL [2,3,4,12] O) (OkQ.then_ ?_))
 refine OkC.jn0 (tg True) (tg [(2,(pP b1 0)),(3,(pP b2 0))]) (tg [AU b2 71 (AS b),AU b1 71 (AS a)]) ?_ ?_
 ·skip
  refine OkC.cond O (λhc0=>?_) (λhc0=>?_)
  ·simp only [Bool.and_eq_true,Bool.or_eq_true,Bool.and_eq_false_iff,Bool.or_eq_false_iff,Bool.not_eq_true',Bool.not_eq_false',decide_eq_true_eq,decide_eq_false_iff_not] at hc0
   refine OkC.seq (OkC.block (q4 (AH (v:=(pP b1 0)) (AA O underlying71 O sizeOf69 O) O (Au 1 (vK .u64 (Bo a)) GZ O (OkL.retell (k:=15) (u:=(vK .u64 a)) O (by rw [BZ hc0.1]) (AH (v:=(pP b2 0)) (AA O underlying71 O sizeOf69 O) O (Au 0 (vK .u64 (Bo b)) GZ O (OkL.retell (k:=17) (u:=(vK .u64 b)) O (by rw [BZ hc0.2]) (AH (Ae (c:=(decide (a<b))) O O (CB (a:=a) (b:=b))) O (asg' O (OkL.nil ?_)))))))))))
   refine OkQ.subF (sL [2,3,4,13] O) (OkQ.then_ ?_)
   refine OkC.cond O (λhc1=>?_) (λhc1=>?_)
   ·replace hc1:=of_decide_eq_true hc1
    have hz:Cu a b = -1:=if_pos hc1
    exact q4 (asg' O (OkL.nil (OkQ.then_ (OkC.ret (OkQ.in_ret (OkQ.then_ret (OkQ.join0_ret (OkQ.then_ret (ret_one O (rd_tmp (v:=(vI (-1:Int))) O) (λw hw=>⟨by rw [hz],hw.out⟩))))))))))
   ·replace hc1:=of_decide_eq_false hc1
    refine q4 (AH (v:=(pP b1 0)) (AA O underlying71 O sizeOf69 O) O (Au 1 (vK .u64 (Bo a)) GZ O (OkL.retell (k:=21) (u:=(vK .u64 a)) O (by rw [BZ hc0.1]) (AH (v:=(pP b2 0)) (AA O underlying71 O sizeOf69 O) O (Au 0 (vK .u64 (Bo b)) GZ O (OkL.retell (k:=23) (u:=(vK .u64 b)) O (by rw [BZ hc0.2]) (AH (Bs (c:=(decide (b<a))) O O (CB (a:=b) (b:=a))) O (asg' O (OkL.nil (OkQ.subF (sL [2,3,4,19] O) (OkQ.then_ ?_)))))))))))
    refine OkC.cond O (λhc2=>?_) (λhc2=>?_)
    ·replace hc2:=of_decide_eq_true hc2
     have hz:Cu a b=1:=by unfold Cu;rw [if_neg Z,if_neg Z]
     exact q4 (asg' O (OkL.nil (OkQ.then_ (OkC.ret (OkQ.in_ret (OkQ.then_ret (OkQ.join0_ret (OkQ.then_ret (ret_one O (rd_tmp (v:=(vI 1)) O) (λw hw=>⟨by rw [hz],hw.out⟩))))))))))
    ·replace hc2:=of_decide_eq_false hc2
     have hz:Cu a b=0:=MY.2 Z
     exact OkC.skip (OkQ.in_normal (q2 (asg' O (OkL.nil (OkQ.then_ (OkC.ret (OkQ.join0_ret (OkQ.then_ret (ret_one O (rd_tmp (v:=(vI 0)) O) (λw hw=>⟨by rw [hz],hw.out⟩))))))))))
  ·simp only [Bool.and_eq_true,Bool.or_eq_true,Bool.and_eq_false_iff,Bool.or_eq_false_iff,Bool.not_eq_true',Bool.not_eq_false',decide_eq_true_eq,decide_eq_false_iff_not] at hc0
   exact OkC.skip (OkQ.join0  (trivial) (sF O) sr)
 ·intro hJ
  refine q1 (Cd [(0,true),(2,true),(1,false),(3,false),(4,false),(5,true)] sr (Ev 1 By O (Ev 0 By O (OkE.imp O (OkL.callB (V:=λb3=>(Value.slice (some ⟨b3,0,none⟩) (nw a) ((Aq a).length))) (T:=92) (cs:=Ag (Aq a)) (AP O) (Ap (args:=[(aG (AS a))]) O O call187) (λw hw=>C6 a Z w) O (AI O) λb3=>OkE.back (sl sr) (OkE.imp O (OkL.callB (V:=λb4=>(Value.slice (some ⟨b4,0,none⟩) (nw b) ((Aq b).length))) (T:=92) (cs:=Ag (Aq b)) (AP O) (Ap (args:=[(aG (AS b))]) O O call187) (λw hw=>C6 b Z w) O (AI O) λb4=>OkE.back (sl (sl sr)) (OkE.imp O (Ce call271 (λw hw=>XM a b _ _ _ _ Z Z w (hw.get (i:=1) O) (hw.get (i:=0) O)) O ?_)))))))))
  exact OkE.back (sl (sl sr)) (pS' O (OkE.nil (OkQ.subF (sL [2,3,4] O) (OkQ.then_ (OkC.ret (ret_one O (rd_tmp (v:=(vI (Cu a b))) O) (λw hw=>⟨rfl,hw.out⟩)))))))
theorem SM (a b:Nat) (ha:nw a<=1099511627776) (hb:nw b<=1099511627776) (w:World)  :Calls prog 194 #[(aG (AS a)),(aG (AS b))] w (Ah w (aG (AS (a+b)))):=by
 have hla:=B5 a
 have hlb:=B5 b
 refine Ab (args:=[(aG (AS a)),(aG (AS b))]) func194 O O (AI O) (OkC.subF (sL [0,1] O) (q4 (Be (cs:=AS a) O λb1=>Be (cs:=AS b) O λb2=>al Fi O λb3=>q6 (sL [2,3,4] O) (q4 (AH (v:=(pP b1 1)) (AA O underlying71 O sizeOf9 O) O (Au 2 (Value.string (Bc a)) SB O (AH (Bg (c:=(decide (a<18446744073709551616))) O O CJ) O (AM O ?_))))))))
 refine OkL.mid (FM:=[(2,(pP b1 0)),(3,(pP b2 0)),(4,(pP b3 0)),(13,(pP b1 1)),(14,(Value.string (Bc a))),(15,(Value.bool (decide (a<18446744073709551616)))),(16,(Value.bool (decide (a<18446744073709551616)))),(20,(Value.bool ((decide (a<18446744073709551616))&&(decide (b<18446744073709551616)))))]) (LM:=[AU b3 71 (AS 0),AU b2 71 (AS b),AU b1 71 (AS a)]) 4 ?_ ?_
 ·rcases Bool.eq_false_or_eq_true (decide (a<18446744073709551616)) with hg1|hg1
  ·skip
   refine OkL.retell (k:=16) (u:=Value.bool true) O (by rw [hg1]) ?_
   have hg1':=hg1
   replace hg1':=of_decide_eq_true hg1'
   exact OkL.step (v:=(pP b2 1)) (AB O) (AA O underlying71 O sizeOf9 O) O (AI O) (OkL.step (v:=(Value.string (Bc b))) (AB O) (AF (i:=1) (v:=(Value.string (Bc b))) O O SB.a O) O (AI O) (OkL.step (v:=(Value.bool (decide (b<18446744073709551616)))) (AB O) (Bg (c:=(decide (b<18446744073709551616))) O O CJ) O (AI O) (AH (v:=(Value.bool (decide (b<18446744073709551616)))) (AO O O) O (OkL.nil (OkQ.mid (sS O (sS O (sS O (sS O (sS O (sS O (sS (by first|rfl|(rw [hg1];rfl)|rw [hg1]) (sS (by first|rfl|(rw [hg1];rfl)|rw [hg1]) (sN))))))))) (List.Sublist.refl _))))))
  ·skip
   refine OkL.retell (k:=16) (u:=Value.bool false) O (by rw [hg1]) ?_
   have hg1':=hg1
   replace hg1':=of_decide_eq_false hg1'
   exact OkL.skip (AC O) O (AI O) (OkL.skip (AC O) O (AI O) (OkL.skip (AC O) O (AI O) (AH (v:=(Value.bool false)) (AJ O O) O (OkL.nil (OkQ.mid (sS O (sS O (sS O (sS O (sS O (sS O (sS (by first|rfl|(rw [hg1];rfl)|rw [hg1]) (sS (by first|rfl|(rw [hg1];rfl)|rw [hg1]) (sN))))))))) (List.Sublist.refl _))))))
 refine OkL.nil (OkQ.subF (sL [2,3,4,20] O) (OkQ.then_ ?_))
 refine OkC.jn0 (tg True) (tg [(2,(pP b1 0)),(3,(pP b2 0)),(4,(pP b3 0))]) (tg [AU b3 71 (AS 0),AU b2 71 (AS b),AU b1 71 (AS a)]) ?_ ?_
 ·skip
  refine OkC.cond O (λhc0=>?_) (λhc0=>?_)
  ·simp only [Bool.and_eq_true,Bool.or_eq_true,Bool.and_eq_false_iff,Bool.or_eq_false_iff,Bool.not_eq_true',Bool.not_eq_false',decide_eq_true_eq,decide_eq_false_iff_not] at hc0
   refine q4 (AH (v:=(pP b1 0)) (AA O underlying71 O sizeOf69 O) O (Au 2 (vK .u64 (Bo a)) GZ O (OkL.retell (k:=23) (u:=(vK .u64 a)) O (by rw [BZ hc0.1]) (AH (v:=(pP b2 0)) (AA O underlying71 O sizeOf69 O) O (Au 1 (vK .u64 (Bo b)) GZ O (OkL.retell (k:=25) (u:=(vK .u64 b)) O (by rw [BZ hc0.2]) (AH (v:=(Value.tuple #[(vK .u64 ((a+b+0)%18446744073709551616)),(vK .u64 ((a+b+0)/18446744073709551616))])) (RJ (args:=[(vK .u64 a),(vK .u64 b),(Value.int .u64 (0:Int))]) O O (λw=>Qv func239 (by kernel_rfl) (by kernel_rfl) (by kernel_rfl) (by kernel_rfl) a b 0 Z w)) O (AM O (AH (AV (v:=(vK .u64 ((a+b+0)%18446744073709551616))) O O) O (AH (AV (v:=(vK .u64 ((a+b+0)/18446744073709551616))) O O) O (asg' O ?_)))))))))))
   refine asg' O (q3 (sL [2,3,4,5,6] O) (AM O (AH (BG (c:=(decide (((a+b+0)/18446744073709551616)=0))) O O (K7 (a:=(a+b+0)/18446744073709551616) (b:=0))) O (OkL.nil (OkQ.subF (sL [2,3,4,5,30] O) (OkQ.then_ ?_))))))
   refine OkC.cond O (λhc1=>?_) (λhc1=>?_)
   ·replace hc1:=of_decide_eq_true hc1
    exact q4 (AM O (AH (v:=(aG ([(vK .u64 ((a+b+0)%18446744073709551616)),(Value.string (Bc 0))]))) (AQ (zs:=AS 0) (vs:=[(vK .u64 ((a+b+0)%18446744073709551616)),(Value.string (Bc 0))]) (pv:=[(0,(vK .u64 ((a+b+0)%18446744073709551616)))]) (places:=[(0,1),(1,1)]) zeroValue71 underlying71 (λw=>by simp [sizeOf9,sizeOf69]) O O) O (OkL.retell (k:=32) (u:=(aG (AS (a+b)))) O (by rw [DU Z,show (a+b+0)%18446744073709551616=a+b by omega];rfl) (Ax O sizeOf71 O (OkL.nil (OkQ.subF (sL [2,3,4] O) (OkQ.then_ (OkC.ret (OkQ.join0_ret (OkQ.then_ret (ret_one O (Ak (i:=0) (cs:=AS (a+b)) O O isAgg71 sizeOf71 O) (λw hw=>⟨rfl,hw.out⟩))))))))))))
   ·replace hc1:=of_decide_eq_false hc1
    exact OkC.skip (OkQ.join0  (trivial) (sF O) sr)
  ·simp only [Bool.and_eq_true,Bool.or_eq_true,Bool.and_eq_false_iff,Bool.or_eq_false_iff,Bool.not_eq_true',Bool.not_eq_false',decide_eq_true_eq,decide_eq_false_iff_not] at hc0
   exact OkC.skip (OkQ.join0  (trivial) (sF O) sr)
 ·intro hJ
  refine q1 (Cd [(0,true),(2,true),(1,false),(3,false),(4,true),(5,true)] sr (Ev 2 By O (Ev 1 By O (OkE.imp O (OkL.callB (V:=λb4=>(Value.slice (some ⟨b4,0,none⟩) (nw a) ((Aq a).length))) (T:=92) (cs:=Ag (Aq a)) (AP O) (Ap (args:=[(aG (AS a))]) O O call187) (λw hw=>C6 a Z w) O (AI O) λb4=>OkE.back (sl sr) (OkE.imp O (OkL.callB (V:=λb5=>(Value.slice (some ⟨b5,0,none⟩) (nw b) ((Aq b).length))) (T:=92) (cs:=Ag (Aq b)) (AP O) (Ap (args:=[(aG (AS b))]) O O call187) (λw hw=>C6 b Z w) O (AI O) λb5=>OkE.back (sl (sl sr)) (pS' O (pS' O ?_)))))))))
  refine OkE.nil (OkQ.subF (sL [2,3,4,7,8] O) (q1 (q4 (AM O (AH (v:=(vN (nw a))) (AD O underlying255) O (AM O (AH (v:=(vN (nw b))) (AD O underlying255) O (AH (Ae (c:=(decide ((nw a)<(nw b)))) O O (CB (a:=nw a) (b:=nw b))) O (OkL.nil (OkQ.subF (sL [2,3,4,7,8,41] O) (OkQ.then_ ?_)))))))))))
  refine OkC.cond O (λhc2=>?_) (λhc2=>?_)
  ·replace hc2:=of_decide_eq_true hc2
   refine OkC.region (AM O (AM O (asg' O (asg' O (q3 (sL [2,3,4,7,8] O) (AM O (AH (v:=(vN (nw b))) (AD O underlying255) O (AH (AX (c:=(((nw b)+1:Nat):Int)) O O (AR (a:=nw b) (b:=1) Z)) O (OkL.openV (V:=λb6=>(Value.slice (some ⟨b6,0,none⟩) ((nw b)+1) ((nw b)+1))) (T:=92) (cs:=Ag (List.replicate ((nw b)+1) 0)) (AP O) (C2 (m:=(nw b)+1) (c:=(nw b)+1) O O Z Z) O (AI O) λb6=>asg' O (q3 (sL [2,3,4,7,8,9] O) ?_))))))))))
   refine AM O (AM O (OkL.copy_u32 (i:=0) (j:=1) (ns:=Ag (AN b)) (cs':=Ag (AN b++(List.replicate (nw b+1) 0).drop (AN b).length)) (L':=[AU b6 92 (Ag (AN b++(List.replicate (nw b+1) 0).drop (AN b).length)),AU b5 92 (Ag (Aq b)),AU b4 92 (Ag (Aq a)),AU b3 71 (AS 0),AU b2 71 (AS b),AU b1 71 (AS a)]) O (AP O) O O O O (by rw [Lc,Hq]) (BJ _) (NW _) Z (by rw [BJ];simp;try omega) (OF _ _) O (AI O) (q3 (sL [2,3,4,7,8,9] O) (asg' O (OkL.nil (q1 (q4 (AM O (AH (v:=(vN ((nw b)+1))) (AD O underlying255) O (AM O (OkL.nil ?_)))))))))))
   refine OkQ.subF (sL [2,3,4,7,8,9,10,52,53] O) (OkQ.then_ (OkC.block ?_))
   refine OkC.lp3 (tg λ(i:Nat) (os:List Nat) (c:Nat)=>i<=nw b+1/\os.length=nw b+1/\W32 os/\c<=1/\val os+c*4294967296^i=b+val ((AN a).take i)) (tg λ(i:Nat) (os:List Nat) (c:Nat)=>[(4,(pP b3 0)),(8,(Value.slice (some ⟨b4,0,none⟩) (nw a) ((Aq a).length))),(9,(Value.slice (some ⟨b6,0,none⟩) ((nw b)+1) ((nw b)+1))),(52,(vN ((nw b)+1))),(53,(vN i)),(10,(vK .u32 c))]) (tg λ(i:Nat) (os:List Nat) (c:Nat)=>[AU b6 92 (Ag os),AU b5 92 (Ag (Aq b)),AU b4 92 (Ag (Aq a)),AU b3 71 (AS 0),AU b2 71 (AS b),AU b1 71 (AS a)]) (tg λ(i:Nat) (os:List Nat) (c:Nat)=>nw b+1-i) 0 (AN b++(List.replicate (nw b+1) 0).drop (AN b).length) 0 (⟨Nat.zero_le _,(FV b 1).1,(FV b 1).2.1,Z,by rw [(FV b 1).2.2];simp [val]⟩) (sF O) sr (λi os c hJ=>?_)
   obtain ⟨hi,hl,hw32,hcc,hv⟩:=hJ
   refine q4 (AH (Ae (c:=(decide (i<((nw b)+1)))) O O (CB (a:=i) (b:=(nw b)+1))) O (OkL.nil (q1 ?_)))
   refine OkC.cond O (λhc3=>?_) (λhc3=>?_)
   ·replace hc3:=of_decide_eq_true hc3
    refine OkC.skip (q1 (OkC.block (q4 (AM O (asg' O (q3 (sL [4,8,9,52,53,10,11] O) (asg' O (OkL.nil (q1 (q4 (AM O ?_)))))))))))
    refine AM O (AH (v:=(vN (nw a))) (AD O underlying255) O (AH (Ae (c:=(decide (i<(nw a)))) O O (CB (a:=i) (b:=nw a))) O (OkL.nil (OkQ.subF (sL [4,8,9,52,53,10,11,12,59] O) (OkQ.then_ ?_)))))
    refine OkC.jn0 (tg True) (tg [(4,(pP b3 0)),(8,(Value.slice (some ⟨b4,0,none⟩) (nw a) ((Aq a).length))),(9,(Value.slice (some ⟨b6,0,none⟩) ((nw b)+1) ((nw b)+1))),(52,(vN ((nw b)+1))),(53,(vN i)),(10,(vK .u32 c)),(11,(vN i)),(12,(vK .u32 ((AN a).getD i 0)))]) (tg [AU b6 92 (Ag os),AU b5 92 (Ag (Aq b)),AU b4 92 (Ag (Aq a)),AU b3 71 (AS 0),AU b2 71 (AS b),AU b1 71 (AS a)]) ?_ ?_
    ·skip
     refine OkC.cond O (λhc4=>?_) (λhc4=>?_)
     ·replace hc4:=of_decide_eq_true hc4
      refine OkC.region (AM O (AM O (AH (v:=(pP b4 i)) (AK (j:=i) O O underlying255 sizeOf92 O Z (by simp)) O ?_)))
      have hx1:(Aq a).getD i 0<4294967296:=W32.getD (B8 a) i
      exact AH (AF (i:=2) (v:=(vK .u32 ((Aq a).getD i 0))) O O isAgg92 (A8 (xs:=Aq a) (j:=i) Z)) O (OkL.retell (k:=63) (u:=(vK .u32 ((AN a).getD i 0))) O (by rw [DJ hc4]) (asg' O (OkL.nil (OkQ.subF (sL [4,8,9,52,53,10,11,12] O) (OkQ.join0  (trivial) (sF O) sr)))))
     ·replace hc4:=of_decide_eq_false hc4
      exact OkC.skip (OkQ.retell (k:=12) (u:=Value.int .u32 (((AN a).getD i 0:Nat):Int)) O (by rw [EO hc4];rfl) (OkQ.join0  (trivial) (sF O) sr))
    ·intro hJ
     refine OkQ.then_ (OkC.region (AM O (AM O (AM O (AM O (AH (v:=(pP b6 i)) (AK (j:=i) O O underlying255 sizeOf92 O Z (by simp)) O ?_))))))
     have hx2:os.getD i 0<4294967296:=W32.getD hw32 i
     refine AH (AF (i:=0) (v:=(vK .u32 (os.getD i 0))) O O isAgg92 (A8 (xs:=os) (j:=i) Z)) O (AM O (AM O ?_))
     have hya:=(Bi a).getD i
     have hyb:=(Bi b).getD i
     refine ck' call240 (Jt (os.getD i 0) ((AN a).getD i 0) c Z Z Z) O (AM O (AH (AV (v:=(vK .u32 (((os.getD i 0)+((AN a).getD i 0)+c)%4294967296))) O O) O (AH (AV (v:=(vK .u32 (((os.getD i 0)+((AN a).getD i 0)+c)/4294967296))) O O) O (AH (v:=(pP b6 i)) (AK (j:=i) O O underlying255 sizeOf92 O Z (by simp)) O (OkL.store' (i:=0) (off:=i) (vs:=[(vK .u32 (((os.getD i 0)+((AN a).getD i 0)+c)%4294967296))]) (cs':=Ag (os.set i (((os.getD i 0)+((AN a).getD i 0)+c)%4294967296))) (L':=[AU b6 92 (Ag (os.set i (((os.getD i 0)+((AN a).getD i 0)+c)%4294967296))),AU b5 92 (Ag (Aq b)),AU b4 92 (Ag (Aq a)),AU b3 71 (AS 0),AU b2 71 (AS b),AU b1 71 (AS a)]) (AP O) O O O O O sizeOf92 O (CR (BJ _) Z) (B2 Z) O (asg' O (OkL.nil (OkQ.subF (sL [4,8,9,52,53,10,11,12] O) (OkQ.in_normal (OkQ.then_ (OkC.region ?_)))))))))))
     exact AH (AX (c:=((i+1:Nat):Int)) O O (AR (a:=i) (b:=1) Z)) O (AM O (OkL.nil (OkQ.subF (sL [4,8,9,52,53,10,11,12] O) (OkQ.round3 (i+1) (os.set i ((os.getD i 0+(AN a).getD i 0+c)%4294967296)) ((os.getD i 0+(AN a).getD i 0+c)/4294967296) (⟨Z,by rw [List.length_set];exact hl,W32.set hw32 Z i,Z,NM hl hc3 hv⟩) Z (sF O) sr))))
   ·replace hc3:=of_decide_eq_false hc3
    refine OkC.exit (OkQ.then_exit (OkQ.round3_exit (OkQ.in_exit (q2 (AM O (Ce call206 (λw hw=>IY _ ((nw b)+1) ((nw b)+1) os hw32 (by first|omega|(rw [rowN_length];omega)|simp|(simp;omega)) (by first|omega|simp|(simp;omega)) (by first|omega|simp|(simp;omega)) w (hw.get (i:=0) O)) O (OkL.retell (k:=79) (u:=(aG (AS (a+b)))) O (by rw [List.take_of_length_le (show os.length<=nw b+1 by omega),Ns (X:=b) (Y:=a) (c:=c) (i:=i) hl hw32 Z (SR Z) (by rw [hv,C7 Z]),Nat.add_comm]) (N2 O sizeOf71 O (OkL.nil (OkQ.subF (sL [4,8,9,52,53,10] O) (OkQ.then_ ?_)))))))))))
    exact OkC.ret (ret_one O (Ak (i:=3) (cs:=AS (a+b)) O O isAgg71 sizeOf71 O) (λw hw=>⟨rfl,hw.out⟩))
  ·replace hc2:=of_decide_eq_false hc2
   refine OkC.skip (q2 (AM O (AH (v:=(vN (nw a))) (AD O underlying255) O (AH (AX (c:=(((nw a)+1:Nat):Int)) O O (AR (a:=nw a) (b:=1) Z)) O (OkL.openV (V:=λb6=>(Value.slice (some ⟨b6,0,none⟩) ((nw a)+1) ((nw a)+1))) (T:=92) (cs:=Ag (List.replicate ((nw a)+1) 0)) (AP O) (C2 (m:=(nw a)+1) (c:=(nw a)+1) O O Z Z) O (AI O) λb6=>asg' O (q3 (sL [2,3,4,7,8,9] O) (AM O (AM O (OkL.copy_u32 (i:=0) (j:=2) (ns:=Ag (AN a)) (cs':=Ag (AN a++(List.replicate (nw a+1) 0).drop (AN a).length)) (L':=[AU b6 92 (Ag (AN a++(List.replicate (nw a+1) 0).drop (AN a).length)),AU b5 92 (Ag (Aq b)),AU b4 92 (Ag (Aq a)),AU b3 71 (AS 0),AU b2 71 (AS b),AU b1 71 (AS a)]) O (AP O) O O O O (by rw [Lc,Hq]) (BJ _) (NW _) Z (by rw [BJ];simp;try omega) (OF _ _) O (AI O) (q3 (sL [2,3,4,7,8,9] O) ?_))))))))))
   refine asg' O (OkL.nil (q1 (q4 (AM O (AH (v:=(vN ((nw a)+1))) (AD O underlying255) O (AM O (OkL.nil (OkQ.subF (sL [2,3,4,7,8,9,10,52,53] O) (OkQ.then_ (OkC.block ?_))))))))))
   refine OkC.lp3 (tg λ(i:Nat) (os:List Nat) (c:Nat)=>i<=nw a+1/\os.length=nw a+1/\W32 os/\c<=1/\val os+c*4294967296^i=a+val ((AN b).take i)) (tg λ(i:Nat) (os:List Nat) (c:Nat)=>[(4,(pP b3 0)),(8,(Value.slice (some ⟨b5,0,none⟩) (nw b) ((Aq b).length))),(9,(Value.slice (some ⟨b6,0,none⟩) ((nw a)+1) ((nw a)+1))),(52,(vN ((nw a)+1))),(53,(vN i)),(10,(vK .u32 c))]) (tg λ(i:Nat) (os:List Nat) (c:Nat)=>[AU b6 92 (Ag os),AU b5 92 (Ag (Aq b)),AU b4 92 (Ag (Aq a)),AU b3 71 (AS 0),AU b2 71 (AS b),AU b1 71 (AS a)]) (tg λ(i:Nat) (os:List Nat) (c:Nat)=>nw a+1-i) 0 (AN a++(List.replicate (nw a+1) 0).drop (AN a).length) 0 (⟨Nat.zero_le _,(FV a 1).1,(FV a 1).2.1,Z,by rw [(FV a 1).2.2];simp [val]⟩) (sF O) sr (λi os c hJ=>?_)
   obtain ⟨hi,hl,hw32,hcc,hv⟩:=hJ
   refine q4 (AH (Ae (c:=(decide (i<((nw a)+1)))) O O (CB (a:=i) (b:=(nw a)+1))) O (OkL.nil (q1 ?_)))
   refine OkC.cond O (λhc3=>?_) (λhc3=>?_)
   ·replace hc3:=of_decide_eq_true hc3
    refine OkC.skip (q1 (OkC.block (q4 (AM O (asg' O (q3 (sL [4,8,9,52,53,10,11] O) (asg' O (OkL.nil (q1 (q4 (AM O ?_)))))))))))
    refine AM O (AH (v:=(vN (nw b))) (AD O underlying255) O (AH (Ae (c:=(decide (i<(nw b)))) O O (CB (a:=i) (b:=nw b))) O (OkL.nil (OkQ.subF (sL [4,8,9,52,53,10,11,12,59] O) (OkQ.then_ ?_)))))
    refine OkC.jn0 (tg True) (tg [(4,(pP b3 0)),(8,(Value.slice (some ⟨b5,0,none⟩) (nw b) ((Aq b).length))),(9,(Value.slice (some ⟨b6,0,none⟩) ((nw a)+1) ((nw a)+1))),(52,(vN ((nw a)+1))),(53,(vN i)),(10,(vK .u32 c)),(11,(vN i)),(12,(vK .u32 ((AN b).getD i 0)))]) (tg [AU b6 92 (Ag os),AU b5 92 (Ag (Aq b)),AU b4 92 (Ag (Aq a)),AU b3 71 (AS 0),AU b2 71 (AS b),AU b1 71 (AS a)]) ?_ ?_
    ·skip
     refine OkC.cond O (λhc4=>?_) (λhc4=>?_)
     ·replace hc4:=of_decide_eq_true hc4
      refine OkC.region (AM O (AM O (AH (v:=(pP b5 i)) (AK (j:=i) O O underlying255 sizeOf92 O Z (by simp)) O ?_)))
      have hx3:(Aq b).getD i 0<4294967296:=W32.getD (B8 b) i
      exact AH (AF (i:=1) (v:=(vK .u32 ((Aq b).getD i 0))) O O isAgg92 (A8 (xs:=Aq b) (j:=i) Z)) O (OkL.retell (k:=63) (u:=(vK .u32 ((AN b).getD i 0))) O (by rw [DJ hc4]) (asg' O (OkL.nil (OkQ.subF (sL [4,8,9,52,53,10,11,12] O) (OkQ.join0  (trivial) (sF O) sr)))))
     ·replace hc4:=of_decide_eq_false hc4
      exact OkC.skip (OkQ.retell (k:=12) (u:=Value.int .u32 (((AN b).getD i 0:Nat):Int)) O (by rw [EO hc4];rfl) (OkQ.join0  (trivial) (sF O) sr))
    ·intro hJ
     refine OkQ.then_ (OkC.region (AM O (AM O (AM O (AM O (AH (v:=(pP b6 i)) (AK (j:=i) O O underlying255 sizeOf92 O Z (by simp)) O ?_))))))
     have hx4:os.getD i 0<4294967296:=W32.getD hw32 i
     refine AH (AF (i:=0) (v:=(vK .u32 (os.getD i 0))) O O isAgg92 (A8 (xs:=os) (j:=i) Z)) O (AM O (AM O ?_))
     have hya:=(Bi a).getD i
     have hyb:=(Bi b).getD i
     refine ck' call240 (Jt (os.getD i 0) ((AN b).getD i 0) c Z Z Z) O (AM O (AH (AV (v:=(vK .u32 (((os.getD i 0)+((AN b).getD i 0)+c)%4294967296))) O O) O (AH (AV (v:=(vK .u32 (((os.getD i 0)+((AN b).getD i 0)+c)/4294967296))) O O) O (AH (v:=(pP b6 i)) (AK (j:=i) O O underlying255 sizeOf92 O Z (by simp)) O (OkL.store' (i:=0) (off:=i) (vs:=[(vK .u32 (((os.getD i 0)+((AN b).getD i 0)+c)%4294967296))]) (cs':=Ag (os.set i (((os.getD i 0)+((AN b).getD i 0)+c)%4294967296))) (L':=[AU b6 92 (Ag (os.set i (((os.getD i 0)+((AN b).getD i 0)+c)%4294967296))),AU b5 92 (Ag (Aq b)),AU b4 92 (Ag (Aq a)),AU b3 71 (AS 0),AU b2 71 (AS b),AU b1 71 (AS a)]) (AP O) O O O O O sizeOf92 O (CR (BJ _) Z) (B2 Z) O (asg' O (OkL.nil (OkQ.subF (sL [4,8,9,52,53,10,11,12] O) (OkQ.in_normal (OkQ.then_ (OkC.region ?_)))))))))))
     exact AH (AX (c:=((i+1:Nat):Int)) O O (AR (a:=i) (b:=1) Z)) O (AM O (OkL.nil (OkQ.subF (sL [4,8,9,52,53,10,11,12] O) (OkQ.round3 (i+1) (os.set i ((os.getD i 0+(AN b).getD i 0+c)%4294967296)) ((os.getD i 0+(AN b).getD i 0+c)/4294967296) (⟨Z,by rw [List.length_set];exact hl,W32.set hw32 Z i,Z,NM hl hc3 hv⟩) Z (sF O) sr))))
   ·replace hc3:=of_decide_eq_false hc3
    refine OkC.exit (OkQ.then_exit (OkQ.round3_exit (OkQ.in_exit (q2 (AM O (Ce call206 (λw hw=>IY _ ((nw a)+1) ((nw a)+1) os hw32 (by first|omega|(rw [rowN_length];omega)|simp|(simp;omega)) (by first|omega|simp|(simp;omega)) (by first|omega|simp|(simp;omega)) w (hw.get (i:=0) O)) O (OkL.retell (k:=79) (u:=(aG (AS (a+b)))) O (by rw [List.take_of_length_le (show os.length<=nw a+1 by omega),Ns (X:=a) (Y:=b) (c:=c) (i:=i) hl hw32 Z (SR Z) (by rw [hv,C7 Z])]) (N2 O sizeOf71 O (OkL.nil (OkQ.subF (sL [4,8,9,52,53,10] O) (OkQ.then_ ?_)))))))))))
    exact OkC.ret (ret_one O (Ak (i:=3) (cs:=AS (a+b)) O O isAgg71 sizeOf71 O) (λw hw=>⟨rfl,hw.out⟩))
end
end Go.Proofs.YtpolhpjiahbidaaGreatDoor
