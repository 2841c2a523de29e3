import Derived.ChangeKeysEq
import Derived.Test.YtnofgcpajmldkaaGreatDoorRows
import Derived.Test.YtnofgcpajmldkaaGreatDoorPart05
import Derived.Test.YtnofgcpajmldkaaGreatDoorPart20
namespace Go.Proofs.YtnofgcpajmldkaaGreatDoor
open Go Go.RowKit
set_option linter.unusedVariables false
set_option linter.unusedSimpArgs false
section
set_option maxRecDepth 100000
set_option maxHeartbeats 2000000 in
theorem Where_ok (a b c p : Pt) (hs : SzP a + SzP b + SzP c + SzP p ≤ 268435456) (h : turnP a b c ≠ 0) (w : World)  : Calls Tryz.prog 22 #[(aG (ptL a)), (aG (ptL b)), (aG (ptL c)), (aG (ptL p))] w (Gives w (vN (whereN (turnP p b c / turnP a b c) (turnP a p c / turnP a b c) (turnP a b p / turnP a b c)))) := by
 obtain ⟨l0, hl0⟩ : ∃ l, l = turnP p b c / turnP a b c := ⟨_, rfl⟩
 obtain ⟨l1, hl1⟩ : ∃ l, l = turnP a p c / turnP a b c := ⟨_, rfl⟩
 obtain ⟨l2, hl2⟩ : ∃ l, l = turnP a b p / turnP a b c := ⟨_, rfl⟩
 refine calls_of (args := [(aG (ptL a)), (aG (ptL b)), (aG (ptL c)), (aG (ptL p))]) Tryz.func22 rfl rfl (leB rfl) (OkC.subF (sL [0, 1, 2, 3] rfl) (q4 (bx' (cs := ptL a) rfl fun b1 => bx' (cs := ptL b) rfl fun b2 => bx' (cs := ptL c) rfl fun b3 => ?_)))
 refine bx' (cs := ptL p) rfl fun b4 => asg' rfl (q3 (sL [4, 5, 6, 7, 8] rfl) (ldW' 3 tA49 rfl (ldW' 2 tA49 rfl (ldW' 1 tA49 rfl ?_))))
 refine ldW' 0 tA49 rfl (cl' (args := [(aG (ptL a)), (aG (ptL b)), (aG (ptL c)), (aG (ptL p))]) (v := (Value.tuple #[(aG (fracL l0 ++ fracL l1 ++ fracL l2)), (vI 0)])) Tryz.call45 (fun w hw => (by rw [hl0, hl1, hl2]; exact Bary_ok a b c p (by omega) h w)) rfl (mv' rfl (st' (ex_extract (v := (aG (fracL l0 ++ fracL l1 ++ fracL l2))) rfl rfl) rfl (st' (ex_extract (v := (vI 0)) rfl rfl) rfl (al tZ114 rfl fun b5 => ?_)))))
 refine stW0' rfl Tryz.sizeOf114 rfl (asg' rfl (q6 (sL [8, 9, 10] rfl) (q4 (mv' rfl (st' (ex_neq (c := false) rfl rfl (by decide)) rfl ?_)))))
 refine OkL.nil (OkQ.subF (sL [8, 9, 22] rfl) (OkQ.then_ (OkC.cond_false rfl (OkC.skip (q2 ?_)))))
 refine asg' rfl (q6 (sL [8, 9, 11] rfl) (q4 (mv' rfl (OkL.nil (OkQ.then_ ?_)))))
 refine OkC.block (OkC.unroll 5 (OkR.step (q4 (st' (ex_lss (c := true) rfl rfl (by decide)) rfl (OkL.nil ?_)))))
 refine q1 (OkC.cond_true rfl (OkC.skip (q1 (OkC.block (q4 ?_)))))
 refine mv' rfl (asg' rfl (q3 (sL [8, 9, 11, 23, 12] rfl) (mv' rfl (st' (v := (pP b5 0)) (ex_indexAddr_array (j := 0) rfl rfl Tryz.underlying114 Tryz.sizeOf47 rfl (by decide) rfl) rfl (ldA' 0 (fracL l0) tA47 rfl ?_)))))
 refine ck' Tryz.call47 (fSign_ok l0) rfl (OkL.nil (OkQ.subF (sL [8, 9, 11, 23, 29] rfl) (OkQ.then_ ?_)))
 refine OkC.jn1 (tg fun (pl0 : Nat) => pl0 = 1 + zq l0 ∧ ¬ l0.num.sign = -1) (tg fun (pl0 : Nat) => [(9, (pP b5 0)), (23, (vI 0)), (11, (vN pl0))]) (tg fun (pl0 : Nat) => [blk b5 114 (fracL l0 ++ fracL l1 ++ fracL l2), blk b4 49 (ptL p), blk b3 49 (ptL c), blk b2 49 (ptL b), blk b1 49 (ptL a)]) ?_ ?_
 ·skip
  refine OkC.block (q4 (st' (ex_eql (c := (decide (l0.num.sign = (-1 : Int)))) rfl rfl rfl) rfl (asg' rfl (OkL.nil (OkQ.subF (sL [8, 9, 11, 23, 29, 30] rfl) ?_)))))
  refine OkQ.then_ ?_
  refine OkC.cond rfl (fun hc2 => ?_) (fun hc2 => ?_)
  ·replace hc2 := of_decide_eq_true hc2
   have hz := where_neg0 (x := l0) (y := l1) (z := l2) hc2
   refine q4 (asg' rfl (OkL.nil (OkQ.then_ (OkC.ret (OkQ.in_ret ?_)))))
   exact OkQ.join1_ret (OkQ.in_ret (OkQ.then_ret (OkQ.then_ret (OkQ.in_ret (OkQ.then_ret (ret_one rfl (rd_tmp (v := (vI 0)) rfl) (fun w hw => ⟨by rw [← hl0, ← hl1, ← hl2, hz]; rfl, hw.out⟩)))))))
  ·replace hc2 := of_decide_eq_false hc2
   refine q4 (st' (ex_eql (c := (decide (l0.num.sign = (0 : Int)))) rfl rfl rfl) rfl (asg' rfl (OkL.nil (OkQ.subF (sL [8, 9, 11, 23, 29, 32] rfl) (OkQ.then_ ?_)))))
   refine OkC.cond rfl (fun hc3 => ?_) (fun hc3 => ?_)
   ·replace hc3 := of_decide_eq_true hc3
    refine OkC.region (mv' rfl (st' (ex_add (c := (2 : Int)) rfl rfl (by decide)) rfl (asg' rfl (OkL.nil (OkQ.subF (sL [8, 9, 11, 23, 29] rfl) ?_)))))
    exact OkQ.in_normal (OkQ.join1 2 (⟨by simp [zq_one hc3], hc2⟩) (sF rfl) sr)
   ·replace hc3 := of_decide_eq_false hc3
    exact OkC.skip (OkQ.in_normal (OkQ.join1 1 (⟨by simp [zq_zero hc3], hc2⟩) (sF rfl) sr))
 ·intro pl0 hJ
  obtain ⟨e0, n0⟩ := hJ
  have zz0 := zq_le l0
  refine OkQ.in_normal (OkQ.then_ (OkC.region (st' (ex_add (c := (1 : Int)) rfl rfl (by decide)) rfl (mv' rfl (OkL.nil ?_)))))
  refine OkQ.subF (sL [9, 23, 11] rfl) (OkQ.again (OkR.step (q4 (st' (ex_lss (c := true) rfl rfl (by decide)) rfl (OkL.nil ?_)))))
  refine q1 (OkC.cond_true rfl (OkC.skip (q1 (OkC.block (q4 ?_)))))
  refine mv' rfl (asg' rfl (q3 (sL [9, 23, 11, 12] rfl) (mv' rfl (st' (v := (pP b5 5)) (ex_indexAddr_array (j := 1) rfl rfl Tryz.underlying114 Tryz.sizeOf47 rfl (by decide) rfl) rfl (ldA' 0 (fracL l1) tA47 rfl ?_)))))
  refine ck' Tryz.call47 (fSign_ok l1) rfl (OkL.nil (OkQ.subF (sL [9, 23, 11, 29] rfl) (OkQ.then_ ?_)))
  refine OkC.jn1 (tg fun (pl1 : Nat) => pl1 = pl0 + zq l1 ∧ ¬ l1.num.sign = -1) (tg fun (pl1 : Nat) => [(9, (pP b5 0)), (23, (vI 1)), (11, (vN pl1))]) (tg fun (pl1 : Nat) => [blk b5 114 (fracL l0 ++ fracL l1 ++ fracL l2), blk b4 49 (ptL p), blk b3 49 (ptL c), blk b2 49 (ptL b), blk b1 49 (ptL a)]) ?_ ?_
  ·skip
   refine OkC.block (q4 (st' (ex_eql (c := (decide (l1.num.sign = (-1 : Int)))) rfl rfl rfl) rfl (asg' rfl (OkL.nil (OkQ.subF (sL [9, 23, 11, 29, 30] rfl) ?_)))))
   refine OkQ.then_ ?_
   refine OkC.cond rfl (fun hc2 => ?_) (fun hc2 => ?_)
   ·replace hc2 := of_decide_eq_true hc2
    have hz := where_neg1 (x := l0) (y := l1) (z := l2) hc2
    refine q4 (asg' rfl (OkL.nil (OkQ.then_ (OkC.ret (OkQ.in_ret ?_)))))
    exact OkQ.join1_ret (OkQ.in_ret (OkQ.then_ret (OkQ.then_ret (OkQ.in_ret (OkQ.then_ret (ret_one rfl (rd_tmp (v := (vI 0)) rfl) (fun w hw => ⟨by rw [← hl0, ← hl1, ← hl2, hz]; rfl, hw.out⟩)))))))
   ·replace hc2 := of_decide_eq_false hc2
    refine q4 (st' (ex_eql (c := (decide (l1.num.sign = (0 : Int)))) rfl rfl rfl) rfl (asg' rfl (OkL.nil (OkQ.subF (sL [9, 23, 11, 29, 32] rfl) (OkQ.then_ ?_)))))
    refine OkC.cond rfl (fun hc3 => ?_) (fun hc3 => ?_)
    ·replace hc3 := of_decide_eq_true hc3
     refine OkC.region (mv' rfl (st' (ex_add (c := ((pl0 + 1 : Nat) : Int)) rfl rfl (addN_i64 (a := pl0) (b := 1) (by omega))) rfl (asg' rfl (OkL.nil (OkQ.subF (sL [9, 23, 11, 29] rfl) ?_)))))
     exact OkQ.in_normal (OkQ.join1 (pl0 + 1) (⟨by simp [zq_one hc3], hc2⟩) (sF rfl) sr)
    ·replace hc3 := of_decide_eq_false hc3
     exact OkC.skip (OkQ.in_normal (OkQ.join1 pl0 (⟨by simp [zq_zero hc3], hc2⟩) (sF rfl) sr))
  ·intro pl1 hJ
   obtain ⟨e1, n1⟩ := hJ
   have zz1 := zq_le l1
   refine OkQ.in_normal (OkQ.then_ (OkC.region (st' (ex_add (c := (2 : Int)) rfl rfl (by decide)) rfl (mv' rfl (OkL.nil ?_)))))
   refine OkQ.subF (sL [9, 23, 11] rfl) (OkQ.again (OkR.step (q4 (st' (ex_lss (c := true) rfl rfl (by decide)) rfl (OkL.nil ?_)))))
   refine q1 (OkC.cond_true rfl (OkC.skip (q1 (OkC.block (q4 ?_)))))
   refine mv' rfl (asg' rfl (q3 (sL [9, 23, 11, 12] rfl) (mv' rfl (st' (v := (pP b5 10)) (ex_indexAddr_array (j := 2) rfl rfl Tryz.underlying114 Tryz.sizeOf47 rfl (by decide) rfl) rfl (ldA' 0 (fracL l2) tA47 rfl ?_)))))
   refine ck' Tryz.call47 (fSign_ok l2) rfl (OkL.nil (OkQ.subF (sL [9, 23, 11, 29] rfl) (OkQ.then_ ?_)))
   refine OkC.jn1 (tg fun (pl2 : Nat) => pl2 = pl1 + zq l2 ∧ ¬ l2.num.sign = -1) (tg fun (pl2 : Nat) => [(9, (pP b5 0)), (23, (vI 2)), (11, (vN pl2))]) (tg fun (pl2 : Nat) => [blk b5 114 (fracL l0 ++ fracL l1 ++ fracL l2), blk b4 49 (ptL p), blk b3 49 (ptL c), blk b2 49 (ptL b), blk b1 49 (ptL a)]) ?_ ?_
   ·skip
    refine OkC.block (q4 (st' (ex_eql (c := (decide (l2.num.sign = (-1 : Int)))) rfl rfl rfl) rfl (asg' rfl (OkL.nil (OkQ.subF (sL [9, 23, 11, 29, 30] rfl) ?_)))))
    refine OkQ.then_ ?_
    refine OkC.cond rfl (fun hc2 => ?_) (fun hc2 => ?_)
    ·replace hc2 := of_decide_eq_true hc2
     have hz := where_neg2 (x := l0) (y := l1) (z := l2) hc2
     refine q4 (asg' rfl (OkL.nil (OkQ.then_ (OkC.ret (OkQ.in_ret ?_)))))
     exact OkQ.join1_ret (OkQ.in_ret (OkQ.then_ret (OkQ.then_ret (OkQ.in_ret (OkQ.then_ret (ret_one rfl (rd_tmp (v := (vI 0)) rfl) (fun w hw => ⟨by rw [← hl0, ← hl1, ← hl2, hz]; rfl, hw.out⟩)))))))
    ·replace hc2 := of_decide_eq_false hc2
     refine q4 (st' (ex_eql (c := (decide (l2.num.sign = (0 : Int)))) rfl rfl rfl) rfl (asg' rfl (OkL.nil (OkQ.subF (sL [9, 23, 11, 29, 32] rfl) (OkQ.then_ ?_)))))
     refine OkC.cond rfl (fun hc3 => ?_) (fun hc3 => ?_)
     ·replace hc3 := of_decide_eq_true hc3
      refine OkC.region (mv' rfl (st' (ex_add (c := ((pl1 + 1 : Nat) : Int)) rfl rfl (addN_i64 (a := pl1) (b := 1) (by omega))) rfl (asg' rfl (OkL.nil (OkQ.subF (sL [9, 23, 11, 29] rfl) ?_)))))
      exact OkQ.in_normal (OkQ.join1 (pl1 + 1) (⟨by simp [zq_one hc3], hc2⟩) (sF rfl) sr)
     ·replace hc3 := of_decide_eq_false hc3
      exact OkC.skip (OkQ.in_normal (OkQ.join1 pl1 (⟨by simp [zq_zero hc3], hc2⟩) (sF rfl) sr))
   ·intro pl2 hJ
    obtain ⟨e2, n2⟩ := hJ
    have zz2 := zq_le l2
    refine OkQ.in_normal (OkQ.then_ (OkC.region (st' (ex_add (c := (3 : Int)) rfl rfl (by decide)) rfl (mv' rfl (OkL.nil ?_)))))
    refine OkQ.subF (sL [9, 23, 11] rfl) (OkQ.again (OkR.step (q4 (st' (ex_lss (c := false) rfl rfl (by decide)) rfl (OkL.nil ?_)))))
    refine q1 (OkC.cond_false rfl (OkC.exit (OkQ.then_exit (OkQ.then_exit (OkQ.in_exit ?_)))))
    refine q2 (mv' rfl (asg' rfl (OkL.nil (OkQ.subF (sL [9, 23, 11, 8] rfl) (OkQ.then_ ?_)))))
    exact OkC.ret (ret_one rfl (rd_tmp (v := (vN pl2)) rfl) (fun w hw => ⟨by rw [← hl0, ← hl1, ← hl2, where_ok n0 n1 n2, e2, e1, e0], hw.out⟩))
theorem Where0_ok (a b c p : Pt) (hs : SzP a + SzP b + SzP c + SzP p ≤ 268435456) (h : turnP a b c = 0) (w : World)  : Calls Tryz.prog 22 #[(aG (ptL a)), (aG (ptL b)), (aG (ptL c)), (aG (ptL p))] w (Gives w (vI 0)) := by
 refine calls_of (args := [(aG (ptL a)), (aG (ptL b)), (aG (ptL c)), (aG (ptL p))]) Tryz.func22 rfl rfl (leB rfl) (OkC.subF (sL [0, 1, 2, 3] rfl) (q4 (bx' (cs := ptL a) rfl fun b1 => bx' (cs := ptL b) rfl fun b2 => bx' (cs := ptL c) rfl fun b3 => ?_)))
 refine bx' (cs := ptL p) rfl fun b4 => asg' rfl (q3 (sL [4, 5, 6, 7, 8] rfl) (ldW' 3 tA49 rfl (ldW' 2 tA49 rfl (ldW' 1 tA49 rfl ?_))))
 refine ldW' 0 tA49 rfl (ck' Tryz.call45 (Bary0_ok a b c p (by omega) h) rfl (mv' rfl (st' (ex_extract (v := (aG (fracL (0 : Rat) ++ fracL (0 : Rat) ++ fracL (0 : Rat)))) rfl rfl) rfl (st' (ex_extract (v := (vI 1)) rfl rfl) rfl (al tZ114 rfl fun b5 => ?_)))))
 refine stW0' rfl Tryz.sizeOf114 rfl (asg' rfl (q6 (sL [8, 9, 10] rfl) (q4 (mv' rfl (st' (ex_neq (c := true) rfl rfl (by decide)) rfl ?_)))))
 refine OkL.nil (OkQ.subF (sL [8, 9, 22] rfl) (OkQ.then_ (OkC.cond_true rfl (q4 (asg' rfl ?_)))))
 exact OkL.nil (OkQ.subF (sL [8, 9] rfl) (OkQ.then_ (OkC.ret (OkQ.then_ret (ret_one rfl (rd_tmp (v := (vI 0)) rfl) (fun w hw => ⟨rfl, hw.out⟩))))))
end
section
set_option maxRecDepth 100000
end
section
section
variable {P : Program} {n : Nat} {F : List (Nat × Value)} {w0 : Base} {L : List As} {v : Value} {x : Operand} {d : Option Tmp} {t : TypeId} {p : String} {af : Array Edge} {g : Option (Nat × Bool)}
end
end
section
set_option maxRecDepth 100000
end
section
set_option maxRecDepth 100000
end
section
set_option maxRecDepth 100000
end
section
set_option maxRecDepth 100000
end
section
set_option maxRecDepth 100000
end
section
set_option maxRecDepth 100000
end
section
section
variable {P : Program} {n : Nat} {F : List (Nat × Value)} {w0 : Base} {L : List As} {v : Value} {x lo hi : Operand} {d : Option Tmp} {t : TypeId} {p : String} {af : Array Edge} {g : Option (Nat × Bool)}
theorem ex_slice_string {s r : ByteArray} {ki kj : IntKind} {i j : Nat} {tx : TypeId} (hx : evF F x = some (.string s)) (hl : evF F lo = some (.int ki (i : Nat))) (hh : evF F hi = some (.int kj (j : Nat))) (hu : P.underlying tx = some .string) (h1 : i ≤ j) (h2 : j ≤ s.size) (hr : s.extract i j = r) :
    Ex P n F w0 L ⟨d, .slice tx x (some lo) (some hi) none, t, p, af, g⟩ (.string r) := fun A w ha _ => by
  subst hr
  simp only [execOp, ha.ev hx, Instr.sliceAt, run_underlying hu, Instr.slice, Option.map_some, Option.map_none, ha.ev hl, ha.ev hh, Instr.sliceBounds, Instr.sliceBound, asIntOf, Sem.run_bind, Result.andThen_ok, Sem.run_pure]
  simp [h1, h2]
end
def dig (n : Nat) : ByteArray := ⟨#[UInt8.ofNat (48 + n)]⟩
theorem dig_of {s : ByteArray} (h : ((List.range 10).all fun n => (s.extract n (n + 1)).data.toList == (dig n).data.toList) = true) {n : Nat} (hn : n < 10) : s.extract n (n + 1) = dig n := by
  have h1 := List.all_eq_true.1 h n (List.mem_range.2 hn)
  have h2 : (s.extract n (n + 1)).data.toList = (dig n).data.toList := by simpa using h1
  cases hA : s.extract n (n + 1) with | mk da => cases hB : dig n with | mk db =>
    rw [hA, hB] at h2
    congr 1
    exact Array.toList_inj.1 h2
def textI (z : Int) : ByteArray := if z < 0 then ⟨#[45]⟩ ++ dig z.natAbs else dig z.natAbs
def textQ (q : Rat) : ByteArray := if q.den - 1 = 0 then textI q.num else textI q.num ++ ⟨#[47]⟩ ++ dig q.den
theorem dig_size (n : Nat) : (dig n).size = 1 := rfl
theorem textI_size (z : Int) : (textI z).size ≤ 2 := by
  unfold textI
  split
  · rw [ByteArray.size_append]; exact Nat.le_refl 2
  · exact Nat.le_succ 1
end
section
set_option maxRecDepth 100000
theorem small_ok (n : Nat) (hn : n < 10) (w : World)  : Calls Tryz.prog 148 #[(vN n)] w (Gives w (Value.string (dig n))) := by
 refine calls_of (args := [(vN n)]) Tryz.func148 rfl rfl (leB rfl) (OkC.subF (sL [0] rfl) (q4 (asg' rfl (OkL.nil (q1 ?_)))))
 refine q4 (mv' rfl (st' (ex_lss (c := (decide (n < 10))) rfl rfl (ltN (a := n) (b := 10))) rfl (OkL.nil (OkQ.subF (sL [0, 2, 4] rfl) (OkQ.then_ ?_)))))
 refine OkC.cond rfl (fun hc0 => ?_) (fun hc0 => ?_)
 ·replace hc0 := of_decide_eq_true hc0
  refine q4 (mv' rfl (mv' rfl (st' (ex_add (c := ((n + 1 : Nat) : Int)) rfl rfl (addN_i64 (a := n) (b := 1) (by omega))) rfl (st' (v := (Value.string (dig n))) (ex_slice_string (i := n) (j := n + 1) rfl rfl rfl Tryz.underlying9 (by omega) (Nat.le_trans (show n + 1 ≤ 10 by omega) (by decide)) (dig_of (by kernel_rfl) hn)) rfl (asg' rfl ?_)))))
  exact OkL.nil (OkQ.subF (sL [0, 2] rfl) (OkQ.then_ (OkC.ret (OkQ.then_ret (ret_one rfl (rd_tmp (v := (Value.string (dig n))) rfl) (fun w hw => ⟨rfl, hw.out⟩))))))
 ·replace hc0 := of_decide_eq_false hc0
  exfalso; omega
theorem iformat_ok (n : Nat) (hn : n < 10) (w : World)  : Calls Tryz.prog 130 #[(vK .u64 n), (vI 10)] w (Gives w (Value.string (dig n))) := by
 refine calls_of (args := [(vK .u64 n), (vI 10)]) Tryz.func130 rfl rfl (leB rfl) (OkC.subF (sL [0, 1] rfl) (q4 (asg' rfl (OkL.nil (q1 ?_)))))
 refine q4 (mv' rfl (st' (ex_eql (c := true) rfl rfl (by decide)) rfl (OkL.nil (OkQ.subF (sL [0, 1, 4, 10] rfl) (OkQ.then_ ?_)))))
 refine OkC.cond_true rfl (OkC.seq (q4 (mv' rfl (st' (ex_lss (c := (decide (n < 100))) rfl rfl (ltN (a := n) (b := 100))) rfl (OkL.nil ?_)))))
 refine OkQ.subF (sL [0, 1, 4, 12] rfl) (OkQ.then_ ?_)
 refine OkC.cond rfl (fun hc1 => ?_) (fun hc1 => ?_)
 ·replace hc1 := of_decide_eq_true hc1
  refine q4 (mv' rfl (st' (ex_conv (c := ((n : Nat) : Int)) rfl Tryz.underlying39 Tryz.underlying3 (convN_i64 (by omega))) rfl (ck' Tryz.call148 (small_ok n (by omega)) rfl (asg' rfl (OkL.nil ?_)))))
  exact OkQ.subF (sL [0, 1, 4] rfl) (OkQ.then_ (OkC.ret (OkQ.then_ret (OkQ.then_ret (ret_one rfl (rd_tmp (v := (Value.string (dig n))) rfl) (fun w hw => ⟨rfl, hw.out⟩))))))
 ·replace hc1 := of_decide_eq_false hc1
  exfalso; omega
theorem format_ok (n : Nat) (hn : n < 10) (w : World)  : Calls Tryz.prog 103 #[(vK .u64 n), (vI 10)] w (Gives w (Value.string (dig n))) := by
 refine calls_of (args := [(vK .u64 n), (vI 10)]) Tryz.func103 rfl rfl (leB rfl) (OkC.subF (sL [0, 1] rfl) (q4 (asg' rfl (OkL.nil (q2 ?_)))))
 refine mv' rfl (mv' rfl (ck' Tryz.call130 (iformat_ok n (by omega)) rfl (asg' rfl (OkL.nil (OkQ.subF (sL [4] rfl) ?_)))))
 exact OkQ.then_ (OkC.ret (ret_one rfl (rd_tmp (v := (Value.string (dig n))) rfl) (fun w hw => ⟨rfl, hw.out⟩)))
theorem nText_ok (n : Nat) (hn : n < 10) (w : World)  : Calls Tryz.prog 72 #[(aG (natL n))] w (Gives w (Value.string (dig n))) := by
 refine calls_of (args := [(aG (natL n))]) Tryz.func72 rfl rfl (leB rfl) (OkC.subF (sL [0] rfl) (q4 (bx' (cs := natL n) rfl fun b1 => asg' rfl (q6 (sL [1, 2] rfl) ?_))))
 refine q4 (st' (v := (pP b1 1)) (ex_fieldAddr rfl Tryz.underlying41 rfl Tryz.sizeOf9 rfl) rfl (ldO' 0 (Value.string (bigB n)) tO9 rfl (st' (ex_eql_string (c := (decide (n < 18446744073709551616))) rfl rfl bigB_empty) rfl (OkL.nil (OkQ.subF (sL [1, 2, 10] rfl) ?_)))))
 refine OkQ.then_ ?_
 refine OkC.cond rfl (fun hc0 => ?_) (fun hc0 => ?_)
 ·replace hc0 := of_decide_eq_true hc0
  refine q4 (st' (v := (pP b1 0)) (ex_fieldAddr rfl Tryz.underlying41 rfl Tryz.sizeOf39 rfl) rfl (ldO' 0 (vK .u64 (lowN n)) tO39 rfl (OkL.retell (k := 12) (u := (vK .u64 n)) rfl (by rw [lowN_small (by omega)]) (ck' Tryz.call103 (format_ok n (by omega)) rfl (asg' rfl ?_)))))
  exact OkL.nil (OkQ.subF (sL [1, 2] rfl) (OkQ.then_ (OkC.ret (OkQ.then_ret (ret_one rfl (rd_tmp (v := (Value.string (dig n))) rfl) (fun w hw => ⟨rfl, hw.out⟩))))))
 ·replace hc0 := of_decide_eq_false hc0
  exfalso; omega
theorem iText_ok (z : Int) (hz : z.natAbs < 10) (w : World)  : Calls Tryz.prog 71 #[(aG (intL z))] w (Gives w (Value.string (textI z))) := by
 refine calls_of (args := [(aG (intL z))]) Tryz.func71 rfl rfl (leB rfl) (OkC.subF (sL [0] rfl) (q4 (bx' (cs := intL z) rfl fun b1 => asg' rfl (q6 (sL [1, 2] rfl) ?_))))
 refine q4 (st' (v := (pP b1 2)) (ex_fieldAddr rfl Tryz.underlying45 rfl Tryz.sizeOf4 rfl) rfl (ldO' 0 (Value.bool (decide (z < 0))) tO4 rfl (OkL.nil (OkQ.subF (sL [1, 2, 4] rfl) (OkQ.then_ ?_)))))
 refine OkC.cond rfl (fun hc0 => ?_) (fun hc0 => ?_)
 ·replace hc0 := of_decide_eq_true hc0
  have he : textI z = ⟨#[45]⟩ ++ dig z.natAbs := if_pos hc0
  refine q4 (st' (v := (pP b1 0)) (ex_fieldAddr rfl Tryz.underlying45 rfl Tryz.sizeOf43 rfl) rfl (st' (v := (pP b1 0)) (ex_fieldAddr rfl Tryz.underlying43 rfl Tryz.sizeOf41 rfl) rfl (ldA' 0 (natL z.natAbs) tA41 rfl (ck' Tryz.call72 (nText_ok z.natAbs (by omega)) rfl (st' (v := (Value.string (ByteArray.mk #[45] ++ dig z.natAbs))) (ex_add_string (r := (ByteArray.mk #[45] ++ dig z.natAbs)) rfl rfl (by rw [dig_size]; decide) rfl) rfl ?_)))))
  exact asg' rfl (OkL.nil (OkQ.subF (sL [1, 2] rfl) (OkQ.then_ (OkC.ret (OkQ.then_ret (ret_one rfl (rd_tmp (v := (Value.string (ByteArray.mk #[45] ++ dig z.natAbs))) rfl) (fun w hw => ⟨by rw [he], hw.out⟩)))))))
 ·replace hc0 := of_decide_eq_false hc0
  have he : textI z = dig z.natAbs := if_neg hc0
  refine OkC.skip (q2 (st' (v := (pP b1 0)) (ex_fieldAddr rfl Tryz.underlying45 rfl Tryz.sizeOf43 rfl) rfl (st' (v := (pP b1 0)) (ex_fieldAddr rfl Tryz.underlying43 rfl Tryz.sizeOf41 rfl) rfl (ldA' 0 (natL z.natAbs) tA41 rfl (ck' Tryz.call72 (nText_ok z.natAbs (by omega)) rfl ?_)))))
  exact asg' rfl (OkL.nil (OkQ.subF (sL [1, 2] rfl) (OkQ.then_ (OkC.ret (ret_one rfl (rd_tmp (v := (Value.string (dig z.natAbs))) rfl) (fun w hw => ⟨by rw [he], hw.out⟩))))))
theorem fText_ok (q : Rat) (hn : q.num.natAbs < 10) (hd : q.den < 10) (w : World)  : Calls Tryz.prog 37 #[(aG (fracL q))] w (Gives w (Value.string (textQ q))) := by
 have hs := textI_size q.num
 have hdn : nw q.den ≤ 1099511627776 := Nat.le_trans (nw_small (by omega)) (by omega)
 refine calls_of (args := [(aG (fracL q))]) Tryz.func37 rfl rfl (leB rfl) (OkC.subF (sL [0] rfl) (q4 (bx' (cs := fracL q) rfl fun b1 => asg' rfl (q6 (sL [1, 2] rfl) ?_))))
 refine q4 (ldW' 0 tA47 rfl (ck' Tryz.call51 (Whole_ok q) rfl (OkL.nil (OkQ.subF (sL [1, 2, 4] rfl) (OkQ.then_ ?_)))))
 refine OkC.cond rfl (fun hc0 => ?_) (fun hc0 => ?_)
 ·replace hc0 := of_decide_eq_true hc0
  have he : textQ q = textI q.num := if_pos hc0
  refine q4 (st' (v := (pP b1 0)) (ex_fieldAddr rfl Tryz.underlying47 rfl Tryz.sizeOf45 rfl) rfl (ldA' 0 (intL q.num) tA45 rfl (ck' Tryz.call71 (iText_ok q.num (by omega)) rfl (asg' rfl (OkL.nil ?_)))))
  exact OkQ.subF (sL [1, 2] rfl) (OkQ.then_ (OkC.ret (OkQ.then_ret (ret_one rfl (rd_tmp (v := (Value.string (textI q.num))) rfl) (fun w hw => ⟨by rw [he], hw.out⟩)))))
 ·replace hc0 := of_decide_eq_false hc0
  have he : textQ q = textI q.num ++ ⟨#[47]⟩ ++ dig q.den := if_neg hc0
  refine OkC.skip (q1 (rG' [(0, true), (1, true), (4, true), (2, false), (3, true), (5, false), (6, false), (7, true), (8, true)] sr (pE' (v := (pP b1 0)) rfl (ex_fieldAddr rfl Tryz.underlying47 rfl Tryz.sizeOf45 rfl) (pA' 0 (intL q.num) tA45 rfl (pW' 0 tA47 rfl ?_)))))
  refine OkE.imp rfl (ck' Tryz.call71 (iText_ok q.num (by omega)) rfl (OkE.back sr (pE' (v := (Value.string (textI q.num ++ ByteArray.mk #[47]))) rfl (ex_add_string (r := (textI q.num ++ ByteArray.mk #[47])) rfl rfl (Nat.le_trans (Nat.add_le_add_right hs 1) (by decide)) rfl) (OkE.imp rfl (ck' Tryz.call55 (den_ok q (by omega)) rfl ?_)))))
  refine OkE.back sr (OkE.imp rfl (ck' Tryz.call72 (nText_ok q.den (by omega)) rfl (OkE.back sr (pE' (v := (Value.string (textI q.num ++ ByteArray.mk #[47] ++ dig q.den))) rfl (ex_add_string (r := (textI q.num ++ ByteArray.mk #[47] ++ dig q.den)) rfl rfl (by rw [ByteArray.size_append, dig_size]; exact Nat.le_trans (Nat.add_le_add_right (Nat.add_le_add_right hs 1) 1) (by decide)) rfl) (pS' rfl ?_)))))
  exact OkE.nil (OkQ.subF (sL [1, 2] rfl) (OkQ.then_ (OkC.ret (ret_one rfl (rd_tmp (v := (Value.string (textI q.num ++ ByteArray.mk #[47] ++ dig q.den))) rfl) (fun w hw => ⟨by rw [he], hw.out⟩)))))
end
theorem add_x (a b : Pt) : (a + b).x = a.x + b.x := rfl
theorem add_y (a b : Pt) : (a + b).y = a.y + b.y := rfl
theorem sub_x (a b : Pt) : (a - b).x = a.x - b.x := rfl
theorem sub_y (a b : Pt) : (a - b).y = a.y - b.y := rfl
theorem scale_x (a : Pt) (k : Rat) : (scaleP a k).x = a.x * k := rfl
theorem scale_y (a : Pt) (k : Rat) : (scaleP a k).y = a.y * k := rfl
theorem turn_def (a b c : Pt) : turnP a b c = (b.x - a.x) * (c.y - a.y) - (b.y - a.y) * (c.x - a.x) := rfl
theorem back_at {a b c p : Pt} (h : turnP a b c ≠ 0) : scaleP a (turnP p b c / turnP a b c) + scaleP b (turnP a p c / turnP a b c) + scaleP c (turnP a b p / turnP a b c) = p := by
  have kx : a.x * turnP p b c + b.x * turnP a p c + c.x * turnP a b p = p.x * turnP a b c := by simp only [turn_def]; grind
  have ky : a.y * turnP p b c + b.y * turnP a p c + c.y * turnP a b p = p.y * turnP a b c := by simp only [turn_def]; grind
  generalize turnP a b c = T at *
  refine Pt.ext ?_ ?_
  · simp only [add_x, scale_x]; grind
  · simp only [add_y, scale_y]; grind
theorem sgn_neg {q : Rat} (h : q < 0) : q.num.sign = -1 := by
  have h1 : ¬ 0 ≤ q.num := fun e => by have := Rat.num_nonneg.1 e; grind
  exact Int.sign_eq_neg_one_of_neg (by omega)
theorem sgn_pos {q : Rat} (h : 0 < q) : q.num.sign = 1 := by
  have h1 : 0 ≤ q.num := Rat.num_nonneg.2 (by grind)
  have h2 : q.num ≠ 0 := fun e => by have := Rat.num_eq_zero.1 e; grind
  exact Int.sign_eq_one_of_pos (by omega)
theorem sgn_zero {q : Rat} (h : q = 0) : q.num.sign = 0 := by subst h; rfl
def sgnQ (q : Rat) : Int := if q < 0 then -1 else if q = 0 then 0 else 1
theorem sgn_eq (q : Rat) : q.num.sign = sgnQ q := by
  unfold sgnQ
  split
  · exact sgn_neg ‹_›
  · split
    · exact sgn_zero ‹_›
    · exact sgn_pos (by grind)
theorem turn_cyc (a b c : Pt) : turnP b c a = turnP a b c := by simp only [turn_def]; grind
theorem sgn_three (z : Int) : z.sign = -1 ∨ z.sign = 0 ∨ z.sign = 1 := by
  rcases Int.lt_trichotomy z 0 with h | h | h
  · exact .inl (Int.sign_eq_neg_one_of_neg h)
  · subst h; exact .inr (.inl rfl)
  · exact .inr (.inr (Int.sign_eq_one_of_pos h))
section
theorem eq_intL (a b : Int) : (decide (a.natAbs = b.natAbs) && ((decide (a < 0) == decide (b < 0)) && true)) = decide (a = b) := by
  by_cases e : a = b
  · subst e; simp
  · rw [decide_eq_false e]
    by_cases h1 : a < 0 <;> by_cases h2 : b < 0 <;> simp [h1, h2] <;> omega
theorem eqB_int (D : Nat) (a b : Int) : EqB Tryz.prog (D + 4) 45 (.agg (intL a).toArray) (.agg (intL b).toArray) (decide (a = b)) := by
  rw [← eq_intL]
  exact EqB.struct Tryz.underlying45 Tryz.stoodInHeld45 (EqF.agg (us := natL a.natAbs) (bs := natL b.natAbs) (by decide) Tryz.isAgg43 Tryz.sizeOf43 rfl rfl (eqB_size D _ _) (EqF.one (by decide) Tryz.isAgg4 rfl rfl (EqB.bool Tryz.underlying4) EqF.nil))
theorem eq_fracL (a b : Rat) : (decide (a.num = b.num) && (decide (a.den - 1 = b.den - 1) && true)) = decide (a = b) := by
  by_cases e : a = b
  · subst e; simp
  · rw [decide_eq_false e]
    have h1 := a.den_pos
    have h2 := b.den_pos
    simp only [Bool.and_true, Bool.and_eq_false_iff, decide_eq_false_iff_not]
    apply Classical.byContradiction
    intro h
    refine e (Rat.ext ?_ ?_)
    · exact Classical.byContradiction fun k => h (.inl k)
    · exact Classical.byContradiction fun k => h (.inr (by omega))
theorem eqB_frac (D : Nat) (a b : Rat) : EqB Tryz.prog (D + 5) 47 (.agg (fracL a).toArray) (.agg (fracL b).toArray) (decide (a = b)) := by
  rw [← eq_fracL]
  exact EqB.struct Tryz.underlying47 Tryz.stoodInHeld47 (EqF.agg (us := intL a.num) (bs := intL b.num) (by decide) Tryz.isAgg45 Tryz.sizeOf45 rfl rfl (eqB_int D _ _) (EqF.agg (us := natL (a.den - 1)) (bs := natL (b.den - 1)) (by decide) Tryz.isAgg41 Tryz.sizeOf41 rfl rfl (eqB_nat (D + 2) _ _) EqF.nil))
instance : DecidableEq Pt := fun a b => decidable_of_iff (a.x = b.x ∧ a.y = b.y) ⟨fun h => Pt.ext h.1 h.2, fun h => h ▸ ⟨rfl, rfl⟩⟩
theorem eq_ptL (a b : Pt) : (decide (a.x = b.x) && (decide (a.y = b.y) && true)) = decide (a = b) := by
  by_cases e : a = b
  · subst e; simp
  · rw [decide_eq_false e]
    simp only [Bool.and_true, Bool.and_eq_false_iff, decide_eq_false_iff_not]
    apply Classical.byContradiction
    intro h
    refine e (Pt.ext ?_ ?_)
    · exact Classical.byContradiction fun k => h (.inl k)
    · exact Classical.byContradiction fun k => h (.inr k)
theorem eqB_pt (D : Nat) (a b : Pt) : EqB Tryz.prog (D + 6) 49 (.agg (ptL a).toArray) (.agg (ptL b).toArray) (decide (a = b)) := by
  rw [← eq_ptL]
  exact EqB.struct Tryz.underlying49 Tryz.stoodInHeld49 (EqF.agg (us := fracL a.x) (bs := fracL b.x) (by decide) Tryz.isAgg47 Tryz.sizeOf47 rfl rfl (eqB_frac D _ _) (EqF.agg (us := fracL a.y) (bs := fracL b.y) (by decide) Tryz.isAgg47 Tryz.sizeOf47 rfl rfl (eqB_frac D _ _) EqF.nil))
section
variable {P : Program}
def EqI (P : Program) (D : Nat) (e : TypeId) (c : Nat) (xs ys : List Value) (is : List Nat) (b : Bool) : Prop := ∀ w, (Go.Op.eqItems D e c xs.toArray ys.toArray is).run P w = .ok b w
theorem EqI.nil {D c : Nat} {e : TypeId} {xs ys : List Value} : EqI P D e c xs ys [] true := fun w => rfl
theorem EqI.cons {D c i : Nat} {e : TypeId} {is : List Nat} {xs ys us bs : List Value} {r s : Bool} (hg : ∀ w, (isAgg e).run P w = .ok true w) (hs : ∀ w, (sizeOf e).run P w = .ok c w)
    (ha : (xs.drop (i * c)).take c = us) (hb : (ys.drop (i * c)).take c = bs) (h : EqB P D e (.agg us.toArray) (.agg bs.toArray) r) (h2 : EqI P D e c xs ys is s) : EqI P D e c xs ys (i :: is) (r && s) := fun w => by
  have ex : ∀ l : List Value, l.toArray.extract (i * c) (i * c + c) = ((l.drop (i * c)).take c).toArray := fun l => by simp [List.extract_eq_take_drop]
  have e1 : (part e xs.toArray (i * c)).run P w = .ok (.agg us.toArray) w := by simp [part, hg, hs, ex, ha]
  have e2 : (part e ys.toArray (i * c)).run P w = .ok (.agg bs.toArray) w := by simp [part, hg, hs, ex, hb]
  simp only [Go.Op.eqItems, Sem.run_bind, e1, e2, Result.andThen_ok, h w]
  cases r
  · simp
  · simp [h2 w]
theorem EqB.array {D n c : Nat} {T e : TypeId} {xs ys : List Value} {b : Bool} (hu : P.underlying T = some (.array n e)) (hi : ∃ i, P.info? e = some i) (hc : P.cellsOf e = c) (h : EqI P D e c xs ys (List.range n) b) :
    EqB P (D + 1) T (.agg xs.toArray) (.agg ys.toArray) b := fun w => by
  obtain ⟨i, hi⟩ := hi
  rw [Go.run_equalIn_array w D xs.toArray ys.toArray hu hi, hc]
  exact h w
end
theorem eqB_frac_t (D : Nat) {a b : Rat} (h : a = b) : EqB Tryz.prog (D + 5) 47 (.agg (fracL a).toArray) (.agg (fracL b).toArray) true := by
  have := eqB_frac D a b; rwa [decide_eq_true h] at this
section
variable {P : Program} {n : Nat} {F : List (Nat × Value)} {w0 : Base} {L : List As} {x y : Operand} {d : Option Tmp} {t : TypeId} {p : String} {af : Array Edge} {g : Option (Nat × Bool)}
theorem ex_neq_agg_f {xs ys : List Value} {tx ty : TypeId} (hx : evF F x = some (.agg xs.toArray)) (hy : evF F y = some (.agg ys.toArray)) (hg : P.eqGuardType P.depth tx = false) (hc : EqB P 10000 tx (.agg xs.toArray) (.agg ys.toArray) true) :
    Ex P n F w0 L ⟨d, .binOp .neq tx x y ty, t, p, af, g⟩ (.bool false) := ex_neq_agg hx hy hg hc
end
end
section
structure QD where
  n : Int
  d : Nat
structure PD where
  x : QD
  y : QD
def qdL (q : QD) : List Value := [.int .i64 q.n, .int .u32 (q.d : Nat)]
def pdL (p : PD) : List Value := qdL p.x ++ qdL p.y
def QD.ok (q : QD) : Prop := -9223372036854775808 ≤ q.n ∧ q.n < 9223372036854775808 ∧ q.d < 4294967296
def PD.ok (p : PD) : Prop := p.x.ok ∧ p.y.ok
def qOf (q : QD) : Rat := ((q.n : Int) : Rat) / (((max q.d 1 : Nat) : Int) : Rat)
def ptOf (p : PD) : Pt := ⟨qOf p.x, qOf p.y⟩
theorem Sz_qOf {q : QD} (h : q.ok) : Sz (qOf q) ≤ 4 := by
  obtain ⟨h1, h2, h3⟩ := h
  have s1 := Sz_int h1 h2
  have s2 := Sz_int (z := ((max q.d 1 : Nat) : Int)) (by omega) (by omega)
  have hb : (((max q.d 1 : Nat) : Int) : Rat) ≠ 0 := fun e => by
    have : ((max q.d 1 : Nat) : Int) = 0 := by exact_mod_cast e
    omega
  have := Sz_div (a := ((q.n : Int) : Rat)) hb
  unfold qOf
  omega
theorem SzP_ptOf {p : PD} (h : p.ok) : SzP (ptOf p) ≤ 4 := SzP_le (Sz_qOf h.1) (Sz_qOf h.2)
section
variable {P : Program} {w : World} {r : Reach} {base : Nat}
def zipV : List IntKind → List Int → List Value
  | k :: ks, n :: ns => .int k n :: zipV ks ns
  | _, _ => []
def AllHas : List IntKind → List Int → Prop
  | [], [] => True
  | k :: ks, n :: ns => k.has n ∧ AllHas ks ns
  | _, _ => False
theorem cells_ints : ∀ (ts : List TypeId) (ks : List IntKind) (cs : List Value), ts.map P.underlying = ks.map (fun k => some (.int k)) → cs.length = ts.length →
    (∀ (i : Nat) v, cs[i]? = some v → ∃ u, ts[i]? = some u ∧ Cell.okWide P w r base u v) → ∃ ns, cs = zipV ks ns ∧ AllHas ks ns
  | [], [], [], _, _, _ => ⟨[], rfl, trivial⟩
  | t :: ts, k :: ks, c :: cs, hk, hl, hc => by
    simp only [List.map_cons, List.cons.injEq] at hk
    obtain ⟨ns, hns, hh⟩ := cells_ints ts ks cs hk.2 (by simpa using hl) (fun i v hv => by simpa using hc (i + 1) v (by simpa using hv))
    obtain ⟨u, hu, ho⟩ := hc 0 c (by simp)
    simp only [List.getElem?_cons_zero, Option.some.injEq] at hu
    subst hu
    simp only [Cell.okWide, hk.1] at ho
    have ho' : ∃ n, c = .int k n ∧ k.has n := by
      unfold Cell.ok at ho
      rw [hk.1] at ho
      cases c <;> simp at ho
      exact ⟨_, by rw [ho.1], ho.2⟩
    obtain ⟨n, rfl, hn⟩ := ho'
    exact ⟨n :: ns, by rw [hns]; rfl, hn, hh⟩
  | [], _ :: _, _, hk, _, _ => by simp at hk
  | _ :: _, [], _, hk, _, _ => by simp at hk
  | _ :: _, _ :: _, [], _, hl, _ => by simp at hl
  | [], [], _ :: _, _, hl, _ => by simp at hl
theorem arg_ints {t : TypeId} {v : Value} {ts : List TypeId} (ks : List IntKind) (hag : (match P.underlying t with | some (.struct _) => true | some (.array _ _) => true | _ => false) = true) (hts : P.cellTypes P.depth t = some ts) (hsz : P.cellsOf t = ts.length)
    (hk : ts.map P.underlying = ks.map (fun k => some (.int k))) (hv : Value.okWide P w r base t v) : ∃ ns, v = .agg (zipV ks ns).toArray ∧ AllHas ks ns := by
  have h1 : ∃ cs, v = .agg cs ∧ cs.size = P.cellsOf t ∧ Row.okWide P w r base t cs := by
    unfold Value.okWide at hv
    split at hv
    · exact hv
    · exact hv
    · rename_i h2 h3
      split at hag
      · rename_i e; exact absurd e (h2 _)
      · rename_i e; exact absurd e (h3 _ _)
      · cases hag
  obtain ⟨cs, rfl, hs, ts', hts', ⟨n, hn⟩, hc⟩ := h1
  obtain rfl := Option.some.inj (hts.symm.trans hts')
  obtain ⟨ns, h2, h3⟩ := cells_ints (P := P) (w := w) (r := r) (base := base) ts ks cs.toList hk (by simp [hs, hsz]) (fun i v hv => by
    have hlt : i < ts.length := by
      rcases Nat.lt_or_ge i cs.toList.length with h | h
      · simpa [hs, hsz] using h
      · rw [List.getElem?_eq_none h] at hv; cases hv
    have := hc i v (by simpa using hv)
    rwa [Nat.mod_eq_of_lt hlt] at this)
  exact ⟨ns, by rw [← h2], h3⟩
end
theorem i64_has {n : Int} (h : IntKind.i64.has n) : -9223372036854775808 ≤ n ∧ n < 9223372036854775808 := by
  simp only [IntKind.has, IntKind.min, IntKind.max, IntKind.bits, IntKind.signed] at h; simp at h; omega
theorem u32_has {n : Int} (h : IntKind.u32.has n) : 0 ≤ n ∧ n < 4294967296 := by
  simp only [IntKind.has, IntKind.min, IntKind.max, IntKind.bits, IntKind.signed] at h; simp at h; omega
theorem qd_of {ks : List IntKind} : ∀ {ns : List Int}, AllHas (.i64 :: .u32 :: ks) ns → ∃ (q : QD) (ms : List Int), q.ok ∧ zipV (.i64 :: .u32 :: ks) ns = qdL q ++ zipV ks ms ∧ AllHas ks ms
  | [], h => h.elim
  | [_], h => h.2.elim
  | a :: b :: ms, h => by
    have h1 := i64_has h.1
    have h2 := u32_has h.2.1
    refine ⟨⟨a, b.toNat⟩, ms, ⟨h1.1, h1.2, by show b.toNat < _; omega⟩, ?_, h.2.2⟩
    simp only [zipV, qdL, List.cons_append, List.nil_append]
    rw [Int.toNat_of_nonneg h2.1]
theorem pd_of {ks : List IntKind} {ns : List Int} (h : AllHas (.i64 :: .u32 :: .i64 :: .u32 :: ks) ns) : ∃ (p : PD) (ms : List Int), p.ok ∧ zipV (.i64 :: .u32 :: .i64 :: .u32 :: ks) ns = pdL p ++ zipV ks ms ∧ AllHas ks ms := by
  obtain ⟨q, ms, hq, e, h1⟩ := qd_of h
  obtain ⟨q', ms', hq', e', h2⟩ := qd_of h1
  exact ⟨⟨q, q'⟩, ms', ⟨hq, hq'⟩, by rw [e, e', pdL, List.append_assoc], h2⟩
def kQ : List IntKind := [.i64, .u32]
theorem zipV_nil (ms : List Int) : zipV [] ms = [] := by cases ms <;> rfl
section
variable {P : Program} {w : World} {r : Reach} {base : Nat} {t : TypeId} {v : Value} {ts : List TypeId}
theorem arg_p2 (hag : (match P.underlying t with | some (.struct _) => true | some (.array _ _) => true | _ => false) = true) (hts : P.cellTypes P.depth t = some ts) (hsz : P.cellsOf t = ts.length)
    (hk : ts.map P.underlying = (kQ ++ kQ ++ kQ ++ kQ).map (fun k => some (.int k))) (hv : Value.okWide P w r base t v) : ∃ p0 p1 : PD, p0.ok ∧ p1.ok ∧ v = .agg (pdL p0 ++ pdL p1).toArray := by
  obtain ⟨ns, rfl, h⟩ := arg_ints _ hag hts hsz hk hv
  obtain ⟨p0, m0, h0, e0, h⟩ := pd_of (ks := kQ ++ kQ) h
  obtain ⟨p1, m1, h1, e1, h⟩ := pd_of (ks := []) h
  exact ⟨p0, p1, h0, h1, by rw [show kQ ++ kQ ++ kQ ++ kQ = .i64 :: .u32 :: .i64 :: .u32 :: (kQ ++ kQ) from rfl, e0, show kQ ++ kQ = [.i64, .u32, .i64, .u32] from rfl, e1, zipV_nil]; simp⟩
end
end
end Go.Proofs.YtnofgcpajmldkaaGreatDoor
