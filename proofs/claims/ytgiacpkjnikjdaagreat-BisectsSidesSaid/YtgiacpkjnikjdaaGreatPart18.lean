import Derived.Test.YtgiacpkjnikjdaaGreatPart06
import Derived.Test.YtgiacpkjnikjdaaGreatPart16
import Derived.Test.YtgiacpkjnikjdaaGreatPart17
namespace Go.Proofs.YtgiacpkjnikjdaaGreat
open Go Go.RowKit
set_option linter.unusedVariables false
set_option linter.unusedSimpArgs false
section
set_option maxRecDepth 100000
theorem val_take_rowN {N v : Nat} (h : v < 4294967296 ^ N) : val ((rowN N v).take N) = v := by
 rw [List.take_of_length_le (by rw [rowN_length]; exact Nat.le_refl _), val_rowN _ _ h]
theorem quo_words {a b : Nat} (hb : 0 < nw b) (h : nw b ≤ nw a) : a / b < 4294967296 ^ (nw a + 1 - nw b) := by
 have h1 := pow_le_words hb
 have h2 := lt_pow_nw a
 rw [Nat.div_lt_iff_lt_mul (by have := Nat.pow_pos (n := nw b - 1) (show 0 < 4294967296 by omega); omega)]
 have h3 : 4294967296 ^ (nw a + 1 - nw b) * 4294967296 ^ (nw b - 1) ≤ 4294967296 ^ (nw a + 1 - nw b) * b := Nat.mul_le_mul_left _ h1
 rw [← Nat.pow_add, show nw a + 1 - nw b + (nw b - 1) = nw a by omega] at h3
 omega
theorem rem_words {a b : Nat} : a % b < 4294967296 ^ (nw a + 1) := Nat.lt_of_le_of_lt (Nat.mod_le _ _) (Nat.lt_of_lt_of_le (lt_pow_nw a) (Nat.pow_le_pow_right (by omega) (by omega)))
theorem nw_eq_zero {b : Nat} (h : nw b = 0) : b = 0 := by
 have := lt_pow_nw b
 rw [h] at this
 omega
theorem pad_one {b : Nat} (h : nw b = 1) : (padW b).getD 0 0 = b ∧ b < 4294967296 := by
 have h1 := lt_pow_nw b
 rw [h] at h1
 refine ⟨?_, by omega⟩
 rw [pad_getD (by omega), words_getD, Nat.pow_zero, Nat.div_one, Nat.mod_eq_of_lt (by omega)]
theorem fill_numj_75_  : Instr.fill ([(0, 1), (1, 1)].toArray[·]?) (natL 0).toArray [] = some (natL 0).toArray := by kernel_rfl
theorem Div_ok (a b : Nat) (ha : nw a ≤ 1099511627776) (hb : nw b ≤ 1099511627776) (hb0 : b ≠ 0) (w : World)  : Calls Tryz.prog 137 #[(aG (natL a)), (aG (natL b))] w (Gives w (Value.tuple #[(aG (natL (a / b))), (aG (natL (a % b))), (Value.bool true)])) := by
 have hnb : nw b ≠ 0 := fun h => hb0 (nw_eq_zero h)
 have hla := nw_le_pad a
 have hlb := nw_le_pad b
 refine calls_of (args := [(aG (natL a)), (aG (natL b))]) Tryz.func137 rfl rfl (leB rfl) (OkC.subF (sL [0, 1] rfl) (q4 (bx' (cs := natL a) rfl fun b1 => bx' (cs := natL b) rfl fun b2 => al tZ75 rfl fun b3 => ?_)))
 refine al tZ75 rfl fun b4 => asg' rfl (q6 (sL [2, 3, 4, 5, 6] rfl) (OkC.block (q4 (ldW' 2 tA75 rfl ?_))))
 refine ck' Tryz.call174 (zero_ok b) rfl (asg' rfl (OkL.nil (OkQ.subF (sL [2, 3, 4, 5, 6, 12] rfl) (OkQ.then_ ?_))))
 refine OkC.cond rfl (fun hc0 => ?_) (fun hc0 => ?_)
 ·replace hc0 := of_decide_eq_true hc0
  exact absurd hc0 hb0
 ·replace hc0 := of_decide_eq_false hc0
  refine q4 (ldW' 3 tA75 rfl (ldW' 2 tA75 rfl (ck' Tryz.call175 (Cmp_ok a b (by omega) (by omega)) rfl (st' (ex_lss (c := (decide ((cmpZ a b) < (0 : Int)))) rfl rfl rfl) rfl (asg' rfl ?_)))))
  refine OkL.nil (OkQ.subF (sL [2, 3, 4, 5, 6, 17] rfl) (OkQ.then_ ?_))
  refine OkC.cond rfl (fun hc1 => ?_) (fun hc1 => ?_)
  ·replace hc1 := of_decide_eq_true hc1
   rw [cmpZ_lt] at hc1
   have e1 : a / b = 0 := Nat.div_eq_of_lt hc1
   have e2 : a % b = a := Nat.mod_eq_of_lt hc1
   refine OkC.seq (rG' [(0, true), (1, true), (2, false), (3, false), (4, true)] (sl (sl sr)) (pE' (v := (aG (natL 0))) rfl (ex_build_struct (zs := natL 0) (vs := natL 0) (pv := []) (places := [(0, 1), (1, 1)]) Tryz.zeroValue75 Tryz.underlying75 (fun w => by simp [Tryz.sizeOf9, Tryz.sizeOf73]) rfl (fill_numj_75_ )) (pW' 1 tA75 rfl (OkE.imp rfl (stW1' rfl Tryz.sizeOf75 rfl ?_)))))
   refine OkE.back (sl (sl sr)) (OkE.imp rfl (stW0' rfl Tryz.sizeOf75 rfl (OkE.back (sl (sl sr)) (pS' rfl (OkE.nil ?_)))))
   exact OkQ.subF (sL [2, 3, 4, 5, 6] rfl) (OkQ.then_ (OkC.ret (OkQ.in_ret (OkQ.then_ret (ret_three rfl (rd_agg (i := 1) (cs := natL 0) rfl rfl Tryz.isAgg75 Tryz.sizeOf75 rfl) (rd_agg (i := 0) (cs := natL a) rfl rfl Tryz.isAgg75 Tryz.sizeOf75 rfl) (rd_tmp (v := (Value.bool true)) rfl) (fun w hw => ⟨by rw [e1, e2], hw.out⟩))))))
  ·replace hc1 := of_decide_eq_false hc1
   rw [cmpZ_lt] at hc1
   have hba : nw b ≤ nw a := nw_mono (by omega)
   refine q4 (st' (v := (pP b1 1)) (ex_fieldAddr rfl Tryz.underlying75 rfl Tryz.sizeOf9 rfl) rfl (ldO' 3 (Value.string (bigB a)) tO9 rfl (st' (ex_eql_string (c := (decide (a < 18446744073709551616))) rfl rfl bigB_empty) rfl (asg' rfl (OkL.nil ?_)))))
   refine OkQ.subF (sL [2, 3, 4, 5, 6, 24] rfl) (OkQ.then_ ?_)
   refine OkC.cond rfl (fun hc2 => ?_) (fun hc2 => ?_)
   ·replace hc2 := of_decide_eq_true hc2
    have la : lowN a = a := lowN_small hc2
    have lb : lowN b = b := lowN_small (by omega)
    have q1 : a / b < 18446744073709551616 := Nat.lt_of_le_of_lt (Nat.div_le_self _ _) hc2
    have q2 : a % b < 18446744073709551616 := Nat.lt_of_le_of_lt (Nat.mod_le _ _) hc2
    refine OkC.seq (rG' [(0, true), (1, true), (2, true), (3, true), (4, true), (5, true), (6, true), (7, true), (8, true), (9, true), (10, true), (11, true), (12, false), (13, false), (14, true)] (sl (sl sr)) (pE' (v := (pP b1 0)) rfl (ex_fieldAddr rfl Tryz.underlying75 rfl Tryz.sizeOf73 rfl) (pO'' 1 (vK .u64 (lowN a)) tO73 rfl (pE' (v := (pP b2 0)) rfl (ex_fieldAddr rfl Tryz.underlying75 rfl Tryz.sizeOf73 rfl) (pO'' 0 (vK .u64 (lowN b)) tO73 rfl ?_)))))
    refine pE' rfl (ex_quo (c := (((lowN a) / (lowN b) : Nat) : Int)) rfl rfl (by omega) (quoN_u64 (a := lowN a) (b := lowN b) (by omega))) (pE' (v := (aG ([(vK .u64 ((lowN a) / (lowN b))), (Value.string (bigB 0))]))) rfl (ex_build_struct (zs := natL 0) (vs := [(vK .u64 ((lowN a) / (lowN b))), (Value.string (bigB 0))]) (pv := [(0, (vK .u64 ((lowN a) / (lowN b))))]) (places := [(0, 1), (1, 1)]) Tryz.zeroValue75 Tryz.underlying75 (fun w => by simp [Tryz.sizeOf9, Tryz.sizeOf73]) rfl rfl) (pE' (v := (pP b1 0)) rfl (ex_fieldAddr rfl Tryz.underlying75 rfl Tryz.sizeOf73 rfl) (pO'' 1 (vK .u64 (lowN a)) tO73 rfl (pE' (v := (pP b2 0)) rfl (ex_fieldAddr rfl Tryz.underlying75 rfl Tryz.sizeOf73 rfl) (pO'' 0 (vK .u64 (lowN b)) tO73 rfl ?_)))))
    refine pE' rfl (ex_rem (c := (((lowN a) % (lowN b) : Nat) : Int)) rfl rfl (by omega) (remN (a := lowN a) (b := lowN b))) (pE' (v := (aG ([(vK .u64 ((lowN a) % (lowN b))), (Value.string (bigB 0))]))) rfl (ex_build_struct (zs := natL 0) (vs := [(vK .u64 ((lowN a) % (lowN b))), (Value.string (bigB 0))]) (pv := [(0, (vK .u64 ((lowN a) % (lowN b))))]) (places := [(0, 1), (1, 1)]) Tryz.zeroValue75 Tryz.underlying75 (fun w => by simp [Tryz.sizeOf9, Tryz.sizeOf73]) rfl rfl) (OkE.imp rfl (stW1' rfl Tryz.sizeOf75 rfl (OkE.back (sl (sl sr)) (OkE.imp rfl ?_)))))
    refine stW0' rfl Tryz.sizeOf75 rfl (OkE.back (sl (sl sr)) (pS' rfl (OkE.nil (OkQ.subF (sL [2, 3, 4, 5, 6] rfl) (OkQ.then_ ?_)))))
    exact OkC.ret (OkQ.in_ret (OkQ.then_ret (ret_three rfl (rd_agg (i := 1) (cs := [(vK .u64 ((lowN a) / (lowN b))), (Value.string (bigB 0))]) rfl rfl Tryz.isAgg75 Tryz.sizeOf75 rfl) (rd_agg (i := 0) (cs := [(vK .u64 ((lowN a) % (lowN b))), (Value.string (bigB 0))]) rfl rfl Tryz.isAgg75 Tryz.sizeOf75 rfl) (rd_tmp (v := (Value.bool true)) rfl) (fun w hw => ⟨by rw [natL_small q1, natL_small q2, la, lb]; rfl, hw.out⟩))))
   ·replace hc2 := of_decide_eq_false hc2
    refine OkC.skip (OkQ.in_normal (q2 (ldW' 2 tA75 rfl (OkL.callB (V := fun b5 => (Value.slice (some ⟨b5, 0, none⟩) (nw b) ((padW b).length))) (T := 105) (cs := u32s (padW b)) (wt_none rfl) (op_call0 (args := [(aG (natL b))]) rfl rfl Tryz.call144) (fun w hw => words_ok b (by omega) w) rfl (leB rfl) fun b5 => asg' rfl ?_))))
    refine q6 (sL [2, 3, 4, 5, 6, 7] rfl) (q4 (mv' rfl (st' (v := (vN (nw b))) (ex_len_slice rfl Tryz.underlying226) rfl (st' (ex_eql (c := (decide ((nw b) = 1))) rfl rfl (eqN (a := nw b) (b := 1))) rfl (OkL.nil ?_)))))
    refine OkQ.subF (sL [2, 3, 4, 5, 6, 7, 44] rfl) (OkQ.then_ ?_)
    refine OkC.cond rfl (fun hc3 => ?_) (fun hc3 => ?_)
    ·replace hc3 := of_decide_eq_true hc3
     obtain ⟨hy, hy2⟩ := pad_one hc3
     refine OkC.seq (rG' [(0, true), (2, true), (3, true), (4, true), (1, false), (5, false), (6, true), (7, true), (8, true), (9, true), (10, true)] sr (pW' 4 tA75 rfl (pM' rfl (pE' (v := (pP b5 0)) rfl (ex_indexAddr_slice (j := 0) rfl rfl Tryz.underlying226 Tryz.sizeOf105 rfl (by omega) rfl) ?_))))
     have hx1 : (padW b).getD 0 0 < 4294967296 := W32.getD (padW_w32 b) 0
     refine pE' rfl (ex_load_one (i := 0) (v := (vK .u32 ((padW b).getD 0 0))) rfl rfl Tryz.isAgg105 (u32s_get (xs := padW b) (j := 0) (by omega))) (OkE.imp rfl (OkL.callB (V := fun b6 => (Value.slice (some ⟨b6, 0, none⟩) (nw a) ((padW a).length))) (T := 105) (cs := u32s (padW a)) (wt_none rfl) (op_call0 (args := [(aG (natL a))]) rfl rfl Tryz.call144) (fun w hw => words_ok a (by omega) w) rfl (leB rfl) fun b6 => OkE.back (sl sr) (OkE.imp rfl (OkL.callB (V := fun b7 => (Value.tuple #[(Value.slice (some ⟨b7, 0, none⟩) (nw a) (nw a)), (vK .u32 (a % ((padW b).getD 0 0)))])) (T := 105) (cs := u32s (rowN (nw a) (a / ((padW b).getD 0 0)))) (wt_none rfl) (op_call0 (args := [(Value.slice (some ⟨b6, 0, none⟩) (nw a) ((padW a).length)), (vK .u32 ((padW b).getD 0 0))]) rfl rfl Tryz.call176) (fun w hw => short_ok a ((padW b).getD 0 0) _ _ (by omega) (by omega) (by omega) w (hw.get (i := 0) rfl)) rfl (leB rfl) fun b7 => ?_))))
     refine OkE.back (sl (sl sr)) (pM' rfl (pE' rfl (ex_extract (v := (Value.slice (some ⟨b7, 0, none⟩) (nw a) (nw a))) rfl rfl) (pE' rfl (ex_extract (v := (vK .u32 (a % ((padW b).getD 0 0)))) rfl rfl) (pS' rfl (pS' rfl ?_)))))
     refine OkE.nil (OkQ.subF (sL [2, 3, 4, 5, 6, 7, 8, 9] rfl) (q2 (mv' rfl (cl' Tryz.call143 (fun w hw => of_ok _ (nw a) (nw a) (rowN (nw a) (a / ((padW b).getD 0 0))) (rowN_w32 _ _) (by first | omega | (rw [rowN_length]; omega) | simp | (simp; omega)) (by first | omega | simp | (simp; omega)) (by first | omega | simp | (simp; omega)) w (hw.get (i := 0) rfl)) rfl (OkL.retell (k := 55) (u := (aG (natL (a / b)))) rfl (by rw [hy, val_take_rowN (Nat.lt_of_le_of_lt (Nat.div_le_self _ _) (lt_pow_nw a))]) ?_)))))
     refine mv' rfl ?_
     have hmb : a % (padW b).getD 0 0 < 4294967296 := by rw [hy]; exact Nat.lt_of_lt_of_le (Nat.mod_lt _ (by omega)) (by omega)
     refine st' (ex_conv (c := ((a % ((padW b).getD 0 0) : Nat) : Int)) rfl Tryz.underlying105 Tryz.underlying73 (convN_u64 (by omega))) rfl (st' (v := (aG ([(vK .u64 (a % ((padW b).getD 0 0))), (Value.string (bigB 0))]))) (ex_build_struct (zs := natL 0) (vs := [(vK .u64 (a % ((padW b).getD 0 0))), (Value.string (bigB 0))]) (pv := [(0, (vK .u64 (a % ((padW b).getD 0 0))))]) (places := [(0, 1), (1, 1)]) Tryz.zeroValue75 Tryz.underlying75 (fun w => by simp [Tryz.sizeOf9, Tryz.sizeOf73]) rfl rfl) rfl (OkL.retell (k := 58) (u := (aG (natL (a % b)))) rfl (by rw [hy] at hmb ⊢; rw [natL_small (by omega)]; rfl) (stX 4 (off := 0) (vs := natL (a / b)) (cs' := natL (a / b)) (wt_none rfl) rfl Tryz.sizeOf75 rfl (stW3' rfl Tryz.sizeOf75 rfl (asg' rfl ?_)))))
     exact OkL.nil (OkQ.subF (sL [2, 3, 4, 5, 6, 7] rfl) (OkQ.then_ (OkC.ret (OkQ.then_ret (ret_three rfl (rd_agg (i := 4) (cs := natL (a / b)) rfl rfl Tryz.isAgg75 Tryz.sizeOf75 rfl) (rd_agg (i := 3) (cs := natL (a % b)) rfl rfl Tryz.isAgg75 Tryz.sizeOf75 rfl) (rd_tmp (v := (Value.bool true)) rfl) (fun w hw => ⟨rfl, hw.out⟩))))))
    ·replace hc3 := of_decide_eq_false hc3
     refine OkC.skip (q2 (ldW' 4 tA75 rfl (OkL.callB (V := fun b6 => (Value.slice (some ⟨b6, 0, none⟩) (nw a) ((padW a).length))) (T := 105) (cs := u32s (padW a)) (wt_none rfl) (op_call0 (args := [(aG (natL a))]) rfl rfl Tryz.call144) (fun w hw => words_ok a (by omega) w) rfl (leB rfl) fun b6 => mv' rfl (OkL.callBB (V := fun b7 b8 => (Value.tuple #[(Value.slice (some ⟨b7, 0, none⟩) (nw a + 1 - nw b) (nw a + 1 - nw b)), (Value.slice (some ⟨b8, 0, none⟩) (nw a + 1) (nw a + 1))])) (T := 105) (cs := u32s (rowN (nw a + 1 - nw b) (a / b))) (T2 := 105) (cs2 := u32s (rowN (nw a + 1) (a % b))) (wt_none rfl) (op_call0 (args := [(Value.slice (some ⟨b6, 0, none⟩) (nw a) ((padW a).length)), (Value.slice (some ⟨b5, 0, none⟩) (nw b) ((padW b).length))]) rfl rfl Tryz.call177) (fun w hw => long_ok a b _ _ _ _ (by omega) (by omega) (by omega) w (hw.get (i := 0) rfl) (hw.get (i := 1) rfl)) rfl (leB rfl) fun b7 b8 => ?_))))
     refine mv' rfl (st' (ex_extract (v := (Value.slice (some ⟨b7, 0, none⟩) (nw a + 1 - nw b) (nw a + 1 - nw b))) rfl rfl) rfl (st' (ex_extract (v := (Value.slice (some ⟨b8, 0, none⟩) (nw a + 1) (nw a + 1))) rfl rfl) rfl (asg' rfl (asg' rfl (q3 (sL [2, 3, 4, 5, 6, 7, 10, 11] rfl) ?_)))))
     refine mv' rfl (cl' Tryz.call143 (fun w hw => of_ok _ (nw a + 1 - nw b) (nw a + 1 - nw b) (rowN (nw a + 1 - nw b) (a / b)) (rowN_w32 _ _) (by first | omega | (rw [rowN_length]; omega) | simp | (simp; omega)) (by first | omega | simp | (simp; omega)) (by first | omega | simp | (simp; omega)) w (hw.get (i := 0) rfl)) rfl (OkL.retell (k := 67) (u := (aG (natL (a / b)))) rfl (by rw [val_take_rowN (quo_words (by omega) hba)]) (mv' rfl (cl' Tryz.call143 (fun w hw => of_ok _ (nw a + 1) (nw a + 1) (rowN (nw a + 1) (a % b)) (rowN_w32 _ _) (by first | omega | (rw [rowN_length]; omega) | simp | (simp; omega)) (by first | omega | simp | (simp; omega)) (by first | omega | simp | (simp; omega)) w (hw.get (i := 1) rfl)) rfl (OkL.retell (k := 69) (u := (aG (natL (a % b)))) rfl (by rw [val_take_rowN rem_words]) ?_)))))
     refine stX 5 (off := 0) (vs := natL (a / b)) (cs' := natL (a / b)) (wt_none rfl) rfl Tryz.sizeOf75 rfl (stX 4 (off := 0) (vs := natL (a % b)) (cs' := natL (a % b)) (wt_none rfl) rfl Tryz.sizeOf75 rfl (asg' rfl (OkL.nil (OkQ.subF (sL [2, 3, 4, 5, 6, 7] rfl) (OkQ.then_ ?_)))))
     exact OkC.ret (ret_three rfl (rd_agg (i := 5) (cs := natL (a / b)) rfl rfl Tryz.isAgg75 Tryz.sizeOf75 rfl) (rd_agg (i := 4) (cs := natL (a % b)) rfl rfl Tryz.isAgg75 Tryz.sizeOf75 rfl) (rd_tmp (v := (Value.bool true)) rfl) (fun w hw => ⟨rfl, hw.out⟩))
theorem Gcd_ok (a b : Nat) (ha : nw a ≤ 1099511627776) (hb : nw b ≤ 1099511627776) (w : World)  : Calls Tryz.prog 135 #[(aG (natL a)), (aG (natL b))] w (Gives w (aG (natL (Nat.gcd a b)))) := by
 refine calls_of (args := [(aG (natL a)), (aG (natL b))]) Tryz.func135 rfl rfl (leB rfl) (OkC.subF (sL [0, 1] rfl) (q4 (bx' (cs := natL a) rfl fun b1 => bx' (cs := natL b) rfl fun b2 => al tZ75 rfl fun b3 => ?_)))
 refine q6 (sL [2, 3, 4] rfl) (OkC.block ?_)
 refine OkC.lp2 (tg fun (x : Nat) (y : Nat) => Nat.gcd x y = Nat.gcd a b ∧ nw x ≤ 1099511627776 ∧ nw y ≤ 1099511627776) (tg fun (x : Nat) (y : Nat) => [(2, (pP b1 0)), (3, (pP b2 0)), (4, (pP b3 0))]) (tg fun (x : Nat) (y : Nat) => [blk b3 75 (natL 0), blk b2 75 (natL y), blk b1 75 (natL x)]) (tg fun (x : Nat) (y : Nat) => y) a b (⟨rfl, ha, hb⟩) (sF rfl) sr (fun x y hJ => ?_)
 obtain ⟨hg, hx, hy⟩ := hJ
 refine OkC.seq (q4 (ldW' 1 tA75 rfl (ck' Tryz.call174 (zero_ok y) rfl (st' (ex_not (c := (!(decide (y = 0)))) rfl rfl) rfl (OkL.nil ?_)))))
 refine OkQ.subF (sL [2, 3, 4, 10] rfl) (OkQ.then_ ?_)
 refine OkC.cond rfl (fun hc0 => ?_) (fun hc0 => ?_)
 ·simp only [Bool.and_eq_true, Bool.or_eq_true, Bool.and_eq_false_iff, Bool.or_eq_false_iff, Bool.not_eq_true', Bool.not_eq_false', decide_eq_true_eq, decide_eq_false_iff_not] at hc0
  refine OkC.skip (OkQ.then_ (OkC.block (q4 (ldW' 2 tA75 rfl (ldW' 1 tA75 rfl ?_)))))
  refine ck' Tryz.call137 (Div_ok x y (by omega) (by omega) (by omega)) rfl (mv' rfl (st' (ex_extract (v := (aG (natL (x / y)))) rfl rfl) rfl (st' (ex_extract (v := (aG (natL (x % y)))) rfl rfl) rfl (st' (ex_extract (v := (Value.bool true)) rfl rfl) rfl (al tZ75 rfl fun b4 => ?_)))))
  refine al tZ75 rfl fun b5 => stW1' rfl Tryz.sizeOf75 rfl (stW0' rfl Tryz.sizeOf75 rfl (asg' rfl (OkL.nil (OkQ.subF (sL [2, 3, 4, 6] rfl) ?_))))
  refine OkQ.then_ (rG' [(1, true), (0, false), (2, false), (3, false)] (sk (sk (sk (sl (sl sr))))) (pW' 0 tA75 rfl (OkE.imp rfl (ldW' 3 tA75 rfl (OkE.back (sk (sk (sk (sl (sl sr))))) ?_)))))
  refine OkE.imp rfl (stX 4 (off := 0) (vs := natL y) (cs' := natL y) (wt_none rfl) rfl Tryz.sizeOf75 rfl (OkE.back (sk (sk (sk (sl (sl sr))))) (OkE.imp rfl (stW3' rfl Tryz.sizeOf75 rfl (OkE.back (sk (sk (sk (sl (sl sr))))) ?_)))))
  exact OkE.nil (OkQ.subF (sL [2, 3, 4, 6] rfl) (OkQ.in_normal (OkQ.round2 y (x % y) (⟨by rw [← hg, Nat.gcd_comm x y, Nat.gcd_rec y x, Nat.gcd_comm], hy, Nat.le_trans (nw_mono (Nat.mod_le _ _)) hx⟩) (Nat.mod_lt _ (by omega)) (sF rfl) (sl (sl sr)))))
 ·simp only [Bool.and_eq_true, Bool.or_eq_true, Bool.and_eq_false_iff, Bool.or_eq_false_iff, Bool.not_eq_true', Bool.not_eq_false', decide_eq_true_eq, decide_eq_false_iff_not] at hc0
  have hy0 : y = 0 := by omega
  have hxg : x = Nat.gcd a b := by rw [← hg, hy0, Nat.gcd_zero_right]
  refine OkC.exit (OkQ.then_exit (OkQ.round2_exit (OkQ.in_exit (q2 (ldW' 2 tA75 rfl ?_)))))
  exact stW0' rfl Tryz.sizeOf75 rfl (OkL.nil (OkQ.subF (sL [2, 3, 4] rfl) (OkQ.then_ (OkC.ret (ret_one rfl (rd_agg (i := 0) (cs := natL x) rfl rfl Tryz.isAgg75 Tryz.sizeOf75 rfl) (fun w hw => ⟨by rw [hxg], hw.out⟩))))))
end
def mkI (neg : Bool) (n : Nat) : Int := if neg then -(n : Int) else (n : Int)
theorem intL_neg (n : Nat) : intL (mkI true n) = natL n ++ [.bool (!(decide (n = 0)))] := by
  simp only [intL, natL, mkI, if_true, Int.natAbs_neg, Int.natAbs_natCast, List.cons_append, List.nil_append]
  have e : decide (-(n : Int) < 0) = !(decide (n = 0)) := by
    by_cases h : n = 0
    · subst h; rfl
    · simp [h]; omega
  rw [e]
theorem intL_pos (n : Nat) : intL (mkI false n) = natL n ++ [.bool false] := by
  simp only [intL, natL, mkI, Int.natAbs_natCast, List.cons_append, List.nil_append]
  have e : decide ((n : Int) < 0) = false := by simp
  simp [e]
theorem eqB_size (D a b : Nat) : EqB Tryz.prog (D + 3) 77 (.agg (natL a).toArray) (.agg (natL b).toArray) (decide (a = b)) := by
  have h := EqB.struct (D := D + 2) (xs := natL a) (ys := natL b) Tryz.underlying77 Tryz.stoodInHeld77 (EqF.agg (us := natL a) (bs := natL b) (by decide) Tryz.isAgg75 Tryz.sizeOf75 rfl rfl (eqB_nat D a b) EqF.nil)
  simpa using h
theorem mkI_natAbs (neg : Bool) (n : Nat) : (mkI neg n).natAbs = n := by cases neg <;> simp [mkI]
theorem mkI_not (a : Int) : mkI (!(decide (a < 0))) a.natAbs = -a := by
  unfold mkI
  by_cases h : a < 0
  · simp [h]; omega
  · simp [h]; omega
theorem mkI_mul (a b : Int) : mkI (!(decide (a < 0) == decide (b < 0))) (a.natAbs * b.natAbs) = a * b := by
  rw [← Int.natAbs_mul]
  unfold mkI
  by_cases h : a < 0 <;> by_cases h' : b < 0
  · have := Int.mul_pos_of_neg_of_neg h h'; simp [h, h']; omega
  · have : a * b ≤ 0 := Int.mul_nonpos_of_nonpos_of_nonneg (by omega) (by omega)
    simp [h, h']; omega
  · have : a * b ≤ 0 := Int.mul_nonpos_of_nonneg_of_nonpos (by omega) (by omega)
    simp [h, h']; omega
  · have : 0 ≤ a * b := Int.mul_nonneg (by omega) (by omega)
    simp [h, h']; omega
theorem mkI_add_same {a b : Int} (h : (decide (a < 0) == decide (b < 0)) = true) : mkI (decide (a < 0)) (a.natAbs + b.natAbs) = a + b := by
  unfold mkI
  by_cases h1 : a < 0 <;> by_cases h2 : b < 0 <;> simp [h1, h2] at h ⊢ <;> omega
theorem mkI_add_ge {a b : Int} (h : (decide (a < 0) == decide (b < 0)) = false) (h3 : b.natAbs ≤ a.natAbs) : mkI (decide (a < 0)) (a.natAbs - b.natAbs) = a + b := by
  unfold mkI
  by_cases h1 : a < 0 <;> by_cases h2 : b < 0 <;> simp [h1, h2] at h ⊢ <;> omega
theorem mkI_add_lt {a b : Int} (h : (decide (a < 0) == decide (b < 0)) = false) (h3 : ¬ b.natAbs ≤ a.natAbs) : mkI (decide (b < 0)) (b.natAbs - a.natAbs) = a + b := by
  unfold mkI
  by_cases h1 : a < 0 <;> by_cases h2 : b < 0 <;> simp [h1, h2] at h ⊢ <;> omega
theorem negU {z : Int} (h : z < 0) (h2 : -9223372036854775808 ≤ z) : IntKind.u64.wrap (-(IntKind.u64.wrap z)) = ((z.natAbs : Nat) : Int) := by
  simp only [IntKind.wrap, IntKind.bits, IntKind.signed]; simp; omega
theorem mkI_natAbs_neg {z : Int} (h : z < 0) : mkI true z.natAbs = z := by unfold mkI; simp; omega
theorem mkI_toNat {z : Int} (h : ¬ z < 0) : mkI false z.natAbs = z := by unfold mkI; simp; omega
end Go.Proofs.YtgiacpkjnikjdaaGreat
