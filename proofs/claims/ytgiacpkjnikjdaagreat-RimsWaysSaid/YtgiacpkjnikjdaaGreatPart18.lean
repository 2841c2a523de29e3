import Derived.Test.YtgiacpkjnikjdaaGreatPart06
import Derived.Test.YtgiacpkjnikjdaaGreatPart16
import Derived.Test.YtgiacpkjnikjdaaGreatPart17
namespace Go.Proofs.YtgiacpkjnikjdaaGreat
open Go Go.RowKit
set_option linter.unusedVariables false
set_option linter.unusedSimpArgs false
section
set_option maxRecDepth 100000
theorem val_take_rowN {N v : Nat} (h : v < 4294967296 ^ N) : val ((rowN N v).take N) = v := by
 rw [List.take_of_length_le (by rw [rowN_length]; exact Nat.le_refl _), val_rowN _ _ h]
theorem quo_words {a b : Nat} (hb : 0 < nw b) (h : nw b ≤ nw a) : a / b < 4294967296 ^ (nw a + 1 - nw b) := by
 have h1 := pow_le_words hb
 have h2 := lt_pow_nw a
 rw [Nat.div_lt_iff_lt_mul (by have := Nat.pow_pos (n := nw b - 1) (show 0 < 4294967296 by omega); omega)]
 have h3 : 4294967296 ^ (nw a + 1 - nw b) * 4294967296 ^ (nw b - 1) ≤ 4294967296 ^ (nw a + 1 - nw b) * b := Nat.mul_le_mul_left _ h1
 rw [← Nat.pow_add, show nw a + 1 - nw b + (nw b - 1) = nw a by omega] at h3
 omega
theorem rem_words {a b : Nat} : a % b < 4294967296 ^ (nw a + 1) := Nat.lt_of_le_of_lt (Nat.mod_le _ _) (Nat.lt_of_lt_of_le (lt_pow_nw a) (Nat.pow_le_pow_right (by omega) (by omega)))
theorem nw_eq_zero {b : Nat} (h : nw b = 0) : b = 0 := by
 have := lt_pow_nw b
 rw [h] at this
 omega
theorem pad_one {b : Nat} (h : nw b = 1) : (padW b).getD 0 0 = b ∧ b < 4294967296 := by
 have h1 := lt_pow_nw b
 rw [h] at h1
 refine ⟨?_, by omega⟩
 rw [pad_getD (by omega), words_getD, Nat.pow_zero, Nat.div_one, Nat.mod_eq_of_lt (by omega)]
theorem fill_numj_75_  : Instr.fill ([(0, 1), (1, 1)].toArray[·]?) (natL 0).toArray [] = some (natL 0).toArray := by kernel_rfl
theorem Div_ok (a b : Nat) (ha : nw a ≤ 1099511627776) (hb : nw b ≤ 1099511627776) (hb0 : b ≠ 0) (w : World)  : Calls Tryz.prog 137 #[(aG (natL a)), (aG (natL b))] w (Gives w (Value.tuple #[(aG (natL (a / b))), (aG (natL (a % b))), (Value.bool true)])) := by
 have hnb : nw b ≠ 0 := fun h => hb0 (nw_eq_zero h)
 have hla := nw_le_pad a
 have hlb := nw_le_pad b
 refine calls_of (args := [(aG (natL a)), (aG (natL b))]) Tryz.func137 rfl rfl (leB rfl) (OkC.subF (sL [0, 1] rfl) (q4 (bx' (cs := natL a) rfl fun b1 => bx' (cs := natL b) rfl fun b2 => al tZ75 rfl fun b3 => ?_)))
 refine al tZ75 rfl fun b4 => asg' rfl (q6 (sL [2, 3, 4, 5, 6] rfl) (OkC.block (q4 (ldW' 2 tA75 rfl ?_))))
 refine ck' Tryz.call174 (zero_ok b) rfl (asg' rfl (OkL.nil (OkQ.subF (sL [2, 3, 4, 5, 6, 12] rfl) (OkQ.then_ ?_))))
 refine OkC.cond rfl (fun hc0 => ?_) (fun hc0 => ?_)
 ·replace hc0 := of_decide_eq_true hc0
  exact absurd hc0 hb0
 ·replace hc0 := of_decide_eq_false hc0
  refine q4 (ldW' 3 tA75 rfl (ldW' 2 tA75 rfl (ck' Tryz.call175 (Cmp_ok a b (by omega) (by omega)) rfl (st' (ex_lss (c := (decide ((cmpZ a b) < (0 : Int)))) rfl rfl rfl) rfl (asg' rfl ?_)))))
  refine OkL.nil (OkQ.subF (sL [2, 3, 4, 5, 6, 17] rfl) (OkQ.then_ ?_))
  refine OkC.cond rfl (fun hc1 => ?_) (fun hc1 => ?_)
  ·replace hc1 := of_decide_eq_true hc1
   rw [cmpZ_lt] at hc1
   have e1 : a / b = 0 := Nat.div_eq_of_lt hc1
   have e2 : a % b = a := Nat.mod_eq_of_lt hc1
   refine OkC.seq (rG' [(0, true), (1, true), (2, false), (3, false), (4, true)] (sl (sl sr)) (pE' (v := (aG (natL 0))) rfl (ex_build_struct (zs := natL 0) (vs := natL 0) (pv := []) (places := [(0, 1), (1, 1)]) Tryz.zeroValue75 Tryz.underlying75 (fun w => by simp [Tryz.sizeOf9, Tryz.sizeOf73]) rfl (fill_numj_75_ )) (pW' 1 tA75 rfl (OkE.imp rfl (stW1' rfl Tryz.sizeOf75 rfl ?_)))))
   refine OkE.back (sl (sl sr)) (OkE.imp rfl (stW0' rfl Tryz.sizeOf75 rfl (OkE.back (sl (sl sr)) (pS' rfl (OkE.nil ?_)))))
   exact OkQ.subF (sL [2, 3, 4, 5, 6] rfl) (OkQ.then_ (OkC.ret (OkQ.in_ret (OkQ.then_ret (ret_three rfl (rd_agg (i := 1) (cs := natL 0) rfl rfl Tryz.isAgg75 Tryz.sizeOf75 rfl) (rd_agg (i := 0) (cs := natL a) rfl rfl Tryz.isAgg75 Tryz.sizeOf75 rfl) (rd_tmp (v := (Value.bool true)) rfl) (fun w hw => ⟨by rw [e1, e2], hw.out⟩))))))
  ·replace hc1 := of_decide_eq_false hc1
   rw [cmpZ_lt] at hc1
   have hba : nw b ≤ nw a := nw_mono (by omega)
   refine q4 (st' (v := (pP b1 1)) (ex_fieldAddr rfl Tryz.underlying75 rfl Tryz.sizeOf9 rfl) rfl (ldO' 3 (Value.string (bigB a)) tO9 rfl (st' (ex_eql_string (c := (decide (a < 18446744073709551616))) rfl rfl bigB_empty) rfl (asg' rfl (OkL.nil ?_)))))
   refine OkQ.subF (sL [2, 3, 4, 5, 6, 24] rfl) (OkQ.then_ ?_)
   refine OkC.cond rfl (fun hc2 => ?_) (fun hc2 => ?_)
   ·replace hc2 := of_decide_eq_true hc2
    have la : lowN a = a := lowN_small hc2
    have lb : lowN b = b := lowN_small (by omega)
    have q1 : a / b < 18446744073709551616 := Nat.lt_of_le_of_lt (Nat.div_le_self _ _) hc2
    have q2 : a % b < 18446744073709551616 := Nat.lt_of_le_of_lt (Nat.mod_le _ _) hc2
    refine OkC.seq (rG' [(0, true), (1, true), (2, true), (3, true), (4, true), (5, true), (6, true), (7, true), (8, true), (9, true), (10, true), (11, true), (12, false), (13, false), (14, true)] (sl (sl sr)) (pE' (v := (pP b1 0)) rfl (ex_fieldAddr rfl Tryz.underlying75 rfl Tryz.sizeOf73 rfl) (pO'' 1 (vK .u64 (lowN a)) tO73 rfl (pE' (v := (pP b2 0)) rfl (ex_fieldAddr rfl Tryz.underlying75 rfl Tryz.sizeOf73 rfl) (pO'' 0 (vK .u64 (lowN b)) tO73 rfl ?_)))))
    refine pE' rfl (ex_quo (c := (((lowN a) / (lowN b) : Nat) : Int)) rfl rfl (by omega) (quoN_u64 (a := lowN a) (b := lowN b) (by omega))) (pE' (v := (aG ([(vK .u64 ((lowN a) / (lowN b))), (Value.string (bigB 0))]))) rfl (ex_build_struct (zs := natL 0) (vs := [(vK .u64 ((lowN a) / (lowN b))), (Value.string (bigB 0))]) (pv := [(0, (vK .u64 ((lowN a) / (lowN b))))]) (places := [(0, 1), (1, 1)]) Tryz.zeroValue75 Tryz.underlying75 (fun w => by simp [Tryz.sizeOf9, Tryz.sizeOf73]) rfl rfl) (pE' (v := (pP b1 0)) rfl (ex_fieldAddr rfl Tryz.underlying75 rfl Tryz.sizeOf73 rfl) (pO'' 1 (vK .u64 (lowN a)) tO73 rfl (pE' (v := (pP b2 0)) rfl (ex_fieldAddr rfl Tryz.underlying75 rfl Tryz.sizeOf73 rfl) (pO'' 0 (vK .u64 (lowN b)) tO73 rfl ?_)))))
    refine pE' rfl (ex_rem (c := (((lowN a) % (lowN b) : Nat) : Int)) rfl rfl (by omega) (remN (a := lowN a) (b := lowN b))) (pE' (v := (aG ([(vK .u64 ((lowN a) % (lowN b))), (Value.string (bigB 0))]))) rfl (ex_build_struct (zs := natL 0) (vs := [(vK .u64 ((lowN a) % (lowN b))), (Value.string (bigB 0))]) (pv := [(0, (vK .u64 ((lowN a) % (lowN b))))]) (places := [(0, 1), (1, 1)]) Tryz.zeroValue75 Tryz.underlying75 (fun w => by simp [Tryz.sizeOf9, Tryz.sizeOf73]) rfl rfl) (OkE.imp rfl (stW1' rfl Tryz.sizeOf75 rfl (OkE.back (sl (sl sr)) (OkE.imp rfl ?_)))))
    refine stW0' rfl Tryz.sizeOf75 rfl (OkE.back (sl (sl sr)) (pS' rfl (OkE.nil (OkQ.subF (sL [2, 3, 4, 5, 6] rfl) (OkQ.then_ ?_)))))
    exact OkC.ret (OkQ.in_ret (OkQ.then_ret (ret_three rfl (rd_agg (i := 1) (cs := [(vK .u64 ((lowN a) / (lowN b))), (Value.string (bigB 0))]) rfl rfl Tryz.isAgg75 Tryz.sizeOf75 rfl) (rd_agg (i := 0) (cs := [(vK .u64 ((lowN a) % (lowN b))), (Value.string (bigB 0))]) rfl rfl Tryz.isAgg75 Tryz.sizeOf75 rfl) (rd_tmp (v := (Value.bool true)) rfl) (fun w hw => ⟨by rw [natL_small q1, natL_small q2, la, lb]; rfl, hw.out⟩))))
   ·replace hc2 := of_decide_eq_false hc2
    refine OkC.skip (OkQ.in_normal (q2 (ldW' 2 tA75 rfl (OkL.callB (V := fun b5 => (Value.slice (some ⟨b5, 0, none⟩) (nw b) ((padW b).length))) (T := 105) (cs := u32s (padW b)) (wt_none rfl) (op_call0 (args := [(aG (natL b))]) rfl rfl Tryz.call144) (fun w hw => words_ok b (by omega) w) rfl (leB rfl) fun b5 => asg' rfl ?_))))
    refine q6 (sL [2, 3, 4, 5, 6, 7] rfl) (q4 (mv' rfl (st' (v := (vN (nw b))) (ex_len_slice rfl Tryz.underlying226) rfl (st' (ex_eql (c := (decide ((nw b) = 1))) rfl rfl (eqN (a := nw b) (b := 1))) rfl (OkL.nil ?_)))))
    refine OkQ.subF (sL [2, 3, 4, 5, 6, 7, 44] rfl) (OkQ.then_ ?_)
    refine OkC.cond rfl (fun hc3 => ?_) (fun hc3 => ?_)
    ·replace hc3 := of_decide_eq_true hc3
     obtain ⟨hy, hy2⟩ := pad_one hc3
     refine OkC.seq (rG' [(0, true), (2, true), (3, true), (4, true), (1, false), (5, false), (6, true), (7, true), (8, true), (9, true), (10, true)] sr (pW' 4 tA75 rfl (pM' rfl (pE' (v := (pP b5 0)) rfl (ex_indexAddr_slice (j := 0) rfl rfl Tryz.underlying226 Tryz.sizeOf105 rfl (by omega) rfl) ?_))))
     have hx1 : (padW b).getD 0 0 < 4294967296 := W32.getD (padW_w32 b) 0
     refine pE' rfl (ex_load_one (i := 0) (v := (vK .u32 ((padW b).getD 0 0))) rfl rfl Tryz.isAgg105 (u32s_get (xs := padW b) (j := 0) (by omega))) (OkE.imp rfl (OkL.callB (V := fun b6 => (Value.slice (some ⟨b6, 0, none⟩) (nw a) ((padW a).length))) (T := 105) (cs := u32s (padW a)) (wt_none rfl) (op_call0 (args := [(aG (natL a))]) rfl rfl Tryz.call144) (fun w hw => words_ok a (by omega) w) rfl (leB rfl) fun b6 => OkE.back (sl sr) (OkE.imp rfl (OkL.callB (V := fun b7 => (Value.tuple #[(Value.slice (some ⟨b7, 0, none⟩) (nw a) (nw a)), (vK .u32 (a % ((padW b).getD 0 0)))])) (T := 105) (cs := u32s (rowN (nw a) (a / ((padW b).getD 0 0)))) (wt_none rfl) (op_call0 (args := [(Value.slice (some ⟨b6, 0, none⟩) (nw a) ((padW a).length)), (vK .u32 ((padW b).getD 0 0))]) rfl rfl Tryz.call176) (fun w hw => short_ok a ((padW b).getD 0 0) _ _ (by omega) (by omega) (by omega) w (hw.get (i := 0) rfl)) rfl (leB rfl) fun b7 => ?_))))
     refine OkE.back (sl (sl sr)) (pM' rfl (pE' rfl (ex_extract (v := (Value.slice (some ⟨b7, 0, none⟩) (nw a) (nw a))) rfl rfl) (pE' rfl (ex_extract (v := (vK .u32 (a % ((padW b).getD 0 0)))) rfl rfl) (pS' rfl (pS' rfl ?_)))))
     refine OkE.nil (OkQ.subF (sL [2, 3, 4, 5, 6, 7, 8, 9] rfl) (q2 (mv' rfl (cl' Tryz.call143 (fun w hw => of_ok _ (nw a) (nw a) (rowN (nw a) (a / ((padW b).getD 0 0))) (rowN_w32 _ _) (by first | omega | (rw [rowN_length]; omega) | simp | (simp; omega)) (by first | omega | simp | (simp; omega)) (by first | omega | simp | (simp; omega)) w (hw.get (i := 0) rfl)) rfl (OkL.retell (k := 55) (u := (aG (natL (a / b)))) rfl (by rw [hy, val_take_rowN (Nat.lt_of_le_of_lt (Nat.div_le_self _ _) (lt_pow_nw a))]) ?_)))))
     refine mv' rfl ?_
     have hmb : a % (padW b).getD 0 0 < 4294967296 := by rw [hy]; exact Nat.lt_of_lt_of_le (Nat.mod_lt _ (by omega)) (by omega)
     refine st' (ex_conv (c := ((a % ((padW b).getD 0 0) : Nat) : Int)) rfl Tryz.underlying105 Tryz.underlying73 (convN_u64 (by omega))) rfl (st' (v := (aG ([(vK .u64 (a % ((padW b).getD 0 0))), (Value.string (bigB 0))]))) (ex_build_struct (zs := natL 0) (vs := [(vK .u64 (a % ((padW b).getD 0 0))), (Value.string (bigB 0))]) (pv := [(0, (vK .u64 (a % ((padW b).getD 0 0))))]) (places := [(0, 1), (1, 1)]) Tryz.zeroValue75 Tryz.underlying75 (fun w => by simp [Tryz.sizeOf9, Tryz.sizeOf73]) rfl rfl) rfl (OkL.retell (k := 58) (u := (aG (natL (a % b)))) rfl (by rw [hy] at hmb ⊢; rw [natL_small (by omega)]; rfl) (stX 4 (off := 0) (vs := natL (a / b)) (cs' := natL (a / b)) (wt_none rfl) rfl Tryz.sizeOf75 rfl (stW3' rfl Tryz.sizeOf75 rfl (asg' rfl ?_)))))
     exact OkL.nil (OkQ.subF (sL [2, 3, 4, 5, 6, 7] rfl) (OkQ.then_ (OkC.ret (OkQ.then_ret (ret_three rfl (rd_agg (i := 4) (cs := natL (a / b)) rfl rfl Tryz.isAgg75 Tryz.sizeOf75 rfl) (rd_agg (i := 3) (cs := natL (a % b)) rfl rfl Tryz.isAgg75 Tryz.sizeOf75 rfl) (rd_tmp (v := (Value.bool true)) rfl) (fun w hw => ⟨rfl, hw.out⟩))))))
    ·replace hc3 := of_decide_eq_false hc3
     refine OkC.skip (q2 (ldW' 4 tA75 rfl (OkL.callB (V := fun b6 => (Value.slice (some ⟨b6, 0, none⟩) (nw a) ((padW a).length))) (T := 105) (cs := u32s (padW a)) (wt_none rfl) (op_call0 (args := [(aG (natL a))]) rfl rfl Tryz.call144) (fun w hw => words_ok a (by omega) w) rfl (leB rfl) fun b6 => mv' rfl (OkL.callBB (V := fun b7 b8 => (Value.tuple #[(Value.slice (some ⟨b7, 0, none⟩) (nw a + 1 - nw b) (nw a + 1 - nw b)), (Value.slice (some ⟨b8, 0, none⟩) (nw a + 1) (nw a + 1))])) (T := 105) (cs := u32s (rowN (nw a + 1 - nw b) (a / b))) (T2 := 105) (cs2 := u32s (rowN (nw a + 1) (a % b))) (wt_none rfl) (op_call0 (args := [(Value.slice (some ⟨b6, 0, none⟩) (nw a) ((padW a).length)), (Value.slice (some ⟨b5, 0, none⟩) (nw b) ((padW b).length))]) rfl rfl Tryz.call177) (fun w hw => long_ok a b _ _ _ _ (by omega) (by omega) (by omega) w (hw.get (i := 0) rfl) (hw.get (i := 1) rfl)) rfl (leB rfl) fun b7 b8 => ?_))))
     refine mv' rfl (st' (ex_extract (v := (Value.slice (some ⟨b7, 0, none⟩) (nw a + 1 - nw b) (nw a + 1 - nw b))) rfl rfl) rfl (st' (ex_extract (v := (Value.slice (some ⟨b8, 0, none⟩) (nw a + 1) (nw a + 1))) rfl rfl) rfl (asg' rfl (asg' rfl (q3 (sL [2, 3, 4, 5, 6, 7, 10, 11] rfl) ?_)))))
     refine mv' rfl (cl' Tryz.call143 (fun w hw => of_ok _ (nw a + 1 - nw b) (nw a + 1 - nw b) (rowN (nw a + 1 - nw b) (a / b)) (rowN_w32 _ _) (by first | omega | (rw [rowN_length]; omega) | simp | (simp; omega)) (by first | omega | simp | (simp; omega)) (by first | omega | simp | (simp; omega)) w (hw.get (i := 0) rfl)) rfl (OkL.retell (k := 67) (u := (aG (natL (a / b)))) rfl (by rw [val_take_rowN (quo_words (by omega) hba)]) (mv' rfl (cl' Tryz.call143 (fun w hw => of_ok _ (nw a + 1) (nw a + 1) (rowN (nw a + 1) (a % b)) (rowN_w32 _ _) (by first | omega | (rw [rowN_length]; omega) | simp | (simp; omega)) (by first | omega | simp | (simp; omega)) (by first | omega | simp | (simp; omega)) w (hw.get (i := 1) rfl)) rfl (OkL.retell (k := 69) (u := (aG (natL (a % b)))) rfl (by rw [val_take_rowN rem_words]) ?_)))))
     refine stX 5 (off := 0) (vs := natL (a / b)) (cs' := natL (a / b)) (wt_none rfl) rfl Tryz.sizeOf75 rfl (stX 4 (off := 0) (vs := natL (a % b)) (cs' := natL (a % b)) (wt_none rfl) rfl Tryz.sizeOf75 rfl (asg' rfl (OkL.nil (OkQ.subF (sL [2, 3, 4, 5, 6, 7] rfl) (OkQ.then_ ?_)))))
     exact OkC.ret (ret_three rfl (rd_agg (i := 5) (cs := natL (a / b)) rfl rfl Tryz.isAgg75 Tryz.sizeOf75 rfl) (rd_agg (i := 4) (cs := natL (a % b)) rfl rfl Tryz.isAgg75 Tryz.sizeOf75 rfl) (rd_tmp (v := (Value.bool true)) rfl) (fun w hw => ⟨rfl, hw.out⟩))
theorem Gcd_ok (a b : Nat) (ha : nw a ≤ 1099511627776) (hb : nw b ≤ 1099511627776) (w : World)  : Calls Tryz.prog 135 #[(aG (natL a)), (aG (natL b))] w (Gives w (aG (natL (Nat.gcd a b)))) := by
 refine calls_of (args := [(aG (natL a)), (aG (natL b))]) Tryz.func135 rfl rfl (leB rfl) (OkC.subF (sL [0, 1] rfl) (q4 (bx' (cs := natL a) rfl fun b1 => bx' (cs := natL b) rfl fun b2 => al tZ75 rfl fun b3 => ?_)))
 refine q6 (sL [2, 3, 4] rfl) (OkC.block ?_)
 refine OkC.lp2 (tg fun (x : Nat) (y : Nat) => Nat.gcd x y = Nat.gcd a b ∧ nw x ≤ 1099511627776 ∧ nw y ≤ 1099511627776) (tg fun (x : Nat) (y : Nat) => [(2, (pP b1 0)), (3, (pP b2 0)), (4, (pP b3 0))]) (tg fun (x : Nat) (y : Nat) => [blk b3 75 (natL 0), blk b2 75 (natL y), blk b1 75 (natL x)]) (tg fun (x : Nat) (y : Nat) => y) a b (⟨rfl, ha, hb⟩) (sF rfl) sr (fun x y hJ => ?_)
 obtain ⟨hg, hx, hy⟩ := hJ
 refine OkC.seq (q4 (ldW' 1 tA75 rfl (ck' Tryz.call174 (zero_ok y) rfl (st' (ex_not (c := (!(decide (y = 0)))) rfl rfl) rfl (OkL.nil ?_)))))
 refine OkQ.subF (sL [2, 3, 4, 10] rfl) (OkQ.then_ ?_)
 refine OkC.cond rfl (fun hc0 => ?_) (fun hc0 => ?_)
 ·simp only [Bool.and_eq_true, Bool.or_eq_true, Bool.and_eq_false_iff, Bool.or_eq_false_iff, Bool.not_eq_true', Bool.not_eq_false', decide_eq_true_eq, decide_eq_false_iff_not] at hc0
  refine OkC.skip (OkQ.then_ (OkC.block (q4 (ldW' 2 tA75 rfl (ldW' 1 tA75 rfl ?_)))))
  refine ck' Tryz.call137 (Div_ok x y (by omega) (by omega) (by omega)) rfl (mv' rfl (st' (ex_extract (v := (aG (natL (x / y)))) rfl rfl) rfl (st' (ex_extract (v := (aG (natL (x % y)))) rfl rfl) rfl (st' (ex_extract (v := (Value.bool true)) rfl rfl) rfl (al tZ75 rfl fun b4 => ?_)))))
  refine al tZ75 rfl fun b5 => stW1' rfl Tryz.sizeOf75 rfl (stW0' rfl Tryz.sizeOf75 rfl (asg' rfl (OkL.nil (OkQ.subF (sL [2, 3, 4, 6] rfl) ?_))))
  refine OkQ.then_ (rG' [(1, true), (0, false), (2, false), (3, false)] (sk (sk (sk (sl (sl sr))))) (pW' 0 tA75 rfl (OkE.imp rfl (ldW' 3 tA75 rfl (OkE.back (sk (sk (sk (sl (sl sr))))) ?_)))))
  refine OkE.imp rfl (stX 4 (off := 0) (vs := natL y) (cs' := natL y) (wt_none rfl) rfl Tryz.sizeOf75 rfl (OkE.back (sk (sk (sk (sl (sl sr))))) (OkE.imp rfl (stW3' rfl Tryz.sizeOf75 rfl (OkE.back (sk (sk (sk (sl (sl sr))))) ?_)))))
  exact OkE.nil (OkQ.subF (sL [2, 3, 4, 6] rfl) (OkQ.in_normal (OkQ.round2 y (x % y) (⟨by rw [← hg, Nat.gcd_comm x y, Nat.gcd_rec y x, Nat.gcd_comm], hy, Nat.le_trans (nw_mono (Nat.mod_le _ _)) hx⟩) (Nat.mod_lt _ (by omega)) (sF rfl) (sl (sl sr)))))
 ·simp only [Bool.and_eq_true, Bool.or_eq_true, Bool.and_eq_false_iff, Bool.or_eq_false_iff, Bool.not_eq_true', Bool.not_eq_false', decide_eq_true_eq, decide_eq_false_iff_not] at hc0
  have hy0 : y = 0 := by omega
  have hxg : x = Nat.gcd a b := by rw [← hg, hy0, Nat.gcd_zero_right]
  refine OkC.exit (OkQ.then_exit (OkQ.round2_exit (OkQ.in_exit (q2 (ldW' 2 tA75 rfl ?_)))))
  exact stW0' rfl Tryz.sizeOf75 rfl (OkL.nil (OkQ.subF (sL [2, 3, 4] rfl) (OkQ.then_ (OkC.ret (ret_one rfl (rd_agg (i := 0) (cs := natL x) rfl rfl Tryz.isAgg75 Tryz.sizeOf75 rfl) (fun w hw => ⟨by rw [hxg], hw.out⟩))))))
end
def mkI (neg : Bool) (n : Nat) : Int := if neg then -(n : Int) else (n : Int)
theorem intL_neg (n : Nat) : intL (mkI true n) = natL n ++ [.bool (!(decide (n = 0)))] := by
  simp only [intL, natL, mkI, if_true, Int.natAbs_neg, Int.natAbs_natCast, List.cons_append, List.nil_append]
  have e : decide (-(n : Int) < 0) = !(decide (n = 0)) := by
    by_cases h : n = 0
    · subst h; rfl
    · simp [h]; omega
  rw [e]
theorem intL_pos (n : Nat) : intL (mkI false n) = natL n ++ [.bool false] := by
  simp only [intL, natL, mkI, Int.natAbs_natCast, List.cons_append, List.nil_append]
  have e : decide ((n : Int) < 0) = false := by simp
  simp [e]
theorem eqB_size (D a b : Nat) : EqB Tryz.prog (D + 3) 77 (.agg (natL a).toArray) (.agg (natL b).toArray) (decide (a = b)) := by
  have h := EqB.struct (D := D + 2) (xs := natL a) (ys := natL b) Tryz.underlying77 Tryz.stoodInHeld77 (EqF.agg (us := natL a) (bs := natL b) (by decide) Tryz.isAgg75 Tryz.sizeOf75 rfl rfl (eqB_nat D a b) EqF.nil)
  simpa using h
theorem mkI_natAbs (neg : Bool) (n : Nat) : (mkI neg n).natAbs = n := by cases neg <;> simp [mkI]
theorem mkI_mul (a b : Int) : mkI (!(decide (a < 0) == decide (b < 0))) (a.natAbs * b.natAbs) = a * b := by
  rw [← Int.natAbs_mul]
  unfold mkI
  by_cases h : a < 0 <;> by_cases h' : b < 0
  · have := Int.mul_pos_of_neg_of_neg h h'; simp [h, h']; omega
  · have : a * b ≤ 0 := Int.mul_nonpos_of_nonpos_of_nonneg (by omega) (by omega)
    simp [h, h']; omega
  · have : a * b ≤ 0 := Int.mul_nonpos_of_nonneg_of_nonpos (by omega) (by omega)
    simp [h, h']; omega
  · have : 0 ≤ a * b := Int.mul_nonneg (by omega) (by omega)
    simp [h, h']; omega
theorem negU {z : Int} (h : z < 0) (h2 : -9223372036854775808 ≤ z) : IntKind.u64.wrap (-(IntKind.u64.wrap z)) = ((z.natAbs : Nat) : Int) := by
  simp only [IntKind.wrap, IntKind.bits, IntKind.signed]; simp; omega
theorem mkI_natAbs_neg {z : Int} (h : z < 0) : mkI true z.natAbs = z := by unfold mkI; simp; omega
theorem mkI_toNat {z : Int} (h : ¬ z < 0) : mkI false z.natAbs = z := by unfold mkI; simp; omega
section
set_option maxRecDepth 100000
theorem fill_numk_77_  : Instr.fill ([(0, 2)].toArray[·]?) (natL 0).toArray [] = some (natL 0).toArray := by kernel_rfl
theorem size_zero_ok (n : Nat) (w : World)  : Calls Tryz.prog 179 #[(aG (natL n))] w (Gives w (Value.bool (decide (n = 0)))) := by
 refine calls_of (args := [(aG (natL n))]) Tryz.func179 rfl rfl (leB rfl) (OkC.subF (sL [0] rfl) (q4 (bx' (cs := natL n) rfl fun b1 => asg' rfl (q3 (sL [1, 2] rfl) ?_))))
 refine ldW' 0 tA77 rfl (st' (v := (aG (natL 0))) (ex_build_struct (zs := natL 0) (vs := natL 0) (pv := []) (places := [(0, 2)]) Tryz.zeroValue77 Tryz.underlying77 (fun w => by simp [Tryz.sizeOf75]) rfl (fill_numk_77_ )) rfl (st' (ex_eql_agg (c := (decide (n = 0))) rfl rfl Tryz.eqGuardType77 (eqB_size 9997 n 0)) rfl (asg' rfl (OkL.nil (OkQ.subF (sL [2] rfl) ?_)))))
 exact OkQ.then_ (OkC.ret (ret_one rfl (rd_tmp (v := (Value.bool (decide (n = 0)))) rfl) (fun w hw => ⟨rfl, hw.out⟩)))
theorem fill_numk_77_0natL (x0 : Nat) : Instr.fill ([(0, 2)].toArray[·]?) (natL 0).toArray [(0, .agg (natL x0).toArray)] = some (natL x0).toArray := by kernel_rfl
theorem From_true (n : Nat) (w : World)  : Calls Tryz.prog 140 #[(Value.bool true), (aG (natL n))] w (Gives w (aG (intL (mkI true n)))) := by
 refine calls_of (args := [(Value.bool true), (aG (natL n))]) Tryz.func140 rfl rfl (leB rfl) (OkC.subF (sL [0, 1] rfl) (q4 (bx' (cs := natL n) rfl fun b1 => al tZ79 rfl fun b2 => q3 (sL [0, 3, 4] rfl) ?_)))
 refine ldW' 1 tA75 rfl (st' (v := (aG (natL n))) (ex_build_struct (zs := natL 0) (vs := natL n) (pv := [(0, (aG (natL n)))]) (places := [(0, 2)]) Tryz.zeroValue77 Tryz.underlying77 (fun w => by simp [Tryz.sizeOf75]) rfl (fill_numk_77_0natL n)) rfl (al tZ77 rfl fun b3 => stW0' rfl Tryz.sizeOf77 rfl (q6 (sL [0, 4, 5] rfl) (rG' [(0, true), (1, true), (2, true), (3, true), (4, false), (5, true), (6, true), (7, true), (8, false)] (sk (sl sr)) ?_))))
 refine pW' 0 tA77 rfl (pM' rfl (pM' rfl (OkE.pas (v := (aG (natL n))) rfl (wt_some' rfl) (ex_load_agg (i := 0) (vs := natL n) rfl rfl tA77.a tA77.s rfl rfl) rfl rfl (OkE.imp rfl (OkL.call (v := (Value.bool (decide (n = 0)))) (wt_some' rfl) (op_call0 (args := [(aG (natL n))]) rfl rfl Tryz.call179) (fun w hw => size_zero_ok n w) rfl (leB rfl) ?_)))))
 refine OkE.back (sk (sl sr)) (OkE.pas (v := (Value.bool (!(decide (n = 0))))) rfl (wt_some' rfl) (ex_not (c := (!(decide (n = 0)))) rfl rfl) rfl rfl (pE' (v := (Value.bool (!(decide (n = 0))))) rfl (ex_pick_true rfl rfl) (pE' (v := (aG (natL n ++ [(Value.bool (!(decide (n = 0))))]))) rfl (ex_build_struct (zs := intL 0) (vs := natL n ++ [(Value.bool (!(decide (n = 0))))]) (pv := [(0, (aG (natL n))), (1, (Value.bool (!(decide (n = 0)))))]) (places := [(0, 2), (2, 1)]) Tryz.zeroValue79 Tryz.underlying79 (fun w => by simp [Tryz.sizeOf4, Tryz.sizeOf77]) rfl rfl) (OkE.imp rfl (stW1' rfl Tryz.sizeOf79 rfl ?_)))))
 exact OkE.back (sk (sl sr)) (OkE.nil (OkQ.subF (sL [4, 5] rfl) (OkQ.then_ (OkC.ret (ret_one rfl (rd_agg (i := 1) (cs := natL n ++ [(Value.bool (!(decide (n = 0))))]) rfl rfl Tryz.isAgg79 Tryz.sizeOf79 rfl) (fun w hw => ⟨by rw [intL_neg], hw.out⟩))))))
theorem From_false (n : Nat) (w : World)  : Calls Tryz.prog 140 #[(Value.bool false), (aG (natL n))] w (Gives w (aG (intL (mkI false n)))) := by
 refine calls_of (args := [(Value.bool false), (aG (natL n))]) Tryz.func140 rfl rfl (leB rfl) (OkC.subF (sL [0, 1] rfl) (q4 (bx' (cs := natL n) rfl fun b1 => al tZ79 rfl fun b2 => q3 (sL [0, 3, 4] rfl) ?_)))
 refine ldW' 1 tA75 rfl (st' (v := (aG (natL n))) (ex_build_struct (zs := natL 0) (vs := natL n) (pv := [(0, (aG (natL n)))]) (places := [(0, 2)]) Tryz.zeroValue77 Tryz.underlying77 (fun w => by simp [Tryz.sizeOf75]) rfl (fill_numk_77_0natL n)) rfl (al tZ77 rfl fun b3 => stW0' rfl Tryz.sizeOf77 rfl (q6 (sL [0, 4, 5] rfl) (rG' [(0, true), (1, true), (2, true), (3, true), (4, false), (5, true), (6, true), (7, true), (8, false)] (sk (sl sr)) ?_))))
 refine pW' 0 tA77 rfl (pM' rfl (pM' rfl (OkE.skp rfl (wt_not' rfl) rfl rfl (OkE.imp rfl (OkL.skip (wt_not' rfl) rfl (leB rfl) ?_)))))
 refine OkE.back (sk (sl sr)) (OkE.skp rfl (wt_not' rfl) rfl rfl (pE' (v := (Value.bool false)) rfl (ex_pick_false rfl rfl) (pE' (v := (aG (natL n ++ [(Value.bool false)]))) rfl (ex_build_struct (zs := intL 0) (vs := natL n ++ [(Value.bool false)]) (pv := [(0, (aG (natL n))), (1, (Value.bool false))]) (places := [(0, 2), (2, 1)]) Tryz.zeroValue79 Tryz.underlying79 (fun w => by simp [Tryz.sizeOf4, Tryz.sizeOf77]) rfl rfl) (OkE.imp rfl (stW1' rfl Tryz.sizeOf79 rfl ?_)))))
 exact OkE.back (sk (sl sr)) (OkE.nil (OkQ.subF (sL [4, 5] rfl) (OkQ.then_ (OkC.ret (ret_one rfl (rd_agg (i := 1) (cs := natL n ++ [(Value.bool false)]) rfl rfl Tryz.isAgg79 Tryz.sizeOf79 rfl) (fun w hw => ⟨by rw [intL_pos], hw.out⟩))))))
theorem From_ok (neg : Bool) (n : Nat) (w : World) : Calls Tryz.prog 140 #[.bool neg, .agg (natL n).toArray] w (Gives w (.agg (intL (mkI neg n)).toArray)) := by
 cases neg
 ·exact From_false n w
 ·exact From_true n w
theorem iOf_ok (z : Int) (hz : -9223372036854775808 ≤ z) (hz2 : z < 9223372036854775808) (w : World)  : Calls Tryz.prog 91 #[(vI z)] w (Gives w (aG (intL z))) := by
 refine calls_of (args := [(vI z)]) Tryz.func91 rfl rfl (leB rfl) (OkC.subF (sL [0] rfl) (q4 (al tZ79 rfl fun b1 => OkL.nil (q1 ?_))))
 refine q4 (mv' rfl (st' (ex_lss (c := (decide (z < (0 : Int)))) rfl rfl rfl) rfl (OkL.nil (OkQ.subF (sL [0, 2, 4] rfl) (OkQ.then_ ?_)))))
 refine OkC.cond rfl (fun hc0 => ?_) (fun hc0 => ?_)
 ·replace hc0 := of_decide_eq_true hc0
  have he := mkI_natAbs_neg hc0
  refine q4 (mv' rfl (st' (ex_conv (c := (IntKind.u64.wrap z)) rfl Tryz.underlying2 Tryz.underlying73 (rfl)) rfl (st' (ex_neg (c := ((z.natAbs : Nat) : Int)) rfl (by rw [Int.zero_sub]; exact negU hc0 hz)) rfl (ck' Tryz.call139 (of64_ok z.natAbs (by omega)) rfl (ck' Tryz.call140 (From_ok true z.natAbs) rfl ?_)))))
  exact stW0' rfl Tryz.sizeOf79 rfl (OkL.nil (OkQ.subF (sL [0, 2] rfl) (OkQ.then_ (OkC.ret (OkQ.then_ret (ret_one rfl (rd_agg (i := 0) (cs := intL (mkI true z.natAbs)) rfl rfl Tryz.isAgg79 Tryz.sizeOf79 rfl) (fun w hw => ⟨by rw [he], hw.out⟩)))))))
 ·replace hc0 := of_decide_eq_false hc0
  have he := mkI_toNat hc0
  refine OkC.skip (q2 (mv' rfl (st' (ex_conv (c := ((z.natAbs : Nat) : Int)) rfl Tryz.underlying2 Tryz.underlying73 (by rw [wrap_u64 (by omega) (by omega)]; omega)) rfl (ck' Tryz.call139 (of64_ok z.natAbs (by omega)) rfl (ck' Tryz.call140 (From_ok false z.natAbs) rfl ?_)))))
  exact stW0' rfl Tryz.sizeOf79 rfl (OkL.nil (OkQ.subF (sL [0, 2] rfl) (OkQ.then_ (OkC.ret (ret_one rfl (rd_agg (i := 0) (cs := intL (mkI false z.natAbs)) rfl rfl Tryz.isAgg79 Tryz.sizeOf79 rfl) (fun w hw => ⟨by rw [he], hw.out⟩))))))
theorem iAbs_ok (a : Int) (w : World)  : Calls Tryz.prog 136 #[(aG (intL a))] w (Gives w (aG (natL a.natAbs))) := by
 refine calls_of (args := [(aG (intL a))]) Tryz.func136 rfl rfl (leB rfl) (OkC.subF (sL [0] rfl) (q4 (bx' (cs := intL a) rfl fun b1 => al tZ75 rfl fun b2 => q3 (sL [1, 2] rfl) ?_)))
 refine st' (v := (pP b1 0)) (ex_fieldAddr rfl Tryz.underlying79 rfl Tryz.sizeOf77 rfl) rfl (st' (v := (pP b1 0)) (ex_fieldAddr rfl Tryz.underlying77 rfl Tryz.sizeOf75 rfl) rfl (ldA' 1 (natL a.natAbs) tA75 rfl (stW0' rfl Tryz.sizeOf75 rfl (OkL.nil (OkQ.subF (sL [2] rfl) ?_)))))
 exact OkQ.then_ (OkC.ret (ret_one rfl (rd_agg (i := 0) (cs := natL a.natAbs) rfl rfl Tryz.isAgg75 Tryz.sizeOf75 rfl) (fun w hw => ⟨rfl, hw.out⟩)))
theorem iSign_ok (a : Int) (w : World)  : Calls Tryz.prog 141 #[(aG (intL a))] w (Gives w (vI a.sign)) := by
 refine calls_of (args := [(aG (intL a))]) Tryz.func141 rfl rfl (leB rfl) (OkC.subF (sL [0] rfl) (q4 (bx' (cs := intL a) rfl fun b1 => asg' rfl (q6 (sL [1, 2] rfl) ?_))))
 refine OkC.block (q4 (st' (v := (pP b1 0)) (ex_fieldAddr rfl Tryz.underlying79 rfl Tryz.sizeOf77 rfl) rfl (ldA' 0 (natL a.natAbs) tA77 rfl (ck' Tryz.call179 (size_zero_ok a.natAbs) rfl (asg' rfl ?_)))))
 refine OkL.nil (OkQ.subF (sL [1, 2, 3] rfl) (OkQ.then_ ?_))
 refine OkC.cond rfl (fun hc0 => ?_) (fun hc0 => ?_)
 ·replace hc0 := of_decide_eq_true hc0
  have he : a.sign = 0 := by rw [show a = 0 by omega]; rfl
  refine q4 (asg' rfl (OkL.nil (OkQ.then_ (OkC.ret (OkQ.in_ret ?_)))))
  exact OkQ.then_ret (ret_one rfl (rd_tmp (v := (vI 0)) rfl) (fun w hw => ⟨by rw [he], hw.out⟩))
 ·replace hc0 := of_decide_eq_false hc0
  refine q4 (st' (v := (pP b1 2)) (ex_fieldAddr rfl Tryz.underlying79 rfl Tryz.sizeOf4 rfl) rfl (ldO' 0 (Value.bool (decide (a < 0))) tO4 rfl (asg' rfl (OkL.nil (OkQ.subF (sL [1, 2, 7] rfl) ?_)))))
  refine OkQ.then_ ?_
  refine OkC.cond rfl (fun hc1 => ?_) (fun hc1 => ?_)
  ·replace hc1 := of_decide_eq_true hc1
   have he : a.sign = -1 := Int.sign_eq_neg_one_of_neg hc1
   refine q4 (asg' rfl (OkL.nil (OkQ.then_ (OkC.ret (OkQ.in_ret ?_)))))
   exact OkQ.then_ret (ret_one rfl (rd_tmp (v := (vI (-1 : Int))) rfl) (fun w hw => ⟨by rw [he], hw.out⟩))
  ·replace hc1 := of_decide_eq_false hc1
   have he : a.sign = 1 := Int.sign_eq_one_of_pos (by omega)
   refine OkC.skip (OkQ.in_normal (q2 (asg' rfl (OkL.nil (OkQ.then_ ?_)))))
   exact OkC.ret (ret_one rfl (rd_tmp (v := (vI 1)) rfl) (fun w hw => ⟨by rw [he], hw.out⟩))
theorem times_ok (a b : Int) (ha : nw a.natAbs ≤ 1099511627776) (hb : nw b.natAbs ≤ 1099511627776) (w : World)  : Calls Tryz.prog 134 #[(aG (intL a)), (aG (intL b))] w (Gives w (aG (intL (a * b)))) := by
 refine calls_of (args := [(aG (intL a)), (aG (intL b))]) Tryz.func134 rfl rfl (leB rfl) (OkC.subF (sL [0, 1] rfl) (q4 (bx' (cs := intL a) rfl fun b1 => bx' (cs := intL b) rfl fun b2 => al tZ79 rfl fun b3 => ?_)))
 refine q6 (sL [2, 3, 4] rfl) (rG' [(0, true), (1, true), (2, true), (3, true), (4, true), (5, true), (6, true), (7, true), (8, true), (9, true), (10, true), (11, false), (12, false), (13, false)] (sl sr) (pE' (v := (pP b1 2)) rfl (ex_fieldAddr rfl Tryz.underlying79 rfl Tryz.sizeOf4 rfl) (pO'' 1 (Value.bool (decide (a < 0))) tO4 rfl (pE' (v := (pP b2 2)) rfl (ex_fieldAddr rfl Tryz.underlying79 rfl Tryz.sizeOf4 rfl) (pO'' 0 (Value.bool (decide (b < 0))) tO4 rfl ?_)))))
 refine pE' rfl (ex_neq_bool (c := (!(decide (a < 0) == decide (b < 0)))) rfl rfl Tryz.underlying4 rfl) (pE' (v := (pP b1 0)) rfl (ex_fieldAddr rfl Tryz.underlying79 rfl Tryz.sizeOf77 rfl) (pE' (v := (pP b1 0)) rfl (ex_fieldAddr rfl Tryz.underlying77 rfl Tryz.sizeOf75 rfl) (pA' 1 (natL a.natAbs) tA75 rfl (pE' (v := (pP b2 0)) rfl (ex_fieldAddr rfl Tryz.underlying79 rfl Tryz.sizeOf77 rfl) (pE' (v := (pP b2 0)) rfl (ex_fieldAddr rfl Tryz.underlying77 rfl Tryz.sizeOf75 rfl) ?_)))))
 refine pA' 0 (natL b.natAbs) tA75 rfl (OkE.imp rfl (ck' Tryz.call89 (Mul_ok a.natAbs b.natAbs (by omega) (by omega)) rfl (OkE.back (sl sr) (OkE.imp rfl (ck' Tryz.call140 (From_ok (!(decide (a < 0) == decide (b < 0))) (a.natAbs * b.natAbs)) rfl ?_)))))
 refine OkE.back (sl sr) (OkE.imp rfl (stW0' rfl Tryz.sizeOf79 rfl (OkE.back (sl sr) (OkE.nil (OkQ.subF (sL [4] rfl) ?_)))))
 exact OkQ.then_ (OkC.ret (ret_one rfl (rd_agg (i := 0) (cs := intL (mkI (!(decide (a < 0) == decide (b < 0))) (a.natAbs * b.natAbs))) rfl rfl Tryz.isAgg79 Tryz.sizeOf79 rfl) (fun w hw => ⟨by rw [mkI_mul], hw.out⟩)))
theorem told_times_ok (a b : Int) (ha : nw a.natAbs ≤ 1099511627776) (hb : nw b.natAbs ≤ 1099511627776) (w : World)  : Calls Tryz.prog 133 #[(Value.func (.func 134) #[] #[]), (aG (intL a)), (aG (intL b))] w (Gives w (aG (intL (a * b)))) := by
 refine calls_of (args := [(Value.func (.func 134) #[] #[]), (aG (intL a)), (aG (intL b))]) Tryz.func133 rfl rfl (leB rfl) (OkC.subF (sL [0, 1, 2] rfl) (q4 (bx' (cs := intL a) rfl fun b1 => bx' (cs := intL b) rfl fun b2 => al tZ79 rfl fun b3 => ?_)))
 refine q3 (sL [0, 4, 5, 6] rfl) (mv' rfl (ldW' 2 tA79 rfl (ldW' 1 tA79 rfl (ck' Tryz.call134 (times_ok a b (by first | omega | (simp only [Int.natAbs_neg, mkI_natAbs, Int.natAbs_natCast]; omega)) (by first | omega | (simp only [Int.natAbs_neg, mkI_natAbs, Int.natAbs_natCast]; omega))) rfl (stW0' rfl Tryz.sizeOf79 rfl ?_)))))
 exact OkL.nil (OkQ.subF (sL [6] rfl) (OkQ.then_ (OkC.ret (ret_one rfl (rd_agg (i := 0) (cs := intL (a * b)) rfl rfl Tryz.isAgg79 Tryz.sizeOf79 rfl) (fun w hw => ⟨rfl, hw.out⟩)))))
theorem iMul_ok (a b : Int) (ha : nw a.natAbs ≤ 1099511627776) (hb : nw b.natAbs ≤ 1099511627776) (w : World)  : Calls Tryz.prog 87 #[(aG (intL a)), (aG (intL b))] w (Gives w (aG (intL (a * b)))) := by
 refine calls_of (args := [(aG (intL a)), (aG (intL b))]) Tryz.func87 rfl rfl (leB rfl) (OkC.subF (sL [0, 1] rfl) (q4 (bx' (cs := intL a) rfl fun b1 => bx' (cs := intL b) rfl fun b2 => al tZ79 rfl fun b3 => ?_)))
 refine q3 (sL [2, 3, 4] rfl) (ldW' 2 tA79 rfl (ldW' 1 tA79 rfl (ck' Tryz.call133 (told_times_ok a b (by first | omega | (simp only [Int.natAbs_neg, mkI_natAbs, Int.natAbs_natCast]; omega)) (by first | omega | (simp only [Int.natAbs_neg, mkI_natAbs, Int.natAbs_natCast]; omega))) rfl (stW0' rfl Tryz.sizeOf79 rfl (OkL.nil ?_)))))
 exact OkQ.subF (sL [4] rfl) (OkQ.then_ (OkC.ret (ret_one rfl (rd_agg (i := 0) (cs := intL (a * b)) rfl rfl Tryz.isAgg79 Tryz.sizeOf79 rfl) (fun w hw => ⟨rfl, hw.out⟩))))
end
def Sz (q : Rat) : Nat := max (nw q.num.natAbs) (nw q.den)
theorem Sz_num (q : Rat) : nw q.num.natAbs ≤ Sz q := Nat.le_max_left ..
theorem Sz_den (q : Rat) : nw q.den ≤ Sz q := Nat.le_max_right ..
theorem Sz_le {q : Rat} {k : Nat} (h1 : nw q.num.natAbs ≤ k) (h2 : nw q.den ≤ k) : Sz q ≤ k := Nat.max_le.2 ⟨h1, h2⟩
theorem nw_one : nw 1 = 1 := by decide
theorem Sz_pos (q : Rat) : 1 ≤ Sz q := Nat.le_trans (by rw [← nw_one]; exact nw_mono q.den_pos) (Sz_den q)
theorem Sz_mkRat {n : Int} {d k : Nat} (h1 : nw n.natAbs ≤ k) (h2 : nw d ≤ k) (hk : 1 ≤ k) : Sz (mkRat n d) ≤ k := by
  refine Sz_le ?_ ?_
  · rw [Rat.num_mkRat]
    split
    · exact Nat.zero_le _
    · refine Nat.le_trans (nw_mono ?_) h1
      rw [Int.natAbs_ediv_of_dvd (by rw [Int.ofNat_dvd_left]; exact Nat.gcd_dvd_right ..)]
      exact Nat.div_le_self _ _
  · rw [Rat.den_mkRat]
    split
    · rw [nw_one]; exact hk
    · exact Nat.le_trans (nw_mono (Nat.div_le_self _ _)) h2
theorem nwI_mul (a b : Int) : nw (a * b).natAbs ≤ nw a.natAbs + nw b.natAbs := by rw [Int.natAbs_mul]; exact nw_mul _ _
theorem nwI_add (a b : Int) : nw (a + b).natAbs ≤ max (nw a.natAbs) (nw b.natAbs) + 1 := Nat.le_trans (nw_mono (Int.natAbs_add_le a b)) (nw_add _ _)
theorem cross_nw (a b : Rat) : nw (a.num * ((b.den : Nat) : Int)).natAbs ≤ Sz a + Sz b := by
  have h1 := nwI_mul a.num ((b.den : Nat) : Int)
  have h2 := Sz_num a
  have h3 := Sz_den b
  rw [Int.natAbs_natCast] at h1
  omega
theorem den_nw (a b : Rat) : nw (a.den * b.den) ≤ Sz a + Sz b := by
  have h1 := nw_mul a.den b.den
  have h2 := Sz_den a
  have h3 := Sz_den b
  omega
theorem num_nw (a b : Rat) : nw (a.num * b.num).natAbs ≤ Sz a + Sz b := by
  have h1 := nwI_mul a.num b.num
  have h2 := Sz_num a
  have h3 := Sz_num b
  omega
theorem mul_mkRat (a b : Rat) : mkRat (a.num * b.num) (a.den * b.den) = a * b := by rw [Rat.mul_def, Rat.normalize_eq_mkRat]
theorem whole_eq {a : Rat} (h : a.den - 1 = 0) : a = ((a.num : Int) : Rat) := by
  have h1 : a.den = 1 := by have := a.den_pos; omega
  exact Rat.ext rfl h1
theorem mul_whole {a b : Rat} (ha : a.den - 1 = 0) (hb : b.den - 1 = 0) : ((a.num * b.num : Int) : Rat) = a * b := by
  rw [Rat.intCast_mul, ← whole_eq ha, ← whole_eq hb]
theorem Sz_mul (a b : Rat) : Sz (a * b) ≤ Sz a + Sz b := by
  rw [← mul_mkRat]
  have := Sz_pos a
  exact Sz_mkRat (num_nw a b) (den_nw a b) (by omega)
theorem Sz_neg (a : Rat) : Sz (-a) = Sz a := by unfold Sz; rw [Rat.neg_num, Rat.neg_den, Int.natAbs_neg]
theorem inv_mkRat {b : Rat} (h : b ≠ 0) : mkRat (mkI (decide (b.num.sign < 0)) b.den) b.num.natAbs = b⁻¹ := by
  have hn : b.num ≠ 0 := fun e => h (Rat.num_eq_zero.1 e)
  have hb : b = (b.num : Rat) / ((b.den : Nat) : Rat) := by rw [← Rat.mkRat_eq_div, Rat.mkRat_self]
  have hd : ((b.den : Nat) : Rat) ≠ 0 := by
    intro e
    have := b.den_pos
    have h2 : b.den = 0 := by exact_mod_cast e
    omega
  have hn2 : ((b.num : Int) : Rat) ≠ 0 := by
    intro e
    exact hn (by exact_mod_cast e)
  rw [Rat.mkRat_eq_div]
  conv => rhs; rw [hb]
  by_cases hs : b.num < 0
  · have e1 : decide (b.num.sign < 0) = true := by simp [Int.sign_eq_neg_one_of_neg hs]
    have e2 : ((b.num.natAbs : Nat) : Rat) = -((b.num : Int) : Rat) := by
      have : ((b.num.natAbs : Nat) : Int) = -b.num := by omega
      rw [← Rat.intCast_natCast, this, Rat.intCast_neg]
    rw [e1, e2]
    simp only [mkI, if_true, Rat.intCast_neg, Rat.intCast_natCast]
    grind
  · have e1 : decide (b.num.sign < 0) = false := by
      have : 0 ≤ b.num.sign := Int.sign_nonneg_iff.2 (by omega)
      exact decide_eq_false (by omega)
    have e2 : ((b.num.natAbs : Nat) : Rat) = ((b.num : Int) : Rat) := by
      have : ((b.num.natAbs : Nat) : Int) = b.num := by omega
      rw [← Rat.intCast_natCast, this]
    rw [e1, e2]
    simp only [mkI, Bool.false_eq_true, if_false, Rat.intCast_natCast]
    grind
theorem Sz_inv {b : Rat} (h : b ≠ 0) : Sz b⁻¹ ≤ Sz b := by
  rw [← inv_mkRat h]
  exact Sz_mkRat (by rw [mkI_natAbs]; exact Sz_den b) (Sz_num b) (Sz_pos b)
theorem Sz_div {a b : Rat} (h : b ≠ 0) : Sz (a / b) ≤ Sz a + Sz b := by
  rw [Rat.div_def]
  have h1 := Sz_mul a b⁻¹
  have h2 := Sz_inv h
  omega
theorem fracL_parts (q : Rat) : fracL q = intL q.num ++ natL (q.den - 1) := rfl
theorem low_num {n : Int} {d : Nat} (hd : d ≠ 0) : (mkRat n d).num = mkI (decide (n.sign < 0)) (n.natAbs / Nat.gcd n.natAbs d) := by
  rw [Rat.num_mkRat, if_neg hd, Nat.gcd_comm]
  unfold mkI
  by_cases h : n < 0
  · rw [Int.sign_eq_neg_one_of_neg h]
    have e : n = -((n.natAbs : Nat) : Int) := by omega
    simp only [show decide ((-1 : Int) < 0) = true from rfl, if_true]
    conv => lhs; rw [e]
    rw [Int.natAbs_neg, Int.natAbs_natCast, Int.neg_ediv_of_dvd (by rw [Int.natCast_dvd_natCast]; exact Nat.gcd_dvd_left ..)]
    rfl
  · have h0 : 0 ≤ n.sign := Int.sign_nonneg_iff.2 (by omega)
    have e : n = ((n.natAbs : Nat) : Int) := by omega
    rw [if_neg (by simp; omega)]
    conv => lhs; rw [e]
    rw [Int.natAbs_natCast]
    rfl
theorem low_den {n : Int} {d : Nat} (hd : d ≠ 0) : (mkRat n d).den = d / Nat.gcd n.natAbs d := by rw [Rat.den_mkRat, if_neg hd, Nat.gcd_comm]
end Go.Proofs.YtgiacpkjnikjdaaGreat
