/- Walks, printed by gen.py. -/
import Derived.Test.YtpkoldfmbebmgaaGreatDoorNumI
namespace Go.Proofs.YtpkoldfmbebmgaaGreatDoor
open Go Go.RowKit
set_option maxRecDepth 100000
set_option linter.unusedVariables false
set_option linter.unusedSimpArgs false

theorem val_take_rowN {N v : Nat} (h : v < 4294967296 ^ N) : val ((rowN N v).take N) = v := by
  rw [List.take_of_length_le (by rw [rowN_length]; exact Nat.le_refl _), val_rowN _ _ h]
theorem quo_words {a b : Nat} (hb : 0 < nw b) (h : nw b ≤ nw a) : a / b < 4294967296 ^ (nw a + 1 - nw b) := by
  have h1 := pow_le_words hb
  have h2 := lt_pow_nw a
  rw [Nat.div_lt_iff_lt_mul (by have := Nat.pow_pos (n := nw b - 1) (show 0 < 4294967296 by omega); omega)]
  have h3 : 4294967296 ^ (nw a + 1 - nw b) * 4294967296 ^ (nw b - 1) ≤ 4294967296 ^ (nw a + 1 - nw b) * b := Nat.mul_le_mul_left _ h1
  rw [← Nat.pow_add, show nw a + 1 - nw b + (nw b - 1) = nw a by omega] at h3
  omega
theorem rem_words {a b : Nat} : a % b < 4294967296 ^ (nw a + 1) := Nat.lt_of_le_of_lt (Nat.mod_le _ _) (Nat.lt_of_lt_of_le (lt_pow_nw a) (Nat.pow_le_pow_right (by omega) (by omega)))
theorem nw_eq_zero {b : Nat} (h : nw b = 0) : b = 0 := by
  have := lt_pow_nw b
  rw [h] at this
  omega
theorem pad_one {b : Nat} (h : nw b = 1) : (padW b).getD 0 0 = b ∧ b < 4294967296 := by
  have h1 := lt_pow_nw b
  rw [h] at h1
  refine ⟨?_, by omega⟩
  rw [pad_getD (by omega), words_getD, Nat.pow_zero, Nat.div_one, Nat.mod_eq_of_lt (by omega)]
theorem fill_numj_30_  : Instr.fill ([(0, 1), (1, 1)].toArray[·]?) (natL 0).toArray [] = some (natL 0).toArray := by kernel_rfl
theorem Div_ok (a b : Nat) (ha : nw a ≤ 1099511627776) (hb : nw b ≤ 1099511627776) (hb0 : b ≠ 0) (w : World)  : Calls Tryz.prog 116 #[(aG (natL a)), (aG (natL b))] w (Gives w (Value.tuple #[(aG (natL (a / b))), (aG (natL (a % b))), (Value.bool true)])) := by
  have hnb : nw b ≠ 0 := fun h => hb0 (nw_eq_zero h)
  have hla := nw_le_pad a
  have hlb := nw_le_pad b
  refine calls_of (args := [(aG (natL a)), (aG (natL b))]) Tryz.func116 rfl rfl (leB rfl) ?_
  refine OkC.subF (sC 0 rfl (sC 1 rfl (sN))) ?_
  refine q4 ?_
  refine OkL.open_ (T := 30) (cs := natL a) (wt_none rfl) (op_box (cs := natL a) rfl rfl) rfl (leB rfl) ?_; intro b1
  refine OkL.open_ (T := 30) (cs := natL b) (wt_none rfl) (op_box (cs := natL b) rfl rfl) rfl (leB rfl) ?_; intro b2
  refine OkL.open_ (T := 30) (cs := natL 0) (wt_none rfl) (op_alloc (cs := natL 0) Tryz.zeroValue30 rfl) rfl (leB rfl) ?_; intro b3
  refine OkL.open_ (T := 30) (cs := natL 0) (wt_none rfl) (op_alloc (cs := natL 0) Tryz.zeroValue30 rfl) rfl (leB rfl) ?_; intro b4
  refine st (ex_assign rfl) (leB rfl) ?_
  refine q6 (sC 2 rfl (sC 3 rfl (sC 4 rfl (sC 5 rfl (sC 6 rfl (sN)))))) ?_
  refine OkC.block ?_
  refine q4 ?_
  refine st (ex_load_agg (i := 2) (vs := natL b) rfl rfl Tryz.isAgg30 Tryz.sizeOf30 rfl rfl) (leB rfl) ?_
  refine OkL.call (v := (Value.bool (decide (b = 0)))) (wt_none rfl) (op_call0 (args := [(aG (natL b))]) rfl rfl Tryz.call154) (fun w hw => zero_ok b w) rfl (leB rfl) ?_
  refine st (ex_assign rfl) (leB rfl) ?_
  refine OkL.nil ?_
  refine OkQ.subF (sC 2 rfl (sC 3 rfl (sC 4 rfl (sC 5 rfl (sC 6 rfl (sC 12 rfl (sN))))))) ?_
  refine OkQ.then_ ?_
  refine OkC.cond rfl (fun hc0 => ?_) (fun hc0 => ?_)
  · replace hc0 := of_decide_eq_true hc0
    exact absurd hc0 hb0
  · replace hc0 := of_decide_eq_false hc0
    refine q4 ?_
    refine st (ex_load_agg (i := 3) (vs := natL a) rfl rfl Tryz.isAgg30 Tryz.sizeOf30 rfl rfl) (leB rfl) ?_
    refine st (ex_load_agg (i := 2) (vs := natL b) rfl rfl Tryz.isAgg30 Tryz.sizeOf30 rfl rfl) (leB rfl) ?_
    refine OkL.call (v := (vI (cmpZ a b))) (wt_none rfl) (op_call0 (args := [(aG (natL a)), (aG (natL b))]) rfl rfl Tryz.call155) (fun w hw => Cmp_ok a b (by omega) (by omega) w) rfl (leB rfl) ?_
    refine st (ex_lss (c := (decide ((cmpZ a b) < (0 : Int)))) rfl rfl rfl) (leB rfl) ?_
    refine st (ex_assign rfl) (leB rfl) ?_
    refine OkL.nil ?_
    refine OkQ.subF (sC 2 rfl (sC 3 rfl (sC 4 rfl (sC 5 rfl (sC 6 rfl (sC 17 rfl (sN))))))) ?_
    refine OkQ.then_ ?_
    refine OkC.cond rfl (fun hc1 => ?_) (fun hc1 => ?_)
    · replace hc1 := of_decide_eq_true hc1
      rw [cmpZ_lt] at hc1
      have e1 : a / b = 0 := Nat.div_eq_of_lt hc1
      have e2 : a % b = a := Nat.mod_eq_of_lt hc1
      refine OkC.seq ?_
      refine dR (specs := [⟨.pure, fun _ => (aG (natL 0)), [], 0, []⟩, ⟨.held, fun _ => (aG (natL a)), [], 0, []⟩]) (Lro := [blk b2 30 (natL b), blk b1 30 (natL a)]) (List.Sublist.cons _ (List.Sublist.cons _ (List.Sublist.refl _))) (dC (dC (dN))) (by kernel_rfl) (by kernel_rfl) (fun _ _ d _ _ h => by cases d <;> exact h) (vC (vc_pure0 (G := fun β => []) (fun β => sN) (fun β _ => ex_build_struct (zs := natL 0) (vs := natL 0) (pv := []) (places := [(0, 1), (1, 1)]) Tryz.zeroValue30 Tryz.underlying30 (fun w => by simp [Tryz.sizeOf9, Tryz.sizeOf28]) rfl (fill_numj_30_ ))) (vC (vc_held0 (G := fun β => [(2, (pP b1 0))]) (fun β => sF (by kernel_rfl)) (fun β => ex_load_agg (i := 1) (vs := natL a) rfl rfl Tryz.isAgg30 Tryz.sizeOf30 rfl rfl)) (VcAll.nil))) (fun β => ?_)
      refine OkLH.sub (F' := [(2, (pP b1 0)), (3, (pP b2 0)), (4, (pP b3 0)), (5, (pP b4 0)), (6, (Value.bool false)), (22, (aG (natL 0))), (23, (aG (natL a)))]) (L' := [blk b4 30 (natL 0), blk b3 30 (natL 0), blk b2 30 (natL b), blk b1 30 (natL a)]) (sF rfl) (List.Sublist.refl _) ?_
      refine OkLH.store' (i := 1) (off := 0) (vs := natL 0) (cs' := natL 0) (L' := [blk b4 30 (natL 0), blk b3 30 (natL 0), blk b2 30 (natL b), blk b1 30 (natL a)]) (List.Sublist.cons _ (List.Sublist.cons _ (List.Sublist.refl _))) (wt_none rfl) rfl rfl rfl rfl rfl Tryz.sizeOf30 rfl rfl rfl rfl ?_
      refine OkLH.store' (i := 0) (off := 0) (vs := natL a) (cs' := natL a) (L' := [blk b4 30 (natL a), blk b3 30 (natL 0), blk b2 30 (natL b), blk b1 30 (natL a)]) (List.Sublist.cons _ (List.Sublist.cons _ (List.Sublist.refl _))) (wt_none rfl) rfl rfl rfl rfl rfl Tryz.sizeOf30 rfl rfl rfl rfl ?_
      refine OkLH.step (v := (Value.bool true)) (List.Sublist.cons _ (List.Sublist.cons _ (List.Sublist.refl _))) (wt_none rfl) (ex_assign rfl) rfl (leB rfl) ?_
      refine OkLH.nil ?_
      refine OkQ.subF (sC 2 rfl (sC 3 rfl (sC 4 rfl (sC 5 rfl (sC 6 rfl (sN)))))) ?_
      refine OkQ.then_ ?_
      refine OkC.ret ?_
      refine OkQ.in_ret ?_
      refine OkQ.then_ret ?_
      exact ret_three rfl (rd_agg (i := 1) (cs := natL 0) rfl rfl Tryz.isAgg30 Tryz.sizeOf30 rfl) (rd_agg (i := 0) (cs := natL a) rfl rfl Tryz.isAgg30 Tryz.sizeOf30 rfl) (rd_tmp (v := (Value.bool true)) rfl) (fun w hw => ⟨by rw [e1, e2], hw.out⟩)
    · replace hc1 := of_decide_eq_false hc1
      rw [cmpZ_lt] at hc1
      have hba : nw b ≤ nw a := nw_mono (by omega)
      refine q4 ?_
      refine st (v := (pP b1 1)) (ex_fieldAddr rfl Tryz.underlying30 rfl Tryz.sizeOf9 rfl) (leB rfl) ?_
      refine st (ex_load_one (i := 3) (v := (Value.string (bigB a))) rfl rfl Tryz.isAgg9 rfl) (leB rfl) ?_
      refine st (ex_eql_string (c := (decide (a < 18446744073709551616))) rfl rfl bigB_empty) (leB rfl) ?_
      refine st (ex_assign rfl) (leB rfl) ?_
      refine OkL.nil ?_
      refine OkQ.subF (sC 2 rfl (sC 3 rfl (sC 4 rfl (sC 5 rfl (sC 6 rfl (sC 24 rfl (sN))))))) ?_
      refine OkQ.then_ ?_
      refine OkC.cond rfl (fun hc2 => ?_) (fun hc2 => ?_)
      · replace hc2 := of_decide_eq_true hc2
        have la : lowN a = a := lowN_small hc2
        have lb : lowN b = b := lowN_small (by omega)
        have q1 : a / b < 18446744073709551616 := Nat.lt_of_le_of_lt (Nat.div_le_self _ _) hc2
        have q2 : a % b < 18446744073709551616 := Nat.lt_of_le_of_lt (Nat.mod_le _ _) hc2
        refine OkC.seq ?_
        refine dR (specs := [⟨.pure, fun _ => (pP b1 0), [], 0, []⟩, ⟨.held, fun _ => (vK .u64 (lowN a)), [], 0, []⟩, ⟨.pure, fun _ => (pP b2 0), [], 0, []⟩, ⟨.held, fun _ => (vK .u64 (lowN b)), [], 0, []⟩, ⟨.pure, fun _ => (vK .u64 ((lowN a) / (lowN b))), [], 0, []⟩, ⟨.pure, fun _ => (aG ([(vK .u64 ((lowN a) / (lowN b))), (Value.string (bigB 0))])), [], 0, []⟩, ⟨.pure, fun _ => (pP b1 0), [], 0, []⟩, ⟨.held, fun _ => (vK .u64 (lowN a)), [], 0, []⟩, ⟨.pure, fun _ => (pP b2 0), [], 0, []⟩, ⟨.held, fun _ => (vK .u64 (lowN b)), [], 0, []⟩, ⟨.pure, fun _ => (vK .u64 ((lowN a) % (lowN b))), [], 0, []⟩, ⟨.pure, fun _ => (aG ([(vK .u64 ((lowN a) % (lowN b))), (Value.string (bigB 0))])), [], 0, []⟩]) (Lro := [blk b2 30 (natL b), blk b1 30 (natL a)]) (List.Sublist.cons _ (List.Sublist.cons _ (List.Sublist.refl _))) (dC (dC (dC (dC (dC (dC (dC (dC (dC (dC (dC (dC (dN))))))))))))) (by kernel_rfl) (by kernel_rfl) (fun _ _ d _ _ h => by cases d <;> exact h) (vC (vc_pure0 (G := fun β => [(2, (pP b1 0))]) (fun β => sF (by kernel_rfl)) (fun β _ => ex_fieldAddr rfl Tryz.underlying30 rfl Tryz.sizeOf28 rfl)) (vC (vc_held0 (G := fun β => [(28, (pP b1 0))]) (fun β => sF (by kernel_rfl)) (fun β => ex_load_one (i := 1) (v := (vK .u64 (lowN a))) rfl rfl Tryz.isAgg28 rfl)) (vC (vc_pure0 (G := fun β => [(3, (pP b2 0))]) (fun β => sF (by kernel_rfl)) (fun β _ => ex_fieldAddr rfl Tryz.underlying30 rfl Tryz.sizeOf28 rfl)) (vC (vc_held0 (G := fun β => [(30, (pP b2 0))]) (fun β => sF (by kernel_rfl)) (fun β => ex_load_one (i := 0) (v := (vK .u64 (lowN b))) rfl rfl Tryz.isAgg28 rfl)) (vC (vc_pure0 (G := fun β => [(29, (vK .u64 (lowN a))), (31, (vK .u64 (lowN b)))]) (fun β => sF (by kernel_rfl)) (fun β _ => ex_quo (c := (((lowN a) / (lowN b) : Nat) : Int)) rfl rfl (by omega) (quoN_u64 (a := lowN a) (b := lowN b) (by omega)))) (vC (vc_pure0 (G := fun β => [(32, (vK .u64 ((lowN a) / (lowN b))))]) (fun β => sF (by kernel_rfl)) (fun β _ => ex_build_struct (zs := natL 0) (vs := [(vK .u64 ((lowN a) / (lowN b))), (Value.string (bigB 0))]) (pv := [(0, (vK .u64 ((lowN a) / (lowN b))))]) (places := [(0, 1), (1, 1)]) Tryz.zeroValue30 Tryz.underlying30 (fun w => by simp [Tryz.sizeOf9, Tryz.sizeOf28]) rfl rfl)) (vC (vc_pure0 (G := fun β => [(2, (pP b1 0))]) (fun β => sF (by kernel_rfl)) (fun β _ => ex_fieldAddr rfl Tryz.underlying30 rfl Tryz.sizeOf28 rfl)) (vC (vc_held0 (G := fun β => [(34, (pP b1 0))]) (fun β => sF (by kernel_rfl)) (fun β => ex_load_one (i := 1) (v := (vK .u64 (lowN a))) rfl rfl Tryz.isAgg28 rfl)) (vC (vc_pure0 (G := fun β => [(3, (pP b2 0))]) (fun β => sF (by kernel_rfl)) (fun β _ => ex_fieldAddr rfl Tryz.underlying30 rfl Tryz.sizeOf28 rfl)) (vC (vc_held0 (G := fun β => [(36, (pP b2 0))]) (fun β => sF (by kernel_rfl)) (fun β => ex_load_one (i := 0) (v := (vK .u64 (lowN b))) rfl rfl Tryz.isAgg28 rfl)) (vC (vc_pure0 (G := fun β => [(35, (vK .u64 (lowN a))), (37, (vK .u64 (lowN b)))]) (fun β => sF (by kernel_rfl)) (fun β _ => ex_rem (c := (((lowN a) % (lowN b) : Nat) : Int)) rfl rfl (by omega) (remN (a := lowN a) (b := lowN b)))) (vC (vc_pure0 (G := fun β => [(38, (vK .u64 ((lowN a) % (lowN b))))]) (fun β => sF (by kernel_rfl)) (fun β _ => ex_build_struct (zs := natL 0) (vs := [(vK .u64 ((lowN a) % (lowN b))), (Value.string (bigB 0))]) (pv := [(0, (vK .u64 ((lowN a) % (lowN b))))]) (places := [(0, 1), (1, 1)]) Tryz.zeroValue30 Tryz.underlying30 (fun w => by simp [Tryz.sizeOf9, Tryz.sizeOf28]) rfl rfl)) (VcAll.nil))))))))))))) (fun β => ?_)
        refine OkLH.sub (F' := [(2, (pP b1 0)), (3, (pP b2 0)), (4, (pP b3 0)), (5, (pP b4 0)), (6, (Value.bool false)), (33, (aG ([(vK .u64 ((lowN a) / (lowN b))), (Value.string (bigB 0))]))), (39, (aG ([(vK .u64 ((lowN a) % (lowN b))), (Value.string (bigB 0))])))]) (L' := [blk b4 30 (natL 0), blk b3 30 (natL 0), blk b2 30 (natL b), blk b1 30 (natL a)]) (sF rfl) (List.Sublist.refl _) ?_
        refine OkLH.store' (i := 1) (off := 0) (vs := [(vK .u64 ((lowN a) / (lowN b))), (Value.string (bigB 0))]) (cs' := [(vK .u64 ((lowN a) / (lowN b))), (Value.string (bigB 0))]) (L' := [blk b4 30 (natL 0), blk b3 30 ([(vK .u64 ((lowN a) / (lowN b))), (Value.string (bigB 0))]), blk b2 30 (natL b), blk b1 30 (natL a)]) (List.Sublist.cons _ (List.Sublist.cons _ (List.Sublist.refl _))) (wt_none rfl) rfl rfl rfl rfl rfl Tryz.sizeOf30 rfl rfl rfl rfl ?_
        refine OkLH.store' (i := 0) (off := 0) (vs := [(vK .u64 ((lowN a) % (lowN b))), (Value.string (bigB 0))]) (cs' := [(vK .u64 ((lowN a) % (lowN b))), (Value.string (bigB 0))]) (L' := [blk b4 30 ([(vK .u64 ((lowN a) % (lowN b))), (Value.string (bigB 0))]), blk b3 30 ([(vK .u64 ((lowN a) / (lowN b))), (Value.string (bigB 0))]), blk b2 30 (natL b), blk b1 30 (natL a)]) (List.Sublist.cons _ (List.Sublist.cons _ (List.Sublist.refl _))) (wt_none rfl) rfl rfl rfl rfl rfl Tryz.sizeOf30 rfl rfl rfl rfl ?_
        refine OkLH.step (v := (Value.bool true)) (List.Sublist.cons _ (List.Sublist.cons _ (List.Sublist.refl _))) (wt_none rfl) (ex_assign rfl) rfl (leB rfl) ?_
        refine OkLH.nil ?_
        refine OkQ.subF (sC 2 rfl (sC 3 rfl (sC 4 rfl (sC 5 rfl (sC 6 rfl (sN)))))) ?_
        refine OkQ.then_ ?_
        refine OkC.ret ?_
        refine OkQ.in_ret ?_
        refine OkQ.then_ret ?_
        exact ret_three rfl (rd_agg (i := 1) (cs := [(vK .u64 ((lowN a) / (lowN b))), (Value.string (bigB 0))]) rfl rfl Tryz.isAgg30 Tryz.sizeOf30 rfl) (rd_agg (i := 0) (cs := [(vK .u64 ((lowN a) % (lowN b))), (Value.string (bigB 0))]) rfl rfl Tryz.isAgg30 Tryz.sizeOf30 rfl) (rd_tmp (v := (Value.bool true)) rfl) (fun w hw => ⟨by rw [natL_small q1, natL_small q2, la, lb]; rfl, hw.out⟩)
      · replace hc2 := of_decide_eq_false hc2
        refine OkC.skip ?_
        refine OkQ.in_normal ?_
        refine q2 ?_
        refine st (ex_load_agg (i := 2) (vs := natL b) rfl rfl Tryz.isAgg30 Tryz.sizeOf30 rfl rfl) (leB rfl) ?_
        refine OkL.callB (V := fun b5 => (Value.slice (some ⟨b5, 0, none⟩) (nw b) ((padW b).length))) (T := 22) (cs := u32s (padW b)) (wt_none rfl) (op_call0 (args := [(aG (natL b))]) rfl rfl Tryz.call121) (fun w hw => words_ok b (by omega) w) rfl (leB rfl) ?_; intro b5
        refine st (ex_assign rfl) (leB rfl) ?_
        refine q6 (sC 2 rfl (sC 3 rfl (sC 4 rfl (sC 5 rfl (sC 6 rfl (sC 7 rfl (sN))))))) ?_
        refine q4 ?_
        refine st (ex_move rfl) (leB rfl) ?_
        refine st (v := (vN (nw b))) (ex_len_slice rfl Tryz.underlying161) (leB rfl) ?_
        refine st (ex_eql (c := (decide ((nw b) = 1))) rfl rfl (eqN (a := nw b) (b := 1))) (leB rfl) ?_
        refine OkL.nil ?_
        refine OkQ.subF (sC 2 rfl (sC 3 rfl (sC 4 rfl (sC 5 rfl (sC 6 rfl (sC 7 rfl (sC 44 rfl (sN)))))))) ?_
        refine OkQ.then_ ?_
        refine OkC.cond rfl (fun hc3 => ?_) (fun hc3 => ?_)
        · replace hc3 := of_decide_eq_true hc3
          obtain ⟨hy, hy2⟩ := pad_one hc3
          refine OkC.seq ?_
          have hx1 : (padW b).getD 0 0 < 4294967296 := W32.getD (padW_w32 b) 0
          refine OkC.drawn' (specs := [⟨.held, fun _ => (aG (natL a)), [], 0, []⟩, ⟨.new, fun β => (Value.slice (some ⟨(β 1), 0, none⟩) (nw a) ((padW a).length)), [], 22, u32s (padW a)⟩, ⟨.pure, fun _ => (Value.slice (some ⟨b5, 0, none⟩) (nw b) ((padW b).length)), [], 0, []⟩, ⟨.pure, fun _ => (pP b5 0), [], 0, []⟩, ⟨.held, fun _ => (vK .u32 ((padW b).getD 0 0)), [], 0, []⟩, ⟨.new, fun β => (Value.tuple #[(Value.slice (some ⟨(β 5), 0, none⟩) (nw a) (nw a)), (vK .u32 (a % ((padW b).getD 0 0)))]), [1], 22, u32s (rowN (nw a) (a / ((padW b).getD 0 0)))⟩, ⟨.pure, fun β => (Value.tuple #[(Value.slice (some ⟨(β 5), 0, none⟩) (nw a) (nw a)), (vK .u32 (a % ((padW b).getD 0 0)))]), [5], 0, []⟩, ⟨.pure, fun β => (Value.slice (some ⟨(β 5), 0, none⟩) (nw a) (nw a)), [5], 0, []⟩, ⟨.pure, fun _ => (vK .u32 (a % ((padW b).getD 0 0))), [5], 0, []⟩]) (by kernel_rfl) (fun hchk3 => ?_)
          refine dR (Lro := [blk b5 22 (u32s (padW b)), blk b4 30 (natL 0), blk b3 30 (natL 0), blk b2 30 (natL b), blk b1 30 (natL a)]) (List.Sublist.refl _) (dC (DepAll.block (V := fun bq => (Value.slice (some ⟨bq, 0, none⟩) (nw a) ((padW a).length))) (dC (dC (dC (DepAll.block (V := fun bq => (Value.tuple #[(Value.slice (some ⟨bq, 0, none⟩) (nw a) (nw a)), (vK .u32 (a % ((padW b).getD 0 0)))])) (DepAll.cons (fun β β' h _ => by have e5 : β 5 = β' 5 := h 5 (show 5 ∈ [5] by decide); simp only [e5]) (DepAll.cons (fun β β' h _ => by have e5 : β 5 = β' 5 := h 5 (show 5 ∈ [5] by decide); simp only [e5]) (dC (dN)))))))))) hchk3 (by kernel_rfl) (fun _ _ d _ _ h => by cases d <;> exact h) (vC (vc_held0 (G := fun β => [(2, (pP b1 0))]) (fun β => sF (by kernel_rfl)) (fun β => ex_load_agg (i := 4) (vs := natL a) rfl rfl Tryz.isAgg30 Tryz.sizeOf30 rfl rfl)) (vC (vc_callB0 (V := fun bq => (Value.slice (some ⟨bq, 0, none⟩) (nw a) ((padW a).length))) (j := 1) (one_place hchk3 rfl rfl rfl) (G := fun β => [(46, (aG (natL a)))]) (fun β => sF (by kernel_rfl)) (fun β => op_call0 (args := [(aG (natL a))]) rfl rfl Tryz.call121) (fun β w hw => words_ok a (by omega) w)) (vC (vc_pure0 (G := fun β => [(7, (Value.slice (some ⟨b5, 0, none⟩) (nw b) ((padW b).length)))]) (fun β => sF (by kernel_rfl)) (fun β _ => ex_move rfl)) (vC (vc_pure0 (G := fun β => [(48, (Value.slice (some ⟨b5, 0, none⟩) (nw b) ((padW b).length)))]) (fun β => sF (by kernel_rfl)) (fun β _ => ex_indexAddr_slice (j := 0) rfl rfl Tryz.underlying161 Tryz.sizeOf22 rfl (by omega) rfl)) (vC (vc_held0 (G := fun β => [(49, (pP b5 0))]) (fun β => sF (by kernel_rfl)) (fun β => ex_load_one (i := 0) (v := (vK .u32 ((padW b).getD 0 0))) rfl rfl Tryz.isAgg22 (u32s_get (xs := padW b) (j := 0) (by omega)))) (vC (vc_callB0 (V := fun bq => (Value.tuple #[(Value.slice (some ⟨bq, 0, none⟩) (nw a) (nw a)), (vK .u32 (a % ((padW b).getD 0 0)))])) (j := 5) (one_place hchk3 rfl rfl rfl) (G := fun β => [(47, (Value.slice (some ⟨(β 1), 0, none⟩) (nw a) ((padW a).length))), (50, (vK .u32 ((padW b).getD 0 0)))]) (fun β => sF (by kernel_rfl)) (fun β => op_call0 (args := [(Value.slice (some ⟨(β 1), 0, none⟩) (nw a) ((padW a).length)), (vK .u32 ((padW b).getD 0 0))]) rfl rfl Tryz.call146) (fun β w hw => short_ok a ((padW b).getD 0 0) _ _ (by omega) (by omega) (by omega) w (hw.get (i := 0) rfl))) (vC (vc_pure0 (G := fun β => [(51, (Value.tuple #[(Value.slice (some ⟨(β 5), 0, none⟩) (nw a) (nw a)), (vK .u32 (a % ((padW b).getD 0 0)))]))]) (fun β => sF (by kernel_rfl)) (fun β _ => ex_move rfl)) (vC (vc_pure0 (G := fun β => [(45, (Value.tuple #[(Value.slice (some ⟨(β 5), 0, none⟩) (nw a) (nw a)), (vK .u32 (a % ((padW b).getD 0 0)))]))]) (fun β => sF (by kernel_rfl)) (fun β _ => ex_extract (v := (Value.slice (some ⟨(β 5), 0, none⟩) (nw a) (nw a))) rfl rfl)) (vC (vc_pure0 (G := fun β => [(45, (Value.tuple #[(Value.slice (some ⟨(β 5), 0, none⟩) (nw a) (nw a)), (vK .u32 (a % ((padW b).getD 0 0)))]))]) (fun β => sF (by kernel_rfl)) (fun β _ => ex_extract (v := (vK .u32 (a % ((padW b).getD 0 0)))) rfl rfl)) (VcAll.nil)))))))))) (fun β => ?_)
          clear hchk3
          refine OkLH.sub (F' := [(2, (pP b1 0)), (3, (pP b2 0)), (4, (pP b3 0)), (5, (pP b4 0)), (6, (Value.bool false)), (7, (Value.slice (some ⟨b5, 0, none⟩) (nw b) ((padW b).length))), (52, (Value.slice (some ⟨(β 5), 0, none⟩) (nw a) (nw a))), (53, (vK .u32 (a % ((padW b).getD 0 0))))]) (L' := [blk (β 1) 22 (u32s (padW a)), blk (β 5) 22 (u32s (rowN (nw a) (a / ((padW b).getD 0 0)))), blk b5 22 (u32s (padW b)), blk b4 30 (natL 0), blk b3 30 (natL 0), blk b2 30 (natL b), blk b1 30 (natL a)]) (sF rfl) (List.Sublist.refl _) ?_
          generalize β 1 = b6
          generalize β 5 = b7
          refine OkLH.step (v := (Value.slice (some ⟨b7, 0, none⟩) (nw a) (nw a))) (List.Sublist.cons _ (List.Sublist.cons _ (List.Sublist.refl _))) (wt_none rfl) (ex_assign rfl) rfl (leB rfl) ?_
          refine OkLH.step (v := (vK .u32 (a % ((padW b).getD 0 0)))) (List.Sublist.cons _ (List.Sublist.cons _ (List.Sublist.refl _))) (wt_none rfl) (ex_assign rfl) rfl (leB rfl) ?_
          refine q5 (sC 2 rfl (sC 3 rfl (sC 4 rfl (sC 5 rfl (sC 6 rfl (sC 7 rfl (sC 8 rfl (sC 9 rfl (sN))))))))) ?_
          refine st (ex_move rfl) (leB rfl) ?_
          refine OkL.call (v := (aG (natL (val ((rowN (nw a) (a / ((padW b).getD 0 0))).take (nw a)))))) (wt_none rfl) (op_call0 (args := [(Value.slice (some ⟨b7, 0, none⟩) (nw a) (nw a))]) rfl rfl Tryz.call120) (fun w hw => of_ok _ (nw a) (nw a) (rowN (nw a) (a / ((padW b).getD 0 0))) (rowN_w32 _ _) (by first | omega | (rw [rowN_length]; omega) | simp | (simp; omega)) (by first | omega | simp | (simp; omega)) (by first | omega | simp | (simp; omega)) w (hw.get (i := 1) rfl)) rfl (leB rfl) ?_
          refine OkL.retell (k := 55) (u := (aG (natL (a / b)))) rfl (by rw [hy, val_take_rowN (Nat.lt_of_le_of_lt (Nat.div_le_self _ _) (lt_pow_nw a))]) ?_
          refine st (ex_move rfl) (leB rfl) ?_
          have hmb : a % (padW b).getD 0 0 < 4294967296 := by rw [hy]; exact Nat.lt_of_lt_of_le (Nat.mod_lt _ (by omega)) (by omega)
          refine st (ex_conv (c := ((a % ((padW b).getD 0 0) : Nat) : Int)) rfl Tryz.underlying22 Tryz.underlying28 (convN_u64 (by omega))) (leB rfl) ?_
          refine st (v := (aG ([(vK .u64 (a % ((padW b).getD 0 0))), (Value.string (bigB 0))]))) (ex_build_struct (zs := natL 0) (vs := [(vK .u64 (a % ((padW b).getD 0 0))), (Value.string (bigB 0))]) (pv := [(0, (vK .u64 (a % ((padW b).getD 0 0))))]) (places := [(0, 1), (1, 1)]) Tryz.zeroValue30 Tryz.underlying30 (fun w => by simp [Tryz.sizeOf9, Tryz.sizeOf28]) rfl rfl) (leB rfl) ?_
          refine OkL.retell (k := 58) (u := (aG (natL (a % b)))) rfl (by rw [hy] at hmb ⊢; rw [natL_small (by omega)]; rfl) ?_
          refine OkL.store' (i := 4) (off := 0) (vs := natL (a / b)) (cs' := natL (a / b)) (L' := [blk b6 22 (u32s (padW a)), blk b7 22 (u32s (rowN (nw a) (a / ((padW b).getD 0 0)))), blk b5 22 (u32s (padW b)), blk b4 30 (natL 0), blk b3 30 (natL (a / b)), blk b2 30 (natL b), blk b1 30 (natL a)]) (wt_none rfl) rfl rfl rfl rfl rfl Tryz.sizeOf30 rfl rfl rfl rfl ?_
          refine OkL.store' (i := 3) (off := 0) (vs := natL (a % b)) (cs' := natL (a % b)) (L' := [blk b6 22 (u32s (padW a)), blk b7 22 (u32s (rowN (nw a) (a / ((padW b).getD 0 0)))), blk b5 22 (u32s (padW b)), blk b4 30 (natL (a % b)), blk b3 30 (natL (a / b)), blk b2 30 (natL b), blk b1 30 (natL a)]) (wt_none rfl) rfl rfl rfl rfl rfl Tryz.sizeOf30 rfl rfl rfl rfl ?_
          refine st (ex_assign rfl) (leB rfl) ?_
          refine OkL.nil ?_
          refine OkQ.subF (sC 2 rfl (sC 3 rfl (sC 4 rfl (sC 5 rfl (sC 6 rfl (sC 7 rfl (sN))))))) ?_
          refine OkQ.then_ ?_
          refine OkC.ret ?_
          refine OkQ.then_ret ?_
          exact ret_three rfl (rd_agg (i := 4) (cs := natL (a / b)) rfl rfl Tryz.isAgg30 Tryz.sizeOf30 rfl) (rd_agg (i := 3) (cs := natL (a % b)) rfl rfl Tryz.isAgg30 Tryz.sizeOf30 rfl) (rd_tmp (v := (Value.bool true)) rfl) (fun w hw => ⟨rfl, hw.out⟩)
        · replace hc3 := of_decide_eq_false hc3
          refine OkC.skip ?_
          refine q2 ?_
          refine st (ex_load_agg (i := 4) (vs := natL a) rfl rfl Tryz.isAgg30 Tryz.sizeOf30 rfl rfl) (leB rfl) ?_
          refine OkL.callB (V := fun b6 => (Value.slice (some ⟨b6, 0, none⟩) (nw a) ((padW a).length))) (T := 22) (cs := u32s (padW a)) (wt_none rfl) (op_call0 (args := [(aG (natL a))]) rfl rfl Tryz.call121) (fun w hw => words_ok a (by omega) w) rfl (leB rfl) ?_; intro b6
          refine st (ex_move rfl) (leB rfl) ?_
          refine OkL.callBB (V := fun b7 b8 => (Value.tuple #[(Value.slice (some ⟨b7, 0, none⟩) (nw a + 1 - nw b) (nw a + 1 - nw b)), (Value.slice (some ⟨b8, 0, none⟩) (nw a + 1) (nw a + 1))])) (T := 22) (cs := u32s (rowN (nw a + 1 - nw b) (a / b))) (T2 := 22) (cs2 := u32s (rowN (nw a + 1) (a % b))) (wt_none rfl) (op_call0 (args := [(Value.slice (some ⟨b6, 0, none⟩) (nw a) ((padW a).length)), (Value.slice (some ⟨b5, 0, none⟩) (nw b) ((padW b).length))]) rfl rfl Tryz.call156) (fun w hw => long_ok a b _ _ _ _ (by omega) (by omega) (by omega) w (hw.get (i := 0) rfl) (hw.get (i := 1) rfl)) rfl (leB rfl) ?_; intro b7 b8
          refine st (ex_move rfl) (leB rfl) ?_
          refine st (ex_extract (v := (Value.slice (some ⟨b7, 0, none⟩) (nw a + 1 - nw b) (nw a + 1 - nw b))) rfl rfl) (leB rfl) ?_
          refine st (ex_extract (v := (Value.slice (some ⟨b8, 0, none⟩) (nw a + 1) (nw a + 1))) rfl rfl) (leB rfl) ?_
          refine st (ex_assign rfl) (leB rfl) ?_
          refine st (ex_assign rfl) (leB rfl) ?_
          refine q3 (sC 2 rfl (sC 3 rfl (sC 4 rfl (sC 5 rfl (sC 6 rfl (sC 7 rfl (sC 10 rfl (sC 11 rfl (sN))))))))) ?_
          refine st (ex_move rfl) (leB rfl) ?_
          refine OkL.call (v := (aG (natL (val ((rowN (nw a + 1 - nw b) (a / b)).take (nw a + 1 - nw b)))))) (wt_none rfl) (op_call0 (args := [(Value.slice (some ⟨b7, 0, none⟩) (nw a + 1 - nw b) (nw a + 1 - nw b))]) rfl rfl Tryz.call120) (fun w hw => of_ok _ (nw a + 1 - nw b) (nw a + 1 - nw b) (rowN (nw a + 1 - nw b) (a / b)) (rowN_w32 _ _) (by first | omega | (rw [rowN_length]; omega) | simp | (simp; omega)) (by first | omega | simp | (simp; omega)) (by first | omega | simp | (simp; omega)) w (hw.get (i := 0) rfl)) rfl (leB rfl) ?_
          refine OkL.retell (k := 67) (u := (aG (natL (a / b)))) rfl (by rw [val_take_rowN (quo_words (by omega) hba)]) ?_
          refine st (ex_move rfl) (leB rfl) ?_
          refine OkL.call (v := (aG (natL (val ((rowN (nw a + 1) (a % b)).take (nw a + 1)))))) (wt_none rfl) (op_call0 (args := [(Value.slice (some ⟨b8, 0, none⟩) (nw a + 1) (nw a + 1))]) rfl rfl Tryz.call120) (fun w hw => of_ok _ (nw a + 1) (nw a + 1) (rowN (nw a + 1) (a % b)) (rowN_w32 _ _) (by first | omega | (rw [rowN_length]; omega) | simp | (simp; omega)) (by first | omega | simp | (simp; omega)) (by first | omega | simp | (simp; omega)) w (hw.get (i := 1) rfl)) rfl (leB rfl) ?_
          refine OkL.retell (k := 69) (u := (aG (natL (a % b)))) rfl (by rw [val_take_rowN rem_words]) ?_
          refine OkL.store' (i := 5) (off := 0) (vs := natL (a / b)) (cs' := natL (a / b)) (L' := [blk b7 22 (u32s (rowN (nw a + 1 - nw b) (a / b))), blk b8 22 (u32s (rowN (nw a + 1) (a % b))), blk b6 22 (u32s (padW a)), blk b5 22 (u32s (padW b)), blk b4 30 (natL 0), blk b3 30 (natL (a / b)), blk b2 30 (natL b), blk b1 30 (natL a)]) (wt_none rfl) rfl rfl rfl rfl rfl Tryz.sizeOf30 rfl rfl rfl rfl ?_
          refine OkL.store' (i := 4) (off := 0) (vs := natL (a % b)) (cs' := natL (a % b)) (L' := [blk b7 22 (u32s (rowN (nw a + 1 - nw b) (a / b))), blk b8 22 (u32s (rowN (nw a + 1) (a % b))), blk b6 22 (u32s (padW a)), blk b5 22 (u32s (padW b)), blk b4 30 (natL (a % b)), blk b3 30 (natL (a / b)), blk b2 30 (natL b), blk b1 30 (natL a)]) (wt_none rfl) rfl rfl rfl rfl rfl Tryz.sizeOf30 rfl rfl rfl rfl ?_
          refine st (ex_assign rfl) (leB rfl) ?_
          refine OkL.nil ?_
          refine OkQ.subF (sC 2 rfl (sC 3 rfl (sC 4 rfl (sC 5 rfl (sC 6 rfl (sC 7 rfl (sN))))))) ?_
          refine OkQ.then_ ?_
          refine OkC.ret ?_
          exact ret_three rfl (rd_agg (i := 5) (cs := natL (a / b)) rfl rfl Tryz.isAgg30 Tryz.sizeOf30 rfl) (rd_agg (i := 4) (cs := natL (a % b)) rfl rfl Tryz.isAgg30 Tryz.sizeOf30 rfl) (rd_tmp (v := (Value.bool true)) rfl) (fun w hw => ⟨rfl, hw.out⟩)

theorem Gcd_ok (a b : Nat) (ha : nw a ≤ 1099511627776) (hb : nw b ≤ 1099511627776) (w : World)  : Calls Tryz.prog 115 #[(aG (natL a)), (aG (natL b))] w (Gives w (aG (natL (Nat.gcd a b)))) := by
  refine calls_of (args := [(aG (natL a)), (aG (natL b))]) Tryz.func115 rfl rfl (leB rfl) ?_
  refine OkC.subF (sC 0 rfl (sC 1 rfl (sN))) ?_
  refine q4 ?_
  refine OkL.open_ (T := 30) (cs := natL a) (wt_none rfl) (op_box (cs := natL a) rfl rfl) rfl (leB rfl) ?_; intro b1
  refine OkL.open_ (T := 30) (cs := natL b) (wt_none rfl) (op_box (cs := natL b) rfl rfl) rfl (leB rfl) ?_; intro b2
  refine OkL.open_ (T := 30) (cs := natL 0) (wt_none rfl) (op_alloc (cs := natL 0) Tryz.zeroValue30 rfl) rfl (leB rfl) ?_; intro b3
  refine q6 (sC 2 rfl (sC 3 rfl (sC 4 rfl (sN)))) ?_
  refine OkC.block ?_
  refine OkC.sub (F' := [(2, (pP b1 0)), (3, (pP b2 0)), (4, (pP b3 0))]) (L' := [blk b3 30 (natL 0), blk b2 30 (natL b), blk b1 30 (natL a)]) (sF rfl) (List.Sublist.refl _) ?_
  refine OkC.loop2 (J := fun (x : Nat) (y : Nat) => Nat.gcd x y = Nat.gcd a b ∧ nw x ≤ 1099511627776 ∧ nw y ≤ 1099511627776) (FI := fun (x : Nat) (y : Nat) => [(2, (pP b1 0)), (3, (pP b2 0)), (4, (pP b3 0))]) (LI := fun (x : Nat) (y : Nat) => [blk b3 30 (natL 0), blk b2 30 (natL y), blk b1 30 (natL x)]) (m := fun (x : Nat) (y : Nat) => y) (fun x y hJ => ?_) a b (⟨rfl, ha, hb⟩)
  replace hJ : Nat.gcd x y = Nat.gcd a b ∧ nw x ≤ 1099511627776 ∧ nw y ≤ 1099511627776 := hJ
  obtain ⟨hg, hx, hy⟩ := hJ
  refine OkC.sub (F' := [(2, (pP b1 0)), (3, (pP b2 0)), (4, (pP b3 0))]) (L' := [blk b3 30 (natL 0), blk b2 30 (natL y), blk b1 30 (natL x)]) (sF rfl) (List.Sublist.refl _) ?_
  refine OkC.seq ?_
  refine q4 ?_
  refine st (ex_load_agg (i := 1) (vs := natL y) rfl rfl Tryz.isAgg30 Tryz.sizeOf30 rfl rfl) (leB rfl) ?_
  refine OkL.call (v := (Value.bool (decide (y = 0)))) (wt_none rfl) (op_call0 (args := [(aG (natL y))]) rfl rfl Tryz.call154) (fun w hw => zero_ok y w) rfl (leB rfl) ?_
  refine st (ex_not (c := (!(decide (y = 0)))) rfl rfl) (leB rfl) ?_
  refine OkL.nil ?_
  refine OkQ.subF (sC 2 rfl (sC 3 rfl (sC 4 rfl (sC 10 rfl (sN))))) ?_
  refine OkQ.then_ ?_
  refine OkC.cond rfl (fun hc0 => ?_) (fun hc0 => ?_)
  · simp only [Bool.and_eq_true, Bool.or_eq_true, Bool.and_eq_false_iff, Bool.or_eq_false_iff, Bool.not_eq_true', Bool.not_eq_false', decide_eq_true_eq, decide_eq_false_iff_not] at hc0
    refine OkC.skip ?_
    refine OkQ.then_ ?_
    refine OkC.block ?_
    refine q4 ?_
    refine st (ex_load_agg (i := 2) (vs := natL x) rfl rfl Tryz.isAgg30 Tryz.sizeOf30 rfl rfl) (leB rfl) ?_
    refine st (ex_load_agg (i := 1) (vs := natL y) rfl rfl Tryz.isAgg30 Tryz.sizeOf30 rfl rfl) (leB rfl) ?_
    refine OkL.call (v := (Value.tuple #[(aG (natL (x / y))), (aG (natL (x % y))), (Value.bool true)])) (wt_none rfl) (op_call0 (args := [(aG (natL x)), (aG (natL y))]) rfl rfl Tryz.call116) (fun w hw => Div_ok x y (by omega) (by omega) (by omega) w) rfl (leB rfl) ?_
    refine st (ex_move rfl) (leB rfl) ?_
    refine st (ex_extract (v := (aG (natL (x / y)))) rfl rfl) (leB rfl) ?_
    refine st (ex_extract (v := (aG (natL (x % y)))) rfl rfl) (leB rfl) ?_
    refine st (ex_extract (v := (Value.bool true)) rfl rfl) (leB rfl) ?_
    refine OkL.open_ (T := 30) (cs := natL 0) (wt_none rfl) (op_alloc (cs := natL 0) Tryz.zeroValue30 rfl) rfl (leB rfl) ?_; intro b4
    refine OkL.open_ (T := 30) (cs := natL 0) (wt_none rfl) (op_alloc (cs := natL 0) Tryz.zeroValue30 rfl) rfl (leB rfl) ?_; intro b5
    refine OkL.store' (i := 1) (off := 0) (vs := natL (x / y)) (cs' := natL (x / y)) (L' := [blk b5 30 (natL 0), blk b4 30 (natL (x / y)), blk b3 30 (natL 0), blk b2 30 (natL y), blk b1 30 (natL x)]) (wt_none rfl) rfl rfl rfl rfl rfl Tryz.sizeOf30 rfl rfl rfl rfl ?_
    refine OkL.store' (i := 0) (off := 0) (vs := natL (x % y)) (cs' := natL (x % y)) (L' := [blk b5 30 (natL (x % y)), blk b4 30 (natL (x / y)), blk b3 30 (natL 0), blk b2 30 (natL y), blk b1 30 (natL x)]) (wt_none rfl) rfl rfl rfl rfl rfl Tryz.sizeOf30 rfl rfl rfl rfl ?_
    refine st (ex_assign rfl) (leB rfl) ?_
    refine OkL.nil ?_
    refine OkQ.subF (sC 2 rfl (sC 3 rfl (sC 4 rfl (sC 6 rfl (sN))))) ?_
    refine OkQ.then_ ?_
    refine dR (specs := [⟨.look, fun _ => (aG (natL y)), [], 0, []⟩, ⟨.held, fun _ => (aG (natL (x % y))), [], 0, []⟩]) (Lro := [blk b5 30 (natL (x % y)), blk b4 30 (natL (x / y)), blk b3 30 (natL 0)]) (List.Sublist.cons_cons _ (List.Sublist.cons_cons _ (List.Sublist.cons_cons _ (List.Sublist.cons _ (List.Sublist.cons _ (List.Sublist.refl _)))))) (dC (dC (dN))) (by kernel_rfl) (by kernel_rfl) (fun _ _ d _ _ h => by cases d <;> exact h) (vC (vc_look0 (G := fun β => [(3, (pP b2 0))]) (fun β => sF (by kernel_rfl)) (fun β => ex_load_agg (i := 3) (vs := natL y) rfl rfl Tryz.isAgg30 Tryz.sizeOf30 rfl rfl)) (vC (vc_held0 (G := fun β => [(6, (pP b5 0))]) (fun β => sF (by kernel_rfl)) (fun β => ex_load_agg (i := 0) (vs := natL (x % y)) rfl rfl Tryz.isAgg30 Tryz.sizeOf30 rfl rfl)) (VcAll.nil))) (fun β => ?_)
    refine OkLH.sub (F' := [(2, (pP b1 0)), (3, (pP b2 0)), (4, (pP b3 0)), (6, (pP b5 0)), (18, (aG (natL y))), (19, (aG (natL (x % y))))]) (L' := [blk b5 30 (natL (x % y)), blk b4 30 (natL (x / y)), blk b3 30 (natL 0), blk b2 30 (natL y), blk b1 30 (natL x)]) (sF rfl) (List.Sublist.refl _) ?_
    refine OkLH.store' (i := 4) (off := 0) (vs := natL y) (cs' := natL y) (L' := [blk b5 30 (natL (x % y)), blk b4 30 (natL (x / y)), blk b3 30 (natL 0), blk b2 30 (natL y), blk b1 30 (natL y)]) (List.Sublist.cons_cons _ (List.Sublist.cons_cons _ (List.Sublist.cons_cons _ (List.Sublist.cons _ (List.Sublist.cons _ (List.Sublist.refl _)))))) (wt_none rfl) rfl rfl rfl rfl rfl Tryz.sizeOf30 rfl rfl rfl rfl ?_
    refine OkLH.store' (i := 3) (off := 0) (vs := natL (x % y)) (cs' := natL (x % y)) (L' := [blk b5 30 (natL (x % y)), blk b4 30 (natL (x / y)), blk b3 30 (natL 0), blk b2 30 (natL (x % y)), blk b1 30 (natL y)]) (List.Sublist.cons_cons _ (List.Sublist.cons_cons _ (List.Sublist.cons_cons _ (List.Sublist.cons _ (List.Sublist.cons _ (List.Sublist.refl _)))))) (wt_none rfl) rfl rfl rfl rfl rfl Tryz.sizeOf30 rfl rfl rfl rfl ?_
    refine OkLH.nil ?_
    refine OkQ.subF (sC 2 rfl (sC 3 rfl (sC 4 rfl (sC 6 rfl (sN))))) ?_
    refine OkQ.in_normal ?_
    exact OkQ.round2 y (x % y) (⟨by rw [← hg, Nat.gcd_comm x y, Nat.gcd_rec y x, Nat.gcd_comm], hy, Nat.le_trans (nw_mono (Nat.mod_le _ _)) hx⟩) (Nat.mod_lt _ (by omega)) (sS rfl (sS rfl (sS rfl (sN)))) (List.Sublist.cons _ (List.Sublist.cons _ (List.Sublist.refl _)))
  · simp only [Bool.and_eq_true, Bool.or_eq_true, Bool.and_eq_false_iff, Bool.or_eq_false_iff, Bool.not_eq_true', Bool.not_eq_false', decide_eq_true_eq, decide_eq_false_iff_not] at hc0
    have hy0 : y = 0 := by omega
    have hxg : x = Nat.gcd a b := by rw [← hg, hy0, Nat.gcd_zero_right]
    refine OkC.exit ?_
    refine OkQ.then_exit ?_
    refine OkQ.round2_exit ?_
    refine OkQ.in_exit ?_
    refine q2 ?_
    refine st (ex_load_agg (i := 2) (vs := natL x) rfl rfl Tryz.isAgg30 Tryz.sizeOf30 rfl rfl) (leB rfl) ?_
    refine OkL.store' (i := 0) (off := 0) (vs := natL x) (cs' := natL x) (L' := [blk b3 30 (natL x), blk b2 30 (natL y), blk b1 30 (natL x)]) (wt_none rfl) rfl rfl rfl rfl rfl Tryz.sizeOf30 rfl rfl rfl rfl ?_
    refine OkL.nil ?_
    refine OkQ.subF (sC 2 rfl (sC 3 rfl (sC 4 rfl (sN)))) ?_
    refine OkQ.then_ ?_
    refine OkC.ret ?_
    exact ret_one rfl (rd_agg (i := 0) (cs := natL x) rfl rfl Tryz.isAgg30 Tryz.sizeOf30 rfl) (fun w hw => ⟨by rw [hxg], hw.out⟩)


end Go.Proofs.YtpkoldfmbebmgaaGreatDoor
