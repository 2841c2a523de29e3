/- Walks, printed by gen.py. -/
import Derived.Test.YtpkoldfmbebmgaaGreatDoorNumC
import Derived.Test.YtpkoldfmbebmgaaGreatDoorArith
namespace Go.Proofs.YtpkoldfmbebmgaaGreatDoor
open Go Go.RowKit
set_option maxRecDepth 100000
set_option linter.unusedVariables false
set_option linter.unusedSimpArgs false

theorem cmp_ok (a b p q c c2 : Nat) (ha : nw a ≤ 1099511627776) (hb : nw b ≤ 1099511627776) (w : World) (hp : w.heap[p]? = some (.cells (u32s (padW a)).toArray 22 (0, 0))) (hq : w.heap[q]? = some (.cells (u32s (padW b)).toArray 22 (0, 0))) : Calls Tryz.prog 176 #[(Value.slice (some ⟨p, 0, none⟩) (nw a) c), (Value.slice (some ⟨q, 0, none⟩) (nw b) c2)] w (Gives w (vI (cmpZ a b))) := by
  have hla := nw_le_pad a
  have hlb := nw_le_pad b
  refine calls_of (args := [(Value.slice (some ⟨p, 0, none⟩) (nw a) c), (Value.slice (some ⟨q, 0, none⟩) (nw b) c2)]) Tryz.func176 rfl rfl (leB rfl) ?_
  refine OkC.subF (sC 0 rfl (sC 1 rfl (sN))) ?_
  refine q4 ?_
  refine st (ex_assign rfl) (leB rfl) ?_
  refine OkL.nil ?_
  refine q1 ?_
  refine q4 ?_
  refine st (ex_move rfl) (leB rfl) ?_
  refine st (v := (vN (nw a))) (ex_len_slice rfl Tryz.underlying161) (leB rfl) ?_
  refine st (ex_move rfl) (leB rfl) ?_
  refine st (v := (vN (nw b))) (ex_len_slice rfl Tryz.underlying161) (leB rfl) ?_
  refine st (ex_neq (c := (decide ((nw a) ≠ (nw b)))) rfl rfl (neN (a := nw a) (b := nw b))) (leB rfl) ?_
  refine OkL.nil ?_
  refine OkQ.subF (sC 0 rfl (sC 1 rfl (sC 4 rfl (sC 10 rfl (sN))))) ?_
  refine OkQ.then_ ?_
  refine OkC.cond rfl (fun hc0 => ?_) (fun hc0 => ?_)
  · replace hc0 := of_decide_eq_true hc0
    refine q4 ?_
    refine st (ex_move rfl) (leB rfl) ?_
    refine st (v := (vN (nw a))) (ex_len_slice rfl Tryz.underlying161) (leB rfl) ?_
    refine st (ex_move rfl) (leB rfl) ?_
    refine st (v := (vN (nw b))) (ex_len_slice rfl Tryz.underlying161) (leB rfl) ?_
    refine st (ex_sub (c := ((nw a : Int) - (nw b : Int))) rfl rfl (wrap_i64 (by omega) (by omega))) (leB rfl) ?_
    refine OkL.call (v := (vI (((nw a : Int) - (nw b : Int)).sign))) (wt_none rfl) (op_call0 (args := [(vI ((nw a : Int) - (nw b : Int)))]) rfl rfl Tryz.call191) (fun w hw => sign_ok _ (by omega) (by omega) w) rfl (leB rfl) ?_
    refine OkL.retell (k := 16) (u := (vI (cmpZ a b))) rfl (by rw [cmp_len hc0]) ?_
    refine st (ex_assign rfl) (leB rfl) ?_
    refine OkL.nil ?_
    refine OkQ.subF (sC 0 rfl (sC 1 rfl (sC 4 rfl (sN)))) ?_
    refine OkQ.then_ ?_
    refine OkC.ret ?_
    refine OkQ.then_ret ?_
    exact ret_one rfl (rd_tmp (v := (vI (cmpZ a b))) rfl) (fun w hw => ⟨rfl, hw.out⟩)
  · replace hc0 := of_decide_eq_false hc0
    refine OkC.skip ?_
    refine q1 ?_
    refine q4 ?_
    refine st (ex_move rfl) (leB rfl) ?_
    refine st (v := (vN (nw a))) (ex_len_slice rfl Tryz.underlying161) (leB rfl) ?_
    refine st (ex_sub (c := (((nw a : Nat) : Int) - 1)) rfl rfl (wrap_i64 (by omega) (by omega))) (leB rfl) ?_
    refine st (ex_assign rfl) (leB rfl) ?_
    refine OkL.nil ?_
    refine OkQ.subF (sC 0 rfl (sC 1 rfl (sC 4 rfl (sC 5 rfl (sN))))) ?_
    refine OkQ.then_ ?_
    refine OkC.block ?_
    refine OkC.sub (F' := [(0, (Value.slice (some ⟨p, 0, none⟩) (nw a) c)), (1, (Value.slice (some ⟨q, 0, none⟩) (nw b) c2)), (5, (vI (((nw a : Nat) : Int) - 1)))]) (L' := []) (sF rfl) (List.Sublist.refl _) ?_
    refine OkC.loop1 (J := fun (k : Nat) => k ≤ nw a ∧ (wordsOf a).drop k = (wordsOf b).drop k) (FI := fun (k : Nat) => [(0, (Value.slice (some ⟨p, 0, none⟩) (nw a) c)), (1, (Value.slice (some ⟨q, 0, none⟩) (nw b) c2)), (5, (vI (((k : Nat) : Int) - 1)))]) (LI := fun (k : Nat) => []) (m := fun (k : Nat) => k) (fun k hJ => ?_) (nw a) (⟨Nat.le_refl _, by rw [List.drop_of_length_le (by exact Nat.le_refl _), List.drop_of_length_le (by unfold nw at *; omega)]⟩)
    replace hJ : k ≤ nw a ∧ (wordsOf a).drop k = (wordsOf b).drop k := hJ
    obtain ⟨hk, hd⟩ := hJ
    refine OkC.sub (F' := [(0, (Value.slice (some ⟨p, 0, none⟩) (nw a) c)), (1, (Value.slice (some ⟨q, 0, none⟩) (nw b) c2)), (5, (vI (((k : Nat) : Int) - 1)))]) (L' := []) (sF rfl) (List.Sublist.refl _) ?_
    refine OkC.seq ?_
    refine q4 ?_
    refine st (ex_move rfl) (leB rfl) ?_
    refine st (ex_geq (c := (decide ((0 : Int) ≤ (((k : Nat) : Int) - 1)))) rfl rfl rfl) (leB rfl) ?_
    refine OkL.nil ?_
    refine OkQ.subF (sC 0 rfl (sC 1 rfl (sC 5 rfl (sC 21 rfl (sN))))) ?_
    refine OkQ.then_ ?_
    refine OkC.cond rfl (fun hc1 => ?_) (fun hc1 => ?_)
    · replace hc1 := of_decide_eq_true hc1
      have hk0 : 0 < k := by omega
      refine OkC.retell (k := 5) (u := (vN (k - 1))) rfl (by congr 1; omega) ?_
      refine OkC.skip ?_
      refine q1 ?_
      refine OkC.block ?_
      refine OkC.seq ?_
      have ea : (padW a).getD (k - 1) 0 = (wordsOf a).getD (k - 1) 0 := pad_getD (by omega)
      have eb : (padW b).getD (k - 1) 0 = (wordsOf b).getD (k - 1) 0 := pad_getD (by omega)
      have hx1 : (padW a).getD (k - 1) 0 < 4294967296 := W32.getD (padW_w32 a) (k - 1)
      have hx2 : (padW b).getD (k - 1) 0 < 4294967296 := W32.getD (padW_w32 b) (k - 1)
      refine dR (specs := [⟨.pure, fun _ => (Value.slice (some ⟨p, 0, none⟩) (nw a) c), [], 0, []⟩, ⟨.pure, fun _ => (vN (k - 1)), [], 0, []⟩, ⟨.pure, fun _ => (pP p (k - 1)), [], 0, []⟩, ⟨.held, fun _ => (vK .u32 ((padW a).getD (k - 1) 0)), [], 0, []⟩, ⟨.pure, fun _ => (Value.slice (some ⟨q, 0, none⟩) (nw b) c2), [], 0, []⟩, ⟨.pure, fun _ => (vN (k - 1)), [], 0, []⟩, ⟨.pure, fun _ => (pP q (k - 1)), [], 0, []⟩, ⟨.held, fun _ => (vK .u32 ((padW b).getD (k - 1) 0)), [], 0, []⟩, ⟨.pure, fun _ => (Value.bool (decide (((padW a).getD (k - 1) 0) ≠ ((padW b).getD (k - 1) 0)))), [], 0, []⟩]) (Lro := []) (List.Sublist.refl _) (dC (dC (dC (dC (dC (dC (dC (dC (dC (dN)))))))))) (by kernel_rfl) (by kernel_rfl) (fun _ _ d _ _ h => by cases d <;> exact h) (vC (vc_pure0 (G := fun β => [(0, (Value.slice (some ⟨p, 0, none⟩) (nw a) c))]) (fun β => sF (by kernel_rfl)) (fun β _ => ex_move rfl)) (vC (vc_pure0 (G := fun β => [(5, (vN (k - 1)))]) (fun β => sF (by kernel_rfl)) (fun β _ => ex_move rfl)) (vC (vc_pure0 (G := fun β => [(24, (Value.slice (some ⟨p, 0, none⟩) (nw a) c)), (25, (vN (k - 1)))]) (fun β => sF (by kernel_rfl)) (fun β _ => ex_indexAddr_slice (j := k - 1) rfl rfl Tryz.underlying161 Tryz.sizeOf22 rfl (by omega) (by simp))) (vC (vc_held0 (G := fun β => [(26, (pP p (k - 1)))]) (fun β => sF (by kernel_rfl)) (fun β => ex_load_one_at (v := (vK .u32 ((padW a).getD (k - 1) 0))) rfl (fun w' hw => CA.at0 (hw.oldCA (by simp) (ca_blk hp)) (u32s_get (xs := padW a) (j := (k - 1)) (by omega))) Tryz.isAgg22)) (vC (vc_pure0 (G := fun β => [(1, (Value.slice (some ⟨q, 0, none⟩) (nw b) c2))]) (fun β => sF (by kernel_rfl)) (fun β _ => ex_move rfl)) (vC (vc_pure0 (G := fun β => [(5, (vN (k - 1)))]) (fun β => sF (by kernel_rfl)) (fun β _ => ex_move rfl)) (vC (vc_pure0 (G := fun β => [(28, (Value.slice (some ⟨q, 0, none⟩) (nw b) c2)), (29, (vN (k - 1)))]) (fun β => sF (by kernel_rfl)) (fun β _ => ex_indexAddr_slice (j := k - 1) rfl rfl Tryz.underlying161 Tryz.sizeOf22 rfl (by omega) (by simp))) (vC (vc_held0 (G := fun β => [(30, (pP q (k - 1)))]) (fun β => sF (by kernel_rfl)) (fun β => ex_load_one_at (v := (vK .u32 ((padW b).getD (k - 1) 0))) rfl (fun w' hw => CA.at0 (hw.oldCA (by simp) (ca_blk hq)) (u32s_get (xs := padW b) (j := (k - 1)) (by omega))) Tryz.isAgg22)) (vC (vc_pure0 (G := fun β => [(27, (vK .u32 ((padW a).getD (k - 1) 0))), (31, (vK .u32 ((padW b).getD (k - 1) 0)))]) (fun β => sF (by kernel_rfl)) (fun β _ => ex_neq (c := (decide (((padW a).getD (k - 1) 0) ≠ ((padW b).getD (k - 1) 0)))) rfl rfl (neN (a := (padW a).getD (k - 1) 0) (b := (padW b).getD (k - 1) 0)))) (VcAll.nil)))))))))) (fun β => ?_)
      refine OkLH.sub (F' := [(0, (Value.slice (some ⟨p, 0, none⟩) (nw a) c)), (1, (Value.slice (some ⟨q, 0, none⟩) (nw b) c2)), (5, (vN (k - 1))), (32, (Value.bool (decide (((padW a).getD (k - 1) 0) ≠ ((padW b).getD (k - 1) 0)))))]) (L' := []) (sF rfl) (List.Sublist.refl _) ?_
      refine OkLH.nil ?_
      refine OkQ.then_ ?_
      refine OkC.cond rfl (fun hc2 => ?_) (fun hc2 => ?_)
      · replace hc2 := of_decide_eq_true hc2
        have hcw := cmp_words (by omega) hk0 hk hd (by omega)
        refine OkC.seq ?_
        refine OkC.seq ?_
        have hx3 : (padW a).getD (k - 1) 0 < 4294967296 := W32.getD (padW_w32 a) (k - 1)
        have hx4 : (padW b).getD (k - 1) 0 < 4294967296 := W32.getD (padW_w32 b) (k - 1)
        refine dR (specs := [⟨.pure, fun _ => (Value.slice (some ⟨p, 0, none⟩) (nw a) c), [], 0, []⟩, ⟨.pure, fun _ => (vN (k - 1)), [], 0, []⟩, ⟨.pure, fun _ => (pP p (k - 1)), [], 0, []⟩, ⟨.held, fun _ => (vK .u32 ((padW a).getD (k - 1) 0)), [], 0, []⟩, ⟨.pure, fun _ => (Value.slice (some ⟨q, 0, none⟩) (nw b) c2), [], 0, []⟩, ⟨.pure, fun _ => (vN (k - 1)), [], 0, []⟩, ⟨.pure, fun _ => (pP q (k - 1)), [], 0, []⟩, ⟨.held, fun _ => (vK .u32 ((padW b).getD (k - 1) 0)), [], 0, []⟩, ⟨.pure, fun _ => (Value.bool (decide (((padW a).getD (k - 1) 0) < ((padW b).getD (k - 1) 0)))), [], 0, []⟩]) (Lro := []) (List.Sublist.refl _) (dC (dC (dC (dC (dC (dC (dC (dC (dC (dN)))))))))) (by kernel_rfl) (by kernel_rfl) (fun _ _ d _ _ h => by cases d <;> exact h) (vC (vc_pure0 (G := fun β => [(0, (Value.slice (some ⟨p, 0, none⟩) (nw a) c))]) (fun β => sF (by kernel_rfl)) (fun β _ => ex_move rfl)) (vC (vc_pure0 (G := fun β => [(5, (vN (k - 1)))]) (fun β => sF (by kernel_rfl)) (fun β _ => ex_move rfl)) (vC (vc_pure0 (G := fun β => [(33, (Value.slice (some ⟨p, 0, none⟩) (nw a) c)), (34, (vN (k - 1)))]) (fun β => sF (by kernel_rfl)) (fun β _ => ex_indexAddr_slice (j := k - 1) rfl rfl Tryz.underlying161 Tryz.sizeOf22 rfl (by omega) (by simp))) (vC (vc_held0 (G := fun β => [(35, (pP p (k - 1)))]) (fun β => sF (by kernel_rfl)) (fun β => ex_load_one_at (v := (vK .u32 ((padW a).getD (k - 1) 0))) rfl (fun w' hw => CA.at0 (hw.oldCA (by simp) (ca_blk hp)) (u32s_get (xs := padW a) (j := (k - 1)) (by omega))) Tryz.isAgg22)) (vC (vc_pure0 (G := fun β => [(1, (Value.slice (some ⟨q, 0, none⟩) (nw b) c2))]) (fun β => sF (by kernel_rfl)) (fun β _ => ex_move rfl)) (vC (vc_pure0 (G := fun β => [(5, (vN (k - 1)))]) (fun β => sF (by kernel_rfl)) (fun β _ => ex_move rfl)) (vC (vc_pure0 (G := fun β => [(37, (Value.slice (some ⟨q, 0, none⟩) (nw b) c2)), (38, (vN (k - 1)))]) (fun β => sF (by kernel_rfl)) (fun β _ => ex_indexAddr_slice (j := k - 1) rfl rfl Tryz.underlying161 Tryz.sizeOf22 rfl (by omega) (by simp))) (vC (vc_held0 (G := fun β => [(39, (pP q (k - 1)))]) (fun β => sF (by kernel_rfl)) (fun β => ex_load_one_at (v := (vK .u32 ((padW b).getD (k - 1) 0))) rfl (fun w' hw => CA.at0 (hw.oldCA (by simp) (ca_blk hq)) (u32s_get (xs := padW b) (j := (k - 1)) (by omega))) Tryz.isAgg22)) (vC (vc_pure0 (G := fun β => [(36, (vK .u32 ((padW a).getD (k - 1) 0))), (40, (vK .u32 ((padW b).getD (k - 1) 0)))]) (fun β => sF (by kernel_rfl)) (fun β _ => ex_lss (c := (decide (((padW a).getD (k - 1) 0) < ((padW b).getD (k - 1) 0)))) rfl rfl (ltN (a := (padW a).getD (k - 1) 0) (b := (padW b).getD (k - 1) 0)))) (VcAll.nil)))))))))) (fun β => ?_)
        refine OkLH.sub (F' := [(0, (Value.slice (some ⟨p, 0, none⟩) (nw a) c)), (1, (Value.slice (some ⟨q, 0, none⟩) (nw b) c2)), (5, (vN (k - 1))), (41, (Value.bool (decide (((padW a).getD (k - 1) 0) < ((padW b).getD (k - 1) 0)))))]) (L' := []) (sF rfl) (List.Sublist.refl _) ?_
        refine OkLH.nil ?_
        refine OkQ.then_ ?_
        refine OkC.cond rfl (fun hc3 => ?_) (fun hc3 => ?_)
        · replace hc3 := of_decide_eq_true hc3
          rw [if_pos (by omega)] at hcw
          refine q4 ?_
          refine st (ex_assign rfl) (leB rfl) ?_
          refine OkL.nil ?_
          refine OkQ.then_ ?_
          refine OkC.ret ?_
          refine OkQ.then_ret ?_
          refine OkQ.in_ret ?_
          refine OkQ.then_ret ?_
          refine OkQ.round1_ret ?_
          refine OkQ.in_ret ?_
          refine OkQ.then_ret ?_
          exact ret_one rfl (rd_tmp (v := (vI (-1 : Int))) rfl) (fun w hw => ⟨by rw [hcw], hw.out⟩)
        · replace hc3 := of_decide_eq_false hc3
          rw [if_neg (by omega)] at hcw
          refine OkC.skip ?_
          refine q2 ?_
          refine st (ex_assign rfl) (leB rfl) ?_
          refine OkL.nil ?_
          refine OkQ.then_ ?_
          refine OkC.ret ?_
          refine OkQ.in_ret ?_
          refine OkQ.then_ret ?_
          refine OkQ.round1_ret ?_
          refine OkQ.in_ret ?_
          refine OkQ.then_ret ?_
          exact ret_one rfl (rd_tmp (v := (vI 1)) rfl) (fun w hw => ⟨by rw [hcw], hw.out⟩)
      · replace hc2 := of_decide_eq_false hc2
        refine OkC.skip ?_
        refine OkQ.in_normal ?_
        refine OkQ.then_ ?_
        refine OkC.region ?_
        refine st (ex_move rfl) (leB rfl) ?_
        refine st (ex_sub (c := (((k - 1 : Nat) : Int) - 1)) rfl rfl (wrap_i64 (by omega) (by omega))) (leB rfl) ?_
        refine st (ex_assign rfl) (leB rfl) ?_
        refine OkL.nil ?_
        refine OkQ.subF (sC 0 rfl (sC 1 rfl (sC 5 rfl (sN)))) ?_
        exact OkQ.round1 (k - 1) (⟨by omega, drop_step (by unfold nw at hc0; omega) (by omega) hk hd (by omega)⟩) (by omega) (sS rfl (sS rfl (sS rfl (sN)))) (List.Sublist.refl _)
    · replace hc1 := of_decide_eq_false hc1
      have hk0 : k = 0 := by omega
      subst hk0
      have hz := cmp_same hd
      refine OkC.exit ?_
      refine OkQ.then_exit ?_
      refine OkQ.round1_exit ?_
      refine OkQ.in_exit ?_
      refine q2 ?_
      refine st (ex_assign rfl) (leB rfl) ?_
      refine OkL.nil ?_
      refine OkQ.then_ ?_
      refine OkC.ret ?_
      exact ret_one rfl (rd_tmp (v := (vI 0)) rfl) (fun w hw => ⟨by rw [hz], hw.out⟩)


end Go.Proofs.YtpkoldfmbebmgaaGreatDoor
