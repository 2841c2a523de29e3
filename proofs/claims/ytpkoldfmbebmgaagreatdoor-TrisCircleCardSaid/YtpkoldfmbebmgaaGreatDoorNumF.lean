/- Walks, printed by gen.py. -/
import Derived.Test.YtpkoldfmbebmgaaGreatDoorNumE
namespace Go.Proofs.YtpkoldfmbebmgaaGreatDoor
open Go Go.RowKit
set_option maxRecDepth 100000
set_option linter.unusedVariables false
set_option linter.unusedSimpArgs false

theorem fill_numf_30_  : Instr.fill ([(0, 1), (1, 1)].toArray[·]?) (natL 0).toArray [] = some (natL 0).toArray := by kernel_rfl
theorem Sub_ok (a b : Nat) (ha : nw a ≤ 1099511627776) (hb : nw b ≤ 1099511627776) (w : World)  : Calls Tryz.prog 117 #[(aG (natL a)), (aG (natL b))] w (Gives w (Value.tuple #[(aG (natL (a - b))), (Value.bool (decide (b ≤ a)))])) := by
  have hla := nw_le_pad a
  have hlb := nw_le_pad b
  have hpa := pad_len a
  refine calls_of (args := [(aG (natL a)), (aG (natL b))]) Tryz.func117 rfl rfl (leB rfl) ?_
  refine OkC.subF (sC 0 rfl (sC 1 rfl (sN))) ?_
  refine q4 ?_
  refine OkL.open_ (T := 30) (cs := natL a) (wt_none rfl) (op_box (cs := natL a) rfl rfl) rfl (leB rfl) ?_; intro b1
  refine OkL.open_ (T := 30) (cs := natL b) (wt_none rfl) (op_box (cs := natL b) rfl rfl) rfl (leB rfl) ?_; intro b2
  refine OkL.open_ (T := 30) (cs := natL 0) (wt_none rfl) (op_alloc (cs := natL 0) Tryz.zeroValue30 rfl) rfl (leB rfl) ?_; intro b3
  refine st (ex_assign rfl) (leB rfl) ?_
  refine q6 (sC 2 rfl (sC 3 rfl (sC 4 rfl (sC 5 rfl (sN))))) ?_
  refine q4 ?_
  refine st (ex_load_agg (i := 2) (vs := natL a) rfl rfl Tryz.isAgg30 Tryz.sizeOf30 rfl rfl) (leB rfl) ?_
  refine st (ex_load_agg (i := 1) (vs := natL b) rfl rfl Tryz.isAgg30 Tryz.sizeOf30 rfl rfl) (leB rfl) ?_
  refine OkL.call (v := (vI (cmpZ a b))) (wt_none rfl) (op_call0 (args := [(aG (natL a)), (aG (natL b))]) rfl rfl Tryz.call155) (fun w hw => Cmp_ok a b (by omega) (by omega) w) rfl (leB rfl) ?_
  refine st (ex_lss (c := (decide ((cmpZ a b) < (0 : Int)))) rfl rfl rfl) (leB rfl) ?_
  refine OkL.nil ?_
  refine OkQ.subF (sC 2 rfl (sC 3 rfl (sC 4 rfl (sC 5 rfl (sC 14 rfl (sN)))))) ?_
  refine OkQ.then_ ?_
  refine OkC.cond rfl (fun hc0 => ?_) (fun hc0 => ?_)
  · replace hc0 := of_decide_eq_true hc0
    rw [cmpZ_lt] at hc0
    refine q4 ?_
    refine st (v := (aG (natL 0))) (ex_build_struct (zs := natL 0) (vs := natL 0) (pv := []) (places := [(0, 1), (1, 1)]) Tryz.zeroValue30 Tryz.underlying30 (fun w => by simp [Tryz.sizeOf9, Tryz.sizeOf28]) rfl (fill_numf_30_ )) (leB rfl) ?_
    refine OkL.retell (k := 15) (u := (aG (natL (a - b)))) rfl (by rw [show a - b = 0 by omega]) ?_
    refine OkL.store' (i := 0) (off := 0) (vs := natL (a - b)) (cs' := natL (a - b)) (L' := [blk b3 30 (natL (a - b)), blk b2 30 (natL b), blk b1 30 (natL a)]) (wt_none rfl) rfl rfl rfl rfl rfl Tryz.sizeOf30 rfl rfl rfl rfl ?_
    refine st (ex_assign rfl) (leB rfl) ?_
    refine OkL.nil ?_
    refine OkQ.subF (sC 2 rfl (sC 3 rfl (sC 4 rfl (sC 5 rfl (sN))))) ?_
    refine OkQ.then_ ?_
    refine OkC.ret ?_
    refine OkQ.then_ret ?_
    exact ret_two rfl (rd_agg (i := 0) (cs := natL (a - b)) rfl rfl Tryz.isAgg30 Tryz.sizeOf30 rfl) (rd_tmp (v := (Value.bool false)) rfl) (fun w hw => ⟨by rw [decide_eq_false (show ¬ b ≤ a by omega)], hw.out⟩)
  · replace hc0 := of_decide_eq_false hc0
    rw [cmpZ_lt] at hc0
    have hnb : nw b ≤ nw a := nw_mono (by omega)
    refine OkC.skip ?_
    refine q1 ?_
    refine q4 ?_
    refine st (v := (pP b1 1)) (ex_fieldAddr rfl Tryz.underlying30 rfl Tryz.sizeOf9 rfl) (leB rfl) ?_
    refine st (ex_load_one (i := 2) (v := (Value.string (bigB a))) rfl rfl Tryz.isAgg9 rfl) (leB rfl) ?_
    refine st (ex_eql_string (c := (decide (a < 18446744073709551616))) rfl rfl bigB_empty) (leB rfl) ?_
    refine OkL.nil ?_
    refine OkQ.subF (sC 2 rfl (sC 3 rfl (sC 4 rfl (sC 5 rfl (sC 18 rfl (sN)))))) ?_
    refine OkQ.then_ ?_
    refine OkC.cond rfl (fun hc1 => ?_) (fun hc1 => ?_)
    · replace hc1 := of_decide_eq_true hc1
      refine q4 ?_
      refine st (v := (pP b1 0)) (ex_fieldAddr rfl Tryz.underlying30 rfl Tryz.sizeOf28 rfl) (leB rfl) ?_
      refine st (ex_load_one (i := 2) (v := (vK .u64 (lowN a))) rfl rfl Tryz.isAgg28 rfl) (leB rfl) ?_
      refine OkL.retell (k := 20) (u := (vK .u64 a)) rfl (by rw [lowN_small hc1]) ?_
      refine st (v := (pP b2 0)) (ex_fieldAddr rfl Tryz.underlying30 rfl Tryz.sizeOf28 rfl) (leB rfl) ?_
      refine st (ex_load_one (i := 1) (v := (vK .u64 (lowN b))) rfl rfl Tryz.isAgg28 rfl) (leB rfl) ?_
      refine OkL.retell (k := 22) (u := (vK .u64 b)) rfl (by rw [lowN_small (by omega)]) ?_
      refine st (ex_sub (c := ((a - b : Nat) : Int)) rfl rfl (subN_u64 (a := a) (b := b) (by omega) (by omega))) (leB rfl) ?_
      refine st (v := (aG ([(vK .u64 (a - b)), (Value.string (bigB 0))]))) (ex_build_struct (zs := natL 0) (vs := [(vK .u64 (a - b)), (Value.string (bigB 0))]) (pv := [(0, (vK .u64 (a - b)))]) (places := [(0, 1), (1, 1)]) Tryz.zeroValue30 Tryz.underlying30 (fun w => by simp [Tryz.sizeOf9, Tryz.sizeOf28]) rfl rfl) (leB rfl) ?_
      refine OkL.retell (k := 24) (u := (aG (natL (a - b)))) rfl (by rw [natL_small (by omega)]; rfl) ?_
      refine OkL.store' (i := 0) (off := 0) (vs := natL (a - b)) (cs' := natL (a - b)) (L' := [blk b3 30 (natL (a - b)), blk b2 30 (natL b), blk b1 30 (natL a)]) (wt_none rfl) rfl rfl rfl rfl rfl Tryz.sizeOf30 rfl rfl rfl rfl ?_
      refine st (ex_assign rfl) (leB rfl) ?_
      refine OkL.nil ?_
      refine OkQ.subF (sC 2 rfl (sC 3 rfl (sC 4 rfl (sC 5 rfl (sN))))) ?_
      refine OkQ.then_ ?_
      refine OkC.ret ?_
      refine OkQ.then_ret ?_
      exact ret_two rfl (rd_agg (i := 0) (cs := natL (a - b)) rfl rfl Tryz.isAgg30 Tryz.sizeOf30 rfl) (rd_tmp (v := (Value.bool true)) rfl) (fun w hw => ⟨by rw [decide_eq_true (show b ≤ a by omega)], hw.out⟩)
    · replace hc1 := of_decide_eq_false hc1
      have hpad : padW a = wordsOf a := if_neg hc1
      refine OkC.skip ?_
      refine q1 ?_
      refine OkC.drawn' (specs := [⟨.held, fun _ => (aG (natL a)), [], 0, []⟩, ⟨.new, fun β => (Value.slice (some ⟨(β 1), 0, none⟩) (nw a) ((padW a).length)), [], 22, u32s (padW a)⟩, ⟨.held, fun _ => (aG (natL b)), [], 0, []⟩, ⟨.new, fun β => (Value.slice (some ⟨(β 3), 0, none⟩) (nw b) ((padW b).length)), [], 22, u32s (padW b)⟩]) (by kernel_rfl) (fun hchk1 => ?_)
      refine dR (Lro := [blk b3 30 (natL 0), blk b2 30 (natL b), blk b1 30 (natL a)]) (List.Sublist.refl _) (dC (DepAll.block (V := fun bq => (Value.slice (some ⟨bq, 0, none⟩) (nw a) ((padW a).length))) (dC (DepAll.block (V := fun bq => (Value.slice (some ⟨bq, 0, none⟩) (nw b) ((padW b).length))) (dN))))) hchk1 (by kernel_rfl) (fun _ _ d _ _ h => by cases d <;> exact h) (vC (vc_held0 (G := fun β => [(2, (pP b1 0))]) (fun β => sF (by kernel_rfl)) (fun β => ex_load_agg (i := 2) (vs := natL a) rfl rfl Tryz.isAgg30 Tryz.sizeOf30 rfl rfl)) (vC (vc_callB0 (V := fun bq => (Value.slice (some ⟨bq, 0, none⟩) (nw a) ((padW a).length))) (j := 1) (one_place hchk1 rfl rfl rfl) (G := fun β => [(25, (aG (natL a)))]) (fun β => sF (by kernel_rfl)) (fun β => op_call0 (args := [(aG (natL a))]) rfl rfl Tryz.call121) (fun β w hw => words_ok a (by omega) w)) (vC (vc_held0 (G := fun β => [(3, (pP b2 0))]) (fun β => sF (by kernel_rfl)) (fun β => ex_load_agg (i := 1) (vs := natL b) rfl rfl Tryz.isAgg30 Tryz.sizeOf30 rfl rfl)) (vC (vc_callB0 (V := fun bq => (Value.slice (some ⟨bq, 0, none⟩) (nw b) ((padW b).length))) (j := 3) (one_place hchk1 rfl rfl rfl) (G := fun β => [(27, (aG (natL b)))]) (fun β => sF (by kernel_rfl)) (fun β => op_call0 (args := [(aG (natL b))]) rfl rfl Tryz.call121) (fun β w hw => words_ok b (by omega) w)) (VcAll.nil))))) (fun β => ?_)
      clear hchk1
      refine OkLH.sub (F' := [(2, (pP b1 0)), (3, (pP b2 0)), (4, (pP b3 0)), (5, (Value.bool false)), (26, (Value.slice (some ⟨(β 1), 0, none⟩) (nw a) ((padW a).length))), (28, (Value.slice (some ⟨(β 3), 0, none⟩) (nw b) ((padW b).length)))]) (L' := [blk (β 1) 22 (u32s (padW a)), blk (β 3) 22 (u32s (padW b)), blk b3 30 (natL 0), blk b2 30 (natL b), blk b1 30 (natL a)]) (sF rfl) (List.Sublist.refl _) ?_
      generalize β 1 = b4
      generalize β 3 = b5
      refine OkLH.step (v := (Value.slice (some ⟨b4, 0, none⟩) (nw a) ((padW a).length))) (List.Sublist.cons _ (List.Sublist.cons _ (List.Sublist.refl _))) (wt_none rfl) (ex_assign rfl) rfl (leB rfl) ?_
      refine OkLH.step (v := (Value.slice (some ⟨b5, 0, none⟩) (nw b) ((padW b).length))) (List.Sublist.cons _ (List.Sublist.cons _ (List.Sublist.refl _))) (wt_none rfl) (ex_assign rfl) rfl (leB rfl) ?_
      refine q5 (sC 2 rfl (sC 3 rfl (sC 4 rfl (sC 5 rfl (sC 6 rfl (sC 7 rfl (sN))))))) ?_
      refine st (ex_assign rfl) (leB rfl) ?_
      refine OkL.nil ?_
      refine q1 ?_
      refine q4 ?_
      refine st (ex_move rfl) (leB rfl) ?_
      refine st (v := (vN (nw a))) (ex_len_slice rfl Tryz.underlying161) (leB rfl) ?_
      refine st (ex_move rfl) (leB rfl) ?_
      refine OkL.nil ?_
      refine OkQ.subF (sC 2 rfl (sC 3 rfl (sC 4 rfl (sC 5 rfl (sC 6 rfl (sC 7 rfl (sC 8 rfl (sC 30 rfl (sC 31 rfl (sN)))))))))) ?_
      refine OkQ.then_ ?_
      refine OkC.block ?_
      refine OkC.sub (F' := [(4, (pP b3 0)), (5, (Value.bool false)), (6, (Value.slice (some ⟨b4, 0, none⟩) (nw a) ((padW a).length))), (7, (Value.slice (some ⟨b5, 0, none⟩) (nw b) ((padW b).length))), (30, (vN (nw a))), (31, (vI 0)), (8, (Value.int .u32 (0 : Int)))]) (L' := [blk b4 22 (u32s (padW a)), blk b5 22 (u32s (padW b)), blk b3 30 (natL 0), blk b2 30 (natL b), blk b1 30 (natL a)]) (sF rfl) (List.Sublist.refl _) ?_
      refine OkC.loop3 (J := fun (i : Nat) (os : List Nat) (c : Nat) => i ≤ nw a ∧ os.length = nw a ∧ W32 os ∧ c ≤ 1 ∧ val os + val ((wordsOf b).take i) = a + c * 4294967296 ^ i) (FI := fun (i : Nat) (os : List Nat) (c : Nat) => [(4, (pP b3 0)), (5, (Value.bool false)), (6, (Value.slice (some ⟨b4, 0, none⟩) (nw a) ((padW a).length))), (7, (Value.slice (some ⟨b5, 0, none⟩) (nw b) ((padW b).length))), (30, (vN (nw a))), (31, (vN i)), (8, (vK .u32 c))]) (LI := fun (i : Nat) (os : List Nat) (c : Nat) => [blk b4 22 (u32s os), blk b5 22 (u32s (padW b)), blk b3 30 (natL 0), blk b2 30 (natL b), blk b1 30 (natL a)]) (m := fun (i : Nat) (os : List Nat) (c : Nat) => nw a - i) (fun i os c hJ => ?_) 0 (padW a) 0 (⟨Nat.zero_le _, by rw [hpad]; rfl, padW_w32 a, by omega, by rw [val_pad]; simp [val]⟩)
      replace hJ : i ≤ nw a ∧ os.length = nw a ∧ W32 os ∧ c ≤ 1 ∧ val os + val ((wordsOf b).take i) = a + c * 4294967296 ^ i := hJ
      obtain ⟨hi, hl, hw32, hcc, hv⟩ := hJ
      refine OkC.sub (F' := [(4, (pP b3 0)), (5, (Value.bool false)), (6, (Value.slice (some ⟨b4, 0, none⟩) (nw a) ((padW a).length))), (7, (Value.slice (some ⟨b5, 0, none⟩) (nw b) ((padW b).length))), (30, (vN (nw a))), (31, (vN i)), (8, (vK .u32 c))]) (L' := [blk b4 22 (u32s os), blk b5 22 (u32s (padW b)), blk b3 30 (natL 0), blk b2 30 (natL b), blk b1 30 (natL a)]) (sF rfl) (List.Sublist.refl _) ?_
      refine q4 ?_
      refine st (ex_lss (c := (decide (i < (nw a)))) rfl rfl (ltN (a := i) (b := nw a))) (leB rfl) ?_
      refine OkL.nil ?_
      refine q1 ?_
      refine OkC.cond rfl (fun hc2 => ?_) (fun hc2 => ?_)
      · replace hc2 := of_decide_eq_true hc2
        refine OkC.skip ?_
        refine q1 ?_
        refine OkC.block ?_
        refine q4 ?_
        refine st (ex_move rfl) (leB rfl) ?_
        refine st (ex_assign rfl) (leB rfl) ?_
        refine q3 (sC 4 rfl (sC 5 rfl (sC 6 rfl (sC 7 rfl (sC 30 rfl (sC 31 rfl (sC 8 rfl (sC 9 rfl (sN))))))))) ?_
        refine st (ex_assign rfl) (leB rfl) ?_
        refine OkL.nil ?_
        refine q1 ?_
        refine q4 ?_
        refine st (ex_move rfl) (leB rfl) ?_
        refine st (ex_move rfl) (leB rfl) ?_
        refine st (v := (vN (nw b))) (ex_len_slice rfl Tryz.underlying161) (leB rfl) ?_
        refine st (ex_lss (c := (decide (i < (nw b)))) rfl rfl (ltN (a := i) (b := nw b))) (leB rfl) ?_
        refine OkL.nil ?_
        refine OkQ.subF (sC 4 rfl (sC 5 rfl (sC 6 rfl (sC 7 rfl (sC 30 rfl (sC 31 rfl (sC 8 rfl (sC 9 rfl (sC 10 rfl (sC 37 rfl (sN))))))))))) ?_
        refine OkQ.then_ ?_
        refine OkC.join0 (J := True) (FI := [(4, (pP b3 0)), (5, (Value.bool false)), (6, (Value.slice (some ⟨b4, 0, none⟩) (nw a) ((padW a).length))), (7, (Value.slice (some ⟨b5, 0, none⟩) (nw b) ((padW b).length))), (30, (vN (nw a))), (31, (vN i)), (8, (vK .u32 c)), (9, (vN i)), (10, (vK .u32 ((wordsOf b).getD i 0)))]) (LI := [blk b4 22 (u32s os), blk b5 22 (u32s (padW b)), blk b3 30 (natL 0), blk b2 30 (natL b), blk b1 30 (natL a)]) ?_ ?_
        · skip
          refine OkC.cond rfl (fun hc3 => ?_) (fun hc3 => ?_)
          · replace hc3 := of_decide_eq_true hc3
            refine OkC.region ?_
            refine st (ex_move rfl) (leB rfl) ?_
            refine st (ex_move rfl) (leB rfl) ?_
            refine st (v := (pP b5 i)) (ex_indexAddr_slice (j := i) rfl rfl Tryz.underlying161 Tryz.sizeOf22 rfl (by omega) (by simp)) (leB rfl) ?_
            have hx1 : (padW b).getD i 0 < 4294967296 := W32.getD (padW_w32 b) i
            refine st (ex_load_one (i := 1) (v := (vK .u32 ((padW b).getD i 0))) rfl rfl Tryz.isAgg22 (u32s_get (xs := padW b) (j := i) (by omega))) (leB rfl) ?_
            refine OkL.retell (k := 41) (u := (vK .u32 ((wordsOf b).getD i 0))) rfl (by rw [pad_getD hc3]) ?_
            refine st (ex_assign rfl) (leB rfl) ?_
            refine OkL.nil ?_
            refine OkQ.subF (sC 4 rfl (sC 5 rfl (sC 6 rfl (sC 7 rfl (sC 30 rfl (sC 31 rfl (sC 8 rfl (sC 9 rfl (sC 10 rfl (sN)))))))))) ?_
            exact OkQ.join0  (trivial) (sS rfl (sS rfl (sS rfl (sS rfl (sS rfl (sS rfl (sS rfl (sS rfl (sS rfl (sN)))))))))) (List.Sublist.refl _)
          · replace hc3 := of_decide_eq_false hc3
            refine OkC.skip ?_
            refine OkQ.retell (k := 10) (u := Value.int .u32 (((wordsOf b).getD i 0 : Nat) : Int)) rfl (by rw [words_getD_zero hc3]; rfl) ?_
            exact OkQ.join0  (trivial) (sS rfl (sS rfl (sS rfl (sS rfl (sS rfl (sS rfl (sS rfl (sS rfl (sS rfl (sN)))))))))) (List.Sublist.refl _)
        · intro hJ
          replace hJ : True := hJ
          refine OkQ.sub (F' := [(4, (pP b3 0)), (5, (Value.bool false)), (6, (Value.slice (some ⟨b4, 0, none⟩) (nw a) ((padW a).length))), (7, (Value.slice (some ⟨b5, 0, none⟩) (nw b) ((padW b).length))), (30, (vN (nw a))), (31, (vN i)), (8, (vK .u32 c)), (9, (vN i)), (10, (vK .u32 ((wordsOf b).getD i 0)))]) (L' := [blk b4 22 (u32s os), blk b5 22 (u32s (padW b)), blk b3 30 (natL 0), blk b2 30 (natL b), blk b1 30 (natL a)]) (sF rfl) (List.Sublist.refl _) ?_
          refine OkQ.then_ ?_
          refine OkC.region ?_
          refine st (ex_move rfl) (leB rfl) ?_
          refine st (ex_move rfl) (leB rfl) ?_
          refine st (ex_move rfl) (leB rfl) ?_
          refine st (ex_move rfl) (leB rfl) ?_
          refine st (v := (pP b4 i)) (ex_indexAddr_slice (j := i) rfl rfl Tryz.underlying161 Tryz.sizeOf22 rfl (by omega) (by simp)) (leB rfl) ?_
          have hx2 : os.getD i 0 < 4294967296 := W32.getD hw32 i
          refine st (ex_load_one (i := 0) (v := (vK .u32 (os.getD i 0))) rfl rfl Tryz.isAgg22 (u32s_get (xs := os) (j := i) (by omega))) (leB rfl) ?_
          refine st (ex_move rfl) (leB rfl) ?_
          refine st (ex_move rfl) (leB rfl) ?_
          have hyb := (words_w32 b).getD i
          refine OkL.call (v := (Value.tuple #[(vK .u32 (((os.getD i 0) + (4294967296 - ((wordsOf b).getD i 0)) + (4294967296 - c)) % 4294967296)), (vK .u32 (bor (os.getD i 0) (((wordsOf b).getD i 0) + c)))])) (wt_none rfl) (op_call0 (args := [(vK .u32 (os.getD i 0)), (vK .u32 ((wordsOf b).getD i 0)), (vK .u32 c)]) rfl rfl Tryz.call157) (fun w hw => sub32_ok (os.getD i 0) ((wordsOf b).getD i 0) c _ (by omega) (by omega) (by omega) rfl w) rfl (leB rfl) ?_
          refine st (ex_move rfl) (leB rfl) ?_
          refine st (ex_extract (v := (vK .u32 (((os.getD i 0) + (4294967296 - ((wordsOf b).getD i 0)) + (4294967296 - c)) % 4294967296))) rfl rfl) (leB rfl) ?_
          refine st (ex_extract (v := (vK .u32 (bor (os.getD i 0) (((wordsOf b).getD i 0) + c)))) rfl rfl) (leB rfl) ?_
          refine st (v := (pP b4 i)) (ex_indexAddr_slice (j := i) rfl rfl Tryz.underlying161 Tryz.sizeOf22 rfl (by omega) (by simp)) (leB rfl) ?_
          refine OkL.store' (i := 0) (off := i) (vs := [(vK .u32 (((os.getD i 0) + (4294967296 - ((wordsOf b).getD i 0)) + (4294967296 - c)) % 4294967296))]) (cs' := u32s (os.set i (((os.getD i 0) + (4294967296 - ((wordsOf b).getD i 0)) + (4294967296 - c)) % 4294967296))) (L' := [blk b4 22 (u32s (os.set i (((os.getD i 0) + (4294967296 - ((wordsOf b).getD i 0)) + (4294967296 - c)) % 4294967296))), blk b5 22 (u32s (padW b)), blk b3 30 (natL 0), blk b2 30 (natL b), blk b1 30 (natL a)]) (wt_none rfl) rfl rfl rfl rfl rfl Tryz.sizeOf22 rfl (ble_row (u32s_length _) (by omega)) (u32s_set (by omega)) rfl ?_
          refine st (ex_assign rfl) (leB rfl) ?_
          refine OkL.nil ?_
          refine OkQ.subF (sC 4 rfl (sC 5 rfl (sC 6 rfl (sC 7 rfl (sC 30 rfl (sC 31 rfl (sC 8 rfl (sC 9 rfl (sC 10 rfl (sN)))))))))) ?_
          refine OkQ.in_normal ?_
          refine OkQ.then_ ?_
          refine OkC.region ?_
          refine st (ex_add (c := ((i + 1 : Nat) : Int)) rfl rfl (addN_i64 (a := i) (b := 1) (by omega))) (leB rfl) ?_
          refine st (ex_move rfl) (leB rfl) ?_
          refine OkL.nil ?_
          refine OkQ.subF (sC 4 rfl (sC 5 rfl (sC 6 rfl (sC 7 rfl (sC 30 rfl (sC 31 rfl (sC 8 rfl (sC 9 rfl (sC 10 rfl (sN)))))))))) ?_
          exact OkQ.round3 (i + 1) (os.set i ((os.getD i 0 + (4294967296 - (wordsOf b).getD i 0) + (4294967296 - c)) % 4294967296)) (bor (os.getD i 0) ((wordsOf b).getD i 0 + c)) (⟨by omega, by rw [List.length_set]; exact hl, W32.set hw32 (by omega) i, bor_le _ _, sub_step hl hc2 hw32 (words_w32 b) hcc hv⟩) (by omega) (sS rfl (sS rfl (sS rfl (sS rfl (sS rfl (sS rfl (sS rfl (sN)))))))) (List.Sublist.refl _)
      · replace hc2 := of_decide_eq_false hc2
        refine OkC.exit ?_
        refine OkQ.then_exit ?_
        refine OkQ.round3_exit ?_
        refine OkQ.in_exit ?_
        refine q2 ?_
        refine st (ex_move rfl) (leB rfl) ?_
        refine OkL.call (v := (aG (natL (val (os.take (nw a)))))) (wt_none rfl) (op_call0 (args := [(Value.slice (some ⟨b4, 0, none⟩) (nw a) ((padW a).length))]) rfl rfl Tryz.call120) (fun w hw => of_ok _ (nw a) ((padW a).length) os hw32 (by first | omega | (rw [rowN_length]; omega) | simp | (simp; omega)) (by first | omega | simp | (simp; omega)) (by first | omega | simp | (simp; omega)) w (hw.get (i := 0) rfl)) rfl (leB rfl) ?_
        refine OkL.retell (k := 57) (u := (aG (natL (a - b)))) rfl (by rw [List.take_of_length_le (show os.length ≤ nw a by omega), sub_done (X := a) (Y := b) (n := nw a) (c := c) (i := i) hl hw32 (by omega) (by omega) (by rw [← hv, val_words_take (by omega)]) (lt_pow_nw a)]) ?_
        refine OkL.store' (i := 2) (off := 0) (vs := natL (a - b)) (cs' := natL (a - b)) (L' := [blk b4 22 (u32s os), blk b5 22 (u32s (padW b)), blk b3 30 (natL (a - b)), blk b2 30 (natL b), blk b1 30 (natL a)]) (wt_none rfl) rfl rfl rfl rfl rfl Tryz.sizeOf30 rfl rfl rfl rfl ?_
        refine st (ex_assign rfl) (leB rfl) ?_
        refine OkL.nil ?_
        refine OkQ.subF (sC 4 rfl (sC 5 rfl (sC 6 rfl (sC 7 rfl (sC 30 rfl (sC 31 rfl (sC 8 rfl (sN)))))))) ?_
        refine OkQ.then_ ?_
        refine OkC.ret ?_
        exact ret_two rfl (rd_agg (i := 2) (cs := natL (a - b)) rfl rfl Tryz.isAgg30 Tryz.sizeOf30 rfl) (rd_tmp (v := (Value.bool true)) rfl) (fun w hw => ⟨by rw [decide_eq_true (show b ≤ a by omega)], hw.out⟩)

theorem Mul_ok (a b : Nat) (ha : nw a ≤ 1099511627776) (hb : nw b ≤ 1099511627776) (w : World)  : Calls Tryz.prog 84 #[(aG (natL a)), (aG (natL b))] w (Gives w (aG (natL (a * b)))) := by
  have hla := nw_le_pad a
  have hlb := nw_le_pad b
  refine calls_of (args := [(aG (natL a)), (aG (natL b))]) Tryz.func84 rfl rfl (leB rfl) ?_
  refine OkC.subF (sC 0 rfl (sC 1 rfl (sN))) ?_
  refine q4 ?_
  refine OkL.open_ (T := 30) (cs := natL a) (wt_none rfl) (op_box (cs := natL a) rfl rfl) rfl (leB rfl) ?_; intro b1
  refine OkL.open_ (T := 30) (cs := natL b) (wt_none rfl) (op_box (cs := natL b) rfl rfl) rfl (leB rfl) ?_; intro b2
  refine OkL.open_ (T := 30) (cs := natL 0) (wt_none rfl) (op_alloc (cs := natL 0) Tryz.zeroValue30 rfl) rfl (leB rfl) ?_; intro b3
  refine q6 (sC 2 rfl (sC 3 rfl (sC 4 rfl (sN)))) ?_
  refine q4 ?_
  refine st (v := (pP b1 1)) (ex_fieldAddr rfl Tryz.underlying30 rfl Tryz.sizeOf9 rfl) (leB rfl) ?_
  refine st (ex_load_one (i := 2) (v := (Value.string (bigB a))) rfl rfl Tryz.isAgg9 rfl) (leB rfl) ?_
  refine st (ex_eql_string (c := (decide (a < 18446744073709551616))) rfl rfl bigB_empty) (leB rfl) ?_
  refine st (ex_move rfl) (leB rfl) ?_
  refine OkL.mid (FM := [(2, (pP b1 0)), (3, (pP b2 0)), (4, (pP b3 0)), (15, (pP b1 1)), (16, (Value.string (bigB a))), (17, (Value.bool (decide (a < 18446744073709551616)))), (18, (Value.bool (decide (a < 18446744073709551616)))), (22, (Value.bool ((decide (a < 18446744073709551616)) && (decide (b < 18446744073709551616)))))]) (LM := [blk b3 30 (natL 0), blk b2 30 (natL b), blk b1 30 (natL a)]) 4 ?_ ?_
  · rcases Bool.eq_false_or_eq_true (decide (a < 18446744073709551616)) with hg1 | hg1
    · skip
      refine OkL.retell (k := 18) (u := Value.bool true) rfl (by rw [hg1]) ?_
      have hg1' := hg1
      replace hg1' := of_decide_eq_true hg1'
      refine OkL.step (v := (pP b2 1)) (wt_some rfl rfl rfl) (ex_fieldAddr rfl Tryz.underlying30 rfl Tryz.sizeOf9 rfl) rfl (leB rfl) ?_
      refine OkL.step (v := (Value.string (bigB b))) (wt_some rfl rfl rfl) (ex_load_one (i := 1) (v := (Value.string (bigB b))) rfl rfl Tryz.isAgg9 rfl) rfl (leB rfl) ?_
      refine OkL.step (v := (Value.bool (decide (b < 18446744073709551616)))) (wt_some rfl rfl rfl) (ex_eql_string (c := (decide (b < 18446744073709551616))) rfl rfl bigB_empty) rfl (leB rfl) ?_
      refine st (v := (Value.bool (decide (b < 18446744073709551616)))) (ex_pick_true rfl rfl) (leB rfl) ?_
      refine OkL.nil ?_
      exact OkQ.mid (sS rfl (sS rfl (sS rfl (sS rfl (sS rfl (sS rfl (sS (by first | rfl | (rw [hg1]; rfl) | rw [hg1]) (sS (by first | rfl | (rw [hg1]; rfl) | rw [hg1]) (sN))))))))) (List.Sublist.refl _)
    · skip
      refine OkL.retell (k := 18) (u := Value.bool false) rfl (by rw [hg1]) ?_
      have hg1' := hg1
      replace hg1' := of_decide_eq_false hg1'
      refine OkL.skip (wt_not rfl rfl rfl) rfl (leB rfl) ?_
      refine OkL.skip (wt_not rfl rfl rfl) rfl (leB rfl) ?_
      refine OkL.skip (wt_not rfl rfl rfl) rfl (leB rfl) ?_
      refine st (v := (Value.bool false)) (ex_pick_false rfl rfl) (leB rfl) ?_
      refine OkL.nil ?_
      exact OkQ.mid (sS rfl (sS rfl (sS rfl (sS rfl (sS rfl (sS rfl (sS (by first | rfl | (rw [hg1]; rfl) | rw [hg1]) (sS (by first | rfl | (rw [hg1]; rfl) | rw [hg1]) (sN))))))))) (List.Sublist.refl _)
  refine OkL.nil ?_
  refine OkQ.subF (sC 2 rfl (sC 3 rfl (sC 4 rfl (sC 22 rfl (sN))))) ?_
  refine OkQ.then_ ?_
  refine OkC.cond rfl (fun hc0 => ?_) (fun hc0 => ?_)
  · simp only [Bool.and_eq_true, Bool.or_eq_true, Bool.and_eq_false_iff, Bool.or_eq_false_iff, Bool.not_eq_true', Bool.not_eq_false', decide_eq_true_eq, decide_eq_false_iff_not] at hc0
    refine q4 ?_
    refine st (v := (pP b1 0)) (ex_fieldAddr rfl Tryz.underlying30 rfl Tryz.sizeOf28 rfl) (leB rfl) ?_
    refine st (ex_load_one (i := 2) (v := (vK .u64 (lowN a))) rfl rfl Tryz.isAgg28 rfl) (leB rfl) ?_
    refine OkL.retell (k := 25) (u := (vK .u64 a)) rfl (by rw [lowN_small hc0.1]) ?_
    refine st (v := (pP b2 0)) (ex_fieldAddr rfl Tryz.underlying30 rfl Tryz.sizeOf28 rfl) (leB rfl) ?_
    refine st (ex_load_one (i := 1) (v := (vK .u64 (lowN b))) rfl rfl Tryz.isAgg28 rfl) (leB rfl) ?_
    have hhi : a * b / 18446744073709551616 < 18446744073709551616 := Nat.div_lt_of_lt_mul (Nat.mul_lt_mul'' hc0.1 hc0.2)
    refine OkL.retell (k := 27) (u := (vK .u64 b)) rfl (by rw [lowN_small hc0.2]) ?_
    refine OkL.call (v := (Value.tuple #[(vK .u64 (a * b / 18446744073709551616)), (vK .u64 (a * b % 18446744073709551616))])) (wt_none rfl) (op_call0 (args := [(vK .u64 a), (vK .u64 b)]) rfl rfl Tryz.call119) (fun w hw => mul64_ok a b (by omega) (by omega) w) rfl (leB rfl) ?_
    refine st (ex_move rfl) (leB rfl) ?_
    refine st (ex_extract (v := (vK .u64 (a * b / 18446744073709551616))) rfl rfl) (leB rfl) ?_
    refine st (ex_extract (v := (vK .u64 (a * b % 18446744073709551616))) rfl rfl) (leB rfl) ?_
    refine st (ex_assign rfl) (leB rfl) ?_
    refine st (ex_assign rfl) (leB rfl) ?_
    refine q3 (sC 2 rfl (sC 3 rfl (sC 4 rfl (sC 5 rfl (sC 6 rfl (sN)))))) ?_
    refine st (ex_move rfl) (leB rfl) ?_
    refine st (ex_conv (c := (((a * b % 18446744073709551616) % 4294967296 : Nat) : Int)) rfl Tryz.underlying28 Tryz.underlying22 modN_u32) (leB rfl) ?_
    refine st (ex_move rfl) (leB rfl) ?_
    refine st (ex_shr (s := 32) (c := (((a * b % 18446744073709551616) / 4294967296 : Nat) : Int)) rfl rfl rfl (by decide) (shrN (a := a * b % 18446744073709551616) (s := 32))) (leB rfl) ?_
    refine st (ex_conv (c := (((a * b % 18446744073709551616) / 4294967296 : Nat) : Int)) rfl Tryz.underlying28 Tryz.underlying22 (convN_u32 (by omega))) (leB rfl) ?_
    refine st (ex_move rfl) (leB rfl) ?_
    refine st (ex_conv (c := (((a * b / 18446744073709551616) % 4294967296 : Nat) : Int)) rfl Tryz.underlying28 Tryz.underlying22 modN_u32) (leB rfl) ?_
    refine st (ex_move rfl) (leB rfl) ?_
    refine st (ex_shr (s := 32) (c := (((a * b / 18446744073709551616) / 4294967296 : Nat) : Int)) rfl rfl rfl (by decide) (shrN (a := a * b / 18446744073709551616) (s := 32))) (leB rfl) ?_
    refine st (ex_conv (c := (((a * b / 18446744073709551616) / 4294967296 : Nat) : Int)) rfl Tryz.underlying28 Tryz.underlying22 (convN_u32 (by omega))) (leB rfl) ?_
    refine OkL.openV (V := fun b4 => (Value.slice (some ⟨b4, 0, none⟩) 4 4)) (T := 22) (cs := u32s ([(a * b % 18446744073709551616) % 4294967296, (a * b % 18446744073709551616) / 4294967296, (a * b / 18446744073709551616) % 4294967296, (a * b / 18446744073709551616) / 4294967296])) (wt_none rfl) (op_buildSlice (cs := u32s ([(a * b % 18446744073709551616) % 4294967296, (a * b % 18446744073709551616) / 4294967296, (a * b / 18446744073709551616) % 4294967296, (a * b / 18446744073709551616) / 4294967296])) (pv := [(0, (vK .u32 ((a * b % 18446744073709551616) % 4294967296))), (1, (vK .u32 ((a * b % 18446744073709551616) / 4294967296))), (2, (vK .u32 ((a * b / 18446744073709551616) % 4294967296))), (3, (vK .u32 ((a * b / 18446744073709551616) / 4294967296)))]) Tryz.underlying161 Tryz.sizeOf22 Tryz.zeroValue22 (by decide) (by decide) rfl (by kernel_rfl)) rfl (leB rfl) ?_; intro b4
    refine OkL.call (v := (aG (natL (val (([(a * b % 18446744073709551616) % 4294967296, (a * b % 18446744073709551616) / 4294967296, (a * b / 18446744073709551616) % 4294967296, (a * b / 18446744073709551616) / 4294967296]).take 4))))) (wt_none rfl) (op_call0 (args := [(Value.slice (some ⟨b4, 0, none⟩) 4 4)]) rfl rfl Tryz.call120) (fun w hw => of_ok _ 4 4 ([(a * b % 18446744073709551616) % 4294967296, (a * b % 18446744073709551616) / 4294967296, (a * b / 18446744073709551616) % 4294967296, (a * b / 18446744073709551616) / 4294967296]) (W32.cons (by omega) (W32.cons (by omega) (W32.cons (by omega) (W32.cons (by omega) (W32.nil))))) (by first | omega | (rw [rowN_length]; omega) | simp | (simp; omega)) (by first | omega | simp | (simp; omega)) (by first | omega | simp | (simp; omega)) w (hw.get (i := 0) rfl)) rfl (leB rfl) ?_
    refine OkL.retell (k := 42) (u := (aG (natL (a * b)))) rfl (by rw [show ∀ x y z t : Nat, [x, y, z, t].take 4 = [x, y, z, t] from fun _ _ _ _ => rfl, words4 (by omega) hhi, show a * b % 18446744073709551616 + a * b / 18446744073709551616 * 18446744073709551616 = a * b by omega]) ?_
    refine OkL.store' (i := 1) (off := 0) (vs := natL (a * b)) (cs' := natL (a * b)) (L' := [blk b4 22 (u32s ([(a * b % 18446744073709551616) % 4294967296, (a * b % 18446744073709551616) / 4294967296, (a * b / 18446744073709551616) % 4294967296, (a * b / 18446744073709551616) / 4294967296])), blk b3 30 (natL (a * b)), blk b2 30 (natL b), blk b1 30 (natL a)]) (wt_none rfl) rfl rfl rfl rfl rfl Tryz.sizeOf30 rfl rfl rfl rfl ?_
    refine OkL.nil ?_
    refine OkQ.subF (sC 2 rfl (sC 3 rfl (sC 4 rfl (sN)))) ?_
    refine OkQ.then_ ?_
    refine OkC.ret ?_
    refine OkQ.then_ret ?_
    exact ret_one rfl (rd_agg (i := 1) (cs := natL (a * b)) rfl rfl Tryz.isAgg30 Tryz.sizeOf30 rfl) (fun w hw => ⟨rfl, hw.out⟩)
  · simp only [Bool.and_eq_true, Bool.or_eq_true, Bool.and_eq_false_iff, Bool.or_eq_false_iff, Bool.not_eq_true', Bool.not_eq_false', decide_eq_true_eq, decide_eq_false_iff_not] at hc0
    refine OkC.skip ?_
    refine q1 ?_
    refine OkC.drawn' (specs := [⟨.held, fun _ => (aG (natL a)), [], 0, []⟩, ⟨.new, fun β => (Value.slice (some ⟨(β 1), 0, none⟩) (nw a) ((padW a).length)), [], 22, u32s (padW a)⟩, ⟨.held, fun _ => (aG (natL b)), [], 0, []⟩, ⟨.new, fun β => (Value.slice (some ⟨(β 3), 0, none⟩) (nw b) ((padW b).length)), [], 22, u32s (padW b)⟩]) (by kernel_rfl) (fun hchk1 => ?_)
    refine dR (Lro := [blk b3 30 (natL 0), blk b2 30 (natL b), blk b1 30 (natL a)]) (List.Sublist.refl _) (dC (DepAll.block (V := fun bq => (Value.slice (some ⟨bq, 0, none⟩) (nw a) ((padW a).length))) (dC (DepAll.block (V := fun bq => (Value.slice (some ⟨bq, 0, none⟩) (nw b) ((padW b).length))) (dN))))) hchk1 (by kernel_rfl) (fun _ _ d _ _ h => by cases d <;> exact h) (vC (vc_held0 (G := fun β => [(2, (pP b1 0))]) (fun β => sF (by kernel_rfl)) (fun β => ex_load_agg (i := 2) (vs := natL a) rfl rfl Tryz.isAgg30 Tryz.sizeOf30 rfl rfl)) (vC (vc_callB0 (V := fun bq => (Value.slice (some ⟨bq, 0, none⟩) (nw a) ((padW a).length))) (j := 1) (one_place hchk1 rfl rfl rfl) (G := fun β => [(43, (aG (natL a)))]) (fun β => sF (by kernel_rfl)) (fun β => op_call0 (args := [(aG (natL a))]) rfl rfl Tryz.call121) (fun β w hw => words_ok a (by omega) w)) (vC (vc_held0 (G := fun β => [(3, (pP b2 0))]) (fun β => sF (by kernel_rfl)) (fun β => ex_load_agg (i := 1) (vs := natL b) rfl rfl Tryz.isAgg30 Tryz.sizeOf30 rfl rfl)) (vC (vc_callB0 (V := fun bq => (Value.slice (some ⟨bq, 0, none⟩) (nw b) ((padW b).length))) (j := 3) (one_place hchk1 rfl rfl rfl) (G := fun β => [(45, (aG (natL b)))]) (fun β => sF (by kernel_rfl)) (fun β => op_call0 (args := [(aG (natL b))]) rfl rfl Tryz.call121) (fun β w hw => words_ok b (by omega) w)) (VcAll.nil))))) (fun β => ?_)
    clear hchk1
    refine OkLH.sub (F' := [(2, (pP b1 0)), (3, (pP b2 0)), (4, (pP b3 0)), (44, (Value.slice (some ⟨(β 1), 0, none⟩) (nw a) ((padW a).length))), (46, (Value.slice (some ⟨(β 3), 0, none⟩) (nw b) ((padW b).length)))]) (L' := [blk (β 1) 22 (u32s (padW a)), blk (β 3) 22 (u32s (padW b)), blk b3 30 (natL 0), blk b2 30 (natL b), blk b1 30 (natL a)]) (sF rfl) (List.Sublist.refl _) ?_
    generalize β 1 = b4
    generalize β 3 = b5
    refine OkLH.step (v := (Value.slice (some ⟨b4, 0, none⟩) (nw a) ((padW a).length))) (List.Sublist.cons _ (List.Sublist.cons _ (List.Sublist.refl _))) (wt_none rfl) (ex_assign rfl) rfl (leB rfl) ?_
    refine OkLH.step (v := (Value.slice (some ⟨b5, 0, none⟩) (nw b) ((padW b).length))) (List.Sublist.cons _ (List.Sublist.cons _ (List.Sublist.refl _))) (wt_none rfl) (ex_assign rfl) rfl (leB rfl) ?_
    refine q5 (sC 2 rfl (sC 3 rfl (sC 4 rfl (sC 7 rfl (sC 8 rfl (sN)))))) ?_
    refine st (ex_move rfl) (leB rfl) ?_
    refine st (v := (vN (nw a))) (ex_len_slice rfl Tryz.underlying161) (leB rfl) ?_
    refine st (ex_move rfl) (leB rfl) ?_
    refine st (v := (vN (nw b))) (ex_len_slice rfl Tryz.underlying161) (leB rfl) ?_
    refine st (ex_add (c := (((nw a) + (nw b) : Nat) : Int)) rfl rfl (addN_i64 (a := nw a) (b := nw b) (by omega))) (leB rfl) ?_
    refine OkL.openV (V := fun b6 => (Value.slice (some ⟨b6, 0, none⟩) ((nw a) + (nw b)) ((nw a) + (nw b)))) (T := 22) (cs := u32s (List.replicate ((nw a) + (nw b)) 0)) (wt_none rfl) (op_make_u32 (m := (nw a) + (nw b)) (c := (nw a) + (nw b)) rfl rfl (by omega) (by omega)) rfl (leB rfl) ?_; intro b6
    refine st (ex_assign rfl) (leB rfl) ?_
    refine q6 (sC 2 rfl (sC 3 rfl (sC 4 rfl (sC 7 rfl (sC 8 rfl (sC 9 rfl (sN))))))) ?_
    refine q4 ?_
    refine st (ex_move rfl) (leB rfl) ?_
    refine st (v := (vN (nw a))) (ex_len_slice rfl Tryz.underlying161) (leB rfl) ?_
    refine st (ex_move rfl) (leB rfl) ?_
    refine OkL.nil ?_
    refine OkQ.then_ ?_
    refine OkC.block ?_
    refine OkC.sub (F' := [(4, (pP b3 0)), (8, (Value.slice (some ⟨b5, 0, none⟩) (nw b) ((padW b).length))), (9, (Value.slice (some ⟨b6, 0, none⟩) ((nw a) + (nw b)) ((nw a) + (nw b)))), (53, (Value.slice (some ⟨b4, 0, none⟩) (nw a) ((padW a).length))), (54, (vN (nw a))), (55, (vI 0))]) (L' := [blk b6 22 (u32s (List.replicate (nw a + nw b) 0)), blk b4 22 (u32s (padW a)), blk b5 22 (u32s (padW b)), blk b3 30 (natL 0), blk b2 30 (natL b), blk b1 30 (natL a)]) (sF rfl) (List.Sublist.refl _) ?_
    refine OkC.loop2 (J := fun (i : Nat) (os : List Nat) => i ≤ nw a ∧ os.length = nw a + nw b ∧ W32 os ∧ val os = val ((wordsOf a).take i) * b) (FI := fun (i : Nat) (os : List Nat) => [(4, (pP b3 0)), (8, (Value.slice (some ⟨b5, 0, none⟩) (nw b) ((padW b).length))), (9, (Value.slice (some ⟨b6, 0, none⟩) ((nw a) + (nw b)) ((nw a) + (nw b)))), (53, (Value.slice (some ⟨b4, 0, none⟩) (nw a) ((padW a).length))), (54, (vN (nw a))), (55, (vN i))]) (LI := fun (i : Nat) (os : List Nat) => [blk b6 22 (u32s os), blk b4 22 (u32s (padW a)), blk b5 22 (u32s (padW b)), blk b3 30 (natL 0), blk b2 30 (natL b), blk b1 30 (natL a)]) (m := fun (i : Nat) (os : List Nat) => nw a - i) (fun i os hJ => ?_) 0 (List.replicate (nw a + nw b) 0) (⟨Nat.zero_le _, by simp, W32.zeros _, by rw [val_zeros]; simp [val]⟩)
    replace hJ : i ≤ nw a ∧ os.length = nw a + nw b ∧ W32 os ∧ val os = val ((wordsOf a).take i) * b := hJ
    obtain ⟨hi, hl, hw32, hv⟩ := hJ
    refine OkC.sub (F' := [(4, (pP b3 0)), (8, (Value.slice (some ⟨b5, 0, none⟩) (nw b) ((padW b).length))), (9, (Value.slice (some ⟨b6, 0, none⟩) ((nw a) + (nw b)) ((nw a) + (nw b)))), (53, (Value.slice (some ⟨b4, 0, none⟩) (nw a) ((padW a).length))), (54, (vN (nw a))), (55, (vN i))]) (L' := [blk b6 22 (u32s os), blk b4 22 (u32s (padW a)), blk b5 22 (u32s (padW b)), blk b3 30 (natL 0), blk b2 30 (natL b), blk b1 30 (natL a)]) (sF rfl) (List.Sublist.refl _) ?_
    refine q4 ?_
    refine st (ex_lss (c := (decide (i < (nw a)))) rfl rfl (ltN (a := i) (b := nw a))) (leB rfl) ?_
    refine OkL.nil ?_
    refine q1 ?_
    refine OkC.cond rfl (fun hc1 => ?_) (fun hc1 => ?_)
    · replace hc1 := of_decide_eq_true hc1
      refine OkC.skip ?_
      refine q1 ?_
      refine OkC.block ?_
      refine q4 ?_
      refine st (ex_move rfl) (leB rfl) ?_
      refine st (v := (pP b4 i)) (ex_indexAddr_slice (j := i) rfl rfl Tryz.underlying161 Tryz.sizeOf22 rfl (by omega) (by simp)) (leB rfl) ?_
      have hx1 : (padW a).getD i 0 < 4294967296 := W32.getD (padW_w32 a) i
      refine st (ex_load_one (i := 1) (v := (vK .u32 ((padW a).getD i 0))) rfl rfl Tryz.isAgg22 (u32s_get (xs := padW a) (j := i) (by omega))) (leB rfl) ?_
      refine OkL.retell (k := 59) (u := (vK .u32 ((wordsOf a).getD i 0))) rfl (by rw [pad_getD hc1]) ?_
      refine st (ex_assign rfl) (leB rfl) ?_
      refine st (ex_assign rfl) (leB rfl) ?_
      refine q3 (sC 4 rfl (sC 8 rfl (sC 9 rfl (sC 53 rfl (sC 54 rfl (sC 55 rfl (sC 10 rfl (sC 11 rfl (sN))))))))) ?_
      refine st (ex_assign rfl) (leB rfl) ?_
      refine OkL.nil ?_
      refine q1 ?_
      refine q4 ?_
      refine st (ex_move rfl) (leB rfl) ?_
      refine st (v := (vN (nw b))) (ex_len_slice rfl Tryz.underlying161) (leB rfl) ?_
      refine st (ex_move rfl) (leB rfl) ?_
      refine OkL.nil ?_
      refine OkQ.then_ ?_
      refine OkC.block ?_
      refine OkC.sub (F' := [(4, (pP b3 0)), (8, (Value.slice (some ⟨b5, 0, none⟩) (nw b) ((padW b).length))), (9, (Value.slice (some ⟨b6, 0, none⟩) ((nw a) + (nw b)) ((nw a) + (nw b)))), (53, (Value.slice (some ⟨b4, 0, none⟩) (nw a) ((padW a).length))), (54, (vN (nw a))), (55, (vN i)), (10, (vN i)), (11, (vK .u32 ((wordsOf a).getD i 0))), (60, (Value.slice (some ⟨b5, 0, none⟩) (nw b) ((padW b).length))), (61, (vN (nw b))), (62, (vI 0)), (12, (Value.int .u64 (0 : Int)))]) (L' := [blk b6 22 (u32s os), blk b4 22 (u32s (padW a)), blk b5 22 (u32s (padW b)), blk b3 30 (natL 0), blk b2 30 (natL b), blk b1 30 (natL a)]) (sF rfl) (List.Sublist.refl _) ?_
      refine OkC.loop3 (J := fun (k : Nat) (xs : List Nat) (c : Nat) => k ≤ nw b ∧ xs.length = nw a + nw b ∧ W32 xs ∧ c < 4294967296 ∧ (∀ j, i + nw b ≤ j → xs.getD j 0 = 0) ∧ val xs + c * 4294967296 ^ (i + k) = val ((wordsOf a).take i) * b + (wordsOf a).getD i 0 * val ((wordsOf b).take k) * 4294967296 ^ i) (FI := fun (k : Nat) (xs : List Nat) (c : Nat) => [(4, (pP b3 0)), (8, (Value.slice (some ⟨b5, 0, none⟩) (nw b) ((padW b).length))), (9, (Value.slice (some ⟨b6, 0, none⟩) ((nw a) + (nw b)) ((nw a) + (nw b)))), (53, (Value.slice (some ⟨b4, 0, none⟩) (nw a) ((padW a).length))), (54, (vN (nw a))), (55, (vN i)), (10, (vN i)), (11, (vK .u32 ((wordsOf a).getD i 0))), (60, (Value.slice (some ⟨b5, 0, none⟩) (nw b) ((padW b).length))), (61, (vN (nw b))), (62, (vN k)), (12, (vK .u64 c))]) (LI := fun (k : Nat) (xs : List Nat) (c : Nat) => [blk b6 22 (u32s xs), blk b4 22 (u32s (padW a)), blk b5 22 (u32s (padW b)), blk b3 30 (natL 0), blk b2 30 (natL b), blk b1 30 (natL a)]) (m := fun (k : Nat) (xs : List Nat) (c : Nat) => nw b - k) (fun k xs c hJ => ?_) 0 os 0 (⟨Nat.zero_le _, hl, hw32, by omega, zero_above hv, by rw [hv]; simp [val]⟩)
      replace hJ : k ≤ nw b ∧ xs.length = nw a + nw b ∧ W32 xs ∧ c < 4294967296 ∧ (∀ j, i + nw b ≤ j → xs.getD j 0 = 0) ∧ val xs + c * 4294967296 ^ (i + k) = val ((wordsOf a).take i) * b + (wordsOf a).getD i 0 * val ((wordsOf b).take k) * 4294967296 ^ i := hJ
      obtain ⟨hk, hl2, hw2, hcc, h02, hv2⟩ := hJ
      refine OkC.sub (F' := [(4, (pP b3 0)), (8, (Value.slice (some ⟨b5, 0, none⟩) (nw b) ((padW b).length))), (9, (Value.slice (some ⟨b6, 0, none⟩) ((nw a) + (nw b)) ((nw a) + (nw b)))), (53, (Value.slice (some ⟨b4, 0, none⟩) (nw a) ((padW a).length))), (54, (vN (nw a))), (55, (vN i)), (10, (vN i)), (11, (vK .u32 ((wordsOf a).getD i 0))), (60, (Value.slice (some ⟨b5, 0, none⟩) (nw b) ((padW b).length))), (61, (vN (nw b))), (62, (vN k)), (12, (vK .u64 c))]) (L' := [blk b6 22 (u32s xs), blk b4 22 (u32s (padW a)), blk b5 22 (u32s (padW b)), blk b3 30 (natL 0), blk b2 30 (natL b), blk b1 30 (natL a)]) (sF rfl) (List.Sublist.refl _) ?_
      refine q4 ?_
      refine st (ex_lss (c := (decide (k < (nw b)))) rfl rfl (ltN (a := k) (b := nw b))) (leB rfl) ?_
      refine OkL.nil ?_
      refine q1 ?_
      refine OkC.cond rfl (fun hc2 => ?_) (fun hc2 => ?_)
      · replace hc2 := of_decide_eq_true hc2
        refine OkC.skip ?_
        refine q1 ?_
        refine OkC.block ?_
        refine q4 ?_
        refine st (ex_move rfl) (leB rfl) ?_
        refine st (v := (pP b5 k)) (ex_indexAddr_slice (j := k) rfl rfl Tryz.underlying161 Tryz.sizeOf22 rfl (by omega) (by simp)) (leB rfl) ?_
        have hx2 : (padW b).getD k 0 < 4294967296 := W32.getD (padW_w32 b) k
        refine st (ex_load_one (i := 2) (v := (vK .u32 ((padW b).getD k 0))) rfl rfl Tryz.isAgg22 (u32s_get (xs := padW b) (j := k) (by omega))) (leB rfl) ?_
        refine OkL.retell (k := 66) (u := (vK .u32 ((wordsOf b).getD k 0))) rfl (by rw [pad_getD hc2]) ?_
        refine st (ex_assign rfl) (leB rfl) ?_
        refine st (ex_assign rfl) (leB rfl) ?_
        refine q3 (sC 4 rfl (sC 8 rfl (sC 9 rfl (sC 53 rfl (sC 54 rfl (sC 55 rfl (sC 10 rfl (sC 11 rfl (sC 60 rfl (sC 61 rfl (sC 62 rfl (sC 12 rfl (sC 13 rfl (sC 14 rfl (sN))))))))))))))) ?_
        refine st (ex_move rfl) (leB rfl) ?_
        refine st (ex_move rfl) (leB rfl) ?_
        have hwa := (words_w32 a).getD i
        have hwb := (words_w32 b).getD k
        have hml := mul_w hwa hwb
        refine st (ex_conv (c := (((wordsOf a).getD i 0 : Nat) : Int)) rfl Tryz.underlying22 Tryz.underlying28 (convN_u64 (by omega))) (leB rfl) ?_
        refine st (ex_move rfl) (leB rfl) ?_
        refine st (ex_conv (c := (((wordsOf b).getD k 0 : Nat) : Int)) rfl Tryz.underlying22 Tryz.underlying28 (convN_u64 (by omega))) (leB rfl) ?_
        refine st (ex_mul (c := ((((wordsOf a).getD i 0) * ((wordsOf b).getD k 0) : Nat) : Int)) rfl rfl (mulN_u64 (a := (wordsOf a).getD i 0) (b := (wordsOf b).getD k 0) (by omega))) (leB rfl) ?_
        refine st (ex_move rfl) (leB rfl) ?_
        refine st (ex_move rfl) (leB rfl) ?_
        refine st (ex_move rfl) (leB rfl) ?_
        refine st (ex_add (c := ((i + k : Nat) : Int)) rfl rfl (addN_i64 (a := i) (b := k) (by omega))) (leB rfl) ?_
        refine st (v := (pP b6 (i + k))) (ex_indexAddr_slice (j := i + k) rfl rfl Tryz.underlying161 Tryz.sizeOf22 rfl (by omega) (by simp)) (leB rfl) ?_
        have hx3 : xs.getD (i + k) 0 < 4294967296 := W32.getD hw2 (i + k)
        refine st (ex_load_one (i := 0) (v := (vK .u32 (xs.getD (i + k) 0))) rfl rfl Tryz.isAgg22 (u32s_get (xs := xs) (j := (i + k)) (by omega))) (leB rfl) ?_
        refine st (ex_conv (c := ((xs.getD (i + k) 0 : Nat) : Int)) rfl Tryz.underlying22 Tryz.underlying28 (convN_u64 (by omega))) (leB rfl) ?_
        refine st (ex_add (c := (((((wordsOf a).getD i 0) * ((wordsOf b).getD k 0)) + (xs.getD (i + k) 0) : Nat) : Int)) rfl rfl (addN_u64 (a := ((wordsOf a).getD i 0) * ((wordsOf b).getD k 0)) (b := xs.getD (i + k) 0) (by omega))) (leB rfl) ?_
        refine st (ex_add (c := ((c + ((((wordsOf a).getD i 0) * ((wordsOf b).getD k 0)) + (xs.getD (i + k) 0)) : Nat) : Int)) rfl rfl (addN_u64 (a := c) (b := (((wordsOf a).getD i 0) * ((wordsOf b).getD k 0)) + (xs.getD (i + k) 0)) (by omega))) (leB rfl) ?_
        refine st (ex_assign rfl) (leB rfl) ?_
        refine q3 (sC 4 rfl (sC 8 rfl (sC 9 rfl (sC 53 rfl (sC 54 rfl (sC 55 rfl (sC 10 rfl (sC 11 rfl (sC 60 rfl (sC 61 rfl (sC 62 rfl (sC 12 rfl (sC 13 rfl (sN)))))))))))))) ?_
        refine st (ex_move rfl) (leB rfl) ?_
        refine st (ex_move rfl) (leB rfl) ?_
        refine st (ex_move rfl) (leB rfl) ?_
        refine st (ex_add (c := ((i + k : Nat) : Int)) rfl rfl (addN_i64 (a := i) (b := k) (by omega))) (leB rfl) ?_
        refine st (ex_move rfl) (leB rfl) ?_
        refine st (ex_conv (c := (((c + ((((wordsOf a).getD i 0) * ((wordsOf b).getD k 0)) + (xs.getD (i + k) 0))) % 4294967296 : Nat) : Int)) rfl Tryz.underlying28 Tryz.underlying22 modN_u32) (leB rfl) ?_
        refine st (v := (pP b6 (i + k))) (ex_indexAddr_slice (j := i + k) rfl rfl Tryz.underlying161 Tryz.sizeOf22 rfl (by omega) (by simp)) (leB rfl) ?_
        refine OkL.store' (i := 0) (off := (i + k)) (vs := [(vK .u32 ((c + ((((wordsOf a).getD i 0) * ((wordsOf b).getD k 0)) + (xs.getD (i + k) 0))) % 4294967296))]) (cs' := u32s (xs.set (i + k) ((c + ((((wordsOf a).getD i 0) * ((wordsOf b).getD k 0)) + (xs.getD (i + k) 0))) % 4294967296))) (L' := [blk b6 22 (u32s (xs.set (i + k) ((c + ((((wordsOf a).getD i 0) * ((wordsOf b).getD k 0)) + (xs.getD (i + k) 0))) % 4294967296))), blk b4 22 (u32s (padW a)), blk b5 22 (u32s (padW b)), blk b3 30 (natL 0), blk b2 30 (natL b), blk b1 30 (natL a)]) (wt_none rfl) rfl rfl rfl rfl rfl Tryz.sizeOf22 rfl (ble_row (u32s_length _) (by omega)) (u32s_set (by omega)) rfl ?_
        refine OkL.nil ?_
        refine OkQ.subF (sC 4 rfl (sC 8 rfl (sC 9 rfl (sC 53 rfl (sC 54 rfl (sC 55 rfl (sC 10 rfl (sC 11 rfl (sC 60 rfl (sC 61 rfl (sC 62 rfl (sC 12 rfl (sC 13 rfl (sN)))))))))))))) ?_
        refine OkQ.then_ ?_
        refine OkC.region ?_
        refine st (ex_move rfl) (leB rfl) ?_
        refine st (ex_shr (s := 32) (c := (((c + ((((wordsOf a).getD i 0) * ((wordsOf b).getD k 0)) + (xs.getD (i + k) 0))) / 4294967296 : Nat) : Int)) rfl rfl rfl (by decide) (shrN (a := c + ((((wordsOf a).getD i 0) * ((wordsOf b).getD k 0)) + (xs.getD (i + k) 0))) (s := 32))) (leB rfl) ?_
        refine st (ex_assign rfl) (leB rfl) ?_
        refine OkL.nil ?_
        refine OkQ.subF (sC 4 rfl (sC 8 rfl (sC 9 rfl (sC 53 rfl (sC 54 rfl (sC 55 rfl (sC 10 rfl (sC 11 rfl (sC 60 rfl (sC 61 rfl (sC 62 rfl (sC 12 rfl (sC 13 rfl (sN)))))))))))))) ?_
        refine OkQ.in_normal ?_
        refine OkQ.then_ ?_
        refine OkC.region ?_
        refine st (ex_add (c := ((k + 1 : Nat) : Int)) rfl rfl (addN_i64 (a := k) (b := 1) (by omega))) (leB rfl) ?_
        refine st (ex_move rfl) (leB rfl) ?_
        refine OkL.nil ?_
        refine OkQ.subF (sC 4 rfl (sC 8 rfl (sC 9 rfl (sC 53 rfl (sC 54 rfl (sC 55 rfl (sC 10 rfl (sC 11 rfl (sC 60 rfl (sC 61 rfl (sC 62 rfl (sC 12 rfl (sC 13 rfl (sN)))))))))))))) ?_
        exact OkQ.round3 (k + 1) (xs.set (i + k) ((c + ((wordsOf a).getD i 0 * (wordsOf b).getD k 0 + xs.getD (i + k) 0)) % 4294967296)) ((c + ((wordsOf a).getD i 0 * (wordsOf b).getD k 0 + xs.getD (i + k) 0)) / 4294967296) (⟨by omega, by rw [List.length_set]; exact hl2, W32.set hw2 (by omega) _, by omega, set_above h02 (by omega), mul_step hl2 (by omega) hv2⟩) (by omega) (sS rfl (sS rfl (sS rfl (sS rfl (sS rfl (sS rfl (sS rfl (sS rfl (sS rfl (sS rfl (sS rfl (sS rfl (sN))))))))))))) (List.Sublist.refl _)
      · replace hc2 := of_decide_eq_false hc2
        have hkn : k = nw b := by omega
        have hbb : val ((wordsOf b).take k) = b := val_words_take (by omega)
        rw [hbb] at hv2
        refine OkC.exit ?_
        refine OkQ.then_exit ?_
        refine OkQ.round3_exit ?_
        refine OkQ.in_exit ?_
        refine OkQ.then_ ?_
        refine OkC.region ?_
        refine st (ex_move rfl) (leB rfl) ?_
        refine st (ex_move rfl) (leB rfl) ?_
        refine st (ex_move rfl) (leB rfl) ?_
        refine st (v := (vN (nw b))) (ex_len_slice rfl Tryz.underlying161) (leB rfl) ?_
        refine st (ex_add (c := ((i + (nw b) : Nat) : Int)) rfl rfl (addN_i64 (a := i) (b := nw b) (by omega))) (leB rfl) ?_
        refine st (ex_move rfl) (leB rfl) ?_
        refine st (ex_conv (c := ((c : Nat) : Int)) rfl Tryz.underlying28 Tryz.underlying22 (convN_u32 (by omega))) (leB rfl) ?_
        refine st (v := (pP b6 (i + (nw b)))) (ex_indexAddr_slice (j := i + (nw b)) rfl rfl Tryz.underlying161 Tryz.sizeOf22 rfl (by omega) (by simp)) (leB rfl) ?_
        refine OkL.store' (i := 0) (off := (i + (nw b))) (vs := [(vK .u32 c)]) (cs' := u32s (xs.set (i + (nw b)) c)) (L' := [blk b6 22 (u32s (xs.set (i + (nw b)) c)), blk b4 22 (u32s (padW a)), blk b5 22 (u32s (padW b)), blk b3 30 (natL 0), blk b2 30 (natL b), blk b1 30 (natL a)]) (wt_none rfl) rfl rfl rfl rfl rfl Tryz.sizeOf22 rfl (ble_row (u32s_length _) (by omega)) (u32s_set (by omega)) rfl ?_
        refine OkL.nil ?_
        refine OkQ.subF (sC 4 rfl (sC 8 rfl (sC 9 rfl (sC 53 rfl (sC 54 rfl (sC 55 rfl (sC 10 rfl (sC 11 rfl (sC 60 rfl (sC 61 rfl (sC 62 rfl (sC 12 rfl (sN))))))))))))) ?_
        refine OkQ.in_normal ?_
        refine OkQ.then_ ?_
        refine OkC.region ?_
        refine st (ex_add (c := ((i + 1 : Nat) : Int)) rfl rfl (addN_i64 (a := i) (b := 1) (by omega))) (leB rfl) ?_
        refine st (ex_move rfl) (leB rfl) ?_
        refine OkL.nil ?_
        refine OkQ.subF (sC 4 rfl (sC 8 rfl (sC 9 rfl (sC 53 rfl (sC 54 rfl (sC 55 rfl (sC 10 rfl (sC 11 rfl (sC 60 rfl (sC 61 rfl (sC 62 rfl (sC 12 rfl (sN))))))))))))) ?_
        exact OkQ.round2 (i + 1) (xs.set (i + nw b) c) (⟨by omega, by rw [List.length_set]; exact hl2, W32.set hw2 hcc _, by rw [mul_out hl2 (by omega) (h02 _ (Nat.le_refl _)), ← mul_row, ← hv2, ← hkn]⟩) (by omega) (sS rfl (sS rfl (sS rfl (sS rfl (sS rfl (sS rfl (sN))))))) (List.Sublist.refl _)
    · replace hc1 := of_decide_eq_false hc1
      refine OkC.exit ?_
      refine OkQ.then_exit ?_
      refine OkQ.round2_exit ?_
      refine OkQ.in_exit ?_
      refine q2 ?_
      refine st (ex_move rfl) (leB rfl) ?_
      refine OkL.call (v := (aG (natL (val (os.take ((nw a) + (nw b))))))) (wt_none rfl) (op_call0 (args := [(Value.slice (some ⟨b6, 0, none⟩) ((nw a) + (nw b)) ((nw a) + (nw b)))]) rfl rfl Tryz.call120) (fun w hw => of_ok _ ((nw a) + (nw b)) ((nw a) + (nw b)) os hw32 (by first | omega | (rw [rowN_length]; omega) | simp | (simp; omega)) (by first | omega | simp | (simp; omega)) (by first | omega | simp | (simp; omega)) w (hw.get (i := 0) rfl)) rfl (leB rfl) ?_
      refine OkL.retell (k := 102) (u := (aG (natL (a * b)))) rfl (by rw [List.take_of_length_le (show os.length ≤ nw a + nw b by omega), hv, val_words_take (by omega)]) ?_
      refine OkL.store' (i := 3) (off := 0) (vs := natL (a * b)) (cs' := natL (a * b)) (L' := [blk b6 22 (u32s os), blk b4 22 (u32s (padW a)), blk b5 22 (u32s (padW b)), blk b3 30 (natL (a * b)), blk b2 30 (natL b), blk b1 30 (natL a)]) (wt_none rfl) rfl rfl rfl rfl rfl Tryz.sizeOf30 rfl rfl rfl rfl ?_
      refine OkL.nil ?_
      refine OkQ.subF (sC 4 rfl (sC 8 rfl (sC 9 rfl (sC 53 rfl (sC 54 rfl (sC 55 rfl (sN))))))) ?_
      refine OkQ.then_ ?_
      refine OkC.ret ?_
      exact ret_one rfl (rd_agg (i := 3) (cs := natL (a * b)) rfl rfl Tryz.isAgg30 Tryz.sizeOf30 rfl) (fun w hw => ⟨rfl, hw.out⟩)


end Go.Proofs.YtpkoldfmbebmgaaGreatDoor
