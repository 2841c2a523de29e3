import Derived.Test.YtgiacpkjnikjdaaGreatPart06
import Derived.Test.YtgiacpkjnikjdaaGreatPart11
namespace Go.Proofs.YtgiacpkjnikjdaaGreat
open Go Go.RowKit
set_option linter.unusedVariables false
set_option linter.unusedSimpArgs false
section
set_option maxRecDepth 100000
theorem Cmp_ok (a b : Nat) (ha : nw a ≤ 1099511627776) (hb : nw b ≤ 1099511627776) (w : World)  : Calls Tryz.prog 175 #[(aG (natL a)), (aG (natL b))] w (Gives w (vI (cmpZ a b))) := by
 refine calls_of (args := [(aG (natL a)), (aG (natL b))]) Tryz.func175 rfl rfl (leB rfl) (OkC.subF (sL [0, 1] rfl) (q4 (bx' (cs := natL a) rfl fun b1 => bx' (cs := natL b) rfl fun b2 => asg' rfl ?_)))
 refine q6 (sL [2, 3, 4] rfl) (q4 (st' (v := (pP b1 1)) (ex_fieldAddr rfl Tryz.underlying75 rfl Tryz.sizeOf9 rfl) rfl (ldO' 1 (Value.string (bigB a)) tO9 rfl (st' (ex_eql_string (c := (decide (a < 18446744073709551616))) rfl rfl bigB_empty) rfl (mv' rfl ?_)))))
 refine OkL.mid (FM := [(2, (pP b1 0)), (3, (pP b2 0)), (4, (vI 0)), (5, (pP b1 1)), (6, (Value.string (bigB a))), (7, (Value.bool (decide (a < 18446744073709551616)))), (8, (Value.bool (decide (a < 18446744073709551616)))), (12, (Value.bool ((decide (a < 18446744073709551616)) && (decide (b < 18446744073709551616)))))]) (LM := [blk b2 75 (natL b), blk b1 75 (natL a)]) 4 ?_ ?_
 ·rcases Bool.eq_false_or_eq_true (decide (a < 18446744073709551616)) with hg1 | hg1
  ·skip
   refine OkL.retell (k := 8) (u := Value.bool true) rfl (by rw [hg1]) ?_
   have hg1' := hg1
   replace hg1' := of_decide_eq_true hg1'
   exact OkL.step (v := (pP b2 1)) (wt_some' rfl) (ex_fieldAddr rfl Tryz.underlying75 rfl Tryz.sizeOf9 rfl) rfl (leB rfl) (OkL.step (v := (Value.string (bigB b))) (wt_some' rfl) (ex_load_one (i := 0) (v := (Value.string (bigB b))) rfl rfl tO9.a rfl) rfl (leB rfl) (OkL.step (v := (Value.bool (decide (b < 18446744073709551616)))) (wt_some' rfl) (ex_eql_string (c := (decide (b < 18446744073709551616))) rfl rfl bigB_empty) rfl (leB rfl) (st' (v := (Value.bool (decide (b < 18446744073709551616)))) (ex_pick_true rfl rfl) rfl (OkL.nil (OkQ.mid (sS rfl (sS rfl (sS rfl (sS rfl (sS rfl (sS rfl (sS (by first | rfl | (rw [hg1]; rfl) | rw [hg1]) (sS (by first | rfl | (rw [hg1]; rfl) | rw [hg1]) (sN))))))))) (List.Sublist.refl _))))))
  ·skip
   refine OkL.retell (k := 8) (u := Value.bool false) rfl (by rw [hg1]) ?_
   have hg1' := hg1
   replace hg1' := of_decide_eq_false hg1'
   exact OkL.skip (wt_not' rfl) rfl (leB rfl) (OkL.skip (wt_not' rfl) rfl (leB rfl) (OkL.skip (wt_not' rfl) rfl (leB rfl) (st' (v := (Value.bool false)) (ex_pick_false rfl rfl) rfl (OkL.nil (OkQ.mid (sS rfl (sS rfl (sS rfl (sS rfl (sS rfl (sS rfl (sS (by first | rfl | (rw [hg1]; rfl) | rw [hg1]) (sS (by first | rfl | (rw [hg1]; rfl) | rw [hg1]) (sN))))))))) (List.Sublist.refl _))))))
 refine OkL.nil (OkQ.subF (sL [2, 3, 4, 12] rfl) (OkQ.then_ ?_))
 refine OkC.jn0 (tg True) (tg [(2, (pP b1 0)), (3, (pP b2 0))]) (tg [blk b2 75 (natL b), blk b1 75 (natL a)]) ?_ ?_
 ·skip
  refine OkC.cond rfl (fun hc0 => ?_) (fun hc0 => ?_)
  ·simp only [Bool.and_eq_true, Bool.or_eq_true, Bool.and_eq_false_iff, Bool.or_eq_false_iff, Bool.not_eq_true', Bool.not_eq_false', decide_eq_true_eq, decide_eq_false_iff_not] at hc0
   refine OkC.seq (OkC.block (q4 (st' (v := (pP b1 0)) (ex_fieldAddr rfl Tryz.underlying75 rfl Tryz.sizeOf73 rfl) rfl (ldO' 1 (vK .u64 (lowN a)) tO73 rfl (OkL.retell (k := 15) (u := (vK .u64 a)) rfl (by rw [lowN_small hc0.1]) ?_)))))
   refine st' (v := (pP b2 0)) (ex_fieldAddr rfl Tryz.underlying75 rfl Tryz.sizeOf73 rfl) rfl (ldO' 0 (vK .u64 (lowN b)) tO73 rfl (OkL.retell (k := 17) (u := (vK .u64 b)) rfl (by rw [lowN_small hc0.2]) (st' (ex_lss (c := (decide (a < b))) rfl rfl (ltN (a := a) (b := b))) rfl (asg' rfl (OkL.nil ?_)))))
   refine OkQ.subF (sL [2, 3, 4, 13] rfl) (OkQ.then_ ?_)
   refine OkC.cond rfl (fun hc1 => ?_) (fun hc1 => ?_)
   ·replace hc1 := of_decide_eq_true hc1
    have hz : cmpZ a b = -1 := if_pos hc1
    refine q4 (asg' rfl (OkL.nil (OkQ.then_ (OkC.ret (OkQ.in_ret ?_)))))
    exact OkQ.then_ret (OkQ.join0_ret (OkQ.then_ret (ret_one rfl (rd_tmp (v := (vI (-1 : Int))) rfl) (fun w hw => ⟨by rw [hz], hw.out⟩))))
   ·replace hc1 := of_decide_eq_false hc1
    refine q4 (st' (v := (pP b1 0)) (ex_fieldAddr rfl Tryz.underlying75 rfl Tryz.sizeOf73 rfl) rfl (ldO' 1 (vK .u64 (lowN a)) tO73 rfl (OkL.retell (k := 21) (u := (vK .u64 a)) rfl (by rw [lowN_small hc0.1]) (st' (v := (pP b2 0)) (ex_fieldAddr rfl Tryz.underlying75 rfl Tryz.sizeOf73 rfl) rfl (ldO' 0 (vK .u64 (lowN b)) tO73 rfl ?_)))))
    refine OkL.retell (k := 23) (u := (vK .u64 b)) rfl (by rw [lowN_small hc0.2]) (st' (ex_gtr (c := (decide (b < a))) rfl rfl (ltN (a := b) (b := a))) rfl (asg' rfl (OkL.nil (OkQ.subF (sL [2, 3, 4, 19] rfl) (OkQ.then_ ?_)))))
    refine OkC.cond rfl (fun hc2 => ?_) (fun hc2 => ?_)
    ·replace hc2 := of_decide_eq_true hc2
     have hz : cmpZ a b = 1 := by unfold cmpZ; rw [if_neg (by omega), if_neg (by omega)]
     refine q4 (asg' rfl (OkL.nil (OkQ.then_ (OkC.ret (OkQ.in_ret ?_)))))
     exact OkQ.then_ret (OkQ.join0_ret (OkQ.then_ret (ret_one rfl (rd_tmp (v := (vI 1)) rfl) (fun w hw => ⟨by rw [hz], hw.out⟩))))
    ·replace hc2 := of_decide_eq_false hc2
     have hz : cmpZ a b = 0 := cmpZ_eq.2 (by omega)
     refine OkC.skip (OkQ.in_normal (q2 (asg' rfl (OkL.nil (OkQ.then_ ?_)))))
     exact OkC.ret (OkQ.join0_ret (OkQ.then_ret (ret_one rfl (rd_tmp (v := (vI 0)) rfl) (fun w hw => ⟨by rw [hz], hw.out⟩))))
  ·simp only [Bool.and_eq_true, Bool.or_eq_true, Bool.and_eq_false_iff, Bool.or_eq_false_iff, Bool.not_eq_true', Bool.not_eq_false', decide_eq_true_eq, decide_eq_false_iff_not] at hc0
   exact OkC.skip (OkQ.join0  (trivial) (sF rfl) sr)
 ·intro hJ
  refine q1 (rG' [(0, true), (2, true), (1, false), (3, false), (4, false), (5, true)] sr (pW' 1 tA75 rfl (pW' 0 tA75 rfl (OkE.imp rfl (OkL.callB (V := fun b3 => (Value.slice (some ⟨b3, 0, none⟩) (nw a) ((padW a).length))) (T := 105) (cs := u32s (padW a)) (wt_none rfl) (op_call0 (args := [(aG (natL a))]) rfl rfl Tryz.call144) (fun w hw => words_ok a (by omega) w) rfl (leB rfl) fun b3 => ?_)))))
  refine OkE.back (sl sr) (OkE.imp rfl (OkL.callB (V := fun b4 => (Value.slice (some ⟨b4, 0, none⟩) (nw b) ((padW b).length))) (T := 105) (cs := u32s (padW b)) (wt_none rfl) (op_call0 (args := [(aG (natL b))]) rfl rfl Tryz.call144) (fun w hw => words_ok b (by omega) w) rfl (leB rfl) fun b4 => OkE.back (sl (sl sr)) (OkE.imp rfl (cl' Tryz.call203 (fun w hw => cmp_ok a b _ _ _ _ (by omega) (by omega) w (hw.get (i := 1) rfl) (hw.get (i := 0) rfl)) rfl ?_))))
  exact OkE.back (sl (sl sr)) (pS' rfl (OkE.nil (OkQ.subF (sL [2, 3, 4] rfl) (OkQ.then_ (OkC.ret (ret_one rfl (rd_tmp (v := (vI (cmpZ a b))) rfl) (fun w hw => ⟨rfl, hw.out⟩)))))))
theorem Add_ok (a b : Nat) (ha : nw a ≤ 1099511627776) (hb : nw b ≤ 1099511627776) (w : World)  : Calls Tryz.prog 145 #[(aG (natL a)), (aG (natL b))] w (Gives w (aG (natL (a + b)))) := by
 have hla := nw_le_pad a
 have hlb := nw_le_pad b
 refine calls_of (args := [(aG (natL a)), (aG (natL b))]) Tryz.func145 rfl rfl (leB rfl) (OkC.subF (sL [0, 1] rfl) (q4 (bx' (cs := natL a) rfl fun b1 => bx' (cs := natL b) rfl fun b2 => al tZ75 rfl fun b3 => ?_)))
 refine q6 (sL [2, 3, 4] rfl) (q4 (st' (v := (pP b1 1)) (ex_fieldAddr rfl Tryz.underlying75 rfl Tryz.sizeOf9 rfl) rfl (ldO' 2 (Value.string (bigB a)) tO9 rfl (st' (ex_eql_string (c := (decide (a < 18446744073709551616))) rfl rfl bigB_empty) rfl (mv' rfl ?_)))))
 refine OkL.mid (FM := [(2, (pP b1 0)), (3, (pP b2 0)), (4, (pP b3 0)), (13, (pP b1 1)), (14, (Value.string (bigB a))), (15, (Value.bool (decide (a < 18446744073709551616)))), (16, (Value.bool (decide (a < 18446744073709551616)))), (20, (Value.bool ((decide (a < 18446744073709551616)) && (decide (b < 18446744073709551616)))))]) (LM := [blk b3 75 (natL 0), blk b2 75 (natL b), blk b1 75 (natL a)]) 4 ?_ ?_
 ·rcases Bool.eq_false_or_eq_true (decide (a < 18446744073709551616)) with hg1 | hg1
  ·skip
   refine OkL.retell (k := 16) (u := Value.bool true) rfl (by rw [hg1]) ?_
   have hg1' := hg1
   replace hg1' := of_decide_eq_true hg1'
   exact OkL.step (v := (pP b2 1)) (wt_some' rfl) (ex_fieldAddr rfl Tryz.underlying75 rfl Tryz.sizeOf9 rfl) rfl (leB rfl) (OkL.step (v := (Value.string (bigB b))) (wt_some' rfl) (ex_load_one (i := 1) (v := (Value.string (bigB b))) rfl rfl tO9.a rfl) rfl (leB rfl) (OkL.step (v := (Value.bool (decide (b < 18446744073709551616)))) (wt_some' rfl) (ex_eql_string (c := (decide (b < 18446744073709551616))) rfl rfl bigB_empty) rfl (leB rfl) (st' (v := (Value.bool (decide (b < 18446744073709551616)))) (ex_pick_true rfl rfl) rfl (OkL.nil (OkQ.mid (sS rfl (sS rfl (sS rfl (sS rfl (sS rfl (sS rfl (sS (by first | rfl | (rw [hg1]; rfl) | rw [hg1]) (sS (by first | rfl | (rw [hg1]; rfl) | rw [hg1]) (sN))))))))) (List.Sublist.refl _))))))
  ·skip
   refine OkL.retell (k := 16) (u := Value.bool false) rfl (by rw [hg1]) ?_
   have hg1' := hg1
   replace hg1' := of_decide_eq_false hg1'
   exact OkL.skip (wt_not' rfl) rfl (leB rfl) (OkL.skip (wt_not' rfl) rfl (leB rfl) (OkL.skip (wt_not' rfl) rfl (leB rfl) (st' (v := (Value.bool false)) (ex_pick_false rfl rfl) rfl (OkL.nil (OkQ.mid (sS rfl (sS rfl (sS rfl (sS rfl (sS rfl (sS rfl (sS (by first | rfl | (rw [hg1]; rfl) | rw [hg1]) (sS (by first | rfl | (rw [hg1]; rfl) | rw [hg1]) (sN))))))))) (List.Sublist.refl _))))))
 refine OkL.nil (OkQ.subF (sL [2, 3, 4, 20] rfl) (OkQ.then_ ?_))
 refine OkC.jn0 (tg True) (tg [(2, (pP b1 0)), (3, (pP b2 0)), (4, (pP b3 0))]) (tg [blk b3 75 (natL 0), blk b2 75 (natL b), blk b1 75 (natL a)]) ?_ ?_
 ·skip
  refine OkC.cond rfl (fun hc0 => ?_) (fun hc0 => ?_)
  ·simp only [Bool.and_eq_true, Bool.or_eq_true, Bool.and_eq_false_iff, Bool.or_eq_false_iff, Bool.not_eq_true', Bool.not_eq_false', decide_eq_true_eq, decide_eq_false_iff_not] at hc0
   refine q4 (st' (v := (pP b1 0)) (ex_fieldAddr rfl Tryz.underlying75 rfl Tryz.sizeOf73 rfl) rfl (ldO' 2 (vK .u64 (lowN a)) tO73 rfl (OkL.retell (k := 23) (u := (vK .u64 a)) rfl (by rw [lowN_small hc0.1]) (st' (v := (pP b2 0)) (ex_fieldAddr rfl Tryz.underlying75 rfl Tryz.sizeOf73 rfl) rfl (ldO' 1 (vK .u64 (lowN b)) tO73 rfl ?_)))))
   refine OkL.retell (k := 25) (u := (vK .u64 b)) rfl (by rw [lowN_small hc0.2]) (st' (v := (Value.tuple #[(vK .u64 ((a + b + 0) % 18446744073709551616)), (vK .u64 ((a + b + 0) / 18446744073709551616))])) (ex_extern (args := [(vK .u64 a), (vK .u64 b), (Value.int .u64 (0 : Int))]) rfl rfl (fun w => run_Add64 Tryz.func181 (by kernel_rfl) (by kernel_rfl) (by kernel_rfl) (by kernel_rfl) a b 0 (by omega) w)) rfl (mv' rfl (st' (ex_extract (v := (vK .u64 ((a + b + 0) % 18446744073709551616))) rfl rfl) rfl (st' (ex_extract (v := (vK .u64 ((a + b + 0) / 18446744073709551616))) rfl rfl) rfl (asg' rfl ?_)))))
   refine asg' rfl (q3 (sL [2, 3, 4, 5, 6] rfl) (mv' rfl (st' (ex_eql (c := (decide (((a + b + 0) / 18446744073709551616) = 0))) rfl rfl (eqN (a := (a + b + 0) / 18446744073709551616) (b := 0))) rfl (OkL.nil (OkQ.subF (sL [2, 3, 4, 5, 30] rfl) ?_)))))
   refine OkQ.then_ ?_
   refine OkC.cond rfl (fun hc1 => ?_) (fun hc1 => ?_)
   ·replace hc1 := of_decide_eq_true hc1
    refine q4 (mv' rfl (st' (v := (aG ([(vK .u64 ((a + b + 0) % 18446744073709551616)), (Value.string (bigB 0))]))) (ex_build_struct (zs := natL 0) (vs := [(vK .u64 ((a + b + 0) % 18446744073709551616)), (Value.string (bigB 0))]) (pv := [(0, (vK .u64 ((a + b + 0) % 18446744073709551616)))]) (places := [(0, 1), (1, 1)]) Tryz.zeroValue75 Tryz.underlying75 (fun w => by simp [Tryz.sizeOf9, Tryz.sizeOf73]) rfl rfl) rfl (OkL.retell (k := 32) (u := (aG (natL (a + b)))) rfl (by rw [natL_small (by omega), show (a + b + 0) % 18446744073709551616 = a + b by omega]; rfl) (stW0' rfl Tryz.sizeOf75 rfl (OkL.nil ?_)))))
    exact OkQ.subF (sL [2, 3, 4] rfl) (OkQ.then_ (OkC.ret (OkQ.join0_ret (OkQ.then_ret (ret_one rfl (rd_agg (i := 0) (cs := natL (a + b)) rfl rfl Tryz.isAgg75 Tryz.sizeOf75 rfl) (fun w hw => ⟨rfl, hw.out⟩))))))
   ·replace hc1 := of_decide_eq_false hc1
    exact OkC.skip (OkQ.join0  (trivial) (sF rfl) sr)
  ·simp only [Bool.and_eq_true, Bool.or_eq_true, Bool.and_eq_false_iff, Bool.or_eq_false_iff, Bool.not_eq_true', Bool.not_eq_false', decide_eq_true_eq, decide_eq_false_iff_not] at hc0
   exact OkC.skip (OkQ.join0  (trivial) (sF rfl) sr)
 ·intro hJ
  refine q1 (rG' [(0, true), (2, true), (1, false), (3, false), (4, true), (5, true)] sr (pW' 2 tA75 rfl (pW' 1 tA75 rfl (OkE.imp rfl (OkL.callB (V := fun b4 => (Value.slice (some ⟨b4, 0, none⟩) (nw a) ((padW a).length))) (T := 105) (cs := u32s (padW a)) (wt_none rfl) (op_call0 (args := [(aG (natL a))]) rfl rfl Tryz.call144) (fun w hw => words_ok a (by omega) w) rfl (leB rfl) fun b4 => ?_)))))
  refine OkE.back (sl sr) (OkE.imp rfl (OkL.callB (V := fun b5 => (Value.slice (some ⟨b5, 0, none⟩) (nw b) ((padW b).length))) (T := 105) (cs := u32s (padW b)) (wt_none rfl) (op_call0 (args := [(aG (natL b))]) rfl rfl Tryz.call144) (fun w hw => words_ok b (by omega) w) rfl (leB rfl) fun b5 => OkE.back (sl (sl sr)) (pS' rfl (pS' rfl ?_))))
  refine OkE.nil (OkQ.subF (sL [2, 3, 4, 7, 8] rfl) (q1 (q4 (mv' rfl (st' (v := (vN (nw a))) (ex_len_slice rfl Tryz.underlying226) rfl ?_)))))
  refine mv' rfl (st' (v := (vN (nw b))) (ex_len_slice rfl Tryz.underlying226) rfl (st' (ex_lss (c := (decide ((nw a) < (nw b)))) rfl rfl (ltN (a := nw a) (b := nw b))) rfl (OkL.nil (OkQ.subF (sL [2, 3, 4, 7, 8, 41] rfl) (OkQ.then_ ?_)))))
  refine OkC.cond rfl (fun hc2 => ?_) (fun hc2 => ?_)
  ·replace hc2 := of_decide_eq_true hc2
   refine OkC.region (mv' rfl (mv' rfl (asg' rfl (asg' rfl (q3 (sL [2, 3, 4, 7, 8] rfl) ?_)))))
   refine mv' rfl (st' (v := (vN (nw b))) (ex_len_slice rfl Tryz.underlying226) rfl (st' (ex_add (c := (((nw b) + 1 : Nat) : Int)) rfl rfl (addN_i64 (a := nw b) (b := 1) (by omega))) rfl (OkL.openV (V := fun b6 => (Value.slice (some ⟨b6, 0, none⟩) ((nw b) + 1) ((nw b) + 1))) (T := 105) (cs := u32s (List.replicate ((nw b) + 1) 0)) (wt_none rfl) (op_make_u32 (m := (nw b) + 1) (c := (nw b) + 1) rfl rfl (by omega) (by omega)) rfl (leB rfl) fun b6 => asg' rfl (q3 (sL [2, 3, 4, 7, 8, 9] rfl) ?_))))
   refine mv' rfl (mv' rfl (OkL.copy_u32 (i := 0) (j := 1) (ns := u32s (wordsOf b)) (cs' := u32s (wordsOf b ++ (List.replicate (nw b + 1) 0).drop (wordsOf b).length)) (L' := [blk b6 105 (u32s (wordsOf b ++ (List.replicate (nw b + 1) 0).drop (wordsOf b).length)), blk b5 105 (u32s (padW b)), blk b4 105 (u32s (padW a)), blk b3 75 (natL 0), blk b2 75 (natL b), blk b1 75 (natL a)]) rfl (wt_none rfl) rfl rfl rfl rfl (by rw [u32s_take, pad_take]) (u32s_length _) (u32s_all _) (by omega) (by rw [u32s_length]; simp; try omega) (u32s_lay _ _) rfl (leB rfl) (q3 (sL [2, 3, 4, 7, 8, 9] rfl) (asg' rfl (OkL.nil ?_)))))
   refine q1 (q4 (mv' rfl (st' (v := (vN ((nw b) + 1))) (ex_len_slice rfl Tryz.underlying226) rfl (mv' rfl (OkL.nil ?_)))))
   refine OkQ.subF (sL [2, 3, 4, 7, 8, 9, 10, 52, 53] rfl) (OkQ.then_ (OkC.block ?_))
   refine OkC.lp3 (tg fun (i : Nat) (os : List Nat) (c : Nat) => i ≤ nw b + 1 ∧ os.length = nw b + 1 ∧ W32 os ∧ c ≤ 1 ∧ val os + c * 4294967296 ^ i = b + val ((wordsOf a).take i)) (tg fun (i : Nat) (os : List Nat) (c : Nat) => [(4, (pP b3 0)), (8, (Value.slice (some ⟨b4, 0, none⟩) (nw a) ((padW a).length))), (9, (Value.slice (some ⟨b6, 0, none⟩) ((nw b) + 1) ((nw b) + 1))), (52, (vN ((nw b) + 1))), (53, (vN i)), (10, (vK .u32 c))]) (tg fun (i : Nat) (os : List Nat) (c : Nat) => [blk b6 105 (u32s os), blk b5 105 (u32s (padW b)), blk b4 105 (u32s (padW a)), blk b3 75 (natL 0), blk b2 75 (natL b), blk b1 75 (natL a)]) (tg fun (i : Nat) (os : List Nat) (c : Nat) => nw b + 1 - i) 0 (wordsOf b ++ (List.replicate (nw b + 1) 0).drop (wordsOf b).length) 0 (⟨Nat.zero_le _, (copy_row b 1).1, (copy_row b 1).2.1, by omega, by rw [(copy_row b 1).2.2]; simp [val]⟩) (sF rfl) sr (fun i os c hJ => ?_)
   obtain ⟨hi, hl, hw32, hcc, hv⟩ := hJ
   refine q4 (st' (ex_lss (c := (decide (i < ((nw b) + 1)))) rfl rfl (ltN (a := i) (b := (nw b) + 1))) rfl (OkL.nil (q1 ?_)))
   refine OkC.cond rfl (fun hc3 => ?_) (fun hc3 => ?_)
   ·replace hc3 := of_decide_eq_true hc3
    refine OkC.skip (q1 (OkC.block (q4 (mv' rfl (asg' rfl ?_)))))
    refine q3 (sL [4, 8, 9, 52, 53, 10, 11] rfl) (asg' rfl (OkL.nil (q1 (q4 (mv' rfl ?_)))))
    refine mv' rfl (st' (v := (vN (nw a))) (ex_len_slice rfl Tryz.underlying226) rfl (st' (ex_lss (c := (decide (i < (nw a)))) rfl rfl (ltN (a := i) (b := nw a))) rfl (OkL.nil (OkQ.subF (sL [4, 8, 9, 52, 53, 10, 11, 12, 59] rfl) (OkQ.then_ ?_)))))
    refine OkC.jn0 (tg True) (tg [(4, (pP b3 0)), (8, (Value.slice (some ⟨b4, 0, none⟩) (nw a) ((padW a).length))), (9, (Value.slice (some ⟨b6, 0, none⟩) ((nw b) + 1) ((nw b) + 1))), (52, (vN ((nw b) + 1))), (53, (vN i)), (10, (vK .u32 c)), (11, (vN i)), (12, (vK .u32 ((wordsOf a).getD i 0)))]) (tg [blk b6 105 (u32s os), blk b5 105 (u32s (padW b)), blk b4 105 (u32s (padW a)), blk b3 75 (natL 0), blk b2 75 (natL b), blk b1 75 (natL a)]) ?_ ?_
    ·skip
     refine OkC.cond rfl (fun hc4 => ?_) (fun hc4 => ?_)
     ·replace hc4 := of_decide_eq_true hc4
      refine OkC.region (mv' rfl (mv' rfl (st' (v := (pP b4 i)) (ex_indexAddr_slice (j := i) rfl rfl Tryz.underlying226 Tryz.sizeOf105 rfl (by omega) (by simp)) rfl ?_)))
      have hx1 : (padW a).getD i 0 < 4294967296 := W32.getD (padW_w32 a) i
      exact st' (ex_load_one (i := 2) (v := (vK .u32 ((padW a).getD i 0))) rfl rfl Tryz.isAgg105 (u32s_get (xs := padW a) (j := i) (by omega))) rfl (OkL.retell (k := 63) (u := (vK .u32 ((wordsOf a).getD i 0))) rfl (by rw [pad_getD hc4]) (asg' rfl (OkL.nil (OkQ.subF (sL [4, 8, 9, 52, 53, 10, 11, 12] rfl) (OkQ.join0  (trivial) (sF rfl) sr)))))
     ·replace hc4 := of_decide_eq_false hc4
      exact OkC.skip (OkQ.retell (k := 12) (u := Value.int .u32 (((wordsOf a).getD i 0 : Nat) : Int)) rfl (by rw [words_getD_zero hc4]; rfl) (OkQ.join0  (trivial) (sF rfl) sr))
    ·intro hJ
     refine OkQ.then_ (OkC.region (mv' rfl (mv' rfl (mv' rfl (mv' rfl ?_)))))
     refine st' (v := (pP b6 i)) (ex_indexAddr_slice (j := i) rfl rfl Tryz.underlying226 Tryz.sizeOf105 rfl (by omega) (by simp)) rfl ?_
     have hx2 : os.getD i 0 < 4294967296 := W32.getD hw32 i
     refine st' (ex_load_one (i := 0) (v := (vK .u32 (os.getD i 0))) rfl rfl Tryz.isAgg105 (u32s_get (xs := os) (j := i) (by omega))) rfl (mv' rfl (mv' rfl ?_))
     have hya := (words_w32 a).getD i
     have hyb := (words_w32 b).getD i
     refine ck' Tryz.call182 (add32_ok (os.getD i 0) ((wordsOf a).getD i 0) c (by omega) (by omega) (by omega)) rfl (mv' rfl (st' (ex_extract (v := (vK .u32 (((os.getD i 0) + ((wordsOf a).getD i 0) + c) % 4294967296))) rfl rfl) rfl (st' (ex_extract (v := (vK .u32 (((os.getD i 0) + ((wordsOf a).getD i 0) + c) / 4294967296))) rfl rfl) rfl (st' (v := (pP b6 i)) (ex_indexAddr_slice (j := i) rfl rfl Tryz.underlying226 Tryz.sizeOf105 rfl (by omega) (by simp)) rfl (OkL.store' (i := 0) (off := i) (vs := [(vK .u32 (((os.getD i 0) + ((wordsOf a).getD i 0) + c) % 4294967296))]) (cs' := u32s (os.set i (((os.getD i 0) + ((wordsOf a).getD i 0) + c) % 4294967296))) (L' := [blk b6 105 (u32s (os.set i (((os.getD i 0) + ((wordsOf a).getD i 0) + c) % 4294967296))), blk b5 105 (u32s (padW b)), blk b4 105 (u32s (padW a)), blk b3 75 (natL 0), blk b2 75 (natL b), blk b1 75 (natL a)]) (wt_none rfl) rfl rfl rfl rfl rfl Tryz.sizeOf105 rfl (ble_row (u32s_length _) (by omega)) (u32s_set (by omega)) rfl ?_)))))
     refine asg' rfl (OkL.nil (OkQ.subF (sL [4, 8, 9, 52, 53, 10, 11, 12] rfl) (OkQ.in_normal (OkQ.then_ (OkC.region ?_)))))
     exact st' (ex_add (c := ((i + 1 : Nat) : Int)) rfl rfl (addN_i64 (a := i) (b := 1) (by omega))) rfl (mv' rfl (OkL.nil (OkQ.subF (sL [4, 8, 9, 52, 53, 10, 11, 12] rfl) (OkQ.round3 (i + 1) (os.set i ((os.getD i 0 + (wordsOf a).getD i 0 + c) % 4294967296)) ((os.getD i 0 + (wordsOf a).getD i 0 + c) / 4294967296) (⟨by omega, by rw [List.length_set]; exact hl, W32.set hw32 (by omega) i, by omega, add_step hl hc3 hv⟩) (by omega) (sF rfl) sr))))
   ·replace hc3 := of_decide_eq_false hc3
    refine OkC.exit (OkQ.then_exit (OkQ.round3_exit (OkQ.in_exit (q2 (mv' rfl ?_)))))
    refine cl' Tryz.call143 (fun w hw => of_ok _ ((nw b) + 1) ((nw b) + 1) os hw32 (by first | omega | (rw [rowN_length]; omega) | simp | (simp; omega)) (by first | omega | simp | (simp; omega)) (by first | omega | simp | (simp; omega)) w (hw.get (i := 0) rfl)) rfl (OkL.retell (k := 79) (u := (aG (natL (a + b)))) rfl (by rw [List.take_of_length_le (show os.length ≤ nw b + 1 by omega), add_done (X := b) (Y := a) (c := c) (i := i) hl hw32 (by omega) (sum_lt (by omega)) (by rw [hv, val_words_take (by omega)]), Nat.add_comm]) (stW3' rfl Tryz.sizeOf75 rfl (OkL.nil (OkQ.subF (sL [4, 8, 9, 52, 53, 10] rfl) (OkQ.then_ ?_)))))
    exact OkC.ret (ret_one rfl (rd_agg (i := 3) (cs := natL (a + b)) rfl rfl Tryz.isAgg75 Tryz.sizeOf75 rfl) (fun w hw => ⟨rfl, hw.out⟩))
  ·replace hc2 := of_decide_eq_false hc2
   refine OkC.skip (q2 (mv' rfl (st' (v := (vN (nw a))) (ex_len_slice rfl Tryz.underlying226) rfl (st' (ex_add (c := (((nw a) + 1 : Nat) : Int)) rfl rfl (addN_i64 (a := nw a) (b := 1) (by omega))) rfl (OkL.openV (V := fun b6 => (Value.slice (some ⟨b6, 0, none⟩) ((nw a) + 1) ((nw a) + 1))) (T := 105) (cs := u32s (List.replicate ((nw a) + 1) 0)) (wt_none rfl) (op_make_u32 (m := (nw a) + 1) (c := (nw a) + 1) rfl rfl (by omega) (by omega)) rfl (leB rfl) fun b6 => ?_)))))
   refine asg' rfl (q3 (sL [2, 3, 4, 7, 8, 9] rfl) (mv' rfl (mv' rfl (OkL.copy_u32 (i := 0) (j := 2) (ns := u32s (wordsOf a)) (cs' := u32s (wordsOf a ++ (List.replicate (nw a + 1) 0).drop (wordsOf a).length)) (L' := [blk b6 105 (u32s (wordsOf a ++ (List.replicate (nw a + 1) 0).drop (wordsOf a).length)), blk b5 105 (u32s (padW b)), blk b4 105 (u32s (padW a)), blk b3 75 (natL 0), blk b2 75 (natL b), blk b1 75 (natL a)]) rfl (wt_none rfl) rfl rfl rfl rfl (by rw [u32s_take, pad_take]) (u32s_length _) (u32s_all _) (by omega) (by rw [u32s_length]; simp; try omega) (u32s_lay _ _) rfl (leB rfl) (q3 (sL [2, 3, 4, 7, 8, 9] rfl) ?_)))))
   refine asg' rfl (OkL.nil (q1 (q4 (mv' rfl (st' (v := (vN ((nw a) + 1))) (ex_len_slice rfl Tryz.underlying226) rfl ?_)))))
   refine mv' rfl (OkL.nil (OkQ.subF (sL [2, 3, 4, 7, 8, 9, 10, 52, 53] rfl) (OkQ.then_ (OkC.block ?_))))
   refine OkC.lp3 (tg fun (i : Nat) (os : List Nat) (c : Nat) => i ≤ nw a + 1 ∧ os.length = nw a + 1 ∧ W32 os ∧ c ≤ 1 ∧ val os + c * 4294967296 ^ i = a + val ((wordsOf b).take i)) (tg fun (i : Nat) (os : List Nat) (c : Nat) => [(4, (pP b3 0)), (8, (Value.slice (some ⟨b5, 0, none⟩) (nw b) ((padW b).length))), (9, (Value.slice (some ⟨b6, 0, none⟩) ((nw a) + 1) ((nw a) + 1))), (52, (vN ((nw a) + 1))), (53, (vN i)), (10, (vK .u32 c))]) (tg fun (i : Nat) (os : List Nat) (c : Nat) => [blk b6 105 (u32s os), blk b5 105 (u32s (padW b)), blk b4 105 (u32s (padW a)), blk b3 75 (natL 0), blk b2 75 (natL b), blk b1 75 (natL a)]) (tg fun (i : Nat) (os : List Nat) (c : Nat) => nw a + 1 - i) 0 (wordsOf a ++ (List.replicate (nw a + 1) 0).drop (wordsOf a).length) 0 (⟨Nat.zero_le _, (copy_row a 1).1, (copy_row a 1).2.1, by omega, by rw [(copy_row a 1).2.2]; simp [val]⟩) (sF rfl) sr (fun i os c hJ => ?_)
   obtain ⟨hi, hl, hw32, hcc, hv⟩ := hJ
   refine q4 (st' (ex_lss (c := (decide (i < ((nw a) + 1)))) rfl rfl (ltN (a := i) (b := (nw a) + 1))) rfl (OkL.nil (q1 ?_)))
   refine OkC.cond rfl (fun hc3 => ?_) (fun hc3 => ?_)
   ·replace hc3 := of_decide_eq_true hc3
    refine OkC.skip (q1 (OkC.block (q4 (mv' rfl (asg' rfl ?_)))))
    refine q3 (sL [4, 8, 9, 52, 53, 10, 11] rfl) (asg' rfl (OkL.nil (q1 (q4 (mv' rfl ?_)))))
    refine mv' rfl (st' (v := (vN (nw b))) (ex_len_slice rfl Tryz.underlying226) rfl (st' (ex_lss (c := (decide (i < (nw b)))) rfl rfl (ltN (a := i) (b := nw b))) rfl (OkL.nil (OkQ.subF (sL [4, 8, 9, 52, 53, 10, 11, 12, 59] rfl) (OkQ.then_ ?_)))))
    refine OkC.jn0 (tg True) (tg [(4, (pP b3 0)), (8, (Value.slice (some ⟨b5, 0, none⟩) (nw b) ((padW b).length))), (9, (Value.slice (some ⟨b6, 0, none⟩) ((nw a) + 1) ((nw a) + 1))), (52, (vN ((nw a) + 1))), (53, (vN i)), (10, (vK .u32 c)), (11, (vN i)), (12, (vK .u32 ((wordsOf b).getD i 0)))]) (tg [blk b6 105 (u32s os), blk b5 105 (u32s (padW b)), blk b4 105 (u32s (padW a)), blk b3 75 (natL 0), blk b2 75 (natL b), blk b1 75 (natL a)]) ?_ ?_
    ·skip
     refine OkC.cond rfl (fun hc4 => ?_) (fun hc4 => ?_)
     ·replace hc4 := of_decide_eq_true hc4
      refine OkC.region (mv' rfl (mv' rfl (st' (v := (pP b5 i)) (ex_indexAddr_slice (j := i) rfl rfl Tryz.underlying226 Tryz.sizeOf105 rfl (by omega) (by simp)) rfl ?_)))
      have hx3 : (padW b).getD i 0 < 4294967296 := W32.getD (padW_w32 b) i
      exact st' (ex_load_one (i := 1) (v := (vK .u32 ((padW b).getD i 0))) rfl rfl Tryz.isAgg105 (u32s_get (xs := padW b) (j := i) (by omega))) rfl (OkL.retell (k := 63) (u := (vK .u32 ((wordsOf b).getD i 0))) rfl (by rw [pad_getD hc4]) (asg' rfl (OkL.nil (OkQ.subF (sL [4, 8, 9, 52, 53, 10, 11, 12] rfl) (OkQ.join0  (trivial) (sF rfl) sr)))))
     ·replace hc4 := of_decide_eq_false hc4
      exact OkC.skip (OkQ.retell (k := 12) (u := Value.int .u32 (((wordsOf b).getD i 0 : Nat) : Int)) rfl (by rw [words_getD_zero hc4]; rfl) (OkQ.join0  (trivial) (sF rfl) sr))
    ·intro hJ
     refine OkQ.then_ (OkC.region (mv' rfl (mv' rfl (mv' rfl (mv' rfl ?_)))))
     refine st' (v := (pP b6 i)) (ex_indexAddr_slice (j := i) rfl rfl Tryz.underlying226 Tryz.sizeOf105 rfl (by omega) (by simp)) rfl ?_
     have hx4 : os.getD i 0 < 4294967296 := W32.getD hw32 i
     refine st' (ex_load_one (i := 0) (v := (vK .u32 (os.getD i 0))) rfl rfl Tryz.isAgg105 (u32s_get (xs := os) (j := i) (by omega))) rfl (mv' rfl (mv' rfl ?_))
     have hya := (words_w32 a).getD i
     have hyb := (words_w32 b).getD i
     refine ck' Tryz.call182 (add32_ok (os.getD i 0) ((wordsOf b).getD i 0) c (by omega) (by omega) (by omega)) rfl (mv' rfl (st' (ex_extract (v := (vK .u32 (((os.getD i 0) + ((wordsOf b).getD i 0) + c) % 4294967296))) rfl rfl) rfl (st' (ex_extract (v := (vK .u32 (((os.getD i 0) + ((wordsOf b).getD i 0) + c) / 4294967296))) rfl rfl) rfl (st' (v := (pP b6 i)) (ex_indexAddr_slice (j := i) rfl rfl Tryz.underlying226 Tryz.sizeOf105 rfl (by omega) (by simp)) rfl (OkL.store' (i := 0) (off := i) (vs := [(vK .u32 (((os.getD i 0) + ((wordsOf b).getD i 0) + c) % 4294967296))]) (cs' := u32s (os.set i (((os.getD i 0) + ((wordsOf b).getD i 0) + c) % 4294967296))) (L' := [blk b6 105 (u32s (os.set i (((os.getD i 0) + ((wordsOf b).getD i 0) + c) % 4294967296))), blk b5 105 (u32s (padW b)), blk b4 105 (u32s (padW a)), blk b3 75 (natL 0), blk b2 75 (natL b), blk b1 75 (natL a)]) (wt_none rfl) rfl rfl rfl rfl rfl Tryz.sizeOf105 rfl (ble_row (u32s_length _) (by omega)) (u32s_set (by omega)) rfl ?_)))))
     refine asg' rfl (OkL.nil (OkQ.subF (sL [4, 8, 9, 52, 53, 10, 11, 12] rfl) (OkQ.in_normal (OkQ.then_ (OkC.region ?_)))))
     exact st' (ex_add (c := ((i + 1 : Nat) : Int)) rfl rfl (addN_i64 (a := i) (b := 1) (by omega))) rfl (mv' rfl (OkL.nil (OkQ.subF (sL [4, 8, 9, 52, 53, 10, 11, 12] rfl) (OkQ.round3 (i + 1) (os.set i ((os.getD i 0 + (wordsOf b).getD i 0 + c) % 4294967296)) ((os.getD i 0 + (wordsOf b).getD i 0 + c) / 4294967296) (⟨by omega, by rw [List.length_set]; exact hl, W32.set hw32 (by omega) i, by omega, add_step hl hc3 hv⟩) (by omega) (sF rfl) sr))))
   ·replace hc3 := of_decide_eq_false hc3
    refine OkC.exit (OkQ.then_exit (OkQ.round3_exit (OkQ.in_exit (q2 (mv' rfl ?_)))))
    refine cl' Tryz.call143 (fun w hw => of_ok _ ((nw a) + 1) ((nw a) + 1) os hw32 (by first | omega | (rw [rowN_length]; omega) | simp | (simp; omega)) (by first | omega | simp | (simp; omega)) (by first | omega | simp | (simp; omega)) w (hw.get (i := 0) rfl)) rfl (OkL.retell (k := 79) (u := (aG (natL (a + b)))) rfl (by rw [List.take_of_length_le (show os.length ≤ nw a + 1 by omega), add_done (X := a) (Y := b) (c := c) (i := i) hl hw32 (by omega) (sum_lt (by omega)) (by rw [hv, val_words_take (by omega)])]) (stW3' rfl Tryz.sizeOf75 rfl (OkL.nil (OkQ.subF (sL [4, 8, 9, 52, 53, 10] rfl) (OkQ.then_ ?_)))))
    exact OkC.ret (ret_one rfl (rd_agg (i := 3) (cs := natL (a + b)) rfl rfl Tryz.isAgg75 Tryz.sizeOf75 rfl) (fun w hw => ⟨rfl, hw.out⟩))
end
end Go.Proofs.YtgiacpkjnikjdaaGreat
