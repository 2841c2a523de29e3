import Derived.Test.YtpkoldfmbebmgaaGreatDoorPart08
import Derived.Test.YtpkoldfmbebmgaaGreatDoorPart17
import Derived.Test.YtpkoldfmbebmgaaGreatDoorPart28
import Derived.Test.YtpkoldfmbebmgaaGreatDoorPart31
import Derived.Test.YtpkoldfmbebmgaaGreatDoorPart34
namespace Go.Proofs.YtpkoldfmbebmgaaGreatDoor
open Go Go.RowKit
set_option linter.unusedVariables false
set_option linter.unusedSimpArgs false
section
set_option maxRecDepth 100000
theorem hpreI_ok (s : ByteArray) (r : Bool) (h1 : 1 ≤ s.size) (hs : s.size ≤ 4611686018427387904) (hr : ((s.extract 0 1).toList == (ByteArray.mk #[48]).toList) = r) (w : World)  : Calls Tryz.prog 188 #[(Value.string s), (Value.string (ByteArray.mk #[48]))] w (Gives w (Value.bool r)) := by
 refine calls_of (args := [(Value.string s), (Value.string (ByteArray.mk #[48]))]) Tryz.func188 rfl rfl (leB rfl) (OkC.subF (sC 0 rfl (sC 1 rfl (sN))) (q4 (asg rfl rfl (OkL.nil (q2 ?_)))))
 refine mv rfl rfl (st (v := (vN ((s).size))) (ex_len_string rfl Tryz.underlying9) (leB rfl) (mv rfl rfl (st (v := (vI 1)) ((show Ex _ _ _ _ _ _ (Value.int .i64 ((ByteArray.mk #[48]).size : Nat)) from ex_len_string rfl Tryz.underlying9)) (leB rfl) (st (ex_geq (c := true) rfl rfl (leN.trans (decide_eq_true h1))) (leB rfl) (mv rfl rfl ?_)))))
 refine OkL.step (v := (Value.string s)) (wt_some rfl rfl rfl) (ex_move rfl) rfl (leB rfl) (OkL.step (v := (Value.string (ByteArray.mk #[48]))) (wt_some rfl rfl rfl) (ex_move rfl) rfl (leB rfl) (OkL.step (v := (vI 1)) (wt_some rfl rfl rfl) ((show Ex _ _ _ _ _ _ (Value.int .i64 ((ByteArray.mk #[48]).size : Nat)) from ex_len_string rfl Tryz.underlying9)) rfl (leB rfl) (OkL.step (v := (Value.string (s.extract 0 1))) (wt_some rfl rfl rfl) (ex_slice_string_hi (j := 1) rfl rfl Tryz.underlying9 h1 rfl) rfl (leB rfl) (OkL.step (v := (Value.string (ByteArray.mk #[48]))) (wt_some rfl rfl rfl) (ex_move rfl) rfl (leB rfl) (OkL.step (v := (Value.bool r)) (wt_some rfl rfl rfl) (ex_eql_string (c := r) rfl rfl hr) rfl (leB rfl) ?_)))))
 exact st (v := (Value.bool r)) (ex_pick_true rfl rfl) (leB rfl) (asg rfl rfl (OkL.nil (OkQ.subF (sC 4 rfl (sN)) (OkQ.then_ (OkC.ret (ret_one rfl (rd_tmp (v := (Value.bool r)) rfl) (fun w hw => ⟨rfl, hw.out⟩)))))))
theorem hpre_ok (s : ByteArray) (r : Bool) (h1 : 1 ≤ s.size) (hs : s.size ≤ 4611686018427387904) (hr : ((s.extract 0 1).toList == (ByteArray.mk #[48]).toList) = r) (w : World)  : Calls Tryz.prog 171 #[(Value.string s), (Value.string (ByteArray.mk #[48]))] w (Gives w (Value.bool r)) := by
 refine calls_of (args := [(Value.string s), (Value.string (ByteArray.mk #[48]))]) Tryz.func171 rfl rfl (leB rfl) (OkC.subF (sC 0 rfl (sC 1 rfl (sN))) (q4 (asg rfl rfl (OkL.nil (q2 ?_)))))
 refine mv rfl rfl (mv rfl rfl (cl Tryz.call188 (fun w hw => hpreI_ok s r h1 hs hr w) rfl rfl rfl (asg rfl rfl (OkL.nil (OkQ.subF (sC 4 rfl (sN)) ?_)))))
 exact OkQ.then_ (OkC.ret (ret_one rfl (rd_tmp (v := (Value.bool r)) rfl) (fun w hw => ⟨rfl, hw.out⟩)))
theorem mulU_ok (x y : Nat) (hx : x < 18446744073709551616) (hy : y < 18446744073709551616) (w : World)  : Calls Tryz.prog 170 #[(vK .u64 x), (vK .u64 y)] w (Gives w (Value.tuple #[(vK .u64 (x * y / 18446744073709551616)), (vK .u64 (x * y % 18446744073709551616))])) := by
 refine calls_of (args := [(vK .u64 x), (vK .u64 y)]) Tryz.func170 rfl rfl (leB rfl) (OkC.subF (sC 0 rfl (sC 1 rfl (sN))) (q4 (asg rfl rfl (asg rfl rfl (OkL.nil ?_)))))
 refine q1 (OkC.cond_false rfl (OkC.skip (q2 (mv rfl rfl (mv rfl rfl ?_)))))
 refine cl Tryz.call119 (fun w hw => mul64_ok x y (by omega) (by omega) w) rfl rfl rfl (mv rfl rfl (st (ex_extract (v := (vK .u64 (x * y / 18446744073709551616))) rfl rfl) (leB rfl) (st (ex_extract (v := (vK .u64 (x * y % 18446744073709551616))) rfl rfl) (leB rfl) (asg rfl rfl (asg rfl rfl ?_)))))
 refine q3 (sC 0 rfl (sC 1 rfl (sC 4 rfl (sC 5 rfl (sC 8 rfl (sC 9 rfl (sN))))))) (mv rfl rfl (mv rfl rfl (asg rfl rfl (asg rfl rfl (OkL.nil ?_)))))
 exact OkQ.subF (sC 0 rfl (sC 1 rfl (sC 4 rfl (sC 5 rfl (sN))))) (OkQ.then_ (OkC.ret (ret_two rfl (rd_tmp (v := (vK .u64 (x * y / 18446744073709551616))) rfl) (rd_tmp (v := (vK .u64 (x * y % 18446744073709551616))) rfl) (fun w hw => ⟨rfl, hw.out⟩))))
theorem zeros_ex {s : ByteArray} (h : ((List.range 9).all fun n => (s.extract 0 n).data.toList == List.replicate n 48) = true) {n : Nat} (hn : n ≤ 8) : s.extract 0 n = txB (List.replicate n 48) := by
 have h1 := List.all_eq_true.1 h n (List.mem_range.2 (by omega))
 have h2 : (s.extract 0 n).data.toList = List.replicate n 48 := by simpa using h1
 apply ByteArray.ext
 apply Array.toList_inj.1
 rw [h2]; simp [txB]
theorem rep0_ok (c : Nat) (h1 : 2 ≤ c) (h2 : c ≤ 8) (w : World)  : Calls Tryz.prog 149 #[(Value.string (ByteArray.mk #[48])), (vN c)] w (Gives w (Value.string (txB (List.replicate c 48)))) := by
 refine calls_of (args := [(Value.string (ByteArray.mk #[48])), (vN c)]) Tryz.func149 rfl rfl (leB rfl) (OkC.subF (sC 0 rfl (sC 1 rfl (sN))) (q4 (asg rfl rfl (OkL.nil (q1 ?_)))))
 refine q4 (mv rfl rfl (OkL.nil (OkQ.then_ (OkC.block (q4 ?_)))))
 refine st (ex_eql (c := (decide (c = 0))) rfl rfl (eqN (a := c) (b := 0))) (leB rfl) (asg rfl rfl (OkL.nil (OkQ.subF (sC 0 rfl (sC 1 rfl (sC 4 rfl (sC 11 rfl (sC 12 rfl (sN)))))) (OkQ.then_ ?_))))
 refine OkC.cond rfl (fun hc0 => ?_) (fun hc0 => ?_)
 ·replace hc0 := of_decide_eq_true hc0
  exfalso; omega
 ·replace hc0 := of_decide_eq_false hc0
  refine q4 (st (ex_eql (c := (decide (c = 1))) rfl rfl (eqN (a := c) (b := 1))) (leB rfl) (asg rfl rfl (OkL.nil (OkQ.subF (sC 0 rfl (sC 1 rfl (sC 4 rfl (sC 11 rfl (sC 14 rfl (sN)))))) (OkQ.then_ ?_)))))
  refine OkC.cond rfl (fun hc1 => ?_) (fun hc1 => ?_)
  ·replace hc1 := of_decide_eq_true hc1
   exfalso; omega
  ·replace hc1 := of_decide_eq_false hc1
   refine OkC.skip (OkQ.in_normal (q1 (q4 (mv rfl rfl (st (ex_lss (c := (decide (c < 0))) rfl rfl (ltN (a := c) (b := 0))) (leB rfl) ?_)))))
   refine OkL.nil (OkQ.subF (sC 0 rfl (sC 1 rfl (sC 4 rfl (sC 11 rfl (sC 18 rfl (sN)))))) (OkQ.then_ ?_))
   refine OkC.cond rfl (fun hc2 => ?_) (fun hc2 => ?_)
   ·replace hc2 := of_decide_eq_true hc2
    exfalso; omega
   ·replace hc2 := of_decide_eq_false hc2
    refine OkC.skip (q2 (mv rfl rfl (st (v := (vI 1)) ((show Ex _ _ _ _ _ _ (Value.int .i64 ((ByteArray.mk #[48]).size : Nat)) from ex_len_string rfl Tryz.underlying9)) (leB rfl) (st (ex_conv (c := (1 : Int)) rfl Tryz.underlying3 Tryz.underlying141 (by decide)) (leB rfl) (mv rfl rfl ?_)))))
    refine st (ex_conv (c := ((c : Nat) : Int)) rfl Tryz.underlying3 Tryz.underlying141 (convN_u64 (by omega))) (leB rfl) (cl Tryz.call170 (fun w hw => mulU_ok 1 c (by omega) (by omega) w) rfl rfl rfl (mv rfl rfl (st (ex_extract (v := (vK .u64 (1 * c / 18446744073709551616))) rfl rfl) (leB rfl) (st (ex_extract (v := (vK .u64 (1 * c % 18446744073709551616))) rfl rfl) (leB rfl) (asg rfl rfl ?_)))))
    refine asg rfl rfl (q6 (sC 0 rfl (sC 1 rfl (sC 4 rfl (sC 11 rfl (sC 5 rfl (sC 6 rfl (sN))))))) (q4 (mv rfl rfl (st (ex_gtr (c := false) rfl rfl (ltN.trans (decide_eq_false (by omega)))) (leB rfl) (mv rfl rfl ?_)))))
    refine OkL.step (v := (vK .u64 (1 * c % 18446744073709551616))) (wt_some rfl rfl rfl) (ex_move rfl) rfl (leB rfl) (OkL.step (v := (Value.bool false)) (wt_some rfl rfl rfl) (ex_gtr (c := false) rfl rfl ((ltN (a := 9223372036854775807) (b := 1 * c % 18446744073709551616)).trans (decide_eq_false (by omega)))) rfl (leB rfl) (st (v := (Value.bool false)) (ex_pick_false rfl rfl) (leB rfl) (OkL.nil (OkQ.subF (sC 0 rfl (sC 1 rfl (sC 4 rfl (sC 11 rfl (sC 6 rfl (sC 34 rfl (sN))))))) (OkQ.then_ ?_)))))
    refine OkC.cond_false rfl (OkC.skip (q2 (mv rfl rfl (st (ex_conv (c := ((c : Nat) : Int)) rfl Tryz.underlying141 Tryz.underlying3 (by rw [wrap_i64 (by omega) (by omega)]; omega)) (leB rfl) (asg rfl rfl ?_)))))
    refine q6 (sC 0 rfl (sC 1 rfl (sC 4 rfl (sC 11 rfl (sC 6 rfl (sC 34 rfl (sC 7 rfl (sN)))))))) (q4 (mv rfl rfl (st (v := (vI 1)) ((show Ex _ _ _ _ _ _ (Value.int .i64 ((ByteArray.mk #[48]).size : Nat)) from ex_len_string rfl Tryz.underlying9)) (leB rfl) (st (ex_eql (c := false) rfl rfl (by decide)) (leB rfl) (OkL.nil ?_)))))
    refine OkQ.subF (sC 0 rfl (sC 1 rfl (sC 4 rfl (sC 11 rfl (sC 6 rfl (sC 34 rfl (sC 7 rfl (sC 40 rfl (sN))))))))) (OkQ.then_ (OkC.cond_false rfl (OkC.skip (q1 (q4 ?_)))))
    refine mv rfl rfl (st (v := (Value.int .u8 (48 : Int))) (ex_index_string (j := 0) (b := 48) rfl rfl Tryz.underlying9 rfl rfl) (leB rfl) (OkL.nil (OkQ.subF (sC 0 rfl (sC 1 rfl (sC 4 rfl (sC 11 rfl (sC 6 rfl (sC 34 rfl (sC 7 rfl (sC 40 rfl (sC 42 rfl (sN)))))))))) (OkQ.then_ (OkC.block ?_)))))
    refine OkC.seq (q4 (st (ex_eql (c := false) rfl rfl (by decide)) (leB rfl) (asg rfl rfl (OkL.nil (OkQ.subF (sC 0 rfl (sC 1 rfl (sC 4 rfl (sC 11 rfl (sC 6 rfl (sC 34 rfl (sC 7 rfl (sC 40 rfl (sC 42 rfl (sC 43 rfl (sN))))))))))) ?_)))))
    refine OkQ.then_ (OkC.cond_false rfl (q4 (st (ex_eql (c := false) rfl rfl (by decide)) (leB rfl) (asg rfl rfl (OkL.nil ?_)))))
    refine OkQ.subF (sC 0 rfl (sC 1 rfl (sC 4 rfl (sC 11 rfl (sC 6 rfl (sC 34 rfl (sC 7 rfl (sC 40 rfl (sC 42 rfl (sC 43 rfl (sN))))))))))) (OkQ.then_ (OkC.cond_false rfl (q4 (st (ex_eql (c := true) rfl rfl (by decide)) (leB rfl) (asg rfl rfl ?_)))))
    refine OkL.nil (OkQ.subF (sC 0 rfl (sC 1 rfl (sC 4 rfl (sC 11 rfl (sC 6 rfl (sC 34 rfl (sC 7 rfl (sC 40 rfl (sC 42 rfl (sC 43 rfl (sN))))))))))) (OkQ.then_ (OkC.cond_true rfl (OkC.skip (OkQ.then_ ?_)))))
    refine OkC.cond_true rfl (OkC.block (q4 (mv rfl rfl (st (ex_leq (c := true) rfl rfl ((leN (a := c) (b := 128)).trans (decide_eq_true (by omega)))) (leB rfl) (mv rfl rfl ?_)))))
    refine OkL.step (v := (Value.string (ByteArray.mk #[48]))) (wt_some rfl rfl rfl) (ex_move rfl) rfl (leB rfl) (OkL.call (v := (Value.bool false)) (wt_some rfl rfl rfl) (op_call0 (args := [(Value.string (ByteArray.mk (List.toArray (List.append [32, 32, 32, 32, 32, 32, 32, 32, 32, 32, 32, 32, 32, 32, 32, 32, 32, 32, 32, 32, 32, 32, 32, 32, 32, 32, 32, 32, 32, 32, 32, 32, 32, 32, 32, 32, 32, 32, 32, 32, 32, 32, 32, 32, 32, 32, 32, 32, 32, 32, 32, 32, 32, 32, 32, 32, 32, 32, 32, 32, 32, 32, 32, 32] [32, 32, 32, 32, 32, 32, 32, 32, 32, 32, 32, 32, 32, 32, 32, 32, 32, 32, 32, 32, 32, 32, 32, 32, 32, 32, 32, 32, 32, 32, 32, 32, 32, 32, 32, 32, 32, 32, 32, 32, 32, 32, 32, 32, 32, 32, 32, 32, 32, 32, 32, 32, 32, 32, 32, 32, 32, 32, 32, 32, 32, 32, 32, 32])))), (Value.string (ByteArray.mk #[48]))]) rfl rfl Tryz.call171) (fun w hw => hpre_ok (ByteArray.mk (List.toArray (List.append [32, 32, 32, 32, 32, 32, 32, 32, 32, 32, 32, 32, 32, 32, 32, 32, 32, 32, 32, 32, 32, 32, 32, 32, 32, 32, 32, 32, 32, 32, 32, 32, 32, 32, 32, 32, 32, 32, 32, 32, 32, 32, 32, 32, 32, 32, 32, 32, 32, 32, 32, 32, 32, 32, 32, 32, 32, 32, 32, 32, 32, 32, 32, 32] [32, 32, 32, 32, 32, 32, 32, 32, 32, 32, 32, 32, 32, 32, 32, 32, 32, 32, 32, 32, 32, 32, 32, 32, 32, 32, 32, 32, 32, 32, 32, 32, 32, 32, 32, 32, 32, 32, 32, 32, 32, 32, 32, 32, 32, 32, 32, 32, 32, 32, 32, 32, 32, 32, 32, 32, 32, 32, 32, 32, 32, 32, 32, 32]))) false (by decide) (by decide) (by kernel_rfl) w) rfl (leB rfl) (st (v := (Value.bool false)) (ex_pick_true rfl rfl) (leB rfl) (asg rfl rfl (OkL.nil (OkQ.subF (sC 0 rfl (sC 1 rfl (sC 4 rfl (sC 11 rfl (sC 6 rfl (sC 34 rfl (sC 7 rfl (sC 40 rfl (sC 42 rfl (sC 43 rfl (sC 49 rfl (sN)))))))))))) ?_)))))
    refine OkQ.then_ (OkC.cond_false rfl (q4 (mv rfl rfl (st (ex_leq (c := true) rfl rfl ((leN (a := c) (b := 128)).trans (decide_eq_true (by omega)))) (leB rfl) (mv rfl rfl ?_)))))
    refine OkL.step (v := (Value.string (ByteArray.mk #[48]))) (wt_some rfl rfl rfl) (ex_move rfl) rfl (leB rfl) (OkL.call (v := (Value.bool false)) (wt_some rfl rfl rfl) (op_call0 (args := [(Value.string (ByteArray.mk (List.toArray (List.append [45, 45, 45, 45, 45, 45, 45, 45, 45, 45, 45, 45, 45, 45, 45, 45, 45, 45, 45, 45, 45, 45, 45, 45, 45, 45, 45, 45, 45, 45, 45, 45, 45, 45, 45, 45, 45, 45, 45, 45, 45, 45, 45, 45, 45, 45, 45, 45, 45, 45, 45, 45, 45, 45, 45, 45, 45, 45, 45, 45, 45, 45, 45, 45] [45, 45, 45, 45, 45, 45, 45, 45, 45, 45, 45, 45, 45, 45, 45, 45, 45, 45, 45, 45, 45, 45, 45, 45, 45, 45, 45, 45, 45, 45, 45, 45, 45, 45, 45, 45, 45, 45, 45, 45, 45, 45, 45, 45, 45, 45, 45, 45, 45, 45, 45, 45, 45, 45, 45, 45, 45, 45, 45, 45, 45, 45, 45, 45])))), (Value.string (ByteArray.mk #[48]))]) rfl rfl Tryz.call171) (fun w hw => hpre_ok (ByteArray.mk (List.toArray (List.append [45, 45, 45, 45, 45, 45, 45, 45, 45, 45, 45, 45, 45, 45, 45, 45, 45, 45, 45, 45, 45, 45, 45, 45, 45, 45, 45, 45, 45, 45, 45, 45, 45, 45, 45, 45, 45, 45, 45, 45, 45, 45, 45, 45, 45, 45, 45, 45, 45, 45, 45, 45, 45, 45, 45, 45, 45, 45, 45, 45, 45, 45, 45, 45] [45, 45, 45, 45, 45, 45, 45, 45, 45, 45, 45, 45, 45, 45, 45, 45, 45, 45, 45, 45, 45, 45, 45, 45, 45, 45, 45, 45, 45, 45, 45, 45, 45, 45, 45, 45, 45, 45, 45, 45, 45, 45, 45, 45, 45, 45, 45, 45, 45, 45, 45, 45, 45, 45, 45, 45, 45, 45, 45, 45, 45, 45, 45, 45]))) false (by decide) (by decide) (by kernel_rfl) w) rfl (leB rfl) (st (v := (Value.bool false)) (ex_pick_true rfl rfl) (leB rfl) (asg rfl rfl (OkL.nil (OkQ.subF (sC 0 rfl (sC 1 rfl (sC 4 rfl (sC 11 rfl (sC 6 rfl (sC 34 rfl (sC 7 rfl (sC 40 rfl (sC 42 rfl (sC 43 rfl (sC 49 rfl (sC 58 rfl (sN))))))))))))) ?_)))))
    refine OkQ.then_ (OkC.cond_false rfl (q4 (mv rfl rfl (st (ex_leq (c := true) rfl rfl ((leN (a := c) (b := 64)).trans (decide_eq_true (by omega)))) (leB rfl) (mv rfl rfl ?_)))))
    refine OkL.step (v := (Value.string (ByteArray.mk #[48]))) (wt_some rfl rfl rfl) (ex_move rfl) rfl (leB rfl) (OkL.call (v := (Value.bool true)) (wt_some rfl rfl rfl) (op_call0 (args := [(Value.string (ByteArray.mk #[48, 48, 48, 48, 48, 48, 48, 48, 48, 48, 48, 48, 48, 48, 48, 48, 48, 48, 48, 48, 48, 48, 48, 48, 48, 48, 48, 48, 48, 48, 48, 48, 48, 48, 48, 48, 48, 48, 48, 48, 48, 48, 48, 48, 48, 48, 48, 48, 48, 48, 48, 48, 48, 48, 48, 48, 48, 48, 48, 48, 48, 48, 48, 48])), (Value.string (ByteArray.mk #[48]))]) rfl rfl Tryz.call171) (fun w hw => hpre_ok (ByteArray.mk #[48, 48, 48, 48, 48, 48, 48, 48, 48, 48, 48, 48, 48, 48, 48, 48, 48, 48, 48, 48, 48, 48, 48, 48, 48, 48, 48, 48, 48, 48, 48, 48, 48, 48, 48, 48, 48, 48, 48, 48, 48, 48, 48, 48, 48, 48, 48, 48, 48, 48, 48, 48, 48, 48, 48, 48, 48, 48, 48, 48, 48, 48, 48, 48]) true (by decide) (by decide) (by kernel_rfl) w) rfl (leB rfl) (st (v := (Value.bool true)) (ex_pick_true rfl rfl) (leB rfl) (asg rfl rfl (OkL.nil (OkQ.subF (sC 0 rfl (sC 1 rfl (sC 4 rfl (sC 11 rfl (sC 6 rfl (sC 34 rfl (sC 7 rfl (sC 40 rfl (sC 42 rfl (sC 43 rfl (sC 49 rfl (sC 58 rfl (sC 67 rfl (sN)))))))))))))) ?_)))))
    refine OkQ.then_ (OkC.cond_true rfl (q4 (mv rfl rfl (st (v := (Value.string (txB (List.replicate c 48)))) (ex_slice_string_hi (j := c) rfl rfl Tryz.underlying9 (Nat.le_trans h2 (by decide)) (zeros_ex (by kernel_rfl) h2)) (leB rfl) (asg rfl rfl ?_)))))
    refine OkL.nil (OkQ.subF (sC 0 rfl (sC 1 rfl (sC 4 rfl (sC 11 rfl (sC 6 rfl (sC 34 rfl (sC 7 rfl (sC 40 rfl (sC 42 rfl (sC 43 rfl (sC 49 rfl (sC 58 rfl (sC 67 rfl (sN)))))))))))))) (OkQ.then_ (OkC.ret (OkQ.in_ret (OkQ.in_ret ?_)))))
    exact OkQ.then_ret (ret_one rfl (rd_tmp (v := (Value.string (txB (List.replicate c 48)))) rfl) (fun w hw => ⟨rfl, hw.out⟩))
theorem repZ_ok  (w : World)  : Calls Tryz.prog 149 #[(Value.string (ByteArray.mk #[48])), (vI 0)] w (Gives w (Value.string (ByteArray.mk #[]))) := by
 refine calls_of (args := [(Value.string (ByteArray.mk #[48])), (vI 0)]) Tryz.func149 rfl rfl (leB rfl) (OkC.subF (sC 0 rfl (sC 1 rfl (sN))) (q4 (asg rfl rfl (OkL.nil (q1 ?_)))))
 refine q4 (mv rfl rfl (OkL.nil (OkQ.then_ (OkC.block (q4 ?_)))))
 refine st (ex_eql (c := true) rfl rfl (by decide)) (leB rfl) (asg rfl rfl (OkL.nil (OkQ.subF (sC 0 rfl (sC 1 rfl (sC 4 rfl (sC 11 rfl (sC 12 rfl (sN)))))) (OkQ.then_ (OkC.cond_true rfl ?_)))))
 refine q4 (asg rfl rfl (OkL.nil (OkQ.then_ (OkC.ret (OkQ.in_ret ?_)))))
 exact OkQ.then_ret (ret_one rfl (rd_tmp (v := (Value.string (ByteArray.mk #[]))) rfl) (fun w hw => ⟨rfl, hw.out⟩))
theorem repO_ok  (w : World)  : Calls Tryz.prog 149 #[(Value.string (ByteArray.mk #[48])), (vI 1)] w (Gives w (Value.string (ByteArray.mk #[48]))) := by
 refine calls_of (args := [(Value.string (ByteArray.mk #[48])), (vI 1)]) Tryz.func149 rfl rfl (leB rfl) (OkC.subF (sC 0 rfl (sC 1 rfl (sN))) (q4 (asg rfl rfl (OkL.nil (q1 ?_)))))
 refine q4 (mv rfl rfl (OkL.nil (OkQ.then_ (OkC.block (q4 ?_)))))
 refine st (ex_eql (c := false) rfl rfl (by decide)) (leB rfl) (asg rfl rfl (OkL.nil (OkQ.subF (sC 0 rfl (sC 1 rfl (sC 4 rfl (sC 11 rfl (sC 12 rfl (sN)))))) (OkQ.then_ (OkC.cond_false rfl ?_)))))
 refine q4 (st (ex_eql (c := true) rfl rfl (by decide)) (leB rfl) (asg rfl rfl (OkL.nil (OkQ.subF (sC 0 rfl (sC 1 rfl (sC 4 rfl (sC 11 rfl (sC 12 rfl (sC 14 rfl (sN))))))) (OkQ.then_ ?_)))))
 refine OkC.cond_true rfl (q4 (mv rfl rfl (asg rfl rfl (OkL.nil (OkQ.subF (sC 0 rfl (sC 1 rfl (sC 4 rfl (sC 11 rfl (sC 12 rfl (sC 14 rfl (sN))))))) ?_)))))
 exact OkQ.then_ (OkC.ret (OkQ.in_ret (OkQ.then_ret (ret_one rfl (rd_tmp (v := (Value.string (ByteArray.mk #[48]))) rfl) (fun w hw => ⟨rfl, hw.out⟩)))))
theorem repA_ok (c : Nat) (hc : c ≤ 8) (w : World) : Calls Tryz.prog 149 #[Value.string (ByteArray.mk #[48]), vN c] w (Gives w (Value.string (txB (List.replicate c 48)))) := by
 rcases Nat.lt_or_ge c 2 with h | h
 ·rcases Nat.lt_or_ge c 1 with h1 | h1
  ·obtain rfl : c = 0 := by omega
   exact repZ_ok w
  ·obtain rfl : c = 1 := by omega
   exact repO_ok w
 ·exact rep0_ok c h hc w
end
section
set_option maxRecDepth 100000
theorem iformatF_ok (n : Nat) (hn : n < 18446744073709551616) (w : World) (hT : Tab w) : Calls Tryz.prog 167 #[(vK .u64 n), (vI 10)] w (Gives w (Value.string (txB (Lib.decDigits n)))) := by
 have hnd := Lib.nDigits_le20 n hn
 refine calls_of (args := [(vK .u64 n), (vI 10)]) Tryz.func167 rfl rfl (leB rfl) (OkC.subF (sC 0 rfl (sC 1 rfl (sN))) (q4 (asg rfl rfl (OkL.nil (q1 ?_)))))
 refine q4 (mv rfl rfl (st (ex_eql (c := true) rfl rfl (by decide)) (leB rfl) (OkL.nil (OkQ.subF (sC 0 rfl (sC 1 rfl (sC 4 rfl (sC 10 rfl (sN))))) (OkQ.then_ ?_)))))
 refine OkC.cond_true rfl (OkC.seq (q4 (mv rfl rfl (st (ex_lss (c := (decide (n < 100))) rfl rfl (ltN (a := n) (b := 100))) (leB rfl) (OkL.nil ?_)))))
 refine OkQ.subF (sC 0 rfl (sC 1 rfl (sC 4 rfl (sC 10 rfl (sC 12 rfl (sN)))))) (OkQ.then_ ?_)
 refine OkC.cond rfl (fun hc1 => ?_) (fun hc1 => ?_)
 ·replace hc1 := of_decide_eq_true hc1
  refine q4 (mv rfl rfl (st (ex_conv (c := ((n : Nat) : Int)) rfl Tryz.underlying28 Tryz.underlying3 (convN_i64 (by omega))) (leB rfl) (cl Tryz.call182 (fun w hw => smallF_ok n (by omega) w) rfl rfl rfl (asg rfl rfl (OkL.nil ?_)))))
  exact OkQ.subF (sC 0 rfl (sC 1 rfl (sC 4 rfl (sC 10 rfl (sN))))) (OkQ.then_ (OkC.ret (OkQ.then_ret (OkQ.then_ret (ret_one rfl (rd_tmp (v := (Value.string (txB (Lib.decDigits n)))) rfl) (fun w hw => ⟨rfl, hw.out⟩))))))
 ·replace hc1 := of_decide_eq_false hc1
  refine OkC.skip (q2 (al tZ226 rfl fun b1 => OkL.nil (q2 (mv rfl rfl ?_))))
  refine cl Tryz.call183 (fun w hw => ndig_ok n (by omega) (by omega) w (hT.below hw.out)) rfl rfl rfl (asg rfl rfl (q3 (sC 0 rfl (sC 1 rfl (sC 4 rfl (sC 10 rfl (sC 5 rfl (sC 6 rfl (sN))))))) (mv rfl rfl (st (v := (Value.slice (some ⟨b1, 0, none⟩) (Lib.nDigits n) 24)) (ex_slice_array_hi (len := 24) (m := Lib.nDigits n) rfl rfl Tryz.underlying226 Tryz.sizeOf5 (by omega) (by decide)) (leB rfl) (mv rfl rfl ?_)))))
  refine OkL.callRow 0 (cs' := byL (Lib.decDigits n)) (v := (Value.tuple #[])) (wt_none rfl) (op_call0 (args := [(Value.slice (some ⟨b1, 0, none⟩) (Lib.nDigits n) 24), (vK .u64 n)]) rfl rfl Tryz.call184) rfl (fun w hw => fmt10_ok _ _ 226 w (hw.get (i := 0) rfl) hn) (fun d hd => by cases hd <;> exact (leB rfl)) (q3 (sC 0 rfl (sC 1 rfl (sC 4 rfl (sC 10 rfl (sC 5 rfl (sC 6 rfl (sN))))))) (mv rfl rfl (st (v := (Value.slice (some ⟨b1, 0, none⟩) (Lib.nDigits n) 24)) (ex_slice_array_hi (len := 24) (m := Lib.nDigits n) rfl rfl Tryz.underlying226 Tryz.sizeOf5 (by omega) (by decide)) (leB rfl) (st (v := (Value.string (txB (Lib.decDigits n)))) (ex_conv_bytes (k := 0) rfl (Lib.decDigits_length n).symm rfl Tryz.underlying197 Tryz.underlying5 Tryz.underlying9) (leB rfl) (asg rfl rfl ?_)))))
  exact OkL.nil (OkQ.subF (sC 0 rfl (sC 1 rfl (sC 4 rfl (sC 10 rfl (sC 5 rfl (sC 6 rfl (sN))))))) (OkQ.then_ (OkC.ret (OkQ.then_ret (ret_one rfl (rd_tmp (v := (Value.string (txB (Lib.decDigits n)))) rfl) (fun w hw => ⟨rfl, hw.out⟩))))))
theorem formatF_ok (n : Nat) (hn : n < 18446744073709551616) (w : World) (hT : Tab w) : Calls Tryz.prog 145 #[(vK .u64 n), (vI 10)] w (Gives w (Value.string (txB (Lib.decDigits n)))) := by
 refine calls_of (args := [(vK .u64 n), (vI 10)]) Tryz.func145 rfl rfl (leB rfl) (OkC.subF (sC 0 rfl (sC 1 rfl (sN))) (q4 (asg rfl rfl (OkL.nil (q2 ?_)))))
 refine mv rfl rfl (mv rfl rfl (cl Tryz.call167 (fun w hw => iformatF_ok n (by omega) w (hT.below hw.out)) rfl rfl rfl (asg rfl rfl (OkL.nil (OkQ.subF (sC 4 rfl (sN)) ?_)))))
 exact OkQ.then_ (OkC.ret (ret_one rfl (rd_tmp (v := (Value.string (txB (Lib.decDigits n)))) rfl) (fun w hw => ⟨rfl, hw.out⟩)))
end
section
section
variable {P : Program} {Q : Exit → Act → World → Prop} {n : Nat} {F : List (Nat × Value)} {w0 : Base} {L : List As} {c x y : Code}
def Rnd7 {α β γ δ ε ζ η : Type} (n : Nat) (w0 : Base) (J : α → β → γ → δ → ε → ζ → η → Prop) (FI : α → β → γ → δ → ε → ζ → η → List (Nat × Value)) (LI : α → β → γ → δ → ε → ζ → η → List As) (m : α → β → γ → δ → ε → ζ → η → Nat) (i : α) (j : β) (k : γ) (l : δ) (o : ε) (q : ζ) (r : η) (Q : Exit → Act → World → Prop) : Exit → Act → World → Prop :=
  Exit.then (fun a w => ∃ i' j' k' l' o' q' r', J i' j' k' l' o' q' r' ∧ m i' j' k' l' o' q' r' < m i j k l o q r ∧ Frm n a (FI i' j' k' l' o' q' r') ∧ Own w0 w (LI i' j' k' l' o' q' r')) Q
theorem OkC.loop7 {α β γ δ ε ζ η : Type} (J : α → β → γ → δ → ε → ζ → η → Prop) (FI : α → β → γ → δ → ε → ζ → η → List (Nat × Value)) (LI : α → β → γ → δ → ε → ζ → η → List As) (m : α → β → γ → δ → ε → ζ → η → Nat) (round : ∀ i j k l o q r, J i j k l o q r → OkC P c (Rnd7 n w0 J FI LI m i j k l o q r Q) n (FI i j k l o q r) w0 (LI i j k l o q r))
    (i : α) (j : β) (k : γ) (l : δ) (o : ε) (q : ζ) (r : η) (h : J i j k l o q r) : OkC P (.loop c) Q n (FI i j k l o q r) w0 (LI i j k l o q r) :=
  OkC.loop (σ := α × β × γ × δ × ε × ζ × η) (fun s => J s.1 s.2.1 s.2.2.1 s.2.2.2.1 s.2.2.2.2.1 s.2.2.2.2.2.1 s.2.2.2.2.2.2) (fun s => FI s.1 s.2.1 s.2.2.1 s.2.2.2.1 s.2.2.2.2.1 s.2.2.2.2.2.1 s.2.2.2.2.2.2) (fun s => LI s.1 s.2.1 s.2.2.1 s.2.2.2.1 s.2.2.2.2.1 s.2.2.2.2.2.1 s.2.2.2.2.2.2) (fun s => m s.1 s.2.1 s.2.2.1 s.2.2.2.1 s.2.2.2.2.1 s.2.2.2.2.2.1 s.2.2.2.2.2.2) (fun s hs a w ha hw => by
    refine Code.wp_mono (fun e a' w' hq => ?_) (round s.1 s.2.1 s.2.2.1 s.2.2.2.1 s.2.2.2.2.1 s.2.2.2.2.2.1 s.2.2.2.2.2.2 hs a w ha hw)
    cases e <;> first
      | (obtain ⟨i', j', k', l', o', q', r', h1, h2, h3, h4⟩ := hq; exact ⟨(i', j', k', l', o', q', r'), h1, h2, h3, h4⟩)
      | exact hq) (i, j, k, l, o, q, r) h
theorem OkQ.round7 {α β γ δ ε ζ η : Type} {J : α → β → γ → δ → ε → ζ → η → Prop} {FI : α → β → γ → δ → ε → ζ → η → List (Nat × Value)} {LI : α → β → γ → δ → ε → ζ → η → List As} {m : α → β → γ → δ → ε → ζ → η → Nat} {i : α} {j : β} {k : γ} {l : δ} {o : ε} {q : ζ} {r : η} (i' : α) (j' : β) (k' : γ) (l' : δ) (o' : ε) (q' : ζ) (r' : η) (hJ : J i' j' k' l' o' q' r') (hm : m i' j' k' l' o' q' r' < m i j k l o q r) (hs : SubF (FI i' j' k' l' o' q' r') F) (hl : (LI i' j' k' l' o' q' r').Sublist L) : OkQ (Rnd7 n w0 J FI LI m i j k l o q r Q) .normal n F w0 L := fun _ _ ha hw => ⟨i', j', k', l', o', q', r', hJ, hm, ha.sub hs, hw.weak hl⟩
theorem OkQ.round7_exit {α β γ δ ε ζ η : Type} {J : α → β → γ → δ → ε → ζ → η → Prop} {FI : α → β → γ → δ → ε → ζ → η → List (Nat × Value)} {LI : α → β → γ → δ → ε → ζ → η → List As} {m : α → β → γ → δ → ε → ζ → η → Nat} {i : α} {j : β} {k : γ} {l : δ} {o : ε} {q : ζ} {r : η} {id : Nat} (h : OkQ Q (.exit id) n F w0 L) : OkQ (Rnd7 n w0 J FI LI m i j k l o q r Q) (.exit id) n F w0 L := h
end
end
section
set_option maxRecDepth 100000
theorem tE182 : ElemT Tryz.prog 182 9 1 16 := ⟨Tryz.underlying182, elemT_of (by kernel_rfl)⟩
theorem nTextF_ok (n : Nat) (hn : nw n ≤ 1073741824) (w : World) (hT : Tab w) : Calls Tryz.prog 107 #[(aG (natL n))] w (Gives w (Value.string (txB (Lib.decDigits n)))) := by
 refine calls_of (args := [(aG (natL n))]) Tryz.func107 rfl rfl (leB rfl) (OkC.subF (sC 0 rfl (sN)) (q4 (bx (cs := natL n) rfl rfl rfl fun b1 => asg rfl rfl (q6 (sC 1 rfl (sC 2 rfl (sN))) ?_))))
 refine q4 (st (v := (pP b1 1)) (ex_fieldAddr rfl Tryz.underlying30 rfl Tryz.sizeOf9 rfl) (leB rfl) (ldO 0 (Value.string (bigB n)) tO9 rfl rfl rfl rfl (st (ex_eql_string (c := (decide (n < 18446744073709551616))) rfl rfl bigB_empty) (leB rfl) (OkL.nil (OkQ.subF (sC 1 rfl (sC 2 rfl (sC 10 rfl (sN)))) ?_)))))
 refine OkQ.then_ ?_
 refine OkC.cond rfl (fun hc0 => ?_) (fun hc0 => ?_)
 ·replace hc0 := of_decide_eq_true hc0
  refine q4 (st (v := (pP b1 0)) (ex_fieldAddr rfl Tryz.underlying30 rfl Tryz.sizeOf28 rfl) (leB rfl) (ldO 0 (vK .u64 (lowN n)) tO28 rfl rfl rfl rfl (OkL.retell (k := 12) (u := (vK .u64 n)) rfl (by rw [lowN_small hc0]) (cl Tryz.call145 (fun w hw => formatF_ok n (by omega) w (hT.below hw.out)) rfl rfl rfl (asg rfl rfl ?_)))))
  exact OkL.nil (OkQ.subF (sC 1 rfl (sC 2 rfl (sN))) (OkQ.then_ (OkC.ret (OkQ.then_ret (ret_one rfl (rd_tmp (v := (Value.string (txB (Lib.decDigits n)))) rfl) (fun w hw => ⟨rfl, hw.out⟩))))))
 ·replace hc0 := of_decide_eq_false hc0
  refine OkC.skip (q2 (asg rfl rfl (OkL.nilRow 9 1 (OkL.nil (q1 ?_)))))
  refine q4 (ldW 1 tA30 rfl rfl rfl rfl (OkL.callB (V := fun b2 => (Value.slice (some ⟨b2, 0, none⟩) (nw n) ((padW n).length))) (T := 22) (cs := u32s (padW n)) (wt_none rfl) (op_call0 (args := [(aG (natL n))]) rfl rfl Tryz.call121) (fun w hw => words_ok n (by omega) w) rfl (leB rfl) fun b2 => asg rfl rfl (OkL.nil (OkQ.subF (sC 1 rfl (sC 2 rfl (sC 3 rfl (sC 4 rfl (sN))))) ?_))))
  refine OkQ.then_ (OkC.block (OkC.sub (F' := [(2, (Value.string (ByteArray.mk #[]))), (4, (Value.slice (some ⟨b2, 0, none⟩) (nw n) ((padW n).length))), (3, (Value.slice none ((0, 0).2) ((0, 0).1)))]) (L' := [blk b2 22 (u32s (padW n)), rowW none 9 1 ((0, 0).2) ((0, 0).1) (stL ([] : List (List UInt8))), blk b1 30 (natL n)]) (sF rfl) (List.Sublist.refl _) ?_))
  refine OkC.loop7 (J := fun (lb : Nat) (bs : List Nat) (cc : Nat) (m : Nat) (p : Option Addr) (ck : Nat × Nat) (ps : List (List UInt8)) => TxJ n bs m p ck.1 ck.2 ps) (FI := fun (lb : Nat) (bs : List Nat) (cc : Nat) (m : Nat) (p : Option Addr) (ck : Nat × Nat) (ps : List (List UInt8)) => [(2, (Value.string (ByteArray.mk #[]))), (4, (Value.slice (some ⟨lb, 0, none⟩) (nw m) cc)), (3, (Value.slice p ck.2 ck.1))]) (LI := fun (lb : Nat) (bs : List Nat) (cc : Nat) (m : Nat) (p : Option Addr) (ck : Nat × Nat) (ps : List (List UInt8)) => [blk lb 22 (u32s bs), rowW p 9 1 ck.2 ck.1 (stL ps), blk b1 30 (natL n)]) (m := fun (lb : Nat) (bs : List Nat) (cc : Nat) (m : Nat) (p : Option Addr) (ck : Nat × Nat) (ps : List (List UInt8)) => m) (fun lb bs cc m p ck ps hJ => ?_) b2 (padW n) ((padW n).length) n none (0, 0) ([] : List (List UInt8)) (txJ_init (by omega) (padW_w32 n) (nw_le_pad n) (fun i hi => pad_getD hi))
  replace hJ : TxJ n bs m p ck.1 ck.2 ps := hJ
  have hTJ := hJ
  refine OkC.sub (F' := [(2, (Value.string (ByteArray.mk #[]))), (4, (Value.slice (some ⟨lb, 0, none⟩) (nw m) cc)), (3, (Value.slice p ck.2 ck.1))]) (L' := [blk lb 22 (u32s bs), rowW p 9 1 ck.2 ck.1 (stL ps), blk b1 30 (natL n)]) (sF rfl) (List.Sublist.refl _) ?_
  have hTJ2 := hTJ
  obtain ⟨hbs, hbl, hbd, hmn, ho, hm, hpk, hpl, hp1, hp0⟩ := hTJ2
  have hdl : (Lib.decDigits (m % 1000000000)).length ≤ 9 := dec_len (k := 8) (Nat.mod_lt _ (by decide))
  have hdl1 : 1 ≤ (Lib.decDigits (m % 1000000000)).length := by rw [Lib.decDigits]; split <;> simp
  refine OkC.seq (q4 (mv rfl rfl (st (v := (vN (nw m))) (ex_len_slice rfl Tryz.underlying161) (leB rfl) (st (ex_gtr (c := (decide (0 < (nw m)))) rfl rfl (ltN (a := 0) (b := nw m))) (leB rfl) (OkL.nil ?_)))))
  refine OkQ.subF (sC 2 rfl (sC 4 rfl (sC 3 rfl (sC 18 rfl (sN))))) (OkQ.then_ ?_)
  refine OkC.cond rfl (fun hc1 => ?_) (fun hc1 => ?_)
  ·replace hc1 := of_decide_eq_true hc1
   refine OkC.skip (OkQ.then_ (OkC.block (q4 (mv rfl rfl (OkL.callB (V := fun b3 => (Value.tuple #[(Value.slice (some ⟨b3, 0, none⟩) (nw m) (nw m)), (vK .u32 (m % 1000000000))])) (T := 22) (cs := u32s (rowN (nw m) (m / 1000000000))) (wt_none rfl) (op_call0 (args := [(Value.slice (some ⟨lb, 0, none⟩) (nw m) cc), (Value.int .u32 (1000000000 : Int))]) rfl rfl Tryz.call146) (fun w hw => shortG_ok m 1000000000 _ _ bs hbs hbl hbd (by omega) (by omega) (by omega) w (hw.get (i := 0) rfl)) rfl (leB rfl) fun b3 => ?_)))))
   refine mv rfl rfl (st (ex_extract (v := (Value.slice (some ⟨b3, 0, none⟩) (nw m) (nw m))) rfl rfl) (leB rfl) (st (ex_extract (v := (vK .u32 (m % 1000000000))) rfl rfl) (leB rfl) (asg rfl rfl (asg rfl rfl (q3 (sC 2 rfl (sC 4 rfl (sC 3 rfl (sC 5 rfl (sC 6 rfl (sN)))))) ?_)))))
   refine mv rfl rfl ?_
   have hnm : nw (m / 1000000000) ≤ nw m := nw_mono (Nat.div_le_self _ _)
   refine cl (args := [(Value.slice (some ⟨b3, 0, none⟩) (nw m) (nw m))]) (v := (Value.slice (some ⟨b3, 0, none⟩) (nw (m / 1000000000)) (nw m))) Tryz.call147 (fun w hw => (by have h9 := cut_ok b3 (nw m) (nw m) (rowN (nw m) (m / 1000000000)) (rowN_w32 _ _) (by rw [rowN_length]; omega) (by omega) (by omega) w (hw.get (i := 0) rfl); rw [cutN_rowN (nw m) hnm (Nat.le_refl _)] at h9; exact h9)) rfl rfl rfl (asg rfl rfl (q3 (sC 2 rfl (sC 4 rfl (sC 3 rfl (sC 6 rfl (sN))))) (mv rfl rfl (st (ex_conv (c := ((m % 1000000000 : Nat) : Int)) rfl Tryz.underlying22 Tryz.underlying3 (convN_i64 (by omega))) (leB rfl) (cl Tryz.call148 (fun w hw => itoaF_ok (m % 1000000000) (by omega) w (hT.below hw.out)) rfl rfl rfl ?_)))))
   refine asg rfl rfl (q6 (sC 2 rfl (sC 4 rfl (sC 3 rfl (sC 7 rfl (sN))))) (q4 (mv rfl rfl (st (v := (vN (nw (m / 1000000000)))) (ex_len_slice rfl Tryz.underlying161) (leB rfl) (st (ex_gtr (c := (decide (0 < (nw (m / 1000000000))))) rfl rfl (ltN (a := 0) (b := nw (m / 1000000000)))) (leB rfl) ?_)))))
   refine OkL.nil (OkQ.subF (sC 2 rfl (sC 4 rfl (sC 3 rfl (sC 7 rfl (sC 31 rfl (sN)))))) (OkQ.then_ ?_))
   refine OkC.join1 (J := fun (sx : List UInt8) => (m / 1000000000 ≠ 0 → sx = List.replicate (9 - (Lib.decDigits (m % 1000000000)).length) 48 ++ Lib.decDigits (m % 1000000000)) ∧ (m / 1000000000 = 0 → sx = Lib.decDigits (m % 1000000000))) (FI := fun (sx : List UInt8) => [(2, (Value.string (ByteArray.mk #[]))), (4, (Value.slice (some ⟨b3, 0, none⟩) (nw (m / 1000000000)) (nw m))), (3, (Value.slice p ck.2 ck.1)), (7, (Value.string (txB sx)))]) (LI := fun (sx : List UInt8) => [blk b3 22 (u32s (rowN (nw m) (m / 1000000000))), blk lb 22 (u32s bs), rowW p 9 1 ck.2 ck.1 (stL ps), blk b1 30 (natL n)]) ?_ ?_
   ·skip
    refine OkC.cond rfl (fun hc2 => ?_) (fun hc2 => ?_)
    ·replace hc2 := of_decide_eq_true hc2
     refine OkC.region (mv rfl rfl (st (v := (vN ((Lib.decDigits (m % 1000000000)).length))) ((show Ex _ _ _ _ _ _ (Value.int .i64 (((Lib.decDigits (m % 1000000000)).length : Nat) : Int)) from txB_size (Lib.decDigits (m % 1000000000)) ▸ ex_len_string rfl Tryz.underlying9)) (leB rfl) (st (ex_sub (c := ((9 - (Lib.decDigits (m % 1000000000)).length : Nat) : Int)) rfl rfl (by rw [wrap_i64 (by omega) (by omega)]; omega)) (leB rfl) (cl Tryz.call149 (fun w hw => repA_ok _ (by omega) w) rfl rfl rfl (mv rfl rfl ?_)))))
     exact st (v := (Value.string (txB (List.replicate (9 - (Lib.decDigits (m % 1000000000)).length) 48 ++ Lib.decDigits (m % 1000000000))))) (ex_add_string (r := (txB (List.replicate (9 - (Lib.decDigits (m % 1000000000)).length) 48 ++ Lib.decDigits (m % 1000000000)))) rfl rfl (by rw [txB_size, txB_size, List.length_replicate]; omega) (txB_append _ _)) (leB rfl) (asg rfl rfl (OkL.nil (OkQ.subF (sC 2 rfl (sC 4 rfl (sC 3 rfl (sC 7 rfl (sN))))) (OkQ.join1 (List.replicate (9 - (Lib.decDigits (m % 1000000000)).length) 48 ++ Lib.decDigits (m % 1000000000)) (⟨fun _ => rfl, fun h => by rw [h] at hc2; exact absurd hc2 (by decide)⟩) (sS rfl (sS rfl (sS rfl (sS rfl (sN))))) sr))))
    ·replace hc2 := of_decide_eq_false hc2
     exact OkC.skip (OkQ.join1 (Lib.decDigits (m % 1000000000)) (⟨fun h => by have h8 := nw_le_iff.1 (show nw (m / 1000000000) ≤ 0 by omega); simp at h8; omega, fun _ => rfl⟩) (sS rfl (sS rfl (sS rfl (sS rfl (sN))))) sr)
   ·intro sx hJ
    replace hJ : (m / 1000000000 ≠ 0 → sx = List.replicate (9 - (Lib.decDigits (m % 1000000000)).length) 48 ++ Lib.decDigits (m % 1000000000)) ∧ (m / 1000000000 = 0 → sx = Lib.decDigits (m % 1000000000)) := hJ
    obtain ⟨hs1, hs0⟩ := hJ
    refine OkQ.sub (F' := [(2, (Value.string (ByteArray.mk #[]))), (4, (Value.slice (some ⟨b3, 0, none⟩) (nw (m / 1000000000)) (nw m))), (3, (Value.slice p ck.2 ck.1)), (7, (Value.string (txB sx)))]) (L' := [blk b3 22 (u32s (rowN (nw m) (m / 1000000000))), blk lb 22 (u32s bs), rowW p 9 1 ck.2 ck.1 (stL ps), blk b1 30 (natL n)]) (sF rfl) (List.Sublist.refl _) (OkQ.then_ (OkC.region (mv rfl rfl (mv rfl rfl (OkL.openV (V := fun b4 => (Value.slice (some ⟨b4, 0, none⟩) 1 1)) (T := 9) (cs := [(Value.string (txB sx))]) (wt_none rfl) (op_buildSlice (cs := [(Value.string (txB sx))]) (pv := [(0, (Value.string (txB sx)))]) Tryz.underlying182 Tryz.sizeOf9 Tryz.zeroValue9 (by decide) (by decide) rfl (by kernel_rfl)) rfl (leB rfl) fun b4 => ?_)))))
    exact OkL.append3 (j := 0) (cs2 := stL (ps ++ [sx])) tE182 rfl ho (by simp [stL_length]; omega) rfl rfl rfl rfl (by decide) (mxl (by omega)) (by omega) (by rw [stL_append]; rfl) rfl fun p_1 c_1 ho_1 hne_1 => asg rfl rfl (OkL.nil (OkQ.subF (sC 2 rfl (sC 4 rfl (sC 3 rfl (sC 7 rfl (sN))))) (OkQ.in_normal (OkQ.round7 b3 (rowN (nw m) (m / 1000000000)) (nw m) (m / 1000000000) p_1 (c_1, ck.2 + 1) (ps ++ [sx]) (txJ_next hTJ (by omega) ho_1 hs1 hs0) (Nat.div_lt_self (by have h8 := lt_pow_nw m; rcases Nat.eq_zero_or_pos m with e | e; (· rw [e, nw_zero] at hc1; omega); exact e) (by decide)) (sS rfl (sS rfl (sS rfl (sN)))) (sl (sk (sl sr)))))))
  ·replace hc1 := of_decide_eq_false hc1
   have hte := txJ_end hTJ (by omega) hn
   refine OkC.exit (OkQ.then_exit (OkQ.round7_exit (OkQ.in_exit (q2 (mv rfl rfl ?_)))))
   refine OkL.callW 1 (cs' := stL (ps).reverse) (v := (Value.tuple #[])) (wt_none rfl) (op_call0 (args := [(Value.slice p ck.2 ck.1)]) rfl rfl Tryz.call150) rfl (fun w hw => revS_ok _ _ _ _ 9 ho hpk w (hw.holds (i := 1) rfl)) (fun d hd => by cases hd <;> exact (leB rfl)) (q3 (sC 2 rfl (sC 4 rfl (sC 3 rfl (sN)))) (mv rfl rfl (cl (args := [(Value.slice p ck.2 ck.1), (Value.string (ByteArray.mk #[]))]) (v := (Value.string (txB (Lib.decDigits n)))) Tryz.call151 (fun w hw => (by have h9 := joinS_ok _ _ _ (((ps).reverse)) 9 ho (by rw [List.length_reverse]; exact hpk) hte.1 (by rw [hte.2.1]; exact hte.2.2) w (hw.holds (i := 1) rfl); rw [hte.2.1] at h9; exact h9)) rfl rfl rfl (asg rfl rfl (OkL.nil ?_)))))
   exact OkQ.subF (sC 2 rfl (sC 4 rfl (sC 3 rfl (sN)))) (OkQ.then_ (OkC.ret (ret_one rfl (rd_tmp (v := (Value.string (txB (Lib.decDigits n)))) rfl) (fun w hw => ⟨rfl, hw.out⟩))))
end
end Go.Proofs.YtpkoldfmbebmgaaGreatDoor
