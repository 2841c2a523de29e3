/- Walks, printed by gen.py. -/
import Derived.Test.YtpkoldfmbebmgaaGreatDoorNumW
namespace Go.Proofs.YtpkoldfmbebmgaaGreatDoor
open Go Go.RowKit
set_option maxRecDepth 100000
set_option linter.unusedVariables false
set_option linter.unusedSimpArgs false

theorem len64_3  (w : World)  : Calls Tryz.prog 139 #[(Value.int .u64 (3 : Int))] w (Gives w (vI 2)) := by
  refine calls_of (args := [(Value.int .u64 (3 : Int))]) Tryz.func139 rfl rfl (leB rfl) ?_
  refine OkC.subF (sC 0 rfl (sN)) ?_
  refine q4 ?_
  refine st (ex_assign rfl) (leB rfl) ?_
  refine OkL.nil ?_
  refine q1 ?_
  refine q4 ?_
  refine st (ex_move rfl) (leB rfl) ?_
  refine st (ex_geq (c := false) rfl rfl (by decide)) (leB rfl) ?_
  refine OkL.nil ?_
  refine OkQ.subF (sC 0 rfl (sC 2 rfl (sC 4 rfl (sN)))) ?_
  refine OkQ.then_ ?_
  refine OkC.cond_false rfl ?_
  refine OkC.skip ?_
  refine q1 ?_
  refine q4 ?_
  refine st (ex_move rfl) (leB rfl) ?_
  refine st (ex_geq (c := false) rfl rfl (by decide)) (leB rfl) ?_
  refine OkL.nil ?_
  refine OkQ.subF (sC 0 rfl (sC 2 rfl (sC 4 rfl (sC 8 rfl (sN))))) ?_
  refine OkQ.then_ ?_
  refine OkC.cond_false rfl ?_
  refine OkC.skip ?_
  refine q1 ?_
  refine q4 ?_
  refine st (ex_move rfl) (leB rfl) ?_
  refine st (ex_geq (c := false) rfl rfl (by decide)) (leB rfl) ?_
  refine OkL.nil ?_
  refine OkQ.subF (sC 0 rfl (sC 2 rfl (sC 4 rfl (sC 8 rfl (sC 14 rfl (sN)))))) ?_
  refine OkQ.then_ ?_
  refine OkC.cond_false rfl ?_
  refine OkC.skip ?_
  refine q2 ?_
  refine st (ex_move rfl) (leB rfl) ?_
  refine st (ex_move rfl) (leB rfl) ?_
  refine st (ex_conv (c := (3 : Int)) rfl Tryz.underlying28 Tryz.underlying5 (by decide)) (leB rfl) ?_
  refine st (v := (Value.int .u8 (2 : Int))) (ex_index_str (j := 3) (m := 2) rfl rfl Tryz.underlying9 (by kernel_rfl) (by decide)) (leB rfl) ?_
  refine st (ex_conv (c := (2 : Int)) rfl Tryz.underlying5 Tryz.underlying3 (by decide)) (leB rfl) ?_
  refine st (ex_add (c := (2 : Int)) rfl rfl (by decide)) (leB rfl) ?_
  refine st (ex_assign rfl) (leB rfl) ?_
  refine OkL.nil ?_
  refine OkQ.subF (sC 0 rfl (sC 2 rfl (sC 4 rfl (sC 8 rfl (sC 14 rfl (sN)))))) ?_
  refine OkQ.then_ ?_
  refine OkC.ret ?_
  exact ret_one rfl (rd_tmp (v := (vI 2)) rfl) (fun w hw => ⟨rfl, hw.out⟩)

theorem len_3  (w : World)  : Calls Tryz.prog 100 #[(Value.int .u64 (3 : Int))] w (Gives w (vI 2)) := by
  refine calls_of (args := [(Value.int .u64 (3 : Int))]) Tryz.func100 rfl rfl (leB rfl) ?_
  refine OkC.subF (sC 0 rfl (sN)) ?_
  refine q4 ?_
  refine st (ex_assign rfl) (leB rfl) ?_
  refine OkL.nil ?_
  refine q1 ?_
  refine OkC.cond_false rfl ?_
  refine OkC.skip ?_
  refine q2 ?_
  refine st (ex_move rfl) (leB rfl) ?_
  refine OkL.call (v := (vI 2)) (wt_none rfl) (op_call0 (args := [(Value.int .u64 (3 : Int))]) rfl rfl Tryz.call139) (fun w hw => len64_3 w) rfl (leB rfl) ?_
  refine st (ex_assign rfl) (leB rfl) ?_
  refine OkL.nil ?_
  refine OkQ.subF (sC 0 rfl (sC 2 rfl (sN))) ?_
  refine OkQ.then_ ?_
  refine OkC.ret ?_
  exact ret_one rfl (rd_tmp (v := (vI 2)) rfl) (fun w hw => ⟨rfl, hw.out⟩)

theorem pdq_ok (x y z : Rat) (g : Nat) (hs : Sz x + Sz y + Sz z ≤ 68719476736) (w : World) (hg : w.heap[g]? = some (.cells (fracL x ++ fracL y ++ fracL z).toArray 56 (0, 0))) : Calls Tryz.prog 99 #[(Value.slice (some ⟨g, 0, none⟩) 3 3), (vI 0), (vI 3), (vI 2), (Value.func (.func 43) #[] #[])] w (fun e w' => e = .returned (.tuple #[]) ∧ w.grownBy w' (some g) ∧ w'.heap[g]? = some (.cells (sort3L x y z).toArray 56 (0, 0))) := by
  refine calls_ofM (args := [(Value.slice (some ⟨g, 0, none⟩) 3 3), (vI 0), (vI 3), (vI 2), (Value.func (.func 43) #[] #[])]) (g := g) (T := 56) (cs := fracL x ++ fracL y ++ fracL z) Tryz.func99 rfl rfl (leB rfl) hg ?_
  refine OkC.subF (sC 0 rfl (sC 1 rfl (sC 2 rfl (sC 3 rfl (sC 4 rfl (sN)))))) ?_
  refine q4 ?_
  refine st (ex_assign rfl) (leB rfl) ?_
  refine OkL.nil ?_
  refine q2 ?_
  refine st (ex_assign rfl) (leB rfl) ?_
  refine OkL.nil ?_
  refine OkQ.then_ ?_
  refine OkC.block ?_
  refine OkC.unroll 1 ?_
  refine OkR.step ?_
  refine OkC.block ?_
  refine q4 ?_
  refine st (ex_move rfl) (leB rfl) ?_
  refine st (ex_move rfl) (leB rfl) ?_
  refine st (ex_sub (c := (3 : Int)) rfl rfl (by decide)) (leB rfl) ?_
  refine st (ex_assign rfl) (leB rfl) ?_
  refine OkL.nil ?_
  refine q1 ?_
  refine q4 ?_
  refine st (ex_move rfl) (leB rfl) ?_
  refine st (ex_leq (c := true) rfl rfl (by decide)) (leB rfl) ?_
  refine OkL.nil ?_
  refine OkQ.then_ ?_
  refine OkC.cond_true rfl ?_
  refine q4 ?_
  refine st (ex_move rfl) (leB rfl) ?_
  refine st (ex_move rfl) (leB rfl) ?_
  refine st (ex_move rfl) (leB rfl) ?_
  refine st (ex_move rfl) (leB rfl) ?_
  refine OkL.callM (v := (Value.tuple #[])) (i := 0) (cs' := sort3L x y z) (L' := [blk g 56 (sort3L x y z)]) (wt_none rfl) (op_call0 (args := [(Value.slice (some ⟨g, 0, none⟩) 3 3), (vI 0), (vI 3), (Value.func (.func 43) #[] #[])]) rfl rfl Tryz.call130) rfl (fun w hw => isort_ok x y z _ hs w (hw.get (i := 0) rfl)) (fun d hd => by cases hd <;> exact (leB rfl)) rfl ?_
  refine OkL.nil ?_
  refine OkQ.subF (sC 0 rfl (sC 1 rfl (sC 2 rfl (sC 3 rfl (sC 4 rfl (sC 10 rfl (sC 11 rfl (sC 21 rfl (sC 22 rfl (sC 23 rfl (sC 12 rfl (sC 24 rfl (sC 25 rfl (sC 26 rfl (sC 27 rfl (sC 28 rfl (sC 29 rfl (sN)))))))))))))))))) ?_
  refine OkQ.then_ ?_
  refine OkC.ret ?_
  refine OkQ.then_ret ?_
  refine OkQ.in_ret ?_
  refine OkQ.then_ret ?_
  refine OkQ.in_ret ?_
  exact ret_none (.inl rfl) rfl  (fun w hw => ⟨rfl, hw.1, hw.get (i := 0) rfl⟩)

theorem sort_ok (x y z : Rat) (g : Nat) (hs : Sz x + Sz y + Sz z ≤ 68719476736) (w : World) (hg : w.heap[g]? = some (.cells (fracL x ++ fracL y ++ fracL z).toArray 56 (0, 0))) : Calls Tryz.prog 60 #[(Value.slice (some ⟨g, 0, none⟩) 3 3), (Value.func (.func 43) #[] #[])] w (fun e w' => e = .returned (.tuple #[]) ∧ w.grownBy w' (some g) ∧ w'.heap[g]? = some (.cells (sort3L x y z).toArray 56 (0, 0))) := by
  refine calls_ofM (args := [(Value.slice (some ⟨g, 0, none⟩) 3 3), (Value.func (.func 43) #[] #[])]) (g := g) (T := 56) (cs := fracL x ++ fracL y ++ fracL z) Tryz.func60 rfl rfl (leB rfl) hg ?_
  refine OkC.subF (sC 0 rfl (sC 1 rfl (sN))) ?_
  refine q4 ?_
  refine st (ex_move rfl) (leB rfl) ?_
  refine st (v := (vI 3)) (ex_len_slice rfl Tryz.underlying109) (leB rfl) ?_
  refine st (ex_assign rfl) (leB rfl) ?_
  refine OkL.nil ?_
  refine OkQ.subF (sC 0 rfl (sC 1 rfl (sC 4 rfl (sN)))) ?_
  refine OkQ.then_ ?_
  refine OkC.region ?_
  refine st (ex_move rfl) (leB rfl) ?_
  refine st (ex_move rfl) (leB rfl) ?_
  refine st (ex_move rfl) (leB rfl) ?_
  refine st (ex_conv (c := (3 : Int)) rfl Tryz.underlying3 Tryz.underlying141 (by decide)) (leB rfl) ?_
  refine OkL.call (v := (vI 2)) (wt_none rfl) (op_call0 (args := [(Value.int .u64 (3 : Int))]) rfl rfl Tryz.call100) (fun w hw => len_3 w) rfl (leB rfl) ?_
  refine st (ex_move rfl) (leB rfl) ?_
  refine OkL.callM (v := (Value.tuple #[])) (i := 0) (cs' := sort3L x y z) (L' := [blk g 56 (sort3L x y z)]) (wt_none rfl) (op_call0 (args := [(Value.slice (some ⟨g, 0, none⟩) 3 3), (vI 0), (vI 3), (vI 2), (Value.func (.func 43) #[] #[])]) rfl rfl Tryz.call99) rfl (fun w hw => pdq_ok x y z _ hs w (hw.get (i := 0) rfl)) (fun d hd => by cases hd <;> exact (leB rfl)) rfl ?_
  refine OkL.nil ?_
  refine OkQ.subF (sC 0 rfl (sN)) ?_
  exact ret_none (.inr rfl) rfl  (fun w hw => ⟨rfl, hw.1, hw.get (i := 0) rfl⟩)


end Go.Proofs.YtpkoldfmbebmgaaGreatDoor
