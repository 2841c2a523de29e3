/- Walks, printed by gen.py. -/
import Derived.Test.YtpkoldfmbebmgaaGreatDoorNumT
namespace Go.Proofs.YtpkoldfmbebmgaaGreatDoor
open Go Go.RowKit
set_option maxRecDepth 100000
set_option linter.unusedVariables false
set_option linter.unusedSimpArgs false

theorem heap_lt {w : World} {b : Nat} {o : Obj} (h : w.heap[b]? = some o) : b < w.heap.size := by
  rcases Nat.lt_or_ge b w.heap.size with h1 | h1
  · exact h1
  · rw [Array.getElem?_eq_none h1] at h; cases h
theorem Sum_ok (qs : List Rat) (bl n c : Nat) (hn : n ≤ qs.length) (hN : n < 4611686018427387904) (hB : ∀ i, i < n → Sz (accQ 0 qs i) + Sz (qs.getD i 0) ≤ 549755813888) (w : World) (hl : w.heap[bl]? = some (.cells (fracsL qs).toArray 36 (0, 0))) : Calls Tryz.prog 49 #[(Value.slice (some ⟨bl, 0, none⟩) n c)] w (Gives w (aG (fracL (accQ 0 qs n)))) := by
  refine calls_of (args := [(Value.slice (some ⟨bl, 0, none⟩) n c)]) Tryz.func49 rfl rfl (leB rfl) ?_
  refine OkC.subF (sC 0 rfl (sN)) ?_
  refine q4 ?_
  refine OkL.open_ (T := 36) (cs := fracL (0 : Rat)) (wt_none rfl) (op_alloc (cs := fracL (0 : Rat)) Tryz.zeroValue36 rfl) rfl (leB rfl) ?_; intro b1
  refine OkL.nil ?_
  refine q2 ?_
  refine OkL.open_ (T := 133) (cs := fracL (0 : Rat)) (wt_none rfl) (op_alloc (cs := fracL (0 : Rat)) Tryz.zeroValue133 rfl) rfl (leB rfl) ?_; intro b2
  refine OkL.nil ?_
  refine q2 ?_
  refine st (v := (Value.func (.func 94) #[(pP b2 0)] #[])) (ex_makeFunc (vs := [(pP b2 0)]) (us := []) rfl rfl) (leB rfl) ?_
  refine st (ex_move rfl) (leB rfl) ?_
  refine OkL.callM (v := (Value.tuple #[])) (i := 0) (cs' := fracL (accQ 0 qs n)) (L' := [blk b2 133 (fracL (accQ 0 qs n)), blk b1 36 (fracL (0 : Rat))]) (wt_none rfl) (op_call0 (args := [(Value.func (.func 94) #[(pP b2 0)] #[]), (Value.slice (some ⟨bl, 0, none⟩) n c)]) rfl rfl Tryz.call93) rfl (fun w hw => each_add_ok 0 qs _ bl n _ hn hN hB (Nat.ne_of_lt (Nat.lt_of_lt_of_le (heap_lt hl) (hw.fresh (i := 0) rfl))) w (hw.get (i := 0) rfl) (hw.old (by simp) hl)) (fun d hd => by cases hd <;> exact (leB rfl)) rfl ?_
  refine q3 (sC 2 rfl (sC 3 rfl (sN))) ?_
  refine st (v := (pP b2 0)) (ex_fieldAddr rfl Tryz.underlying133 rfl Tryz.sizeOf36 rfl) (leB rfl) ?_
  refine st (ex_load_agg (i := 0) (vs := fracL (accQ 0 qs n)) rfl rfl Tryz.isAgg36 Tryz.sizeOf36 rfl rfl) (leB rfl) ?_
  refine OkL.store' (i := 1) (off := 0) (vs := fracL (accQ 0 qs n)) (cs' := fracL (accQ 0 qs n)) (L' := [blk b2 133 (fracL (accQ 0 qs n)), blk b1 36 (fracL (accQ 0 qs n))]) (wt_none rfl) rfl rfl rfl rfl rfl Tryz.sizeOf36 rfl rfl rfl rfl ?_
  refine OkL.nil ?_
  refine OkQ.subF (sC 2 rfl (sC 3 rfl (sN))) ?_
  refine OkQ.then_ ?_
  refine OkC.ret ?_
  exact ret_one rfl (rd_agg (i := 1) (cs := fracL (accQ 0 qs n)) rfl rfl Tryz.isAgg36 Tryz.sizeOf36 rfl) (fun w hw => ⟨rfl, hw.out⟩)

theorem accQ3 (x y z : Rat) : accQ 0 [x, y, z] 3 = x + y + z := by simp [accQ, Rat.zero_add]
theorem accQ_Sz (x y z : Rat) : ∀ i, i < 3 → Sz (accQ 0 [x, y, z] i) + Sz (([x, y, z] : List Rat).getD i 0) ≤ Sz x + Sz y + Sz z + 3
  | 0, _ => by
    have h : Sz (0 : Rat) ≤ 1 := by decide +kernel
    show Sz (0 : Rat) + Sz x ≤ _
    omega
  | 1, _ => by
    have e : accQ 0 [x, y, z] 1 = x := by simp [accQ, Rat.zero_add]
    rw [e]
    show Sz x + Sz y ≤ _
    omega
  | 2, _ => by
    have e : accQ 0 [x, y, z] 2 = x + y := by simp [accQ, Rat.zero_add]
    have h := Sz_add x y
    rw [e]
    show Sz (x + y) + Sz z ≤ _
    omega
  | n + 3, h => by omega
theorem Sum3_ok (x y z : Rat) (bl c : Nat) (h : Sz x + Sz y + Sz z ≤ 137438953472) (w : World) (hl : w.heap[bl]? = some (.cells (fracsL [x, y, z]).toArray 36 (0, 0))) : Calls Tryz.prog 49 #[.slice (some ⟨bl, 0, none⟩) 3 c] w (Gives w (.agg (fracL (x + y + z)).toArray)) := by
  have h1 := Sum_ok [x, y, z] bl 3 c (by simp) (by omega) (fun i hi => Nat.le_trans (accQ_Sz x y z i hi) (by omega)) w hl
  rwa [accQ3] at h1
theorem fillS_3 (x0 x1 x2 : Rat) : Instr.fill (fun i => some (i * 5, 5)) ((Array.range (3 * 5)).map ((Value.agg (fracL (0 : Rat)).toArray).cells[· % (Value.agg (fracL (0 : Rat)).toArray).cells.size]!)) [(0, .agg (fracL x0).toArray), (1, .agg (fracL x1).toArray), (2, .agg (fracL x2).toArray)] = some (fracsL [x0, x1, x2]).toArray := by kernel_rfl

end Go.Proofs.YtpkoldfmbebmgaaGreatDoor
