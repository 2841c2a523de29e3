/- Walks, printed by gen.py. -/
import Derived.Test.YtpkoldfmbebmgaaGreatDoorNumS
import Derived.Test.YtpkoldfmbebmgaaGreatDoorSum
namespace Go.Proofs.YtpkoldfmbebmgaaGreatDoor
open Go Go.RowKit
set_option maxRecDepth 100000
set_option linter.unusedVariables false
set_option linter.unusedSimpArgs false

theorem total_add_ok (s a : Rat) (g : Nat) (hs : Sz s + Sz a ≤ 549755813888) (w : World) (hg : w.heap[g]? = some (.cells (fracL s).toArray 133 (0, 0))) : Calls Tryz.prog 94 #[(pP g 0), (aG (fracL a))] w (fun e w' => e = .returned (.tuple #[]) ∧ w.grownBy w' (some g) ∧ w'.heap[g]? = some (.cells (fracL (s + a)).toArray 133 (0, 0))) := by
  refine calls_ofM (args := [(pP g 0), (aG (fracL a))]) (g := g) (T := 133) (cs := fracL s) Tryz.func94 rfl rfl (leB rfl) hg ?_
  refine OkC.subF (sC 0 rfl (sC 1 rfl (sN))) ?_
  refine q4 ?_
  refine OkL.open_ (T := 36) (cs := fracL a) (wt_none rfl) (op_box (cs := fracL a) rfl rfl) rfl (leB rfl) ?_; intro b1
  refine OkL.nil ?_
  refine OkQ.subF (sC 0 rfl (sC 3 rfl (sN))) ?_
  refine OkQ.then_ ?_
  have hz1 := Sz_add s a
  refine dR (specs := [⟨.pure, fun _ => (pP g 0), [], 0, []⟩, ⟨.pure, fun _ => (pP g 0), [], 0, []⟩, ⟨.pure, fun _ => (pP g 0), [], 0, []⟩, ⟨.pure, fun _ => (pP g 0), [], 0, []⟩, ⟨.look, fun _ => (aG (fracL s)), [], 0, []⟩, ⟨.held, fun _ => (aG (fracL a)), [], 0, []⟩, ⟨.call, fun _ => (aG (fracL (s + a))), [], 0, []⟩, ⟨.pure, fun _ => (pP g 0), [], 0, []⟩, ⟨.pure, fun _ => (pP g 0), [], 0, []⟩]) (Lro := [blk b1 36 (fracL a)]) (List.Sublist.cons_cons _ (List.Sublist.cons _ (List.Sublist.refl _))) (dC (dC (dC (dC (dC (dC (dC (dC (dC (dN)))))))))) (by kernel_rfl) (by kernel_rfl) (fun _ _ d _ _ h => by cases d <;> exact h) (vC (vc_pure0 (G := fun β => [(0, (pP g 0))]) (fun β => sF (by kernel_rfl)) (fun β _ => ex_move rfl)) (vC (vc_pure0 (G := fun β => [(0, (pP g 0))]) (fun β => sF (by kernel_rfl)) (fun β _ => ex_move rfl)) (vC (vc_pure0 (G := fun β => [(5, (pP g 0))]) (fun β => sF (by kernel_rfl)) (fun β _ => ex_nilCheck rfl)) (vC (vc_pure0 (G := fun β => [(6, (pP g 0))]) (fun β => sF (by kernel_rfl)) (fun β _ => ex_fieldAddr rfl Tryz.underlying133 rfl Tryz.sizeOf36 rfl)) (vC (vc_look0 (G := fun β => [(7, (pP g 0))]) (fun β => sF (by kernel_rfl)) (fun β => ex_load_agg (i := 1) (vs := fracL s) rfl rfl Tryz.isAgg36 Tryz.sizeOf36 rfl rfl)) (vC (vc_held0 (G := fun β => [(3, (pP b1 0))]) (fun β => sF (by kernel_rfl)) (fun β => ex_load_agg (i := 0) (vs := fracL a) rfl rfl Tryz.isAgg36 Tryz.sizeOf36 rfl rfl)) (vC (vc_call0 (G := fun β => [(8, (aG (fracL s))), (9, (aG (fracL a)))]) (fun β => sF (by kernel_rfl)) (fun β => op_call0 (args := [(aG (fracL s)), (aG (fracL a))]) rfl rfl Tryz.call41) (fun β w hw => fAdd_ok s a (by (try simp only [Sz_neg]); omega) w)) (vC (vc_pure0 (G := fun β => [(4, (pP g 0))]) (fun β => sF (by kernel_rfl)) (fun β _ => ex_nilCheck rfl)) (vC (vc_pure0 (G := fun β => [(11, (pP g 0))]) (fun β => sF (by kernel_rfl)) (fun β _ => ex_fieldAddr rfl Tryz.underlying133 rfl Tryz.sizeOf36 rfl)) (VcAll.nil)))))))))) (fun β => ?_)
  refine OkLH.sub (F' := [(10, (aG (fracL (s + a)))), (12, (pP g 0))]) (L' := [blk b1 36 (fracL a), blk g 133 (fracL s)]) (sF rfl) (List.Sublist.refl _) ?_
  refine OkLH.store' (i := 1) (off := 0) (vs := fracL (s + a)) (cs' := fracL (s + a)) (L' := [blk b1 36 (fracL a), blk g 133 (fracL (s + a))]) (List.Sublist.cons_cons _ (List.Sublist.cons _ (List.Sublist.refl _))) (wt_none rfl) rfl rfl rfl rfl rfl Tryz.sizeOf36 rfl rfl rfl rfl ?_
  refine OkLH.nil ?_
  refine OkQ.subF (sN) ?_
  exact ret_none (.inr rfl) rfl  (fun w hw => ⟨rfl, hw.1, hw.get (i := 1) rfl⟩)

theorem each_add_ok (s : Rat) (qs : List Rat) (g bl n c : Nat) (hn : n ≤ qs.length) (hN : n < 4611686018427387904) (hB : ∀ i, i < n → Sz (accQ s qs i) + Sz (qs.getD i 0) ≤ 549755813888) (hne : bl ≠ g) (w : World) (hg : w.heap[g]? = some (.cells (fracL s).toArray 133 (0, 0))) (hl : w.heap[bl]? = some (.cells (fracsL qs).toArray 36 (0, 0))) : Calls Tryz.prog 93 #[(Value.func (.func 94) #[(pP g 0)] #[]), (Value.slice (some ⟨bl, 0, none⟩) n c)] w (fun e w' => e = .returned (.tuple #[]) ∧ w.grownBy w' (some g) ∧ w'.heap[g]? = some (.cells (fracL (accQ s qs n)).toArray 133 (0, 0))) := by
  refine calls_ofM (args := [(Value.func (.func 94) #[(pP g 0)] #[]), (Value.slice (some ⟨bl, 0, none⟩) n c)]) (g := g) (T := 133) (cs := fracL s) Tryz.func93 rfl rfl (leB rfl) hg ?_
  refine OkC.subF (sC 0 rfl (sC 1 rfl (sN))) ?_
  refine q4 ?_
  refine st (ex_move rfl) (leB rfl) ?_
  refine st (v := (vN n)) (ex_len_slice rfl Tryz.underlying109) (leB rfl) ?_
  refine st (ex_move rfl) (leB rfl) ?_
  refine OkL.nil ?_
  refine OkQ.subF (sC 0 rfl (sC 6 rfl (sC 7 rfl (sC 8 rfl (sN))))) ?_
  refine OkQ.then_ ?_
  refine OkC.block ?_
  refine OkC.sub (F' := [(0, (Value.func (.func 94) #[(pP g 0)] #[])), (6, (Value.slice (some ⟨bl, 0, none⟩) n c)), (7, (vN n)), (8, (vI 0))]) (L' := [blk g 133 (fracL s)]) (sF rfl) (List.Sublist.refl _) ?_
  refine OkC.loop2 (J := fun (i : Nat) (q : Rat) => i ≤ n ∧ q = accQ s qs i) (FI := fun (i : Nat) (q : Rat) => [(0, (Value.func (.func 94) #[(pP g 0)] #[])), (6, (Value.slice (some ⟨bl, 0, none⟩) n c)), (7, (vN n)), (8, (vN i))]) (LI := fun (i : Nat) (q : Rat) => [blk g 133 (fracL q)]) (m := fun (i : Nat) (q : Rat) => n - i) (fun i q hJ => ?_) 0 s (⟨Nat.zero_le _, rfl⟩)
  replace hJ : i ≤ n ∧ q = accQ s qs i := hJ
  obtain ⟨hi, hq⟩ := hJ
  refine OkC.sub (F' := [(0, (Value.func (.func 94) #[(pP g 0)] #[])), (6, (Value.slice (some ⟨bl, 0, none⟩) n c)), (7, (vN n)), (8, (vN i))]) (L' := [blk g 133 (fracL q)]) (sF rfl) (List.Sublist.refl _) ?_
  refine q4 ?_
  refine st (ex_lss (c := (decide (i < n))) rfl rfl (ltN (a := i) (b := n))) (leB rfl) ?_
  refine OkL.nil ?_
  refine q1 ?_
  refine OkC.cond rfl (fun hc0 => ?_) (fun hc0 => ?_)
  · replace hc0 := of_decide_eq_true hc0
    refine OkC.skip ?_
    refine q1 ?_
    refine OkC.block ?_
    refine q4 ?_
    refine st (v := (pP bl (i * 5))) (ex_indexAddr_slice (j := i) rfl rfl Tryz.underlying109 Tryz.sizeOf36 rfl (by omega) (by simp)) (leB rfl) ?_
    refine st (v := (aG (fracL (qs.getD i 0)))) (ex_load_agg_at (vs := fracL (qs.getD i 0)) rfl (fun w' hw => by have h9 := ca_of_row (off := i * 5) (k := 5) (hw.old (by simpa using hne) hl); rwa [fracsL_get (by omega)] at h9) Tryz.isAgg36 Tryz.sizeOf36 rfl) (leB rfl) ?_
    refine OkL.open_ (T := 36) (cs := fracL (0 : Rat)) (wt_none rfl) (op_alloc (cs := fracL (0 : Rat)) Tryz.zeroValue36 rfl) rfl (leB rfl) ?_; intro b1
    refine OkL.store' (i := 0) (off := 0) (vs := fracL (qs.getD i 0)) (cs' := fracL (qs.getD i 0)) (L' := [blk b1 36 (fracL (qs.getD i 0)), blk g 133 (fracL q)]) (wt_none rfl) rfl rfl rfl rfl rfl Tryz.sizeOf36 rfl rfl rfl rfl ?_
    refine OkL.nil ?_
    refine OkQ.subF (sC 0 rfl (sC 6 rfl (sC 7 rfl (sC 8 rfl (sC 5 rfl (sN)))))) ?_
    refine OkQ.then_ ?_
    refine OkC.region ?_
    refine st (ex_move rfl) (leB rfl) ?_
    refine st (ex_load_agg (i := 0) (vs := fracL (qs.getD i 0)) rfl rfl Tryz.isAgg36 Tryz.sizeOf36 rfl rfl) (leB rfl) ?_
    have hB2 := hB i hc0
    rw [← hq] at hB2
    refine OkL.callM (v := (Value.tuple #[])) (i := 1) (cs' := fracL (q + (qs.getD i 0))) (L' := [blk b1 36 (fracL (qs.getD i 0)), blk g 133 (fracL (q + (qs.getD i 0)))]) (wt_none rfl) (op_callF (first := [(pP g 0)]) (args := [(aG (fracL (qs.getD i 0)))]) (caps := []) (all := [(pP g 0), (aG (fracL (qs.getD i 0)))]) rfl rfl rfl Tryz.call94) rfl (fun w hw => total_add_ok q (qs.getD i 0) _ (by omega) w (hw.get (i := 1) rfl)) (fun d hd => by cases hd <;> exact (leB rfl)) rfl ?_
    refine OkL.nil ?_
    refine OkQ.subF (sC 0 rfl (sC 6 rfl (sC 7 rfl (sC 8 rfl (sC 5 rfl (sN)))))) ?_
    refine OkQ.in_normal ?_
    refine OkQ.then_ ?_
    refine OkC.region ?_
    refine st (ex_add (c := ((i + 1 : Nat) : Int)) rfl rfl (addN_i64 (a := i) (b := 1) (by omega))) (leB rfl) ?_
    refine st (ex_move rfl) (leB rfl) ?_
    refine OkL.nil ?_
    refine OkQ.subF (sC 0 rfl (sC 6 rfl (sC 7 rfl (sC 8 rfl (sC 5 rfl (sN)))))) ?_
    exact OkQ.round2 (i + 1) (q + qs.getD i 0) (⟨by omega, by rw [accQ_succ (by omega), hq]⟩) (by omega) (sS rfl (sS rfl (sS rfl (sS rfl (sN))))) (List.Sublist.cons _ (List.Sublist.refl _))
  · replace hc0 := of_decide_eq_false hc0
    have hin : i = n := by omega
    have hqn : q = accQ s qs n := by rw [hq, hin]
    refine OkC.exit ?_
    refine OkQ.then_exit ?_
    refine OkQ.round2_exit ?_
    refine OkQ.in_exit ?_
    exact ret_none (.inr rfl) rfl  (fun w hw => ⟨rfl, hw.1, by rw [← hqn]; exact hw.get (i := 0) rfl⟩)


end Go.Proofs.YtpkoldfmbebmgaaGreatDoor
