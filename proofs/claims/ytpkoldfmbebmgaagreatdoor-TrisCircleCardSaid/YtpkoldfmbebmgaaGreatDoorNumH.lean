/- Walks, printed by gen.py. -/
import Derived.Test.YtpkoldfmbebmgaaGreatDoorNumG
namespace Go.Proofs.YtpkoldfmbebmgaaGreatDoor
open Go Go.RowKit
set_option maxRecDepth 100000
set_option linter.unusedVariables false
set_option linter.unusedSimpArgs false

theorem half_ok (g N c : Nat) (us : List Nat) (hus : W32 us) (hlu : us.length = N) (hN : N ≤ 4398046511104) (w : World) (hg : w.heap[g]? = some (.cells (u32s us).toArray 22 (0, 0))) : Calls Tryz.prog 180 #[(Value.slice (some ⟨g, 0, none⟩) N c)] w (fun e w' => e = .returned (.tuple #[]) ∧ w.grownBy w' (some g) ∧ w'.heap[g]? = some (.cells (u32s (rowN N (val us / 2))).toArray 22 (0, 0))) := by
  refine calls_ofM (args := [(Value.slice (some ⟨g, 0, none⟩) N c)]) (g := g) (T := 22) (cs := u32s us) Tryz.func180 rfl rfl (leB rfl) hg ?_
  refine OkC.subF (sC 0 rfl (sN)) ?_
  refine q4 ?_
  refine st (ex_move rfl) (leB rfl) ?_
  refine st (v := (vN N)) (ex_len_slice rfl Tryz.underlying161) (leB rfl) ?_
  refine st (ex_move rfl) (leB rfl) ?_
  refine OkL.nil ?_
  refine OkQ.subF (sC 0 rfl (sC 4 rfl (sC 5 rfl (sN)))) ?_
  refine OkQ.then_ ?_
  refine OkC.block ?_
  refine OkC.sub (F' := [(0, (Value.slice (some ⟨g, 0, none⟩) N c)), (4, (vN N)), (5, (vI 0))]) (L' := [blk g 22 (u32s us)]) (sF rfl) (List.Sublist.refl _) ?_
  refine OkC.loop2 (J := fun (i : Nat) (os : List Nat) => i ≤ N ∧ os.length = N ∧ W32 os ∧ os.drop i = us.drop i ∧ 2 * val (os.take i) + us.getD 0 0 % 2 = val (us.take i) + us.getD i 0 % 2 * 4294967296 ^ i) (FI := fun (i : Nat) (os : List Nat) => [(0, (Value.slice (some ⟨g, 0, none⟩) N c)), (4, (vN N)), (5, (vN i))]) (LI := fun (i : Nat) (os : List Nat) => [blk g 22 (u32s os)]) (m := fun (i : Nat) (os : List Nat) => N - i) (fun i os hJ => ?_) 0 us (⟨Nat.zero_le _, hlu, hus, rfl, by simp [val]⟩)
  replace hJ : i ≤ N ∧ os.length = N ∧ W32 os ∧ os.drop i = us.drop i ∧ 2 * val (os.take i) + us.getD 0 0 % 2 = val (us.take i) + us.getD i 0 % 2 * 4294967296 ^ i := hJ
  obtain ⟨hi, hl, hw32, hd, hv⟩ := hJ
  refine OkC.sub (F' := [(0, (Value.slice (some ⟨g, 0, none⟩) N c)), (4, (vN N)), (5, (vN i))]) (L' := [blk g 22 (u32s os)]) (sF rfl) (List.Sublist.refl _) ?_
  refine q4 ?_
  refine st (ex_lss (c := (decide (i < N))) rfl rfl (ltN (a := i) (b := N))) (leB rfl) ?_
  refine OkL.nil ?_
  refine q1 ?_
  refine OkC.cond rfl (fun hc0 => ?_) (fun hc0 => ?_)
  · replace hc0 := of_decide_eq_true hc0
    refine OkC.skip ?_
    refine q1 ?_
    refine OkC.block ?_
    refine q4 ?_
    refine st (ex_move rfl) (leB rfl) ?_
    refine st (ex_assign rfl) (leB rfl) ?_
    refine q3 (sC 0 rfl (sC 4 rfl (sC 5 rfl (sC 2 rfl (sN))))) ?_
    refine st (ex_move rfl) (leB rfl) ?_
    refine st (ex_move rfl) (leB rfl) ?_
    refine st (v := (pP g i)) (ex_indexAddr_slice (j := i) rfl rfl Tryz.underlying161 Tryz.sizeOf22 rfl (by omega) (by simp)) (leB rfl) ?_
    have hx1 : os.getD i 0 < 4294967296 := W32.getD hw32 i
    refine st (ex_load_one (i := 0) (v := (vK .u32 (os.getD i 0))) rfl rfl Tryz.isAgg22 (u32s_get (xs := os) (j := i) (by omega))) (leB rfl) ?_
    have hui := hus.getD i
    have huj := hus.getD (i + 1)
    refine OkL.retell (k := 11) (u := (vK .u32 (us.getD i 0))) rfl (by rw [drop_getD hd (Nat.le_refl _)]) ?_
    refine st (ex_shr (s := 1) (c := (((us.getD i 0) / 2 : Nat) : Int)) rfl rfl rfl (by decide) (shrN (a := us.getD i 0) (s := 1))) (leB rfl) ?_
    refine st (v := (pP g i)) (ex_indexAddr_slice (j := i) rfl rfl Tryz.underlying161 Tryz.sizeOf22 rfl (by omega) (by simp)) (leB rfl) ?_
    refine OkL.store' (i := 0) (off := i) (vs := [(vK .u32 ((us.getD i 0) / 2))]) (cs' := u32s (os.set i ((us.getD i 0) / 2))) (L' := [blk g 22 (u32s (os.set i ((us.getD i 0) / 2)))]) (wt_none rfl) rfl rfl rfl rfl rfl Tryz.sizeOf22 rfl (ble_row (u32s_length _) (by omega)) (u32s_set (by omega)) rfl ?_
    refine q3 (sC 0 rfl (sC 4 rfl (sC 5 rfl (sC 2 rfl (sN))))) ?_
    refine st (ex_move rfl) (leB rfl) ?_
    refine st (ex_add (c := ((i + 1 : Nat) : Int)) rfl rfl (addN_i64 (a := i) (b := 1) (by omega))) (leB rfl) ?_
    refine st (ex_move rfl) (leB rfl) ?_
    refine st (v := (vN N)) (ex_len_slice rfl Tryz.underlying161) (leB rfl) ?_
    refine st (ex_lss (c := (decide ((i + 1) < N))) rfl rfl (ltN (a := i + 1) (b := N))) (leB rfl) ?_
    refine OkL.nil ?_
    refine OkQ.subF (sC 0 rfl (sC 4 rfl (sC 5 rfl (sC 2 rfl (sC 18 rfl (sN)))))) ?_
    refine OkQ.then_ ?_
    refine OkC.join0 (J := True) (FI := [(0, (Value.slice (some ⟨g, 0, none⟩) N c)), (4, (vN N)), (5, (vN i))]) (LI := [blk g 22 (u32s (os.set i (us.getD i 0 / 2 + us.getD (i + 1) 0 % 2 * 2147483648)))]) ?_ ?_
    · skip
      refine OkC.cond rfl (fun hc1 => ?_) (fun hc1 => ?_)
      · replace hc1 := of_decide_eq_true hc1
        have e1 : (os.set i (us.getD i 0 / 2)).getD i 0 = us.getD i 0 / 2 := set_getD_self (by omega)
        have e2 : (os.set i (us.getD i 0 / 2)).getD (i + 1) 0 = us.getD (i + 1) 0 := by rw [set_getD_ne (by omega), drop_getD hd (by omega)]
        have hll : (os.set i (us.getD i 0 / 2)).length = N := by rw [List.length_set]; exact hl
        have hx2 : (os.set i ((us.getD i 0) / 2)).getD i 0 < 4294967296 := W32.getD (W32.set hw32 (by omega) i) i
        have hx3 : (os.set i ((us.getD i 0) / 2)).getD (i + 1) 0 < 4294967296 := W32.getD (W32.set hw32 (by omega) i) (i + 1)
        refine dR (specs := [⟨.pure, fun _ => (Value.slice (some ⟨g, 0, none⟩) N c), [], 0, []⟩, ⟨.pure, fun _ => (vN i), [], 0, []⟩, ⟨.pure, fun _ => (pP g i), [], 0, []⟩, ⟨.look, fun _ => (vK .u32 ((os.set i ((us.getD i 0) / 2)).getD i 0)), [], 0, []⟩, ⟨.pure, fun _ => (Value.slice (some ⟨g, 0, none⟩) N c), [], 0, []⟩, ⟨.pure, fun _ => (vN i), [], 0, []⟩, ⟨.pure, fun _ => (vN (i + 1)), [], 0, []⟩, ⟨.pure, fun _ => (pP g (i + 1)), [], 0, []⟩, ⟨.look, fun _ => (vK .u32 ((os.set i ((us.getD i 0) / 2)).getD (i + 1) 0)), [], 0, []⟩, ⟨.look, fun _ => (vK .u32 ((os.set i (us.getD i 0 / 2)).getD (i + 1) 0 * 2 ^ 31 % 4294967296)), [], 0, []⟩, ⟨.pure, fun _ => (vK .u32 (us.getD i 0 / 2 + us.getD (i + 1) 0 % 2 * 2147483648)), [], 0, []⟩, ⟨.pure, fun _ => (pP g i), [], 0, []⟩]) (Lro := []) (List.Sublist.cons _ (List.Sublist.refl _)) (dC (dC (dC (dC (dC (dC (dC (dC (dC (dC (dC (dC (dN))))))))))))) (by kernel_rfl) (by kernel_rfl) (fun _ _ d _ _ h => by cases d <;> exact h) (vC (vc_pure0 (G := fun β => [(0, (Value.slice (some ⟨g, 0, none⟩) N c))]) (fun β => sF (by kernel_rfl)) (fun β _ => ex_move rfl)) (vC (vc_pure0 (G := fun β => [(2, (vN i))]) (fun β => sF (by kernel_rfl)) (fun β _ => ex_move rfl)) (vC (vc_pure0 (G := fun β => [(19, (Value.slice (some ⟨g, 0, none⟩) N c)), (20, (vN i))]) (fun β => sF (by kernel_rfl)) (fun β _ => ex_indexAddr_slice (j := i) rfl rfl Tryz.underlying161 Tryz.sizeOf22 rfl (by omega) (by simp))) (vC (vc_look0 (G := fun β => [(21, (pP g i))]) (fun β => sF (by kernel_rfl)) (fun β => ex_load_one (i := 0) (v := (vK .u32 ((os.set i ((us.getD i 0) / 2)).getD i 0))) rfl rfl Tryz.isAgg22 (u32s_get (xs := os.set i ((us.getD i 0) / 2)) (j := i) (by omega)))) (vC (vc_pure0 (G := fun β => [(0, (Value.slice (some ⟨g, 0, none⟩) N c))]) (fun β => sF (by kernel_rfl)) (fun β _ => ex_move rfl)) (vC (vc_pure0 (G := fun β => [(2, (vN i))]) (fun β => sF (by kernel_rfl)) (fun β _ => ex_move rfl)) (vC (vc_pure0 (G := fun β => [(24, (vN i))]) (fun β => sF (by kernel_rfl)) (fun β _ => ex_add (c := ((i + 1 : Nat) : Int)) rfl rfl (addN_i64 (a := i) (b := 1) (by omega)))) (vC (vc_pure0 (G := fun β => [(23, (Value.slice (some ⟨g, 0, none⟩) N c)), (25, (vN (i + 1)))]) (fun β => sF (by kernel_rfl)) (fun β _ => ex_indexAddr_slice (j := i + 1) rfl rfl Tryz.underlying161 Tryz.sizeOf22 rfl (by omega) (by simp))) (vC (vc_look0 (G := fun β => [(26, (pP g (i + 1)))]) (fun β => sF (by kernel_rfl)) (fun β => ex_load_one (i := 0) (v := (vK .u32 ((os.set i ((us.getD i 0) / 2)).getD (i + 1) 0))) rfl rfl Tryz.isAgg22 (u32s_get (xs := os.set i ((us.getD i 0) / 2)) (j := (i + 1)) (by omega)))) (vC (vc_look0 (G := fun β => [(27, (vK .u32 ((os.set i ((us.getD i 0) / 2)).getD (i + 1) 0)))]) (fun β => sF (by kernel_rfl)) (fun β => ex_shl (s := 31) rfl rfl rfl (by decide) shlN_u32m)) (vC (vc_pure0 (G := fun β => [(22, (vK .u32 ((os.set i ((us.getD i 0) / 2)).getD i 0))), (28, (vK .u32 ((os.set i (us.getD i 0 / 2)).getD (i + 1) 0 * 2 ^ 31 % 4294967296)))]) (fun β => sF (by kernel_rfl)) (fun β _ => ex_or (c := ((us.getD i 0 / 2 + us.getD (i + 1) 0 % 2 * 2147483648 : Nat) : Int)) rfl rfl (orN_u32 (by rw [e1]; omega) (Nat.mod_lt _ (by omega)) (by rw [e1, e2]; exact half_or (by omega))))) (vC (vc_pure0 (G := fun β => [(19, (Value.slice (some ⟨g, 0, none⟩) N c)), (20, (vN i))]) (fun β => sF (by kernel_rfl)) (fun β _ => ex_indexAddr_slice (j := i) rfl rfl Tryz.underlying161 Tryz.sizeOf22 rfl (by omega) (by simp))) (VcAll.nil))))))))))))) (fun β => ?_)
        refine OkLH.sub (F' := [(0, (Value.slice (some ⟨g, 0, none⟩) N c)), (4, (vN N)), (5, (vN i)), (2, (vN i)), (29, (vK .u32 (us.getD i 0 / 2 + us.getD (i + 1) 0 % 2 * 2147483648))), (30, (pP g i))]) (L' := [blk g 22 (u32s (os.set i ((us.getD i 0) / 2)))]) (sF rfl) (List.Sublist.refl _) ?_
        refine OkLH.store' (i := 0) (off := i) (vs := [(vK .u32 (us.getD i 0 / 2 + us.getD (i + 1) 0 % 2 * 2147483648))]) (cs' := u32s ((os.set i ((us.getD i 0) / 2)).set i (us.getD i 0 / 2 + us.getD (i + 1) 0 % 2 * 2147483648))) (L' := [blk g 22 (u32s ((os.set i ((us.getD i 0) / 2)).set i (us.getD i 0 / 2 + us.getD (i + 1) 0 % 2 * 2147483648)))]) (List.Sublist.cons _ (List.Sublist.refl _)) (wt_none rfl) rfl rfl rfl rfl rfl Tryz.sizeOf22 rfl (ble_row (u32s_length _) (by omega)) (u32s_set (by omega)) rfl ?_
        refine OkLH.nil ?_
        refine OkQ.subF (sC 0 rfl (sC 4 rfl (sC 5 rfl (sC 2 rfl (sN))))) ?_
        refine OkQ.reblock (L' := [blk g 22 (u32s (os.set i (us.getD i 0 / 2 + us.getD (i + 1) 0 % 2 * 2147483648)))]) (by rw [List.set_set]) ?_
        exact OkQ.join0  (trivial) (sS rfl (sS rfl (sS rfl (sN)))) (List.Sublist.refl _)
      · replace hc1 := of_decide_eq_false hc1
        refine OkC.skip ?_
        refine OkQ.reblock (L' := [blk g 22 (u32s (os.set i (us.getD i 0 / 2 + us.getD (i + 1) 0 % 2 * 2147483648)))]) (by rw [show us.getD (i + 1) 0 = 0 by simp [List.getD_eq_getElem?_getD, show N ≤ i + 1 by omega, hlu], Nat.zero_mod, Nat.zero_mul, Nat.add_zero]) ?_
        exact OkQ.join0  (trivial) (sS rfl (sS rfl (sS rfl (sN)))) (List.Sublist.refl _)
    · intro hJ
      replace hJ : True := hJ
      refine OkQ.sub (F' := [(0, (Value.slice (some ⟨g, 0, none⟩) N c)), (4, (vN N)), (5, (vN i))]) (L' := [blk g 22 (u32s (os.set i (us.getD i 0 / 2 + us.getD (i + 1) 0 % 2 * 2147483648)))]) (sF rfl) (List.Sublist.refl _) ?_
      refine OkQ.in_normal ?_
      refine OkQ.then_ ?_
      refine OkC.region ?_
      refine st (ex_add (c := ((i + 1 : Nat) : Int)) rfl rfl (addN_i64 (a := i) (b := 1) (by omega))) (leB rfl) ?_
      refine st (ex_move rfl) (leB rfl) ?_
      refine OkL.nil ?_
      refine OkQ.subF (sC 0 rfl (sC 4 rfl (sC 5 rfl (sN)))) ?_
      have hst := half_step hlu hl hc0 hus hd hv (x := us.getD i 0 / 2 + us.getD (i + 1) 0 % 2 * 2147483648) rfl
      exact OkQ.round2 (i + 1) (os.set i (us.getD i 0 / 2 + us.getD (i + 1) 0 % 2 * 2147483648)) (⟨by omega, by rw [List.length_set]; exact hl, W32.set hw32 (by omega) _, hst.1, hst.2⟩) (by omega) (sS rfl (sS rfl (sS rfl (sN)))) (List.Sublist.refl _)
  · replace hc0 := of_decide_eq_false hc0
    have hiN : i = N := by omega
    have hfin := half_done hlu hl (by rw [← hiN]; exact hv) hus
    refine OkC.exit ?_
    refine OkQ.then_exit ?_
    refine OkQ.round2_exit ?_
    refine OkQ.in_exit ?_
    exact ret_none (.inr rfl) rfl  (fun w hw => ⟨rfl, hw.1, by rw [← row_eq hw32 hl hfin]; exact hw.get (i := 0) rfl⟩)

theorem less_ok (g q k n N c1 c3 D : Nat) (us vb : List Nat) (hus : W32 us) (hlu : us.length = N) (hvb : W32 vb) (hn : n ≤ vb.length) (hk : k + n + 1 ≤ N) (hN : N ≤ 4398046511104) (hD : D < 4294967296) (hu : val us < 4294967296 ^ (k + n + 1)) (hne : q ≠ g) (w : World) (hg : w.heap[g]? = some (.cells (u32s us).toArray 22 (0, 0))) (hq : w.heap[q]? = some (.cells (u32s vb).toArray 22 (0, 0))) : Calls Tryz.prog 179 #[(Value.slice (some ⟨g, k, none⟩) (n + 1) c1), (Value.slice (some ⟨q, 0, none⟩) n c3), (vK .u64 D)] w (fun e w' => e = .returned (.bool (decide (val us < D * val (vb.take n) * 4294967296 ^ k))) ∧ w.grownBy w' (some g) ∧ w'.heap[g]? = some (.cells (u32s (rowN N (val us + (if val us < D * val (vb.take n) * 4294967296 ^ k then 4294967296 ^ (k + n + 1) else 0) - D * val (vb.take n) * 4294967296 ^ k))).toArray 22 (0, 0))) := by
  refine calls_ofM (args := [(Value.slice (some ⟨g, k, none⟩) (n + 1) c1), (Value.slice (some ⟨q, 0, none⟩) n c3), (vK .u64 D)]) (g := g) (T := 22) (cs := u32s us) Tryz.func179 rfl rfl (leB rfl) hg ?_
  refine OkC.subF (sC 0 rfl (sC 1 rfl (sC 2 rfl (sN)))) ?_
  refine q4 ?_
  refine st (ex_assign rfl) (leB rfl) ?_
  refine OkL.nil ?_
  refine q2 ?_
  refine st (ex_assign rfl) (leB rfl) ?_
  refine st (ex_assign rfl) (leB rfl) ?_
  refine OkL.nil ?_
  refine q1 ?_
  refine q4 ?_
  refine st (ex_move rfl) (leB rfl) ?_
  refine st (v := (vN n)) (ex_len_slice rfl Tryz.underlying161) (leB rfl) ?_
  refine st (ex_move rfl) (leB rfl) ?_
  refine OkL.nil ?_
  refine OkQ.then_ ?_
  refine OkC.block ?_
  refine OkC.sub (F' := [(0, (Value.slice (some ⟨g, k, none⟩) (n + 1) c1)), (1, (Value.slice (some ⟨q, 0, none⟩) n c3)), (2, (vK .u64 D)), (6, (Value.bool false)), (12, (Value.slice (some ⟨q, 0, none⟩) n c3)), (13, (vN n)), (14, (vI 0)), (7, (Value.int .u64 (0 : Int))), (8, (Value.int .u32 (0 : Int)))]) (L' := [blk g 22 (u32s us)]) (sF rfl) (List.Sublist.refl _) ?_
  refine OkC.loop4 (J := fun (i : Nat) (os : List Nat) (c : Nat) (l : Nat) => i ≤ n ∧ os.length = N ∧ W32 os ∧ c < 4294967296 ∧ l ≤ 1 ∧ (∀ j, k + n + 1 ≤ j → os.getD j 0 = 0) ∧ val os + D * val (vb.take i) * 4294967296 ^ k = val us + (c + l) * 4294967296 ^ (k + i)) (FI := fun (i : Nat) (os : List Nat) (c : Nat) (l : Nat) => [(0, (Value.slice (some ⟨g, k, none⟩) (n + 1) c1)), (1, (Value.slice (some ⟨q, 0, none⟩) n c3)), (2, (vK .u64 D)), (6, (Value.bool false)), (12, (Value.slice (some ⟨q, 0, none⟩) n c3)), (13, (vN n)), (14, (vN i)), (7, (vK .u64 c)), (8, (vK .u32 l))]) (LI := fun (i : Nat) (os : List Nat) (c : Nat) (l : Nat) => [blk g 22 (u32s os)]) (m := fun (i : Nat) (os : List Nat) (c : Nat) (l : Nat) => n - i) (fun i os c l hJ => ?_) 0 us 0 0 (⟨Nat.zero_le _, hlu, hus, by omega, by omega, zero_of_val hu, by simp [val]⟩)
  replace hJ : i ≤ n ∧ os.length = N ∧ W32 os ∧ c < 4294967296 ∧ l ≤ 1 ∧ (∀ j, k + n + 1 ≤ j → os.getD j 0 = 0) ∧ val os + D * val (vb.take i) * 4294967296 ^ k = val us + (c + l) * 4294967296 ^ (k + i) := hJ
  obtain ⟨hi, hl, hw32, hcb, hll, hz, hv⟩ := hJ
  refine OkC.sub (F' := [(0, (Value.slice (some ⟨g, k, none⟩) (n + 1) c1)), (1, (Value.slice (some ⟨q, 0, none⟩) n c3)), (2, (vK .u64 D)), (6, (Value.bool false)), (12, (Value.slice (some ⟨q, 0, none⟩) n c3)), (13, (vN n)), (14, (vN i)), (7, (vK .u64 c)), (8, (vK .u32 l))]) (L' := [blk g 22 (u32s os)]) (sF rfl) (List.Sublist.refl _) ?_
  refine q4 ?_
  refine st (ex_lss (c := (decide (i < n))) rfl rfl (ltN (a := i) (b := n))) (leB rfl) ?_
  refine OkL.nil ?_
  refine q1 ?_
  refine OkC.cond rfl (fun hc0 => ?_) (fun hc0 => ?_)
  · replace hc0 := of_decide_eq_true hc0
    refine OkC.skip ?_
    refine q1 ?_
    refine OkC.block ?_
    refine q4 ?_
    refine st (ex_move rfl) (leB rfl) ?_
    refine st (v := (pP q i)) (ex_indexAddr_slice (j := i) rfl rfl Tryz.underlying161 Tryz.sizeOf22 rfl (by omega) (by simp)) (leB rfl) ?_
    have hx1 : vb.getD i 0 < 4294967296 := W32.getD hvb i
    refine st (ex_load_one_at (v := (vK .u32 (vb.getD i 0))) rfl (fun w' hw => CA.at0 (hw.oldCA (by simpa using hne) (ca_blk hq)) (u32s_get (xs := vb) (j := i) (by omega))) Tryz.isAgg22) (leB rfl) ?_
    have hvi := hvb.getD i
    have hml := mul_w hD hvi
    refine st (ex_assign rfl) (leB rfl) ?_
    refine st (ex_assign rfl) (leB rfl) ?_
    refine q3 (sC 0 rfl (sC 1 rfl (sC 2 rfl (sC 6 rfl (sC 12 rfl (sC 13 rfl (sC 14 rfl (sC 7 rfl (sC 8 rfl (sC 9 rfl (sC 10 rfl (sN)))))))))))) ?_
    refine st (ex_move rfl) (leB rfl) ?_
    refine st (ex_move rfl) (leB rfl) ?_
    refine st (ex_move rfl) (leB rfl) ?_
    refine st (ex_conv (c := ((vb.getD i 0 : Nat) : Int)) rfl Tryz.underlying22 Tryz.underlying28 (convN_u64 (by omega))) (leB rfl) ?_
    refine st (ex_mul (c := ((D * (vb.getD i 0) : Nat) : Int)) rfl rfl (mulN_u64 (a := D) (b := vb.getD i 0) (by omega))) (leB rfl) ?_
    refine st (ex_add (c := ((c + (D * (vb.getD i 0)) : Nat) : Int)) rfl rfl (addN_u64 (a := c) (b := D * (vb.getD i 0)) (by omega))) (leB rfl) ?_
    refine st (ex_assign rfl) (leB rfl) ?_
    refine q3 (sC 0 rfl (sC 1 rfl (sC 2 rfl (sC 6 rfl (sC 12 rfl (sC 13 rfl (sC 14 rfl (sC 7 rfl (sC 8 rfl (sC 9 rfl (sN))))))))))) ?_
    refine st (ex_move rfl) (leB rfl) ?_
    refine st (ex_move rfl) (leB rfl) ?_
    refine st (ex_move rfl) (leB rfl) ?_
    refine st (ex_move rfl) (leB rfl) ?_
    refine st (v := (pP g (k + i))) (ex_indexAddr_slice (j := i) rfl rfl Tryz.underlying161 Tryz.sizeOf22 rfl (by omega) (by simp)) (leB rfl) ?_
    have hx2 : os.getD (k + i) 0 < 4294967296 := W32.getD hw32 (k + i)
    refine st (ex_load_one (i := 0) (v := (vK .u32 (os.getD (k + i) 0))) rfl rfl Tryz.isAgg22 (u32s_get (xs := os) (j := k + i) (by omega))) (leB rfl) ?_
    refine st (ex_move rfl) (leB rfl) ?_
    refine st (ex_conv (c := (((c + (D * (vb.getD i 0))) % 4294967296 : Nat) : Int)) rfl Tryz.underlying28 Tryz.underlying22 modN_u32) (leB rfl) ?_
    refine st (ex_move rfl) (leB rfl) ?_
    refine OkL.call (v := (Value.tuple #[(vK .u32 (((os.getD (k + i) 0) + (4294967296 - ((c + (D * (vb.getD i 0))) % 4294967296)) + (4294967296 - l)) % 4294967296)), (vK .u32 (bor (os.getD (k + i) 0) (((c + (D * (vb.getD i 0))) % 4294967296) + l)))])) (wt_none rfl) (op_call0 (args := [(vK .u32 (os.getD (k + i) 0)), (vK .u32 ((c + (D * (vb.getD i 0))) % 4294967296)), (vK .u32 l)]) rfl rfl Tryz.call157) (fun w hw => sub32_ok (os.getD (k + i) 0) ((c + (D * (vb.getD i 0))) % 4294967296) l _ (by omega) (by omega) (by omega) rfl w) rfl (leB rfl) ?_
    refine st (ex_move rfl) (leB rfl) ?_
    refine st (ex_extract (v := (vK .u32 (((os.getD (k + i) 0) + (4294967296 - ((c + (D * (vb.getD i 0))) % 4294967296)) + (4294967296 - l)) % 4294967296))) rfl rfl) (leB rfl) ?_
    refine st (ex_extract (v := (vK .u32 (bor (os.getD (k + i) 0) (((c + (D * (vb.getD i 0))) % 4294967296) + l)))) rfl rfl) (leB rfl) ?_
    refine st (v := (pP g (k + i))) (ex_indexAddr_slice (j := i) rfl rfl Tryz.underlying161 Tryz.sizeOf22 rfl (by omega) (by simp)) (leB rfl) ?_
    refine OkL.store' (i := 0) (off := k + i) (vs := [(vK .u32 (((os.getD (k + i) 0) + (4294967296 - ((c + (D * (vb.getD i 0))) % 4294967296)) + (4294967296 - l)) % 4294967296))]) (cs' := u32s (os.set (k + i) (((os.getD (k + i) 0) + (4294967296 - ((c + (D * (vb.getD i 0))) % 4294967296)) + (4294967296 - l)) % 4294967296))) (L' := [blk g 22 (u32s (os.set (k + i) (((os.getD (k + i) 0) + (4294967296 - ((c + (D * (vb.getD i 0))) % 4294967296)) + (4294967296 - l)) % 4294967296)))]) (wt_none rfl) rfl rfl rfl rfl rfl Tryz.sizeOf22 rfl (ble_row (u32s_length _) (by omega)) (u32s_set (by omega)) rfl ?_
    refine st (ex_assign rfl) (leB rfl) ?_
    refine OkL.nil ?_
    refine OkQ.subF (sC 0 rfl (sC 1 rfl (sC 2 rfl (sC 6 rfl (sC 12 rfl (sC 13 rfl (sC 14 rfl (sC 7 rfl (sC 8 rfl (sN)))))))))) ?_
    refine OkQ.then_ ?_
    refine OkC.region ?_
    refine st (ex_move rfl) (leB rfl) ?_
    refine st (ex_shr (s := 32) (c := (((c + (D * (vb.getD i 0))) / 4294967296 : Nat) : Int)) rfl rfl rfl (by decide) (shrN (a := c + (D * (vb.getD i 0))) (s := 32))) (leB rfl) ?_
    refine st (ex_assign rfl) (leB rfl) ?_
    refine OkL.nil ?_
    refine OkQ.subF (sC 0 rfl (sC 1 rfl (sC 2 rfl (sC 6 rfl (sC 12 rfl (sC 13 rfl (sC 14 rfl (sC 7 rfl (sC 8 rfl (sN)))))))))) ?_
    refine OkQ.in_normal ?_
    refine OkQ.then_ ?_
    refine OkC.region ?_
    refine st (ex_add (c := ((i + 1 : Nat) : Int)) rfl rfl (addN_i64 (a := i) (b := 1) (by omega))) (leB rfl) ?_
    refine st (ex_move rfl) (leB rfl) ?_
    refine OkL.nil ?_
    refine OkQ.subF (sC 0 rfl (sC 1 rfl (sC 2 rfl (sC 6 rfl (sC 12 rfl (sC 13 rfl (sC 14 rfl (sC 7 rfl (sC 8 rfl (sN)))))))))) ?_
    exact OkQ.round4 (i + 1) (os.set (k + i) ((os.getD (k + i) 0 + (4294967296 - (c + D * vb.getD i 0) % 4294967296) + (4294967296 - l)) % 4294967296)) ((c + D * vb.getD i 0) / 4294967296) (bor (os.getD (k + i) 0) ((c + D * vb.getD i 0) % 4294967296 + l)) (⟨by omega, by rw [List.length_set]; exact hl, W32.set hw32 (by omega) _, by omega, bor_le _ _, set_above hz (by omega), less_step (n := n) hl (by omega) hw32 hll hv rfl rfl⟩) (by omega) (sS rfl (sS rfl (sS rfl (sS rfl (sS rfl (sS rfl (sS rfl (sS rfl (sS rfl (sN)))))))))) (List.Sublist.refl _)
  · replace hc0 := of_decide_eq_false hc0
    have hin : i = n := by omega
    have hv1 := hv
    rw [hin] at hv1
    have hll2 := less_last hl (by omega) hw32 hll hcb hv1
    have hfin := less_done (c := 0) (os := os.set (k + n) ((os.getD (k + n) 0 + (4294967296 - c) + (4294967296 - l)) % 4294967296)) (us := us) (vs := vb) (n := n) (l := bor (os.getD (k + n) 0) (c + l)) (D := D) (by rw [List.length_set]; exact hl) (W32.set hw32 (by omega) _) hk hu hll2 (bor_le _ _) (set_above hz (by omega))
    refine OkC.exit ?_
    refine OkQ.then_exit ?_
    refine OkQ.round4_exit ?_
    refine OkQ.in_exit ?_
    refine q2 ?_
    refine st (ex_move rfl) (leB rfl) ?_
    refine st (v := (vN n)) (ex_len_slice rfl Tryz.underlying161) (leB rfl) ?_
    refine st (ex_assign rfl) (leB rfl) ?_
    refine q3 (sC 0 rfl (sC 1 rfl (sC 2 rfl (sC 6 rfl (sC 12 rfl (sC 13 rfl (sC 14 rfl (sC 7 rfl (sC 8 rfl (sC 11 rfl (sN))))))))))) ?_
    refine st (ex_move rfl) (leB rfl) ?_
    refine st (ex_move rfl) (leB rfl) ?_
    refine st (ex_move rfl) (leB rfl) ?_
    refine st (ex_move rfl) (leB rfl) ?_
    refine st (v := (pP g (k + n))) (ex_indexAddr_slice (j := n) rfl rfl Tryz.underlying161 Tryz.sizeOf22 rfl (by omega) (by simp)) (leB rfl) ?_
    have hx3 : os.getD (k + n) 0 < 4294967296 := W32.getD hw32 (k + n)
    refine st (ex_load_one (i := 0) (v := (vK .u32 (os.getD (k + n) 0))) rfl rfl Tryz.isAgg22 (u32s_get (xs := os) (j := k + n) (by omega))) (leB rfl) ?_
    refine st (ex_move rfl) (leB rfl) ?_
    refine st (ex_conv (c := ((c : Nat) : Int)) rfl Tryz.underlying28 Tryz.underlying22 (convN_u32 (by omega))) (leB rfl) ?_
    refine st (ex_move rfl) (leB rfl) ?_
    refine OkL.call (v := (Value.tuple #[(vK .u32 (((os.getD (k + n) 0) + (4294967296 - c) + (4294967296 - l)) % 4294967296)), (vK .u32 (bor (os.getD (k + n) 0) (c + l)))])) (wt_none rfl) (op_call0 (args := [(vK .u32 (os.getD (k + n) 0)), (vK .u32 c), (vK .u32 l)]) rfl rfl Tryz.call157) (fun w hw => sub32_ok (os.getD (k + n) 0) c l _ (by omega) (by omega) (by omega) rfl w) rfl (leB rfl) ?_
    refine st (ex_move rfl) (leB rfl) ?_
    refine st (ex_extract (v := (vK .u32 (((os.getD (k + n) 0) + (4294967296 - c) + (4294967296 - l)) % 4294967296))) rfl rfl) (leB rfl) ?_
    refine st (ex_extract (v := (vK .u32 (bor (os.getD (k + n) 0) (c + l)))) rfl rfl) (leB rfl) ?_
    refine st (v := (pP g (k + n))) (ex_indexAddr_slice (j := n) rfl rfl Tryz.underlying161 Tryz.sizeOf22 rfl (by omega) (by simp)) (leB rfl) ?_
    refine OkL.store' (i := 0) (off := k + n) (vs := [(vK .u32 (((os.getD (k + n) 0) + (4294967296 - c) + (4294967296 - l)) % 4294967296))]) (cs' := u32s (os.set (k + n) (((os.getD (k + n) 0) + (4294967296 - c) + (4294967296 - l)) % 4294967296))) (L' := [blk g 22 (u32s (os.set (k + n) (((os.getD (k + n) 0) + (4294967296 - c) + (4294967296 - l)) % 4294967296)))]) (wt_none rfl) rfl rfl rfl rfl rfl Tryz.sizeOf22 rfl (ble_row (u32s_length _) (by omega)) (u32s_set (by omega)) rfl ?_
    refine st (ex_assign rfl) (leB rfl) ?_
    refine q3 (sC 0 rfl (sC 1 rfl (sC 2 rfl (sC 6 rfl (sC 12 rfl (sC 13 rfl (sC 14 rfl (sC 7 rfl (sC 8 rfl (sN)))))))))) ?_
    refine st (ex_move rfl) (leB rfl) ?_
    refine st (ex_gtr (c := (decide (0 < (bor (os.getD (k + n) 0) (c + l))))) rfl rfl (ltN (a := 0) (b := bor (os.getD (k + n) 0) (c + l)))) (leB rfl) ?_
    refine st (ex_assign rfl) (leB rfl) ?_
    refine OkL.nil ?_
    refine OkQ.subF (sC 0 rfl (sC 1 rfl (sC 2 rfl (sC 6 rfl (sC 12 rfl (sC 13 rfl (sC 14 rfl (sC 7 rfl (sC 8 rfl (sN)))))))))) ?_
    refine OkQ.then_ ?_
    refine OkC.ret ?_
    exact ret_one rfl (rd_tmp (v := (Value.bool (decide (0 < (bor (os.getD (k + n) 0) (c + l)))))) rfl) (fun w hw => ⟨by rw [hfin.1], hw.1, by rw [← hfin.2]; exact hw.get (i := 0) rfl⟩)


end Go.Proofs.YtpkoldfmbebmgaaGreatDoor
