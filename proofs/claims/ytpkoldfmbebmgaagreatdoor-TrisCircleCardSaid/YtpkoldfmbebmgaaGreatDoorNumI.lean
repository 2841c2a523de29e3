/- Walks, printed by gen.py. -/
import Derived.Test.YtpkoldfmbebmgaaGreatDoorNumH
import Derived.Test.YtpkoldfmbebmgaaGreatDoorLong
namespace Go.Proofs.YtpkoldfmbebmgaaGreatDoor
open Go Go.RowKit
set_option maxRecDepth 100000
set_option linter.unusedVariables false
set_option linter.unusedSimpArgs false

theorem back_arith {R P D Q X : Nat} (h1 : D = Q + X) (h2 : Q ≤ R) (h3 : R < P) (h4 : R < D) (h5 : X ≤ P) : R + P - D + X = R - Q + P := by omega
theorem long_ok (a b p q c1 c2 : Nat) (ha : nw a ≤ 1099511627776) (hb2 : 2 ≤ nw b) (hba : nw b ≤ nw a) (w : World) (hp : w.heap[p]? = some (.cells (u32s (padW a)).toArray 22 (0, 0))) (hq : w.heap[q]? = some (.cells (u32s (padW b)).toArray 22 (0, 0))) : Calls Tryz.prog 156 #[(Value.slice (some ⟨p, 0, none⟩) (nw a) c1), (Value.slice (some ⟨q, 0, none⟩) (nw b) c2)] w (fun e w' => ∃ b1 b2, e = .returned (.tuple #[.slice (some ⟨b1, 0, none⟩) (nw a + 1 - nw b) (nw a + 1 - nw b), .slice (some ⟨b2, 0, none⟩) (nw a + 1) (nw a + 1)]) ∧ Below w.heap.size w w' ∧ w.heap.size ≤ b1 ∧ w.heap.size ≤ b2 ∧ b1 ≠ b2 ∧ w'.heap[b1]? = some (.cells (u32s (rowN (nw a + 1 - nw b) (a / b))).toArray 22 (0, 0)) ∧ w'.heap[b2]? = some (.cells (u32s (rowN (nw a + 1) (a % b))).toArray 22 (0, 0))) := by
  have hla := nw_le_pad a
  have hlb := nw_le_pad b
  have hb0 : 0 < b := Nat.pos_of_ne_zero (fun h => by rw [h, nw_zero] at hb2; omega)
  obtain ⟨s, hs⟩ : ∃ s, s = 32 - bl ((wordsOf b).getD (nw b - 1) 0) := ⟨_, rfl⟩
  obtain ⟨hs32, hlow, hhigh⟩ := normed (by omega) hs
  obtain ⟨m, hm⟩ : ∃ m, m = nw a + 1 - nw b := ⟨_, rfl⟩
  obtain ⟨V, hV⟩ : ∃ V, V = b * 2 ^ s := ⟨_, rfl⟩
  obtain ⟨vb, hvb⟩ : ∃ vb, vb = rowN (nw b + 1) (b * 2 ^ s) := ⟨_, rfl⟩
  have hbig : b * 2 ^ s < 4294967296 ^ (nw b + 1) := Nat.lt_of_lt_of_le hhigh (Nat.pow_le_pow_right (by omega) (by omega))
  have hN : Nrm vb (nw b) V := ⟨by rw [hvb]; exact rowN_w32 _ _, by rw [hvb]; exact rowN_length _ _, hb2, by rw [hvb, hV]; exact val_rowN _ _ hbig, by rw [hV]; exact hlow, by rw [hV]; exact hhigh⟩
  have hst := long_start rfl (by omega) hs32 hlow hm hba
  have hA : val (rowN (nw a + 1) (a * 2 ^ s)) = a * 2 ^ s := val_rowN _ _ (by rw [Nat.pow_succ]; exact Nat.mul_lt_mul_of_lt_of_le (lt_pow_nw a) (Nat.le_trans (Nat.pow_le_pow_right (by omega) (show s ≤ 32 by omega)) (by decide)) (by omega))
  have hvlen := hN.len
  have htop := hN.top
  have htw := (top_word (b := b) (by omega)).2.2
  refine calls_of (args := [(Value.slice (some ⟨p, 0, none⟩) (nw a) c1), (Value.slice (some ⟨q, 0, none⟩) (nw b) c2)]) Tryz.func156 rfl rfl (leB rfl) ?_
  refine OkC.subF (sC 0 rfl (sC 1 rfl (sN))) ?_
  refine q4 ?_
  refine st (ex_assign rfl) (leB rfl) ?_
  refine st (ex_assign rfl) (leB rfl) ?_
  refine OkL.nil ?_
  refine q2 ?_
  refine st (ex_move rfl) (leB rfl) ?_
  refine st (ex_move rfl) (leB rfl) ?_
  refine st (v := (vN (nw b))) (ex_len_slice rfl Tryz.underlying161) (leB rfl) ?_
  refine st (ex_sub (c := (((nw b) - 1 : Nat) : Int)) rfl rfl (subN_i64 (a := nw b) (b := 1) (by omega) (by omega))) (leB rfl) ?_
  refine st (v := (pP q ((nw b) - 1))) (ex_indexAddr_slice (j := (nw b) - 1) rfl rfl Tryz.underlying161 Tryz.sizeOf22 rfl (by omega) (by simp)) (leB rfl) ?_
  have hx1 : (padW b).getD ((nw b) - 1) 0 < 4294967296 := W32.getD (padW_w32 b) ((nw b) - 1)
  refine st (ex_load_one_at (v := (vK .u32 ((padW b).getD ((nw b) - 1) 0))) rfl (fun w' hw => CA.at0 (hw.oldCA (by simp) (ca_blk hq)) (u32s_get (xs := padW b) (j := ((nw b) - 1)) (by omega))) Tryz.isAgg22) (leB rfl) ?_
  refine OkL.retell (k := 22) (u := (vK .u32 ((wordsOf b).getD (nw b - 1) 0))) rfl (by rw [pad_getD (by omega)]) ?_
  refine OkL.call (v := (vN (32 - bl ((wordsOf b).getD (nw b - 1) 0)))) (wt_none rfl) (op_call0 (args := [(vK .u32 ((wordsOf b).getD (nw b - 1) 0))]) rfl rfl Tryz.call177) (fun w hw => lz32_ok ((wordsOf b).getD (nw b - 1) 0) (by omega) w) rfl (leB rfl) ?_
  refine OkL.retell (k := 23) (u := (vN s)) rfl (by rw [hs]) ?_
  refine st (ex_assign rfl) (leB rfl) ?_
  refine q6 (sC 0 rfl (sC 1 rfl (sC 4 rfl (sC 5 rfl (sC 6 rfl (sN)))))) ?_
  refine OkC.drawn' (specs := [⟨.pure, fun _ => (Value.slice (some ⟨p, 0, none⟩) (nw a) c1), [], 0, []⟩, ⟨.pure, fun _ => (vN s), [], 0, []⟩, ⟨.new, fun β => (Value.slice (some ⟨(β 2), 0, none⟩) (nw a + 1) (nw a + 1)), [], 22, u32s (rowN (nw a + 1) (a * 2 ^ s))⟩, ⟨.pure, fun _ => (Value.slice (some ⟨q, 0, none⟩) (nw b) c2), [], 0, []⟩, ⟨.pure, fun _ => (vN s), [], 0, []⟩, ⟨.new, fun β => (Value.slice (some ⟨(β 5), 0, none⟩) (nw b + 1) (nw b + 1)), [], 22, u32s vb⟩, ⟨.pure, fun _ => (Value.slice (some ⟨q, 0, none⟩) (nw b) c2), [], 0, []⟩, ⟨.pure, fun _ => (vN (nw b)), [], 0, []⟩, ⟨.pure, fun β => (Value.slice (some ⟨(β 5), 0, none⟩) (nw b) (nw b + 1)), [5], 0, []⟩]) (by kernel_rfl) (fun hchk1 => ?_)
  refine dR (Lro := []) (List.Sublist.refl _) (dC (dC (DepAll.block (V := fun bq => (Value.slice (some ⟨bq, 0, none⟩) (nw a + 1) (nw a + 1))) (dC (dC (DepAll.block (V := fun bq => (Value.slice (some ⟨bq, 0, none⟩) (nw b + 1) (nw b + 1))) (dC (dC (DepAll.cons (fun β β' h _ => by have e5 : β 5 = β' 5 := h 5 (show 5 ∈ [5] by decide); simp only [e5]) (dN)))))))))) hchk1 (by kernel_rfl) (fun _ _ d _ _ h => by cases d <;> exact h) (vC (vc_pure0 (G := fun β => [(0, (Value.slice (some ⟨p, 0, none⟩) (nw a) c1))]) (fun β => sF (by kernel_rfl)) (fun β _ => ex_move rfl)) (vC (vc_pure0 (G := fun β => [(6, (vN s))]) (fun β => sF (by kernel_rfl)) (fun β _ => ex_move rfl)) (vC (vc_callB0 (V := fun bq => (Value.slice (some ⟨bq, 0, none⟩) (nw a + 1) (nw a + 1))) (j := 2) (one_place hchk1 rfl rfl rfl) (G := fun β => [(24, (Value.slice (some ⟨p, 0, none⟩) (nw a) c1)), (25, (vN s))]) (fun β => sF (by kernel_rfl)) (fun β => op_call0 (args := [(Value.slice (some ⟨p, 0, none⟩) (nw a) c1), (vN s)]) rfl rfl Tryz.call178) (fun β w hw => (by have h := shifted_ok p (nw a) c1 s (padW a) (padW_w32 a) hla (by omega) hs32 w (hw.old (by simp) hp); rw [take_pad_val] at h; exact h))) (vC (vc_pure0 (G := fun β => [(1, (Value.slice (some ⟨q, 0, none⟩) (nw b) c2))]) (fun β => sF (by kernel_rfl)) (fun β _ => ex_move rfl)) (vC (vc_pure0 (G := fun β => [(6, (vN s))]) (fun β => sF (by kernel_rfl)) (fun β _ => ex_move rfl)) (vC (vc_callB0 (V := fun bq => (Value.slice (some ⟨bq, 0, none⟩) (nw b + 1) (nw b + 1))) (j := 5) (one_place hchk1 rfl rfl rfl) (G := fun β => [(27, (Value.slice (some ⟨q, 0, none⟩) (nw b) c2)), (28, (vN s))]) (fun β => sF (by kernel_rfl)) (fun β => op_call0 (args := [(Value.slice (some ⟨q, 0, none⟩) (nw b) c2), (vN s)]) rfl rfl Tryz.call178) (fun β w hw => (by have h := shifted_ok q (nw b) c2 s (padW b) (padW_w32 b) hlb (by omega) hs32 w (hw.old (by simp) hq); rw [take_pad_val, ← hvb] at h; exact h))) (vC (vc_pure0 (G := fun β => [(1, (Value.slice (some ⟨q, 0, none⟩) (nw b) c2))]) (fun β => sF (by kernel_rfl)) (fun β _ => ex_move rfl)) (vC (vc_pure0 (G := fun β => [(30, (Value.slice (some ⟨q, 0, none⟩) (nw b) c2))]) (fun β => sF (by kernel_rfl)) (fun β _ => ex_len_slice rfl Tryz.underlying161)) (vC (vc_pure0 (G := fun β => [(29, (Value.slice (some ⟨(β 5), 0, none⟩) (nw b + 1) (nw b + 1))), (31, (vN (nw b)))]) (fun β => sF (by kernel_rfl)) (fun β _ => ex_slice_hi (m := nw b) rfl rfl Tryz.underlying161 Tryz.sizeOf22 (by omega))) (VcAll.nil)))))))))) (fun β => ?_)
  clear hchk1
  refine OkLH.sub (F' := [(1, (Value.slice (some ⟨q, 0, none⟩) (nw b) c2)), (4, (Value.slice none 0 0)), (5, (Value.slice none 0 0)), (6, (vN s)), (26, (Value.slice (some ⟨(β 2), 0, none⟩) (nw a + 1) (nw a + 1))), (32, (Value.slice (some ⟨(β 5), 0, none⟩) (nw b) (nw b + 1)))]) (L' := [blk (β 2) 22 (u32s (rowN (nw a + 1) (a * 2 ^ s))), blk (β 5) 22 (u32s vb)]) (sF rfl) (List.Sublist.refl _) ?_
  generalize β 2 = b1
  generalize β 5 = b2
  refine OkLH.step (v := (Value.slice (some ⟨b1, 0, none⟩) (nw a + 1) (nw a + 1))) (List.Sublist.cons _ (List.Sublist.cons _ (List.Sublist.refl _))) (wt_none rfl) (ex_assign rfl) rfl (leB rfl) ?_
  refine OkLH.step (v := (Value.slice (some ⟨b2, 0, none⟩) (nw b) (nw b + 1))) (List.Sublist.cons _ (List.Sublist.cons _ (List.Sublist.refl _))) (wt_none rfl) (ex_assign rfl) rfl (leB rfl) ?_
  refine q5 (sC 1 rfl (sC 4 rfl (sC 5 rfl (sC 6 rfl (sC 7 rfl (sC 8 rfl (sN))))))) ?_
  refine st (ex_move rfl) (leB rfl) ?_
  refine st (v := (vN (nw b))) (ex_len_slice rfl Tryz.underlying161) (leB rfl) ?_
  refine st (ex_assign rfl) (leB rfl) ?_
  refine q3 (sC 1 rfl (sC 4 rfl (sC 5 rfl (sC 6 rfl (sC 7 rfl (sC 8 rfl (sC 9 rfl (sN)))))))) ?_
  refine st (ex_move rfl) (leB rfl) ?_
  refine st (v := (vN (nw a + 1))) (ex_len_slice rfl Tryz.underlying161) (leB rfl) ?_
  refine st (ex_move rfl) (leB rfl) ?_
  refine st (ex_sub (c := (((nw a + 1) - (nw b) : Nat) : Int)) rfl rfl (subN_i64 (a := nw a + 1) (b := nw b) (by omega) (by omega))) (leB rfl) ?_
  refine OkL.retell (k := 38) (u := (vN m)) rfl (by rw [hm]) ?_
  refine OkL.openV (V := fun b3 => (Value.slice (some ⟨b3, 0, none⟩) m m)) (T := 22) (cs := u32s (List.replicate m 0)) (wt_none rfl) (op_make_u32 (m := m) (c := m) rfl rfl (by omega) (by omega)) rfl (leB rfl) ?_; intro b3
  refine st (ex_assign rfl) (leB rfl) ?_
  refine q6 (sC 1 rfl (sC 4 rfl (sC 5 rfl (sC 6 rfl (sC 7 rfl (sC 8 rfl (sC 9 rfl (sN)))))))) ?_
  refine q4 ?_
  refine st (ex_move rfl) (leB rfl) ?_
  refine st (v := (vN m)) (ex_len_slice rfl Tryz.underlying161) (leB rfl) ?_
  refine st (ex_sub (c := (((m : Nat) : Int) - 1)) rfl rfl (wrap_i64 (by omega) (by omega))) (leB rfl) ?_
  refine st (ex_assign rfl) (leB rfl) ?_
  refine OkL.nil ?_
  refine OkQ.subF (sC 1 rfl (sC 4 rfl (sC 5 rfl (sC 6 rfl (sC 7 rfl (sC 8 rfl (sC 9 rfl (sC 10 rfl (sN))))))))) ?_
  refine OkQ.then_ ?_
  refine OkC.block ?_
  refine OkC.sub (F' := [(4, (Value.slice (some ⟨b3, 0, none⟩) m m)), (5, (Value.slice none 0 0)), (6, (vN s)), (7, (Value.slice (some ⟨b1, 0, none⟩) (nw a + 1) (nw a + 1))), (8, (Value.slice (some ⟨b2, 0, none⟩) (nw b) (nw b + 1))), (9, (vN (nw b))), (10, (vI (((m : Nat) : Int) - 1)))]) (L' := [blk b3 22 (u32s (List.replicate m 0)), blk b1 22 (u32s (rowN (nw a + 1) (a * 2 ^ s))), blk b2 22 (u32s vb)]) (sF rfl) (List.Sublist.refl _) ?_
  refine OkC.loop3 (J := fun (k0 : Nat) (us : List Nat) (qs : List Nat) => k0 ≤ m ∧ us.length = nw a + 1 ∧ W32 us ∧ qs.length = m ∧ W32 qs ∧ (∀ j, j < k0 → qs.getD j 0 = 0) ∧ val us < V * 4294967296 ^ k0 ∧ a * 2 ^ s = val qs * V + val us) (FI := fun (k0 : Nat) (us : List Nat) (qs : List Nat) => [(4, (Value.slice (some ⟨b3, 0, none⟩) m m)), (5, (Value.slice none 0 0)), (6, (vN s)), (7, (Value.slice (some ⟨b1, 0, none⟩) (nw a + 1) (nw a + 1))), (8, (Value.slice (some ⟨b2, 0, none⟩) (nw b) (nw b + 1))), (9, (vN (nw b))), (10, (vI (((k0 : Nat) : Int) - 1)))]) (LI := fun (k0 : Nat) (us : List Nat) (qs : List Nat) => [blk b3 22 (u32s qs), blk b1 22 (u32s us), blk b2 22 (u32s vb)]) (m := fun (k0 : Nat) (us : List Nat) (qs : List Nat) => k0) (fun k0 us qs hJ => ?_) m (rowN (nw a + 1) (a * 2 ^ s)) (List.replicate m 0) (⟨Nat.le_refl _, rowN_length _ _, rowN_w32 _ _, by simp, W32.zeros _, fun j _ => by simp [List.getD_eq_getElem?_getD, List.getElem?_replicate]; split <;> rfl, by rw [hA, hV]; exact hst, by rw [hA, val_zeros]; simp⟩)
  replace hJ : k0 ≤ m ∧ us.length = nw a + 1 ∧ W32 us ∧ qs.length = m ∧ W32 qs ∧ (∀ j, j < k0 → qs.getD j 0 = 0) ∧ val us < V * 4294967296 ^ k0 ∧ a * 2 ^ s = val qs * V + val us := hJ
  obtain ⟨hk0, hul, huw, hql, hqw, hqz, hlt, hAeq⟩ := hJ
  refine OkC.sub (F' := [(4, (Value.slice (some ⟨b3, 0, none⟩) m m)), (5, (Value.slice none 0 0)), (6, (vN s)), (7, (Value.slice (some ⟨b1, 0, none⟩) (nw a + 1) (nw a + 1))), (8, (Value.slice (some ⟨b2, 0, none⟩) (nw b) (nw b + 1))), (9, (vN (nw b))), (10, (vI (((k0 : Nat) : Int) - 1)))]) (L' := [blk b3 22 (u32s qs), blk b1 22 (u32s us), blk b2 22 (u32s vb)]) (sF rfl) (List.Sublist.refl _) ?_
  refine OkC.seq ?_
  refine q4 ?_
  refine st (ex_move rfl) (leB rfl) ?_
  refine st (ex_geq (c := (decide ((0 : Int) ≤ (((k0 : Nat) : Int) - 1)))) rfl rfl rfl) (leB rfl) ?_
  refine OkL.nil ?_
  refine OkQ.subF (sC 4 rfl (sC 5 rfl (sC 6 rfl (sC 7 rfl (sC 8 rfl (sC 9 rfl (sC 10 rfl (sC 44 rfl (sN))))))))) ?_
  refine OkQ.then_ ?_
  refine OkC.cond rfl (fun hc0 => ?_) (fun hc0 => ?_)
  · replace hc0 := of_decide_eq_true hc0
    obtain ⟨k, rfl⟩ : ∃ k, k0 = k + 1 := ⟨k0 - 1, by omega⟩
    obtain ⟨top, htp⟩ : ∃ t, t = us.getD (k + nw b) 0 * 4294967296 + us.getD (k + nw b - 1) 0 := ⟨_, rfl⟩
    obtain ⟨W, hWd⟩ : ∃ x, x = val us / 4294967296 ^ k := ⟨_, rfl⟩
    have hWin := win_of hN huw hlt
    rw [← htp, ← hWd] at hWin
    have hu2 := huw.getD (k + nw b - 2)
    have hG0 := first_guess hN hWin hu2
    have htb := hWin.topb
    have hq32 := hWin.quo_lt hN.pos
    refine OkC.retell (k := 10) (u := (vN k)) rfl (by congr 1; omega) ?_
    refine OkC.skip ?_
    refine q1 ?_
    refine OkC.block ?_
    refine OkC.scope ?_
    refine OkC.seq ?_
    have hx2 : us.getD (k + (nw b)) 0 < 4294967296 := W32.getD huw (k + (nw b))
    have hx3 : us.getD ((k + (nw b)) - 1) 0 < 4294967296 := W32.getD huw ((k + (nw b)) - 1)
    refine dR (specs := [⟨.pure, fun _ => (Value.slice (some ⟨b1, 0, none⟩) (nw a + 1) (nw a + 1)), [], 0, []⟩, ⟨.pure, fun _ => (vN k), [], 0, []⟩, ⟨.pure, fun _ => (vN (nw b)), [], 0, []⟩, ⟨.pure, fun _ => (vN (k + (nw b))), [], 0, []⟩, ⟨.pure, fun _ => (pP b1 (k + (nw b))), [], 0, []⟩, ⟨.held, fun _ => (vK .u32 (us.getD (k + (nw b)) 0)), [], 0, []⟩, ⟨.pure, fun _ => (vK .u64 (us.getD (k + (nw b)) 0)), [], 0, []⟩, ⟨.look, fun _ => (vK .u64 (us.getD (k + nw b) 0 * 4294967296)), [], 0, []⟩, ⟨.pure, fun _ => (Value.slice (some ⟨b1, 0, none⟩) (nw a + 1) (nw a + 1)), [], 0, []⟩, ⟨.pure, fun _ => (vN k), [], 0, []⟩, ⟨.pure, fun _ => (vN (nw b)), [], 0, []⟩, ⟨.pure, fun _ => (vN (k + (nw b))), [], 0, []⟩, ⟨.pure, fun _ => (vN ((k + (nw b)) - 1)), [], 0, []⟩, ⟨.pure, fun _ => (pP b1 ((k + (nw b)) - 1)), [], 0, []⟩, ⟨.held, fun _ => (vK .u32 (us.getD ((k + (nw b)) - 1) 0)), [], 0, []⟩, ⟨.pure, fun _ => (vK .u64 (us.getD ((k + (nw b)) - 1) 0)), [], 0, []⟩, ⟨.pure, fun _ => (vK .u64 top), [], 0, []⟩]) (Lro := [blk b3 22 (u32s qs), blk b1 22 (u32s us), blk b2 22 (u32s vb)]) (List.Sublist.refl _) (dC (dC (dC (dC (dC (dC (dC (dC (dC (dC (dC (dC (dC (dC (dC (dC (dC (dN)))))))))))))))))) (by kernel_rfl) (by kernel_rfl) (fun _ _ d _ _ h => by cases d <;> exact h) (vC (vc_pure0 (G := fun β => [(7, (Value.slice (some ⟨b1, 0, none⟩) (nw a + 1) (nw a + 1)))]) (fun β => sF (by kernel_rfl)) (fun β _ => ex_move rfl)) (vC (vc_pure0 (G := fun β => [(10, (vN k))]) (fun β => sF (by kernel_rfl)) (fun β _ => ex_move rfl)) (vC (vc_pure0 (G := fun β => [(9, (vN (nw b)))]) (fun β => sF (by kernel_rfl)) (fun β _ => ex_move rfl)) (vC (vc_pure0 (G := fun β => [(48, (vN k)), (49, (vN (nw b)))]) (fun β => sF (by kernel_rfl)) (fun β _ => ex_add (c := ((k + (nw b) : Nat) : Int)) rfl rfl (addN_i64 (a := k) (b := nw b) (by omega)))) (vC (vc_pure0 (G := fun β => [(47, (Value.slice (some ⟨b1, 0, none⟩) (nw a + 1) (nw a + 1))), (50, (vN (k + (nw b))))]) (fun β => sF (by kernel_rfl)) (fun β _ => ex_indexAddr_slice (j := k + (nw b)) rfl rfl Tryz.underlying161 Tryz.sizeOf22 rfl (by omega) (by simp))) (vC (vc_held0 (G := fun β => [(51, (pP b1 (k + (nw b))))]) (fun β => sF (by kernel_rfl)) (fun β => ex_load_one (i := 1) (v := (vK .u32 (us.getD (k + (nw b)) 0))) rfl rfl Tryz.isAgg22 (u32s_get (xs := us) (j := (k + (nw b))) (by omega)))) (vC (vc_pure0 (G := fun β => [(52, (vK .u32 (us.getD (k + (nw b)) 0)))]) (fun β => sF (by kernel_rfl)) (fun β _ => ex_conv (c := ((us.getD (k + (nw b)) 0 : Nat) : Int)) rfl Tryz.underlying22 Tryz.underlying28 (convN_u64 (by omega)))) (vC (vc_look0 (G := fun β => [(53, (vK .u64 (us.getD (k + (nw b)) 0)))]) (fun β => sF (by kernel_rfl)) (fun β => ex_shl (s := 32) rfl rfl rfl (by decide) (shlN_u64 (s := 32) (by omega)))) (vC (vc_pure0 (G := fun β => [(7, (Value.slice (some ⟨b1, 0, none⟩) (nw a + 1) (nw a + 1)))]) (fun β => sF (by kernel_rfl)) (fun β _ => ex_move rfl)) (vC (vc_pure0 (G := fun β => [(10, (vN k))]) (fun β => sF (by kernel_rfl)) (fun β _ => ex_move rfl)) (vC (vc_pure0 (G := fun β => [(9, (vN (nw b)))]) (fun β => sF (by kernel_rfl)) (fun β _ => ex_move rfl)) (vC (vc_pure0 (G := fun β => [(56, (vN k)), (57, (vN (nw b)))]) (fun β => sF (by kernel_rfl)) (fun β _ => ex_add (c := ((k + (nw b) : Nat) : Int)) rfl rfl (addN_i64 (a := k) (b := nw b) (by omega)))) (vC (vc_pure0 (G := fun β => [(58, (vN (k + (nw b))))]) (fun β => sF (by kernel_rfl)) (fun β _ => ex_sub (c := (((k + (nw b)) - 1 : Nat) : Int)) rfl rfl (subN_i64 (a := k + (nw b)) (b := 1) (by omega) (by omega)))) (vC (vc_pure0 (G := fun β => [(55, (Value.slice (some ⟨b1, 0, none⟩) (nw a + 1) (nw a + 1))), (59, (vN ((k + (nw b)) - 1)))]) (fun β => sF (by kernel_rfl)) (fun β _ => ex_indexAddr_slice (j := (k + (nw b)) - 1) rfl rfl Tryz.underlying161 Tryz.sizeOf22 rfl (by omega) (by simp))) (vC (vc_held0 (G := fun β => [(60, (pP b1 ((k + (nw b)) - 1)))]) (fun β => sF (by kernel_rfl)) (fun β => ex_load_one (i := 1) (v := (vK .u32 (us.getD ((k + (nw b)) - 1) 0))) rfl rfl Tryz.isAgg22 (u32s_get (xs := us) (j := ((k + (nw b)) - 1)) (by omega)))) (vC (vc_pure0 (G := fun β => [(61, (vK .u32 (us.getD ((k + (nw b)) - 1) 0)))]) (fun β => sF (by kernel_rfl)) (fun β _ => ex_conv (c := ((us.getD ((k + (nw b)) - 1) 0 : Nat) : Int)) rfl Tryz.underlying22 Tryz.underlying28 (convN_u64 (by omega)))) (vC (vc_pure0 (G := fun β => [(54, (vK .u64 (us.getD (k + nw b) 0 * 4294967296))), (62, (vK .u64 (us.getD ((k + (nw b)) - 1) 0)))]) (fun β => sF (by kernel_rfl)) (fun β _ => ex_or (c := ((top : Nat) : Int)) rfl rfl (orN_u64 (by omega) (by omega) (((Nat.or_comm _ _).trans ((or_add (s := 32) (by omega)).trans (Nat.add_comm _ _))).trans htp.symm)))) (VcAll.nil)))))))))))))))))) (fun β => ?_)
    refine OkLH.sub (F' := [(4, (Value.slice (some ⟨b3, 0, none⟩) m m)), (5, (Value.slice none 0 0)), (6, (vN s)), (7, (Value.slice (some ⟨b1, 0, none⟩) (nw a + 1) (nw a + 1))), (8, (Value.slice (some ⟨b2, 0, none⟩) (nw b) (nw b + 1))), (9, (vN (nw b))), (10, (vN k)), (63, (vK .u64 top))]) (L' := [blk b3 22 (u32s qs), blk b1 22 (u32s us), blk b2 22 (u32s vb)]) (sF rfl) (List.Sublist.refl _) ?_
    refine OkLH.step (v := (vK .u64 top)) (List.Sublist.refl _) (wt_none rfl) (ex_assign rfl) rfl (leB rfl) ?_
    refine q7 (sC 4 rfl (sC 5 rfl (sC 6 rfl (sC 7 rfl (sC 8 rfl (sC 9 rfl (sC 10 rfl (sC 11 rfl (sN))))))))) ?_
    have hx4 : vb.getD ((nw b) - 1) 0 < 4294967296 := W32.getD hN.w32 ((nw b) - 1)
    have hx5 : vb.getD ((nw b) - 1) 0 < 4294967296 := W32.getD hN.w32 ((nw b) - 1)
    refine dR (specs := [⟨.pure, fun _ => (vK .u64 top), [], 0, []⟩, ⟨.pure, fun _ => (Value.slice (some ⟨b2, 0, none⟩) (nw b) (nw b + 1)), [], 0, []⟩, ⟨.pure, fun _ => (vN (nw b)), [], 0, []⟩, ⟨.pure, fun _ => (vN ((nw b) - 1)), [], 0, []⟩, ⟨.pure, fun _ => (pP b2 ((nw b) - 1)), [], 0, []⟩, ⟨.held, fun _ => (vK .u32 (vb.getD ((nw b) - 1) 0)), [], 0, []⟩, ⟨.pure, fun _ => (vK .u64 (vb.getD ((nw b) - 1) 0)), [], 0, []⟩, ⟨.pure, fun _ => (vK .u64 (top / (vb.getD ((nw b) - 1) 0))), [], 0, []⟩, ⟨.pure, fun _ => (vK .u64 top), [], 0, []⟩, ⟨.pure, fun _ => (Value.slice (some ⟨b2, 0, none⟩) (nw b) (nw b + 1)), [], 0, []⟩, ⟨.pure, fun _ => (vN (nw b)), [], 0, []⟩, ⟨.pure, fun _ => (vN ((nw b) - 1)), [], 0, []⟩, ⟨.pure, fun _ => (pP b2 ((nw b) - 1)), [], 0, []⟩, ⟨.held, fun _ => (vK .u32 (vb.getD ((nw b) - 1) 0)), [], 0, []⟩, ⟨.pure, fun _ => (vK .u64 (vb.getD ((nw b) - 1) 0)), [], 0, []⟩, ⟨.pure, fun _ => (vK .u64 (top % (vb.getD ((nw b) - 1) 0))), [], 0, []⟩]) (Lro := [blk b3 22 (u32s qs), blk b1 22 (u32s us), blk b2 22 (u32s vb)]) (List.Sublist.refl _) (dC (dC (dC (dC (dC (dC (dC (dC (dC (dC (dC (dC (dC (dC (dC (dC (dN))))))))))))))))) (by kernel_rfl) (by kernel_rfl) (fun _ _ d _ _ h => by cases d <;> exact h) (vC (vc_pure0 (G := fun β => [(11, (vK .u64 top))]) (fun β => sF (by kernel_rfl)) (fun β _ => ex_move rfl)) (vC (vc_pure0 (G := fun β => [(8, (Value.slice (some ⟨b2, 0, none⟩) (nw b) (nw b + 1)))]) (fun β => sF (by kernel_rfl)) (fun β _ => ex_move rfl)) (vC (vc_pure0 (G := fun β => [(9, (vN (nw b)))]) (fun β => sF (by kernel_rfl)) (fun β _ => ex_move rfl)) (vC (vc_pure0 (G := fun β => [(66, (vN (nw b)))]) (fun β => sF (by kernel_rfl)) (fun β _ => ex_sub (c := (((nw b) - 1 : Nat) : Int)) rfl rfl (subN_i64 (a := nw b) (b := 1) (by omega) (by omega)))) (vC (vc_pure0 (G := fun β => [(65, (Value.slice (some ⟨b2, 0, none⟩) (nw b) (nw b + 1))), (67, (vN ((nw b) - 1)))]) (fun β => sF (by kernel_rfl)) (fun β _ => ex_indexAddr_slice (j := (nw b) - 1) rfl rfl Tryz.underlying161 Tryz.sizeOf22 rfl (by omega) (by simp))) (vC (vc_held0 (G := fun β => [(68, (pP b2 ((nw b) - 1)))]) (fun β => sF (by kernel_rfl)) (fun β => ex_load_one (i := 2) (v := (vK .u32 (vb.getD ((nw b) - 1) 0))) rfl rfl Tryz.isAgg22 (u32s_get (xs := vb) (j := ((nw b) - 1)) (by omega)))) (vC (vc_pure0 (G := fun β => [(69, (vK .u32 (vb.getD ((nw b) - 1) 0)))]) (fun β => sF (by kernel_rfl)) (fun β _ => ex_conv (c := ((vb.getD ((nw b) - 1) 0 : Nat) : Int)) rfl Tryz.underlying22 Tryz.underlying28 (convN_u64 (by omega)))) (vC (vc_pure0 (G := fun β => [(64, (vK .u64 top)), (70, (vK .u64 (vb.getD ((nw b) - 1) 0)))]) (fun β => sF (by kernel_rfl)) (fun β _ => ex_quo (c := ((top / (vb.getD ((nw b) - 1) 0) : Nat) : Int)) rfl rfl (by omega) (quoN_u64 (a := top) (b := vb.getD ((nw b) - 1) 0) (by omega)))) (vC (vc_pure0 (G := fun β => [(11, (vK .u64 top))]) (fun β => sF (by kernel_rfl)) (fun β _ => ex_move rfl)) (vC (vc_pure0 (G := fun β => [(8, (Value.slice (some ⟨b2, 0, none⟩) (nw b) (nw b + 1)))]) (fun β => sF (by kernel_rfl)) (fun β _ => ex_move rfl)) (vC (vc_pure0 (G := fun β => [(9, (vN (nw b)))]) (fun β => sF (by kernel_rfl)) (fun β _ => ex_move rfl)) (vC (vc_pure0 (G := fun β => [(74, (vN (nw b)))]) (fun β => sF (by kernel_rfl)) (fun β _ => ex_sub (c := (((nw b) - 1 : Nat) : Int)) rfl rfl (subN_i64 (a := nw b) (b := 1) (by omega) (by omega)))) (vC (vc_pure0 (G := fun β => [(73, (Value.slice (some ⟨b2, 0, none⟩) (nw b) (nw b + 1))), (75, (vN ((nw b) - 1)))]) (fun β => sF (by kernel_rfl)) (fun β _ => ex_indexAddr_slice (j := (nw b) - 1) rfl rfl Tryz.underlying161 Tryz.sizeOf22 rfl (by omega) (by simp))) (vC (vc_held0 (G := fun β => [(76, (pP b2 ((nw b) - 1)))]) (fun β => sF (by kernel_rfl)) (fun β => ex_load_one (i := 2) (v := (vK .u32 (vb.getD ((nw b) - 1) 0))) rfl rfl Tryz.isAgg22 (u32s_get (xs := vb) (j := ((nw b) - 1)) (by omega)))) (vC (vc_pure0 (G := fun β => [(77, (vK .u32 (vb.getD ((nw b) - 1) 0)))]) (fun β => sF (by kernel_rfl)) (fun β _ => ex_conv (c := ((vb.getD ((nw b) - 1) 0 : Nat) : Int)) rfl Tryz.underlying22 Tryz.underlying28 (convN_u64 (by omega)))) (vC (vc_pure0 (G := fun β => [(72, (vK .u64 top)), (78, (vK .u64 (vb.getD ((nw b) - 1) 0)))]) (fun β => sF (by kernel_rfl)) (fun β _ => ex_rem (c := ((top % (vb.getD ((nw b) - 1) 0) : Nat) : Int)) rfl rfl (by omega) (remN (a := top) (b := vb.getD ((nw b) - 1) 0)))) (VcAll.nil))))))))))))))))) (fun β => ?_)
    refine OkLH.sub (F' := [(4, (Value.slice (some ⟨b3, 0, none⟩) m m)), (5, (Value.slice none 0 0)), (6, (vN s)), (7, (Value.slice (some ⟨b1, 0, none⟩) (nw a + 1) (nw a + 1))), (8, (Value.slice (some ⟨b2, 0, none⟩) (nw b) (nw b + 1))), (9, (vN (nw b))), (10, (vN k)), (71, (vK .u64 (top / (vb.getD ((nw b) - 1) 0)))), (79, (vK .u64 (top % (vb.getD ((nw b) - 1) 0))))]) (L' := [blk b3 22 (u32s qs), blk b1 22 (u32s us), blk b2 22 (u32s vb)]) (sF rfl) (List.Sublist.refl _) ?_
    refine OkLH.step (v := (vK .u64 (top / (vb.getD ((nw b) - 1) 0)))) (List.Sublist.refl _) (wt_none rfl) (ex_assign rfl) rfl (leB rfl) ?_
    refine OkLH.step (v := (vK .u64 (top % (vb.getD ((nw b) - 1) 0)))) (List.Sublist.refl _) (wt_none rfl) (ex_assign rfl) rfl (leB rfl) ?_
    refine q7 (sC 4 rfl (sC 5 rfl (sC 6 rfl (sC 7 rfl (sC 8 rfl (sC 9 rfl (sC 10 rfl (sC 12 rfl (sC 13 rfl (sN)))))))))) ?_
    refine OkC.label ?_
    refine q1 ?_
    refine OkC.join1 (J := fun (d : Nat) => d ≤ 4294967295 ∧ (d = W / V ∨ d = W / V + 1)) (FI := fun (d : Nat) => [(4, (Value.slice (some ⟨b3, 0, none⟩) m m)), (5, (Value.slice none 0 0)), (6, (vN s)), (7, (Value.slice (some ⟨b1, 0, none⟩) (nw a + 1) (nw a + 1))), (8, (Value.slice (some ⟨b2, 0, none⟩) (nw b) (nw b + 1))), (9, (vN (nw b))), (10, (vN k)), (12, (vK .u64 d))]) (LI := fun (d : Nat) => [blk b3 22 (u32s qs), blk b1 22 (u32s us), blk b2 22 (u32s vb)]) ?_ ?_
    · skip
      refine OkC.block ?_
      refine OkC.sub (F' := [(4, (Value.slice (some ⟨b3, 0, none⟩) m m)), (5, (Value.slice none 0 0)), (6, (vN s)), (7, (Value.slice (some ⟨b1, 0, none⟩) (nw a + 1) (nw a + 1))), (8, (Value.slice (some ⟨b2, 0, none⟩) (nw b) (nw b + 1))), (9, (vN (nw b))), (10, (vN k)), (12, (vK .u64 (top / vb.getD (nw b - 1) 0))), (13, (vK .u64 (top % vb.getD (nw b - 1) 0)))]) (L' := [blk b3 22 (u32s qs), blk b1 22 (u32s us), blk b2 22 (u32s vb)]) (sF rfl) (List.Sublist.refl _) ?_
      refine OkC.loop2 (J := fun (d : Nat) (r : Nat) => Guess V W (vb.getD (nw b - 1) 0) top d r ∧ r < 8589934592 ∧ d < 8589934593) (FI := fun (d : Nat) (r : Nat) => [(4, (Value.slice (some ⟨b3, 0, none⟩) m m)), (5, (Value.slice none 0 0)), (6, (vN s)), (7, (Value.slice (some ⟨b1, 0, none⟩) (nw a + 1) (nw a + 1))), (8, (Value.slice (some ⟨b2, 0, none⟩) (nw b) (nw b + 1))), (9, (vN (nw b))), (10, (vN k)), (12, (vK .u64 d)), (13, (vK .u64 r))]) (LI := fun (d : Nat) (r : Nat) => [blk b3 22 (u32s qs), blk b1 22 (u32s us), blk b2 22 (u32s vb)]) (m := fun (d : Nat) (r : Nat) => d) (fun d r hJ => ?_) (top / vb.getD (nw b - 1) 0) (top % vb.getD (nw b - 1) 0) (⟨hG0, by have := Nat.mod_lt top (show vb.getD (nw b - 1) 0 > 0 by omega); omega, Nat.div_lt_of_lt_mul (by omega)⟩)
      replace hJ : Guess V W (vb.getD (nw b - 1) 0) top d r ∧ r < 8589934592 ∧ d < 8589934593 := hJ
      obtain ⟨hG, hr2, hd2⟩ := hJ
      refine OkC.sub (F' := [(4, (Value.slice (some ⟨b3, 0, none⟩) m m)), (5, (Value.slice none 0 0)), (6, (vN s)), (7, (Value.slice (some ⟨b1, 0, none⟩) (nw a + 1) (nw a + 1))), (8, (Value.slice (some ⟨b2, 0, none⟩) (nw b) (nw b + 1))), (9, (vN (nw b))), (10, (vN k)), (12, (vK .u64 d)), (13, (vK .u64 r))]) (L' := [blk b3 22 (u32s qs), blk b1 22 (u32s us), blk b2 22 (u32s vb)]) (sF rfl) (List.Sublist.refl _) ?_
      refine OkC.seq ?_
      refine q4 ?_
      refine st (ex_move rfl) (leB rfl) ?_
      refine st (ex_leq (c := (decide (r ≤ 4294967295))) rfl rfl (leN (a := r) (b := 4294967295))) (leB rfl) ?_
      refine OkL.nil ?_
      refine OkQ.subF (sC 4 rfl (sC 5 rfl (sC 6 rfl (sC 7 rfl (sC 8 rfl (sC 9 rfl (sC 10 rfl (sC 12 rfl (sC 13 rfl (sC 81 rfl (sN))))))))))) ?_
      refine OkQ.then_ ?_
      refine OkC.cond rfl (fun hc1 => ?_) (fun hc1 => ?_)
      · replace hc1 := of_decide_eq_true hc1
        refine OkC.skip ?_
        refine OkQ.then_ ?_
        refine OkC.block ?_
        refine OkC.seq ?_
        refine OkC.seq ?_
        by_cases hsp : d ≤ 4294967295
        · skip
          have hv2 := hN.w32.getD (nw b - 2)
          have hml := mul_w (a := d) (b := vb.getD (nw b - 2) 0) (by omega) hv2
          have hx6 : vb.getD ((nw b) - 2) 0 < 4294967296 := W32.getD hN.w32 ((nw b) - 2)
          have hx7 : us.getD ((k + (nw b)) - 2) 0 < 4294967296 := W32.getD huw ((k + (nw b)) - 2)
          refine dR (specs := [⟨.pure, fun _ => (vK .u64 d), [], 0, []⟩, ⟨.pure, fun _ => (Value.bool true), [], 0, []⟩, ⟨.pure, fun _ => (Value.bool true), [], 0, []⟩, ⟨.pure, fun _ => (vK .u64 d), [], 0, []⟩, ⟨.pure, fun _ => (Value.slice (some ⟨b2, 0, none⟩) (nw b) (nw b + 1)), [], 0, []⟩, ⟨.pure, fun _ => (vN (nw b)), [], 0, []⟩, ⟨.pure, fun _ => (vN ((nw b) - 2)), [], 0, []⟩, ⟨.pure, fun _ => (pP b2 ((nw b) - 2)), [], 0, []⟩, ⟨.held, fun _ => (vK .u32 (vb.getD ((nw b) - 2) 0)), [], 0, []⟩, ⟨.pure, fun _ => (vK .u64 (vb.getD ((nw b) - 2) 0)), [], 0, []⟩, ⟨.pure, fun _ => (vK .u64 (d * (vb.getD ((nw b) - 2) 0))), [], 0, []⟩, ⟨.pure, fun _ => (vK .u64 r), [], 0, []⟩, ⟨.look, fun _ => (vK .u64 (r * 4294967296)), [], 0, []⟩, ⟨.pure, fun _ => (Value.slice (some ⟨b1, 0, none⟩) (nw a + 1) (nw a + 1)), [], 0, []⟩, ⟨.pure, fun _ => (vN k), [], 0, []⟩, ⟨.pure, fun _ => (vN (nw b)), [], 0, []⟩, ⟨.pure, fun _ => (vN (k + (nw b))), [], 0, []⟩, ⟨.pure, fun _ => (vN ((k + (nw b)) - 2)), [], 0, []⟩, ⟨.pure, fun _ => (pP b1 ((k + (nw b)) - 2)), [], 0, []⟩, ⟨.held, fun _ => (vK .u32 (us.getD ((k + (nw b)) - 2) 0)), [], 0, []⟩, ⟨.pure, fun _ => (vK .u64 (us.getD ((k + (nw b)) - 2) 0)), [], 0, []⟩, ⟨.pure, fun _ => (vK .u64 (r * 4294967296 + us.getD (k + nw b - 2) 0)), [], 0, []⟩, ⟨.pure, fun _ => (Value.bool (decide ((d * (vb.getD ((nw b) - 2) 0)) ≤ (r * 4294967296 + us.getD (k + nw b - 2) 0)))), [], 0, []⟩, ⟨.pure, fun _ => (Value.bool (decide ((d * (vb.getD ((nw b) - 2) 0)) ≤ (r * 4294967296 + us.getD (k + nw b - 2) 0)))), [], 0, []⟩]) (Lro := [blk b3 22 (u32s qs), blk b1 22 (u32s us), blk b2 22 (u32s vb)]) (List.Sublist.refl _) (dC (dC (dC (dC (dC (dC (dC (dC (dC (dC (dC (dC (dC (dC (dC (dC (dC (dC (dC (dC (dC (dC (dC (dC (dN))))))))))))))))))))))))) (by kernel_rfl) (by kernel_rfl) (fun _ _ d _ _ h => by cases d <;> exact h) (vC (vc_pure0 (G := fun β => [(12, (vK .u64 d))]) (fun β => sF (by kernel_rfl)) (fun β _ => ex_move rfl)) (vC (vc_pure0 (G := fun β => [(82, (vK .u64 d))]) (fun β => sF (by kernel_rfl)) (fun β _ => ex_leq (c := true) rfl rfl (leN.trans (decide_eq_true hsp)))) (vC (vc_pure0 (G := fun β => [(83, (Value.bool true))]) (fun β => sF (by kernel_rfl)) (fun β _ => ex_move rfl)) (vC (vc_pure (G := fun β => [(12, (vK .u64 d)), (84, (Value.bool true))]) (fun β => sF (by kernel_rfl)) (fun β => wt_some rfl rfl rfl) (fun β _ => ex_move rfl)) (vC (vc_pure (G := fun β => [(8, (Value.slice (some ⟨b2, 0, none⟩) (nw b) (nw b + 1))), (84, (Value.bool true))]) (fun β => sF (by kernel_rfl)) (fun β => wt_some rfl rfl rfl) (fun β _ => ex_move rfl)) (vC (vc_pure (G := fun β => [(9, (vN (nw b))), (84, (Value.bool true))]) (fun β => sF (by kernel_rfl)) (fun β => wt_some rfl rfl rfl) (fun β _ => ex_move rfl)) (vC (vc_pure (G := fun β => [(84, (Value.bool true)), (87, (vN (nw b)))]) (fun β => sF (by kernel_rfl)) (fun β => wt_some rfl rfl rfl) (fun β _ => ex_sub (c := (((nw b) - 2 : Nat) : Int)) rfl rfl (subN_i64 (a := nw b) (b := 2) (by omega) (by omega)))) (vC (vc_pure (G := fun β => [(84, (Value.bool true)), (86, (Value.slice (some ⟨b2, 0, none⟩) (nw b) (nw b + 1))), (88, (vN ((nw b) - 2)))]) (fun β => sF (by kernel_rfl)) (fun β => wt_some rfl rfl rfl) (fun β _ => ex_indexAddr_slice (j := (nw b) - 2) rfl rfl Tryz.underlying161 Tryz.sizeOf22 rfl (by omega) (by simp))) (vC (vc_held (G := fun β => [(84, (Value.bool true)), (89, (pP b2 ((nw b) - 2)))]) (fun β => sF (by kernel_rfl)) (fun β => wt_some rfl rfl rfl) (fun β => ex_load_one (i := 2) (v := (vK .u32 (vb.getD ((nw b) - 2) 0))) rfl rfl Tryz.isAgg22 (u32s_get (xs := vb) (j := ((nw b) - 2)) (by omega)))) (vC (vc_pure (G := fun β => [(84, (Value.bool true)), (90, (vK .u32 (vb.getD ((nw b) - 2) 0)))]) (fun β => sF (by kernel_rfl)) (fun β => wt_some rfl rfl rfl) (fun β _ => ex_conv (c := ((vb.getD ((nw b) - 2) 0 : Nat) : Int)) rfl Tryz.underlying22 Tryz.underlying28 (convN_u64 (by omega)))) (vC (vc_pure (G := fun β => [(84, (Value.bool true)), (85, (vK .u64 d)), (91, (vK .u64 (vb.getD ((nw b) - 2) 0)))]) (fun β => sF (by kernel_rfl)) (fun β => wt_some rfl rfl rfl) (fun β _ => ex_mul (c := ((d * (vb.getD ((nw b) - 2) 0) : Nat) : Int)) rfl rfl (mulN_u64 (a := d) (b := vb.getD ((nw b) - 2) 0) (by omega)))) (vC (vc_pure (G := fun β => [(13, (vK .u64 r)), (84, (Value.bool true))]) (fun β => sF (by kernel_rfl)) (fun β => wt_some rfl rfl rfl) (fun β _ => ex_move rfl)) (vC (vc_look (G := fun β => [(84, (Value.bool true)), (93, (vK .u64 r))]) (fun β => sF (by kernel_rfl)) (fun β => wt_some rfl rfl rfl) (fun β => ex_shl (s := 32) rfl rfl rfl (by decide) (shlN_u64 (s := 32) (by omega)))) (vC (vc_pure (G := fun β => [(7, (Value.slice (some ⟨b1, 0, none⟩) (nw a + 1) (nw a + 1))), (84, (Value.bool true))]) (fun β => sF (by kernel_rfl)) (fun β => wt_some rfl rfl rfl) (fun β _ => ex_move rfl)) (vC (vc_pure (G := fun β => [(10, (vN k)), (84, (Value.bool true))]) (fun β => sF (by kernel_rfl)) (fun β => wt_some rfl rfl rfl) (fun β _ => ex_move rfl)) (vC (vc_pure (G := fun β => [(9, (vN (nw b))), (84, (Value.bool true))]) (fun β => sF (by kernel_rfl)) (fun β => wt_some rfl rfl rfl) (fun β _ => ex_move rfl)) (vC (vc_pure (G := fun β => [(84, (Value.bool true)), (96, (vN k)), (97, (vN (nw b)))]) (fun β => sF (by kernel_rfl)) (fun β => wt_some rfl rfl rfl) (fun β _ => ex_add (c := ((k + (nw b) : Nat) : Int)) rfl rfl (addN_i64 (a := k) (b := nw b) (by omega)))) (vC (vc_pure (G := fun β => [(84, (Value.bool true)), (98, (vN (k + (nw b))))]) (fun β => sF (by kernel_rfl)) (fun β => wt_some rfl rfl rfl) (fun β _ => ex_sub (c := (((k + (nw b)) - 2 : Nat) : Int)) rfl rfl (subN_i64 (a := k + (nw b)) (b := 2) (by omega) (by omega)))) (vC (vc_pure (G := fun β => [(84, (Value.bool true)), (95, (Value.slice (some ⟨b1, 0, none⟩) (nw a + 1) (nw a + 1))), (99, (vN ((k + (nw b)) - 2)))]) (fun β => sF (by kernel_rfl)) (fun β => wt_some rfl rfl rfl) (fun β _ => ex_indexAddr_slice (j := (k + (nw b)) - 2) rfl rfl Tryz.underlying161 Tryz.sizeOf22 rfl (by omega) (by simp))) (vC (vc_held (G := fun β => [(84, (Value.bool true)), (100, (pP b1 ((k + (nw b)) - 2)))]) (fun β => sF (by kernel_rfl)) (fun β => wt_some rfl rfl rfl) (fun β => ex_load_one (i := 1) (v := (vK .u32 (us.getD ((k + (nw b)) - 2) 0))) rfl rfl Tryz.isAgg22 (u32s_get (xs := us) (j := ((k + (nw b)) - 2)) (by omega)))) (vC (vc_pure (G := fun β => [(84, (Value.bool true)), (101, (vK .u32 (us.getD ((k + (nw b)) - 2) 0)))]) (fun β => sF (by kernel_rfl)) (fun β => wt_some rfl rfl rfl) (fun β _ => ex_conv (c := ((us.getD ((k + (nw b)) - 2) 0 : Nat) : Int)) rfl Tryz.underlying22 Tryz.underlying28 (convN_u64 (by omega)))) (vC (vc_pure (G := fun β => [(84, (Value.bool true)), (94, (vK .u64 (r * 4294967296))), (102, (vK .u64 (us.getD ((k + (nw b)) - 2) 0)))]) (fun β => sF (by kernel_rfl)) (fun β => wt_some rfl rfl rfl) (fun β _ => ex_or (c := ((r * 4294967296 + us.getD (k + nw b - 2) 0 : Nat) : Int)) rfl rfl (orN_u64 (by omega) (by omega) (((Nat.or_comm _ _).trans ((or_add (s := 32) (by omega)).trans (Nat.add_comm _ _))))))) (vC (vc_pure (G := fun β => [(84, (Value.bool true)), (92, (vK .u64 (d * (vb.getD ((nw b) - 2) 0)))), (103, (vK .u64 (r * 4294967296 + us.getD (k + nw b - 2) 0)))]) (fun β => sF (by kernel_rfl)) (fun β => wt_some rfl rfl rfl) (fun β _ => ex_leq (c := (decide ((d * (vb.getD ((nw b) - 2) 0)) ≤ (r * 4294967296 + us.getD (k + nw b - 2) 0)))) rfl rfl (leN (a := d * (vb.getD ((nw b) - 2) 0)) (b := r * 4294967296 + us.getD (k + nw b - 2) 0)))) (vC (vc_pure0 (G := fun β => [(84, (Value.bool true)), (104, (Value.bool (decide ((d * (vb.getD ((nw b) - 2) 0)) ≤ (r * 4294967296 + us.getD (k + nw b - 2) 0)))))]) (fun β => sF (by kernel_rfl)) (fun β _ => ex_pick_true rfl rfl)) (VcAll.nil))))))))))))))))))))))))) (fun β => ?_)
          refine OkLH.sub (F' := [(4, (Value.slice (some ⟨b3, 0, none⟩) m m)), (5, (Value.slice none 0 0)), (6, (vN s)), (7, (Value.slice (some ⟨b1, 0, none⟩) (nw a + 1) (nw a + 1))), (8, (Value.slice (some ⟨b2, 0, none⟩) (nw b) (nw b + 1))), (9, (vN (nw b))), (10, (vN k)), (12, (vK .u64 d)), (13, (vK .u64 r)), (105, (Value.bool (decide ((d * (vb.getD ((nw b) - 2) 0)) ≤ (r * 4294967296 + us.getD (k + nw b - 2) 0)))))]) (L' := [blk b3 22 (u32s qs), blk b1 22 (u32s us), blk b2 22 (u32s vb)]) (sF rfl) (List.Sublist.refl _) ?_
          refine OkLH.nil ?_
          refine OkQ.then_ ?_
          refine OkC.cond rfl (fun hc2 => ?_) (fun hc2 => ?_)
          · replace hc2 := of_decide_eq_true hc2
            have hg := last_guess hN hWin hG (.inr ⟨hsp, hc2⟩)
            refine OkC.exit ?_
            refine OkQ.then_exit ?_
            refine OkQ.in_exit_ne rfl ?_
            refine OkQ.round2_exit ?_
            refine OkQ.in_exit ?_
            exact OkQ.join1 d (hg) (sS rfl (sS rfl (sS rfl (sS rfl (sS rfl (sS rfl (sS rfl (sS rfl (sN))))))))) (List.Sublist.refl _)
          · replace hc2 := of_decide_eq_false hc2
            obtain ⟨hng1, hng2⟩ := next_guess hN hWin hG (fun h => hc2 h.2)
            refine OkC.skip ?_
            refine q2 ?_
            refine st (ex_move rfl) (leB rfl) ?_
            refine st (ex_sub (c := ((d - 1 : Nat) : Int)) rfl rfl (subN_u64 (a := d) (b := 1) (by omega) (by omega))) (leB rfl) ?_
            refine st (ex_assign rfl) (leB rfl) ?_
            refine OkL.nil ?_
            refine OkQ.subF (sC 4 rfl (sC 5 rfl (sC 6 rfl (sC 7 rfl (sC 8 rfl (sC 9 rfl (sC 10 rfl (sC 12 rfl (sC 13 rfl (sN)))))))))) ?_
            refine OkQ.then_ ?_
            refine OkC.region ?_
            refine st (ex_move rfl) (leB rfl) ?_
            refine st (ex_move rfl) (leB rfl) ?_
            refine st (ex_move rfl) (leB rfl) ?_
            refine st (ex_sub (c := (((nw b) - 1 : Nat) : Int)) rfl rfl (subN_i64 (a := nw b) (b := 1) (by omega) (by omega))) (leB rfl) ?_
            refine st (v := (pP b2 ((nw b) - 1))) (ex_indexAddr_slice (j := (nw b) - 1) rfl rfl Tryz.underlying161 Tryz.sizeOf22 rfl (by omega) (by simp)) (leB rfl) ?_
            have hx8 : vb.getD ((nw b) - 1) 0 < 4294967296 := W32.getD hN.w32 ((nw b) - 1)
            refine st (ex_load_one (i := 2) (v := (vK .u32 (vb.getD ((nw b) - 1) 0))) rfl rfl Tryz.isAgg22 (u32s_get (xs := vb) (j := ((nw b) - 1)) (by omega))) (leB rfl) ?_
            refine st (ex_conv (c := ((vb.getD ((nw b) - 1) 0 : Nat) : Int)) rfl Tryz.underlying22 Tryz.underlying28 (convN_u64 (by omega))) (leB rfl) ?_
            refine st (ex_add (c := ((r + (vb.getD ((nw b) - 1) 0) : Nat) : Int)) rfl rfl (addN_u64 (a := r) (b := vb.getD ((nw b) - 1) 0) (by omega))) (leB rfl) ?_
            refine st (ex_assign rfl) (leB rfl) ?_
            refine OkL.nil ?_
            refine OkQ.subF (sC 4 rfl (sC 5 rfl (sC 6 rfl (sC 7 rfl (sC 8 rfl (sC 9 rfl (sC 10 rfl (sC 12 rfl (sC 13 rfl (sN)))))))))) ?_
            refine OkQ.in_normal ?_
            exact OkQ.round2 (d - 1) (r + vb.getD (nw b - 1) 0) (⟨hng1, by omega, by omega⟩) (by omega) (sS rfl (sS rfl (sS rfl (sS rfl (sS rfl (sS rfl (sS rfl (sS rfl (sS rfl (sN)))))))))) (List.Sublist.refl _)
        · skip
          obtain ⟨hng1, hng2⟩ := next_guess hN hWin hG (fun h => hsp h.1)
          refine dR (specs := [⟨.pure, fun _ => (vK .u64 d), [], 0, []⟩, ⟨.pure, fun _ => (Value.bool false), [], 0, []⟩, ⟨.pure, fun _ => (Value.bool false), [], 0, []⟩, ⟨.pure, fun _ => undef, [], 0, []⟩, ⟨.pure, fun _ => undef, [], 0, []⟩, ⟨.pure, fun _ => undef, [], 0, []⟩, ⟨.pure, fun _ => undef, [], 0, []⟩, ⟨.pure, fun _ => undef, [], 0, []⟩, ⟨.pure, fun _ => undef, [], 0, []⟩, ⟨.pure, fun _ => undef, [], 0, []⟩, ⟨.pure, fun _ => undef, [], 0, []⟩, ⟨.pure, fun _ => undef, [], 0, []⟩, ⟨.pure, fun _ => undef, [], 0, []⟩, ⟨.pure, fun _ => undef, [], 0, []⟩, ⟨.pure, fun _ => undef, [], 0, []⟩, ⟨.pure, fun _ => undef, [], 0, []⟩, ⟨.pure, fun _ => undef, [], 0, []⟩, ⟨.pure, fun _ => undef, [], 0, []⟩, ⟨.pure, fun _ => undef, [], 0, []⟩, ⟨.pure, fun _ => undef, [], 0, []⟩, ⟨.pure, fun _ => undef, [], 0, []⟩, ⟨.pure, fun _ => undef, [], 0, []⟩, ⟨.pure, fun _ => undef, [], 0, []⟩, ⟨.pure, fun _ => (Value.bool false), [], 0, []⟩]) (Lro := [blk b3 22 (u32s qs), blk b1 22 (u32s us), blk b2 22 (u32s vb)]) (List.Sublist.refl _) (dC (dC (dC (dC (dC (dC (dC (dC (dC (dC (dC (dC (dC (dC (dC (dC (dC (dC (dC (dC (dC (dC (dC (dC (dN))))))))))))))))))))))))) (by kernel_rfl) (by kernel_rfl) (fun _ _ d _ _ h => by cases d <;> exact h) (vC (vc_pure0 (G := fun β => [(12, (vK .u64 d))]) (fun β => sF (by kernel_rfl)) (fun β _ => ex_move rfl)) (vC (vc_pure0 (G := fun β => [(82, (vK .u64 d))]) (fun β => sF (by kernel_rfl)) (fun β _ => ex_leq (c := false) rfl rfl (leN.trans (decide_eq_false hsp)))) (vC (vc_pure0 (G := fun β => [(83, (Value.bool false))]) (fun β => sF (by kernel_rfl)) (fun β _ => ex_move rfl)) (vC (vc_skip (G := fun _ => [(84, (Value.bool false))]) (fun _ => (sF (by kernel_rfl))) (fun _ => wt_not rfl rfl rfl)) (vC (vc_skip (G := fun _ => [(84, (Value.bool false))]) (fun _ => (sF (by kernel_rfl))) (fun _ => wt_not rfl rfl rfl)) (vC (vc_skip (G := fun _ => [(84, (Value.bool false))]) (fun _ => (sF (by kernel_rfl))) (fun _ => wt_not rfl rfl rfl)) (vC (vc_skip (G := fun _ => [(84, (Value.bool false))]) (fun _ => (sF (by kernel_rfl))) (fun _ => wt_not rfl rfl rfl)) (vC (vc_skip (G := fun _ => [(84, (Value.bool false))]) (fun _ => (sF (by kernel_rfl))) (fun _ => wt_not rfl rfl rfl)) (vC (vc_skip (G := fun _ => [(84, (Value.bool false))]) (fun _ => (sF (by kernel_rfl))) (fun _ => wt_not rfl rfl rfl)) (vC (vc_skip (G := fun _ => [(84, (Value.bool false))]) (fun _ => (sF (by kernel_rfl))) (fun _ => wt_not rfl rfl rfl)) (vC (vc_skip (G := fun _ => [(84, (Value.bool false))]) (fun _ => (sF (by kernel_rfl))) (fun _ => wt_not rfl rfl rfl)) (vC (vc_skip (G := fun _ => [(84, (Value.bool false))]) (fun _ => (sF (by kernel_rfl))) (fun _ => wt_not rfl rfl rfl)) (vC (vc_skip (G := fun _ => [(84, (Value.bool false))]) (fun _ => (sF (by kernel_rfl))) (fun _ => wt_not rfl rfl rfl)) (vC (vc_skip (G := fun _ => [(84, (Value.bool false))]) (fun _ => (sF (by kernel_rfl))) (fun _ => wt_not rfl rfl rfl)) (vC (vc_skip (G := fun _ => [(84, (Value.bool false))]) (fun _ => (sF (by kernel_rfl))) (fun _ => wt_not rfl rfl rfl)) (vC (vc_skip (G := fun _ => [(84, (Value.bool false))]) (fun _ => (sF (by kernel_rfl))) (fun _ => wt_not rfl rfl rfl)) (vC (vc_skip (G := fun _ => [(84, (Value.bool false))]) (fun _ => (sF (by kernel_rfl))) (fun _ => wt_not rfl rfl rfl)) (vC (vc_skip (G := fun _ => [(84, (Value.bool false))]) (fun _ => (sF (by kernel_rfl))) (fun _ => wt_not rfl rfl rfl)) (vC (vc_skip (G := fun _ => [(84, (Value.bool false))]) (fun _ => (sF (by kernel_rfl))) (fun _ => wt_not rfl rfl rfl)) (vC (vc_skip (G := fun _ => [(84, (Value.bool false))]) (fun _ => (sF (by kernel_rfl))) (fun _ => wt_not rfl rfl rfl)) (vC (vc_skip (G := fun _ => [(84, (Value.bool false))]) (fun _ => (sF (by kernel_rfl))) (fun _ => wt_not rfl rfl rfl)) (vC (vc_skip (G := fun _ => [(84, (Value.bool false))]) (fun _ => (sF (by kernel_rfl))) (fun _ => wt_not rfl rfl rfl)) (vC (vc_skip (G := fun _ => [(84, (Value.bool false))]) (fun _ => (sF (by kernel_rfl))) (fun _ => wt_not rfl rfl rfl)) (vC (vc_pure0 (G := fun β => [(84, (Value.bool false))]) (fun β => sF (by kernel_rfl)) (fun β _ => ex_pick_false rfl rfl)) (VcAll.nil))))))))))))))))))))))))) (fun β => ?_)
          refine OkLH.sub (F' := [(4, (Value.slice (some ⟨b3, 0, none⟩) m m)), (5, (Value.slice none 0 0)), (6, (vN s)), (7, (Value.slice (some ⟨b1, 0, none⟩) (nw a + 1) (nw a + 1))), (8, (Value.slice (some ⟨b2, 0, none⟩) (nw b) (nw b + 1))), (9, (vN (nw b))), (10, (vN k)), (12, (vK .u64 d)), (13, (vK .u64 r)), (105, (Value.bool false))]) (L' := [blk b3 22 (u32s qs), blk b1 22 (u32s us), blk b2 22 (u32s vb)]) (sF rfl) (List.Sublist.refl _) ?_
          refine OkLH.nil ?_
          refine OkQ.then_ ?_
          refine OkC.cond_false rfl ?_
          refine OkC.skip ?_
          refine q2 ?_
          refine st (ex_move rfl) (leB rfl) ?_
          refine st (ex_sub (c := ((d - 1 : Nat) : Int)) rfl rfl (subN_u64 (a := d) (b := 1) (by omega) (by omega))) (leB rfl) ?_
          refine st (ex_assign rfl) (leB rfl) ?_
          refine OkL.nil ?_
          refine OkQ.subF (sC 4 rfl (sC 5 rfl (sC 6 rfl (sC 7 rfl (sC 8 rfl (sC 9 rfl (sC 10 rfl (sC 12 rfl (sC 13 rfl (sC 105 rfl (sN))))))))))) ?_
          refine OkQ.then_ ?_
          refine OkC.region ?_
          refine st (ex_move rfl) (leB rfl) ?_
          refine st (ex_move rfl) (leB rfl) ?_
          refine st (ex_move rfl) (leB rfl) ?_
          refine st (ex_sub (c := (((nw b) - 1 : Nat) : Int)) rfl rfl (subN_i64 (a := nw b) (b := 1) (by omega) (by omega))) (leB rfl) ?_
          refine st (v := (pP b2 ((nw b) - 1))) (ex_indexAddr_slice (j := (nw b) - 1) rfl rfl Tryz.underlying161 Tryz.sizeOf22 rfl (by omega) (by simp)) (leB rfl) ?_
          have hx9 : vb.getD ((nw b) - 1) 0 < 4294967296 := W32.getD hN.w32 ((nw b) - 1)
          refine st (ex_load_one (i := 2) (v := (vK .u32 (vb.getD ((nw b) - 1) 0))) rfl rfl Tryz.isAgg22 (u32s_get (xs := vb) (j := ((nw b) - 1)) (by omega))) (leB rfl) ?_
          refine st (ex_conv (c := ((vb.getD ((nw b) - 1) 0 : Nat) : Int)) rfl Tryz.underlying22 Tryz.underlying28 (convN_u64 (by omega))) (leB rfl) ?_
          refine st (ex_add (c := ((r + (vb.getD ((nw b) - 1) 0) : Nat) : Int)) rfl rfl (addN_u64 (a := r) (b := vb.getD ((nw b) - 1) 0) (by omega))) (leB rfl) ?_
          refine st (ex_assign rfl) (leB rfl) ?_
          refine OkL.nil ?_
          refine OkQ.subF (sC 4 rfl (sC 5 rfl (sC 6 rfl (sC 7 rfl (sC 8 rfl (sC 9 rfl (sC 10 rfl (sC 12 rfl (sC 13 rfl (sC 105 rfl (sN))))))))))) ?_
          refine OkQ.in_normal ?_
          exact OkQ.round2 (d - 1) (r + vb.getD (nw b - 1) 0) (⟨hng1, by omega, by omega⟩) (by omega) (sS rfl (sS rfl (sS rfl (sS rfl (sS rfl (sS rfl (sS rfl (sS rfl (sS rfl (sN)))))))))) (List.Sublist.refl _)
      · replace hc1 := of_decide_eq_false hc1
        have hg := last_guess hN hWin hG (.inl (by omega))
        refine OkC.exit ?_
        refine OkQ.then_exit ?_
        refine OkQ.round2_exit ?_
        refine OkQ.in_exit ?_
        exact OkQ.join1 d (hg) (sS rfl (sS rfl (sS rfl (sS rfl (sS rfl (sS rfl (sS rfl (sS rfl (sN))))))))) (List.Sublist.refl _)
    · intro d hJ
      replace hJ : d ≤ 4294967295 ∧ (d = W / V ∨ d = W / V + 1) := hJ
      obtain ⟨hdb, hdq⟩ := hJ
      refine OkQ.sub (F' := [(4, (Value.slice (some ⟨b3, 0, none⟩) m m)), (5, (Value.slice none 0 0)), (6, (vN s)), (7, (Value.slice (some ⟨b1, 0, none⟩) (nw a + 1) (nw a + 1))), (8, (Value.slice (some ⟨b2, 0, none⟩) (nw b) (nw b + 1))), (9, (vN (nw b))), (10, (vN k)), (12, (vK .u64 d))]) (L' := [blk b3 22 (u32s qs), blk b1 22 (u32s us), blk b2 22 (u32s vb)]) (sF rfl) (List.Sublist.refl _) ?_
      refine q1 ?_
      refine q4 ?_
      refine st (ex_move rfl) (leB rfl) ?_
      refine st (ex_move rfl) (leB rfl) ?_
      refine st (ex_move rfl) (leB rfl) ?_
      refine st (ex_move rfl) (leB rfl) ?_
      refine st (ex_add (c := ((k + (nw b) : Nat) : Int)) rfl rfl (addN_i64 (a := k) (b := nw b) (by omega))) (leB rfl) ?_
      refine st (ex_add (c := (((k + (nw b)) + 1 : Nat) : Int)) rfl rfl (addN_i64 (a := k + (nw b)) (b := 1) (by omega))) (leB rfl) ?_
      refine st (v := (Value.slice (some ⟨b1, k, none⟩) (((k + (nw b)) + 1) - k) ((nw a + 1) - k))) (ex_slice_mid (i := k) (m := (k + (nw b)) + 1) rfl rfl rfl Tryz.underlying161 Tryz.sizeOf22 (by omega) (by omega) (by omega) (by simp)) (leB rfl) ?_
      refine OkL.retell (k := 122) (u := (Value.slice (some ⟨b1, k, none⟩) (nw b + 1) ((nw a + 1) - k))) rfl (by rw [show k + nw b + 1 - k = nw b + 1 by omega]) ?_
      refine st (ex_move rfl) (leB rfl) ?_
      refine st (ex_move rfl) (leB rfl) ?_
      refine OkL.callM (v := (Value.bool (decide (val us < d * val (vb.take (nw b)) * 4294967296 ^ k)))) (i := 1) (cs' := u32s (rowN (nw a + 1) (val us + (if val us < d * val (vb.take (nw b)) * 4294967296 ^ k then 4294967296 ^ (k + nw b + 1) else 0) - d * val (vb.take (nw b)) * 4294967296 ^ k))) (L' := [blk b3 22 (u32s qs), blk b1 22 (u32s (rowN (nw a + 1) (val us + (if val us < d * val (vb.take (nw b)) * 4294967296 ^ k then 4294967296 ^ (k + nw b + 1) else 0) - d * val (vb.take (nw b)) * 4294967296 ^ k))), blk b2 22 (u32s vb)]) (wt_none rfl) (op_call0 (args := [(Value.slice (some ⟨b1, k, none⟩) (nw b + 1) ((nw a + 1) - k)), (Value.slice (some ⟨b2, 0, none⟩) (nw b) (nw b + 1)), (vK .u64 d)]) rfl rfl Tryz.call179) rfl (fun w hw => less_ok _ _ k (nw b) (nw a + 1) _ _ d us vb huw hul hN.w32 (by omega) (by omega) (by omega) (by omega) hWin.fits ((hw.apart (i := 1) (j := 2) (by decide) rfl rfl).symm) w (hw.get (i := 1) rfl) (hw.get (i := 2) rfl)) (fun d hd => by cases hd <;> exact (leB rfl)) rfl ?_
      refine OkL.nil ?_
      refine OkQ.subF (sC 4 rfl (sC 5 rfl (sC 6 rfl (sC 7 rfl (sC 8 rfl (sC 9 rfl (sC 10 rfl (sC 12 rfl (sC 125 rfl (sN)))))))))) ?_
      refine OkQ.then_ ?_
      refine OkC.join1 (J := fun (us2 : List Nat) => us2.length = nw a + 1 ∧ W32 us2 ∧ val us2 = val us - W / V * V * 4294967296 ^ k) (FI := fun (us2 : List Nat) => [(4, (Value.slice (some ⟨b3, 0, none⟩) m m)), (5, (Value.slice none 0 0)), (6, (vN s)), (7, (Value.slice (some ⟨b1, 0, none⟩) (nw a + 1) (nw a + 1))), (8, (Value.slice (some ⟨b2, 0, none⟩) (nw b) (nw b + 1))), (9, (vN (nw b))), (10, (vN k)), (12, (vK .u64 (W / V)))]) (LI := fun (us2 : List Nat) => [blk b3 22 (u32s qs), blk b1 22 (u32s us2), blk b2 22 (u32s vb)]) ?_ ?_
      · skip
        refine OkC.cond rfl (fun hc3 => ?_) (fun hc3 => ?_)
        · replace hc3 := of_decide_eq_true hc3
          have hP : 4294967296 ^ (k + nw b + 1) ≤ 4294967296 ^ (nw a + 1) := Nat.pow_le_pow_right (by omega) (by omega)
          rw [hN.take] at hc3
          obtain ⟨hde, hdS⟩ := less_wrong (vb := vb) hWin hdq hc3
          have hXP : V * 4294967296 ^ k ≤ 4294967296 ^ (k + nw b + 1) := Nat.le_trans (Nat.mul_le_mul_right _ (Nat.le_of_lt hN.high)) (by rw [← Nat.pow_add]; exact Nat.pow_le_pow_right (by omega) (by omega))
          have hqle := quo_le (vb := vb) hWin
          have hfit := hWin.fits
          have hd1 : 1 ≤ d := by rw [hde]; exact Nat.le_add_left _ _
          have hU1 : val (rowN (nw a + 1) (val us + (if val us < d * val (vb.take (nw b)) * 4294967296 ^ k then 4294967296 ^ (k + nw b + 1) else 0) - d * val (vb.take (nw b)) * 4294967296 ^ k)) = val us + 4294967296 ^ (k + nw b + 1) - d * V * 4294967296 ^ k := by rw [hN.take, if_pos hc3, val_rowN _ _ (by omega)]
          have hU1lt : val (rowN (nw a + 1) (val us + (if val us < d * val (vb.take (nw b)) * 4294967296 ^ k then 4294967296 ^ (k + nw b + 1) else 0) - d * val (vb.take (nw b)) * 4294967296 ^ k)) < 4294967296 ^ (k + nw b + 1) := by rw [hU1]; omega
          refine q4 ?_
          refine st (ex_move rfl) (leB rfl) ?_
          refine st (ex_sub (c := ((d - 1 : Nat) : Int)) rfl rfl (subN_u64 (a := d) (b := 1) (by omega) (by omega))) (leB rfl) ?_
          refine st (ex_assign rfl) (leB rfl) ?_
          refine q3 (sC 4 rfl (sC 5 rfl (sC 6 rfl (sC 7 rfl (sC 8 rfl (sC 9 rfl (sC 10 rfl (sC 12 rfl (sN))))))))) ?_
          refine st (ex_assign rfl) (leB rfl) ?_
          refine OkL.nil ?_
          refine q1 ?_
          refine q4 ?_
          refine st (ex_move rfl) (leB rfl) ?_
          refine st (v := (vN (nw b))) (ex_len_slice rfl Tryz.underlying161) (leB rfl) ?_
          refine st (ex_move rfl) (leB rfl) ?_
          refine OkL.nil ?_
          refine OkQ.then_ ?_
          refine OkC.block ?_
          refine OkC.sub (F' := [(4, (Value.slice (some ⟨b3, 0, none⟩) m m)), (5, (Value.slice none 0 0)), (6, (vN s)), (7, (Value.slice (some ⟨b1, 0, none⟩) (nw a + 1) (nw a + 1))), (8, (Value.slice (some ⟨b2, 0, none⟩) (nw b) (nw b + 1))), (9, (vN (nw b))), (10, (vN k)), (12, (vK .u64 (d - 1))), (128, (Value.slice (some ⟨b2, 0, none⟩) (nw b) (nw b + 1))), (129, (vN (nw b))), (130, (vI 0)), (14, (Value.int .u32 (0 : Int)))]) (L' := [blk b3 22 (u32s qs), blk b1 22 (u32s (rowN (nw a + 1) (val us + (if val us < d * val (vb.take (nw b)) * 4294967296 ^ k then 4294967296 ^ (k + nw b + 1) else 0) - d * val (vb.take (nw b)) * 4294967296 ^ k))), blk b2 22 (u32s vb)]) (sF rfl) (List.Sublist.refl _) ?_
          refine OkC.loop3 (J := fun (i : Nat) (os : List Nat) (c : Nat) => i ≤ nw b ∧ os.length = nw a + 1 ∧ W32 os ∧ c ≤ 1 ∧ (∀ j, k + nw b + 1 ≤ j → os.getD j 0 = 0) ∧ val os + c * 4294967296 ^ (k + i) = (val us + 4294967296 ^ (k + nw b + 1) - d * V * 4294967296 ^ k) + val (vb.take i) * 4294967296 ^ k) (FI := fun (i : Nat) (os : List Nat) (c : Nat) => [(4, (Value.slice (some ⟨b3, 0, none⟩) m m)), (5, (Value.slice none 0 0)), (6, (vN s)), (7, (Value.slice (some ⟨b1, 0, none⟩) (nw a + 1) (nw a + 1))), (8, (Value.slice (some ⟨b2, 0, none⟩) (nw b) (nw b + 1))), (9, (vN (nw b))), (10, (vN k)), (12, (vK .u64 (d - 1))), (128, (Value.slice (some ⟨b2, 0, none⟩) (nw b) (nw b + 1))), (129, (vN (nw b))), (130, (vN i)), (14, (vK .u32 c))]) (LI := fun (i : Nat) (os : List Nat) (c : Nat) => [blk b3 22 (u32s qs), blk b1 22 (u32s os), blk b2 22 (u32s vb)]) (m := fun (i : Nat) (os : List Nat) (c : Nat) => nw b - i) (fun i os c hJ => ?_) 0 (rowN (nw a + 1) (val us + (if val us < d * val (vb.take (nw b)) * 4294967296 ^ k then 4294967296 ^ (k + nw b + 1) else 0) - d * val (vb.take (nw b)) * 4294967296 ^ k)) 0 (⟨Nat.zero_le _, rowN_length _ _, rowN_w32 _ _, by omega, zero_of_val hU1lt, by rw [hU1]; simp [val]⟩)
          replace hJ : i ≤ nw b ∧ os.length = nw a + 1 ∧ W32 os ∧ c ≤ 1 ∧ (∀ j, k + nw b + 1 ≤ j → os.getD j 0 = 0) ∧ val os + c * 4294967296 ^ (k + i) = (val us + 4294967296 ^ (k + nw b + 1) - d * V * 4294967296 ^ k) + val (vb.take i) * 4294967296 ^ k := hJ
          obtain ⟨hi, hl, hw32, hcc, hz, hv⟩ := hJ
          refine OkC.sub (F' := [(4, (Value.slice (some ⟨b3, 0, none⟩) m m)), (5, (Value.slice none 0 0)), (6, (vN s)), (7, (Value.slice (some ⟨b1, 0, none⟩) (nw a + 1) (nw a + 1))), (8, (Value.slice (some ⟨b2, 0, none⟩) (nw b) (nw b + 1))), (9, (vN (nw b))), (10, (vN k)), (12, (vK .u64 (d - 1))), (128, (Value.slice (some ⟨b2, 0, none⟩) (nw b) (nw b + 1))), (129, (vN (nw b))), (130, (vN i)), (14, (vK .u32 c))]) (L' := [blk b3 22 (u32s qs), blk b1 22 (u32s os), blk b2 22 (u32s vb)]) (sF rfl) (List.Sublist.refl _) ?_
          refine q4 ?_
          refine st (ex_lss (c := (decide (i < (nw b)))) rfl rfl (ltN (a := i) (b := nw b))) (leB rfl) ?_
          refine OkL.nil ?_
          refine q1 ?_
          refine OkC.cond rfl (fun hc4 => ?_) (fun hc4 => ?_)
          · replace hc4 := of_decide_eq_true hc4
            refine OkC.skip ?_
            refine q1 ?_
            refine OkC.block ?_
            refine q4 ?_
            refine st (ex_move rfl) (leB rfl) ?_
            refine st (v := (pP b2 i)) (ex_indexAddr_slice (j := i) rfl rfl Tryz.underlying161 Tryz.sizeOf22 rfl (by omega) (by simp)) (leB rfl) ?_
            have hx10 : vb.getD i 0 < 4294967296 := W32.getD hN.w32 i
            refine st (ex_load_one (i := 2) (v := (vK .u32 (vb.getD i 0))) rfl rfl Tryz.isAgg22 (u32s_get (xs := vb) (j := i) (by omega))) (leB rfl) ?_
            refine st (ex_assign rfl) (leB rfl) ?_
            refine st (ex_assign rfl) (leB rfl) ?_
            refine OkL.nil ?_
            refine OkQ.subF (sC 4 rfl (sC 5 rfl (sC 6 rfl (sC 7 rfl (sC 8 rfl (sC 9 rfl (sC 10 rfl (sC 12 rfl (sC 128 rfl (sC 129 rfl (sC 130 rfl (sC 14 rfl (sC 15 rfl (sC 16 rfl (sN))))))))))))))) ?_
            refine OkQ.then_ ?_
            refine OkC.region ?_
            refine st (ex_move rfl) (leB rfl) ?_
            refine st (ex_move rfl) (leB rfl) ?_
            refine st (ex_move rfl) (leB rfl) ?_
            refine st (ex_add (c := ((k + i : Nat) : Int)) rfl rfl (addN_i64 (a := k) (b := i) (by omega))) (leB rfl) ?_
            refine st (ex_move rfl) (leB rfl) ?_
            refine st (ex_move rfl) (leB rfl) ?_
            refine st (ex_move rfl) (leB rfl) ?_
            refine st (ex_add (c := ((k + i : Nat) : Int)) rfl rfl (addN_i64 (a := k) (b := i) (by omega))) (leB rfl) ?_
            refine st (v := (pP b1 (k + i))) (ex_indexAddr_slice (j := k + i) rfl rfl Tryz.underlying161 Tryz.sizeOf22 rfl (by omega) (by simp)) (leB rfl) ?_
            have hx11 : os.getD (k + i) 0 < 4294967296 := W32.getD hw32 (k + i)
            refine st (ex_load_one (i := 1) (v := (vK .u32 (os.getD (k + i) 0))) rfl rfl Tryz.isAgg22 (u32s_get (xs := os) (j := (k + i)) (by omega))) (leB rfl) ?_
            refine st (ex_move rfl) (leB rfl) ?_
            refine st (ex_move rfl) (leB rfl) ?_
            refine OkL.call (v := (Value.tuple #[(vK .u32 (((os.getD (k + i) 0) + (vb.getD i 0) + c) % 4294967296)), (vK .u32 (((os.getD (k + i) 0) + (vb.getD i 0) + c) / 4294967296))])) (wt_none rfl) (op_call0 (args := [(vK .u32 (os.getD (k + i) 0)), (vK .u32 (vb.getD i 0)), (vK .u32 c)]) rfl rfl Tryz.call159) (fun w hw => add32_ok (os.getD (k + i) 0) (vb.getD i 0) c (by omega) (by omega) (by omega) w) rfl (leB rfl) ?_
            refine st (ex_move rfl) (leB rfl) ?_
            refine st (ex_extract (v := (vK .u32 (((os.getD (k + i) 0) + (vb.getD i 0) + c) % 4294967296))) rfl rfl) (leB rfl) ?_
            refine st (ex_extract (v := (vK .u32 (((os.getD (k + i) 0) + (vb.getD i 0) + c) / 4294967296))) rfl rfl) (leB rfl) ?_
            refine st (v := (pP b1 (k + i))) (ex_indexAddr_slice (j := k + i) rfl rfl Tryz.underlying161 Tryz.sizeOf22 rfl (by omega) (by simp)) (leB rfl) ?_
            refine OkL.store' (i := 1) (off := (k + i)) (vs := [(vK .u32 (((os.getD (k + i) 0) + (vb.getD i 0) + c) % 4294967296))]) (cs' := u32s (os.set (k + i) (((os.getD (k + i) 0) + (vb.getD i 0) + c) % 4294967296))) (L' := [blk b3 22 (u32s qs), blk b1 22 (u32s (os.set (k + i) (((os.getD (k + i) 0) + (vb.getD i 0) + c) % 4294967296))), blk b2 22 (u32s vb)]) (wt_none rfl) rfl rfl rfl rfl rfl Tryz.sizeOf22 rfl (ble_row (u32s_length _) (by omega)) (u32s_set (by omega)) rfl ?_
            refine st (ex_assign rfl) (leB rfl) ?_
            refine OkL.nil ?_
            refine OkQ.subF (sC 4 rfl (sC 5 rfl (sC 6 rfl (sC 7 rfl (sC 8 rfl (sC 9 rfl (sC 10 rfl (sC 12 rfl (sC 128 rfl (sC 129 rfl (sC 130 rfl (sC 14 rfl (sN))))))))))))) ?_
            refine OkQ.in_normal ?_
            refine OkQ.then_ ?_
            refine OkC.region ?_
            refine st (ex_add (c := ((i + 1 : Nat) : Int)) rfl rfl (addN_i64 (a := i) (b := 1) (by omega))) (leB rfl) ?_
            refine st (ex_move rfl) (leB rfl) ?_
            refine OkL.nil ?_
            refine OkQ.subF (sC 4 rfl (sC 5 rfl (sC 6 rfl (sC 7 rfl (sC 8 rfl (sC 9 rfl (sC 10 rfl (sC 12 rfl (sC 128 rfl (sC 129 rfl (sC 130 rfl (sC 14 rfl (sN))))))))))))) ?_
            exact OkQ.round3 (i + 1) (os.set (k + i) ((os.getD (k + i) 0 + vb.getD i 0 + c) % 4294967296)) ((os.getD (k + i) 0 + vb.getD i 0 + c) / 4294967296) (⟨by omega, by rw [List.length_set]; exact hl, W32.set hw32 (by omega) _, by omega, set_above hz (by omega), back_step hl (by omega) hv⟩) (by omega) (sS rfl (sS rfl (sS rfl (sS rfl (sS rfl (sS rfl (sS rfl (sS rfl (sS rfl (sS rfl (sS rfl (sS rfl (sN))))))))))))) (List.Sublist.refl _)
          · replace hc4 := of_decide_eq_false hc4
            have hib : i = nw b := by omega
            have hv3 := hv
            rw [hib, hN.take] at hv3
            have hbk := back_done (T := val us - W / V * V * 4294967296 ^ k) (P := 4294967296 ^ (k + nw b + 1)) hl (by omega) hw32 hcc hz rfl (hv3.trans (back_arith hdS hqle hfit hc3 hXP)) (Nat.lt_of_le_of_lt (Nat.sub_le _ _) hfit)
            refine OkC.exit ?_
            refine OkQ.then_exit ?_
            refine OkQ.round3_exit ?_
            refine OkQ.in_exit ?_
            refine OkQ.then_ ?_
            refine OkC.region ?_
            refine st (ex_move rfl) (leB rfl) ?_
            refine st (ex_move rfl) (leB rfl) ?_
            refine st (ex_move rfl) (leB rfl) ?_
            refine st (ex_add (c := ((k + (nw b) : Nat) : Int)) rfl rfl (addN_i64 (a := k) (b := nw b) (by omega))) (leB rfl) ?_
            refine st (v := (pP b1 (k + (nw b)))) (ex_indexAddr_slice (j := k + (nw b)) rfl rfl Tryz.underlying161 Tryz.sizeOf22 rfl (by omega) (by simp)) (leB rfl) ?_
            have hx12 : os.getD (k + (nw b)) 0 < 4294967296 := W32.getD hw32 (k + (nw b))
            refine st (ex_load_one (i := 1) (v := (vK .u32 (os.getD (k + (nw b)) 0))) rfl rfl Tryz.isAgg22 (u32s_get (xs := os) (j := (k + (nw b))) (by omega))) (leB rfl) ?_
            refine st (ex_move rfl) (leB rfl) ?_
            refine st (ex_add (c := (((os.getD (k + nw b) 0 + c) % 4294967296 : Nat) : Int)) rfl rfl addM_u32) (leB rfl) ?_
            refine st (v := (pP b1 (k + (nw b)))) (ex_indexAddr_slice (j := k + (nw b)) rfl rfl Tryz.underlying161 Tryz.sizeOf22 rfl (by omega) (by simp)) (leB rfl) ?_
            refine OkL.store' (i := 1) (off := (k + (nw b))) (vs := [(vK .u32 ((os.getD (k + nw b) 0 + c) % 4294967296))]) (cs' := u32s (os.set (k + (nw b)) ((os.getD (k + nw b) 0 + c) % 4294967296))) (L' := [blk b3 22 (u32s qs), blk b1 22 (u32s (os.set (k + (nw b)) ((os.getD (k + nw b) 0 + c) % 4294967296))), blk b2 22 (u32s vb)]) (wt_none rfl) rfl rfl rfl rfl rfl Tryz.sizeOf22 rfl (ble_row (u32s_length _) (by omega)) (u32s_set (by omega)) rfl ?_
            refine OkL.nil ?_
            refine OkQ.subF (sC 4 rfl (sC 5 rfl (sC 6 rfl (sC 7 rfl (sC 8 rfl (sC 9 rfl (sC 10 rfl (sC 12 rfl (sC 128 rfl (sC 129 rfl (sC 130 rfl (sC 14 rfl (sN))))))))))))) ?_
            refine OkQ.retell (k := 12) (u := Value.int .u64 ((W / V : Nat) : Int)) rfl (by rw [hde, Nat.add_sub_cancel]) ?_
            exact OkQ.join1 (os.set (k + (nw b)) ((os.getD (k + nw b) 0 + c) % 4294967296)) (⟨by rw [List.length_set]; exact hl, W32.set hw32 (by omega) _, hbk⟩) (sS rfl (sS rfl (sS rfl (sS rfl (sS rfl (sS rfl (sS rfl (sS rfl (sN))))))))) (List.Sublist.refl _)
        · replace hc3 := of_decide_eq_false hc3
          have hP : 4294967296 ^ (k + nw b + 1) ≤ 4294967296 ^ (nw a + 1) := Nat.pow_le_pow_right (by omega) (by omega)
          rw [hN.take] at hc3
          obtain ⟨hde, hdS⟩ := less_right hN hWin hdq hc3
          have hfit := hWin.fits
          have hU1 : val (rowN (nw a + 1) (val us + (if val us < d * val (vb.take (nw b)) * 4294967296 ^ k then 4294967296 ^ (k + nw b + 1) else 0) - d * val (vb.take (nw b)) * 4294967296 ^ k)) = val us - W / V * V * 4294967296 ^ k := by rw [hN.take, if_neg hc3, val_rowN _ _ (by omega)]; exact hdS
          refine OkC.skip ?_
          refine OkQ.retell (k := 12) (u := Value.int .u64 ((W / V : Nat) : Int)) rfl (by rw [hde]) ?_
          exact OkQ.join1 (rowN (nw a + 1) (val us + (if val us < d * val (vb.take (nw b)) * 4294967296 ^ k then 4294967296 ^ (k + nw b + 1) else 0) - d * val (vb.take (nw b)) * 4294967296 ^ k)) (⟨rowN_length _ _, rowN_w32 _ _, hU1⟩) (sS rfl (sS rfl (sS rfl (sS rfl (sS rfl (sS rfl (sS rfl (sS rfl (sN))))))))) (List.Sublist.refl _)
      · intro us2 hJ
        replace hJ : us2.length = nw a + 1 ∧ W32 us2 ∧ val us2 = val us - W / V * V * 4294967296 ^ k := hJ
        obtain ⟨hu2l, hu2w, hu2v⟩ := hJ
        refine OkQ.sub (F' := [(4, (Value.slice (some ⟨b3, 0, none⟩) m m)), (5, (Value.slice none 0 0)), (6, (vN s)), (7, (Value.slice (some ⟨b1, 0, none⟩) (nw a + 1) (nw a + 1))), (8, (Value.slice (some ⟨b2, 0, none⟩) (nw b) (nw b + 1))), (9, (vN (nw b))), (10, (vN k)), (12, (vK .u64 (W / V)))]) (L' := [blk b3 22 (u32s qs), blk b1 22 (u32s us2), blk b2 22 (u32s vb)]) (sF rfl) (List.Sublist.refl _) ?_
        refine OkQ.then_ ?_
        refine OkC.region ?_
        refine st (ex_move rfl) (leB rfl) ?_
        refine st (ex_move rfl) (leB rfl) ?_
        refine st (ex_move rfl) (leB rfl) ?_
        refine st (ex_conv (c := ((W / V : Nat) : Int)) rfl Tryz.underlying28 Tryz.underlying22 (convN_u32 (by exact hq32))) (leB rfl) ?_
        refine st (v := (pP b3 k)) (ex_indexAddr_slice (j := k) rfl rfl Tryz.underlying161 Tryz.sizeOf22 rfl (by omega) (by simp)) (leB rfl) ?_
        refine OkL.store' (i := 0) (off := k) (vs := [(vK .u32 (W / V))]) (cs' := u32s (qs.set k (W / V))) (L' := [blk b3 22 (u32s (qs.set k (W / V))), blk b1 22 (u32s us2), blk b2 22 (u32s vb)]) (wt_none rfl) rfl rfl rfl rfl rfl Tryz.sizeOf22 rfl (ble_row (u32s_length _) (by omega)) (u32s_set (by omega)) rfl ?_
        refine OkL.nil ?_
        refine OkQ.subF (sC 4 rfl (sC 5 rfl (sC 6 rfl (sC 7 rfl (sC 8 rfl (sC 9 rfl (sC 10 rfl (sC 12 rfl (sN))))))))) ?_
        refine OkQ.scope_normal ?_
        refine OkQ.in_normal ?_
        refine OkQ.then_ ?_
        refine OkC.region ?_
        refine st (ex_move rfl) (leB rfl) ?_
        refine st (ex_sub (c := (((k : Nat) : Int) - 1)) rfl rfl (wrap_i64 (by omega) (by omega))) (leB rfl) ?_
        refine st (ex_assign rfl) (leB rfl) ?_
        refine OkL.nil ?_
        refine OkQ.subF (sC 4 rfl (sC 5 rfl (sC 6 rfl (sC 7 rfl (sC 8 rfl (sC 9 rfl (sC 10 rfl (sC 12 rfl (sN))))))))) ?_
        have hdd := digit_done hN hWin hu2v hAeq hql (by omega) (hqz k (by omega))
        exact OkQ.round3 k us2 (qs.set k (W / V)) (⟨by omega, hu2l, hu2w, by rw [List.length_set]; exact hql, W32.set hqw hq32 _, fun j hj => by rw [set_getD_ne (by omega)]; exact hqz j (by omega), hdd.1, hdd.2⟩) (by omega) (sS rfl (sS rfl (sS rfl (sS rfl (sS rfl (sS rfl (sS rfl (sN)))))))) (List.Sublist.refl _)
  · replace hc0 := of_decide_eq_false hc0
    have hk00 : k0 = 0 := by omega
    have hlt0 := hlt
    rw [hk00, Nat.pow_zero, Nat.mul_one] at hlt0
    have hfin := long_done (a := a) (b := b) (s := s) (q := val qs) (r := val us) hb0 (by rw [← hV]; exact hAeq) (by rw [← hV]; exact hlt0)
    refine OkC.exit ?_
    refine OkQ.then_exit ?_
    refine OkQ.round3_exit ?_
    refine OkQ.in_exit ?_
    refine q1 ?_
    refine q4 ?_
    refine st (ex_move rfl) (leB rfl) ?_
    refine st (ex_move rfl) (leB rfl) ?_
    refine OkL.nil ?_
    refine OkQ.then_ ?_
    refine OkC.block ?_
    refine OkC.sub (F' := [(4, (Value.slice (some ⟨b3, 0, none⟩) m m)), (5, (Value.slice none 0 0)), (7, (Value.slice (some ⟨b1, 0, none⟩) (nw a + 1) (nw a + 1))), (167, (vN s)), (168, (vI 0))]) (L' := [blk b3 22 (u32s qs), blk b1 22 (u32s us), blk b2 22 (u32s vb)]) (sF rfl) (List.Sublist.refl _) ?_
    refine OkC.loop2 (J := fun (i : Nat) (us3 : List Nat) => i ≤ s ∧ us3.length = nw a + 1 ∧ W32 us3 ∧ val us3 = a % b * 2 ^ s / 2 ^ i) (FI := fun (i : Nat) (us3 : List Nat) => [(4, (Value.slice (some ⟨b3, 0, none⟩) m m)), (5, (Value.slice none 0 0)), (7, (Value.slice (some ⟨b1, 0, none⟩) (nw a + 1) (nw a + 1))), (167, (vN s)), (168, (vN i))]) (LI := fun (i : Nat) (us3 : List Nat) => [blk b3 22 (u32s qs), blk b1 22 (u32s us3), blk b2 22 (u32s vb)]) (m := fun (i : Nat) (us3 : List Nat) => s - i) (fun i us3 hJ => ?_) 0 us (⟨Nat.zero_le _, hul, huw, by rw [hfin.2]; simp⟩)
    replace hJ : i ≤ s ∧ us3.length = nw a + 1 ∧ W32 us3 ∧ val us3 = a % b * 2 ^ s / 2 ^ i := hJ
    obtain ⟨hi, hl3, hw3, hv3⟩ := hJ
    refine OkC.sub (F' := [(4, (Value.slice (some ⟨b3, 0, none⟩) m m)), (5, (Value.slice none 0 0)), (7, (Value.slice (some ⟨b1, 0, none⟩) (nw a + 1) (nw a + 1))), (167, (vN s)), (168, (vN i))]) (L' := [blk b3 22 (u32s qs), blk b1 22 (u32s us3), blk b2 22 (u32s vb)]) (sF rfl) (List.Sublist.refl _) ?_
    refine q4 ?_
    refine st (ex_lss (c := (decide (i < s))) rfl rfl (ltN (a := i) (b := s))) (leB rfl) ?_
    refine OkL.nil ?_
    refine q1 ?_
    refine OkC.cond rfl (fun hc5 => ?_) (fun hc5 => ?_)
    · replace hc5 := of_decide_eq_true hc5
      refine OkC.skip ?_
      refine q1 ?_
      refine OkC.block ?_
      refine OkC.region ?_
      refine st (ex_move rfl) (leB rfl) ?_
      refine OkL.callM (v := (Value.tuple #[])) (i := 1) (cs' := u32s (rowN (nw a + 1) (val us3 / 2))) (L' := [blk b3 22 (u32s qs), blk b1 22 (u32s (rowN (nw a + 1) (val us3 / 2))), blk b2 22 (u32s vb)]) (wt_none rfl) (op_call0 (args := [(Value.slice (some ⟨b1, 0, none⟩) (nw a + 1) (nw a + 1))]) rfl rfl Tryz.call180) rfl (fun w hw => half_ok _ (nw a + 1) _ us3 hw3 hl3 (by omega) w (hw.get (i := 1) rfl)) (fun d hd => by cases hd <;> exact (leB rfl)) rfl ?_
      refine OkL.nil ?_
      refine OkQ.subF (sC 4 rfl (sC 5 rfl (sC 7 rfl (sC 167 rfl (sC 168 rfl (sN)))))) ?_
      refine OkQ.in_normal ?_
      refine OkQ.then_ ?_
      refine OkC.region ?_
      refine st (ex_add (c := ((i + 1 : Nat) : Int)) rfl rfl (addN_i64 (a := i) (b := 1) (by omega))) (leB rfl) ?_
      refine st (ex_move rfl) (leB rfl) ?_
      refine OkL.nil ?_
      refine OkQ.subF (sC 4 rfl (sC 5 rfl (sC 7 rfl (sC 167 rfl (sC 168 rfl (sN)))))) ?_
      have hb3 : val us3 / 2 < 4294967296 ^ (nw a + 1) := Nat.lt_of_le_of_lt (Nat.div_le_self _ _) (by have := val_lt hw3; rw [hl3] at this; exact this)
      exact OkQ.round2 (i + 1) (rowN (nw a + 1) (val us3 / 2)) (⟨by omega, rowN_length _ _, rowN_w32 _ _, by rw [val_rowN _ _ hb3, hv3, Nat.div_div_eq_div_mul, ← Nat.pow_succ]⟩) (by omega) (sS rfl (sS rfl (sS rfl (sS rfl (sS rfl (sN)))))) (List.Sublist.refl _)
    · replace hc5 := of_decide_eq_false hc5
      have his : i = s := by omega
      have hr : val us3 = a % b := by rw [hv3, his, Nat.mul_div_cancel _ (Nat.pow_pos (by omega))]
      have hr1 := row_eq hw3 hl3 hr
      have hq1 := row_eq hqw hql hfin.1
      refine OkC.exit ?_
      refine OkQ.then_exit ?_
      refine OkQ.round2_exit ?_
      refine OkQ.in_exit ?_
      refine q2 ?_
      refine st (ex_move rfl) (leB rfl) ?_
      refine st (ex_move rfl) (leB rfl) ?_
      refine st (ex_assign rfl) (leB rfl) ?_
      refine st (ex_assign rfl) (leB rfl) ?_
      refine OkL.nil ?_
      refine OkQ.subF (sC 4 rfl (sC 5 rfl (sC 7 rfl (sC 167 rfl (sC 168 rfl (sN)))))) ?_
      refine OkQ.then_ ?_
      refine OkC.ret ?_
      exact ret_two rfl (rd_tmp (v := (Value.slice (some ⟨b3, 0, none⟩) m m)) rfl) (rd_tmp (v := (Value.slice (some ⟨b1, 0, none⟩) (nw a + 1) (nw a + 1))) rfl) (fun w hw => ⟨b3, b1, by rw [hm], hw.out, hw.fresh (i := 0) rfl, hw.fresh (i := 1) rfl, (hw.apart (i := 0) (j := 1) (by decide) rfl rfl), by rw [← hm, ← hq1]; exact hw.get (i := 0) rfl, by rw [← hr1]; exact hw.get (i := 1) rfl⟩)


end Go.Proofs.YtpkoldfmbebmgaaGreatDoor
