import Derived.Test.YtgiacpkjnikjdaaGreatPart06
import Derived.Test.YtgiacpkjnikjdaaGreatPart15
import Derived.Test.YtgiacpkjnikjdaaGreatPart16
namespace Go.Proofs.YtgiacpkjnikjdaaGreat
open Go Go.RowKit
set_option linter.unusedVariables false
set_option linter.unusedSimpArgs false
section
set_option maxRecDepth 100000
theorem back_arith {R P D Q X : Nat} (h1 : D = Q + X) (h2 : Q ≤ R) (h3 : R < P) (h4 : R < D) (h5 : X ≤ P) : R + P - D + X = R - Q + P := by omega
theorem long_ok (a b p q c1 c2 : Nat) (ha : nw a ≤ 1099511627776) (hb2 : 2 ≤ nw b) (hba : nw b ≤ nw a) (w : World) (hp : w.heap[p]? = some (.cells (u32s (padW a)).toArray 105 (0, 0))) (hq : w.heap[q]? = some (.cells (u32s (padW b)).toArray 105 (0, 0))) : Calls Tryz.prog 177 #[(Value.slice (some ⟨p, 0, none⟩) (nw a) c1), (Value.slice (some ⟨q, 0, none⟩) (nw b) c2)] w (fun e w' => ∃ b1 b2, e = .returned (.tuple #[.slice (some ⟨b1, 0, none⟩) (nw a + 1 - nw b) (nw a + 1 - nw b), .slice (some ⟨b2, 0, none⟩) (nw a + 1) (nw a + 1)]) ∧ Bel w.heap.size w w' ∧ w.heap.size ≤ b1 ∧ w.heap.size ≤ b2 ∧ b1 ≠ b2 ∧ w'.heap[b1]? = some (.cells (u32s (rowN (nw a + 1 - nw b) (a / b))).toArray 105 (0, 0)) ∧ w'.heap[b2]? = some (.cells (u32s (rowN (nw a + 1) (a % b))).toArray 105 (0, 0))) := by
 have hla := nw_le_pad a
 have hlb := nw_le_pad b
 have hb0 : 0 < b := Nat.pos_of_ne_zero (fun h => by rw [h, nw_zero] at hb2; omega)
 obtain ⟨s, hs⟩ : ∃ s, s = 32 - bl ((wordsOf b).getD (nw b - 1) 0) := ⟨_, rfl⟩
 obtain ⟨hs32, hlow, hhigh⟩ := normed (by omega) hs
 obtain ⟨m, hm⟩ : ∃ m, m = nw a + 1 - nw b := ⟨_, rfl⟩
 obtain ⟨V, hV⟩ : ∃ V, V = b * 2 ^ s := ⟨_, rfl⟩
 obtain ⟨vb, hvb⟩ : ∃ vb, vb = rowN (nw b + 1) (b * 2 ^ s) := ⟨_, rfl⟩
 have hbig : b * 2 ^ s < 4294967296 ^ (nw b + 1) := Nat.lt_of_lt_of_le hhigh (Nat.pow_le_pow_right (by omega) (by omega))
 have hN : Nrm vb (nw b) V := ⟨by rw [hvb]; exact rowN_w32 _ _, by rw [hvb]; exact rowN_length _ _, hb2, by rw [hvb, hV]; exact val_rowN _ _ hbig, by rw [hV]; exact hlow, by rw [hV]; exact hhigh⟩
 have hst := long_start rfl (by omega) hs32 hlow hm hba
 have hA : val (rowN (nw a + 1) (a * 2 ^ s)) = a * 2 ^ s := val_rowN _ _ (by rw [Nat.pow_succ]; exact Nat.mul_lt_mul_of_lt_of_le (lt_pow_nw a) (Nat.le_trans (Nat.pow_le_pow_right (by omega) (show s ≤ 32 by omega)) (by decide)) (by omega))
 have hvlen := hN.len
 have htop := hN.top
 have htw := (top_word (b := b) (by omega)).2.2
 refine calls_of (args := [(Value.slice (some ⟨p, 0, none⟩) (nw a) c1), (Value.slice (some ⟨q, 0, none⟩) (nw b) c2)]) Tryz.func177 rfl rfl (leB rfl) (OkC.subF (sL [0, 1] rfl) (q4 (asg' rfl (asg' rfl (OkL.nil ?_)))))
 refine q2 (mv' rfl (mv' rfl (st' (v := (vN (nw b))) (ex_len_slice rfl Tryz.underlying226) rfl (st' (ex_sub (c := (((nw b) - 1 : Nat) : Int)) rfl rfl (subN_i64 (a := nw b) (b := 1) (by omega) (by omega))) rfl (st' (v := (pP q ((nw b) - 1))) (ex_indexAddr_slice (j := (nw b) - 1) rfl rfl Tryz.underlying226 Tryz.sizeOf105 rfl (by omega) (by simp)) rfl ?_)))))
 have hx1 : (padW b).getD ((nw b) - 1) 0 < 4294967296 := W32.getD (padW_w32 b) ((nw b) - 1)
 refine st' (ex_load_one_at (v := (vK .u32 ((padW b).getD ((nw b) - 1) 0))) rfl (fun w' hw => CA.at0 (hw.oldCA (by simp) (ca_blk hq)) (u32s_get (xs := padW b) (j := ((nw b) - 1)) (by omega))) Tryz.isAgg105) rfl (OkL.retell (k := 22) (u := (vK .u32 ((wordsOf b).getD (nw b - 1) 0))) rfl (by rw [pad_getD (by omega)]) (ck' Tryz.call205 (lz32_ok ((wordsOf b).getD (nw b - 1) 0) (by omega)) rfl (OkL.retell (k := 23) (u := (vN s)) rfl (by rw [hs]) (asg' rfl (q6 (sL [0, 1, 4, 5, 6] rfl) ?_)))))
 refine rG' [(0, true), (1, true), (3, true), (4, true), (6, true), (7, true), (2, false), (5, false), (8, true), (9, true), (10, true)] sr (pM' rfl (pM' rfl (pM' rfl (pM' rfl (pM' rfl ?_)))))
 refine pE' (v := (vN (nw b))) rfl (ex_len_slice rfl Tryz.underlying226) (OkE.imp rfl (OkL.callB (V := fun b1 => (Value.slice (some ⟨b1, 0, none⟩) (nw a + 1) (nw a + 1))) (T := 105) (cs := u32s (rowN (nw a + 1) (a * 2 ^ s))) (wt_none rfl) (op_call0 (args := [(Value.slice (some ⟨p, 0, none⟩) (nw a) c1), (vN s)]) rfl rfl Tryz.call206) (fun w hw => (by have h := shifted_ok p (nw a) c1 s (padW a) (padW_w32 a) hla (by omega) hs32 w (hw.old (by simp) hp); rw [take_pad_val] at h; exact h)) rfl (leB rfl) fun b1 => OkE.back (sl sr) (OkE.imp rfl (OkL.callB (V := fun b2 => (Value.slice (some ⟨b2, 0, none⟩) (nw b + 1) (nw b + 1))) (T := 105) (cs := u32s vb) (wt_none rfl) (op_call0 (args := [(Value.slice (some ⟨q, 0, none⟩) (nw b) c2), (vN s)]) rfl rfl Tryz.call206) (fun w hw => (by have h := shifted_ok q (nw b) c2 s (padW b) (padW_w32 b) hlb (by omega) hs32 w (hw.old (by simp) hq); rw [take_pad_val, ← hvb] at h; exact h)) rfl (leB rfl) fun b2 => ?_))))
 refine OkE.back (sl (sl sr)) (pE' (v := (Value.slice (some ⟨b2, 0, none⟩) (nw b) (nw b + 1))) rfl (ex_slice_hi (m := nw b) rfl rfl Tryz.underlying226 Tryz.sizeOf105 (by omega)) (pS' rfl (pS' rfl (OkE.nil (OkQ.subF (sL [1, 4, 5, 6, 7, 8] rfl) ?_)))))
 refine q2 (mv' rfl (st' (v := (vN (nw b))) (ex_len_slice rfl Tryz.underlying226) rfl (asg' rfl (q3 (sL [1, 4, 5, 6, 7, 8, 9] rfl) (mv' rfl ?_)))))
 refine st' (v := (vN (nw a + 1))) (ex_len_slice rfl Tryz.underlying226) rfl (mv' rfl (st' (ex_sub (c := (((nw a + 1) - (nw b) : Nat) : Int)) rfl rfl (subN_i64 (a := nw a + 1) (b := nw b) (by omega) (by omega))) rfl (OkL.retell (k := 38) (u := (vN m)) rfl (by rw [hm]) (OkL.openV (V := fun b3 => (Value.slice (some ⟨b3, 0, none⟩) m m)) (T := 105) (cs := u32s (List.replicate m 0)) (wt_none rfl) (op_make_u32 (m := m) (c := m) rfl rfl (by omega) (by omega)) rfl (leB rfl) fun b3 => asg' rfl ?_))))
 refine q6 (sL [1, 4, 5, 6, 7, 8, 9] rfl) (q4 (mv' rfl (st' (v := (vN m)) (ex_len_slice rfl Tryz.underlying226) rfl (st' (ex_sub (c := (((m : Nat) : Int) - 1)) rfl rfl (wrap_i64 (by omega) (by omega))) rfl (asg' rfl ?_)))))
 refine OkL.nil (OkQ.subF (sL [1, 4, 5, 6, 7, 8, 9, 10] rfl) (OkQ.then_ (OkC.block ?_)))
 refine OkC.lp3 (tg fun (k0 : Nat) (us : List Nat) (qs : List Nat) => k0 ≤ m ∧ us.length = nw a + 1 ∧ W32 us ∧ qs.length = m ∧ W32 qs ∧ (∀ j, j < k0 → qs.getD j 0 = 0) ∧ val us < V * 4294967296 ^ k0 ∧ a * 2 ^ s = val qs * V + val us) (tg fun (k0 : Nat) (us : List Nat) (qs : List Nat) => [(4, (Value.slice (some ⟨b3, 0, none⟩) m m)), (5, (Value.slice none 0 0)), (6, (vN s)), (7, (Value.slice (some ⟨b1, 0, none⟩) (nw a + 1) (nw a + 1))), (8, (Value.slice (some ⟨b2, 0, none⟩) (nw b) (nw b + 1))), (9, (vN (nw b))), (10, (vI (((k0 : Nat) : Int) - 1)))]) (tg fun (k0 : Nat) (us : List Nat) (qs : List Nat) => [blk b3 105 (u32s qs), blk b2 105 (u32s vb), blk b1 105 (u32s us)]) (tg fun (k0 : Nat) (us : List Nat) (qs : List Nat) => k0) m (rowN (nw a + 1) (a * 2 ^ s)) (List.replicate m 0) (⟨Nat.le_refl _, rowN_length _ _, rowN_w32 _ _, by simp, W32.zeros _, fun j _ => by simp [List.getD_eq_getElem?_getD, List.getElem?_replicate]; split <;> rfl, by rw [hA, hV]; exact hst, by rw [hA, val_zeros]; simp⟩) (sF rfl) sr (fun k0 us qs hJ => ?_)
 obtain ⟨hk0, hul, huw, hql, hqw, hqz, hlt, hAeq⟩ := hJ
 refine OkC.seq (q4 (mv' rfl (st' (ex_geq (c := (decide ((0 : Int) ≤ (((k0 : Nat) : Int) - 1)))) rfl rfl rfl) rfl (OkL.nil (OkQ.subF (sL [4, 5, 6, 7, 8, 9, 10, 44] rfl) ?_)))))
 refine OkQ.then_ ?_
 refine OkC.cond rfl (fun hc0 => ?_) (fun hc0 => ?_)
 ·replace hc0 := of_decide_eq_true hc0
  obtain ⟨k, rfl⟩ : ∃ k, k0 = k + 1 := ⟨k0 - 1, by omega⟩
  obtain ⟨top, htp⟩ : ∃ t, t = us.getD (k + nw b) 0 * 4294967296 + us.getD (k + nw b - 1) 0 := ⟨_, rfl⟩
  obtain ⟨W, hWd⟩ : ∃ x, x = val us / 4294967296 ^ k := ⟨_, rfl⟩
  have hWin := win_of hN huw hlt
  rw [← htp, ← hWd] at hWin
  have hu2 := huw.getD (k + nw b - 2)
  have hG0 := first_guess hN hWin hu2
  have htb := hWin.topb
  have hq32 := hWin.quo_lt hN.pos
  refine OkC.retell (k := 10) (u := (vN k)) rfl (by congr 1; omega) (OkC.skip (q1 (OkC.block (OkC.scope (OkC.seq ?_)))))
  refine rG' [(0, true), (1, true), (2, true), (3, true), (4, true), (5, true), (6, true), (7, true), (8, true), (9, true), (10, true), (11, true), (12, true), (13, true), (14, true), (15, true), (16, true), (17, true)] sr (pM' rfl (pM' rfl (pM' rfl (pE' rfl (ex_add (c := ((k + (nw b) : Nat) : Int)) rfl rfl (addN_i64 (a := k) (b := nw b) (by omega))) (pE' (v := (pP b1 (k + (nw b)))) rfl (ex_indexAddr_slice (j := k + (nw b)) rfl rfl Tryz.underlying226 Tryz.sizeOf105 rfl (by omega) (by simp)) ?_)))))
  have hx2 : us.getD (k + (nw b)) 0 < 4294967296 := W32.getD huw (k + (nw b))
  refine pE' rfl (ex_load_one (i := 2) (v := (vK .u32 (us.getD (k + (nw b)) 0))) rfl rfl Tryz.isAgg105 (u32s_get (xs := us) (j := (k + (nw b))) (by omega))) (pE' rfl (ex_conv (c := ((us.getD (k + (nw b)) 0 : Nat) : Int)) rfl Tryz.underlying105 Tryz.underlying73 (convN_u64 (by omega))) (pE' (v := (vK .u64 (us.getD (k + nw b) 0 * 4294967296))) rfl (ex_shl (s := 32) rfl rfl rfl (by decide) (shlN_u64 (s := 32) (by omega))) (pM' rfl (pM' rfl (pM' rfl ?_)))))
  refine pE' rfl (ex_add (c := ((k + (nw b) : Nat) : Int)) rfl rfl (addN_i64 (a := k) (b := nw b) (by omega))) (pE' rfl (ex_sub (c := (((k + (nw b)) - 1 : Nat) : Int)) rfl rfl (subN_i64 (a := k + (nw b)) (b := 1) (by omega) (by omega))) (pE' (v := (pP b1 ((k + (nw b)) - 1))) rfl (ex_indexAddr_slice (j := (k + (nw b)) - 1) rfl rfl Tryz.underlying226 Tryz.sizeOf105 rfl (by omega) (by simp)) ?_))
  have hx3 : us.getD ((k + (nw b)) - 1) 0 < 4294967296 := W32.getD huw ((k + (nw b)) - 1)
  refine pE' rfl (ex_load_one (i := 2) (v := (vK .u32 (us.getD ((k + (nw b)) - 1) 0))) rfl rfl Tryz.isAgg105 (u32s_get (xs := us) (j := ((k + (nw b)) - 1)) (by omega))) (pE' rfl (ex_conv (c := ((us.getD ((k + (nw b)) - 1) 0 : Nat) : Int)) rfl Tryz.underlying105 Tryz.underlying73 (convN_u64 (by omega))) (pE' rfl (ex_or (c := ((top : Nat) : Int)) rfl rfl (orN_u64 (by omega) (by omega) (((Nat.or_comm _ _).trans ((or_add (s := 32) (by omega)).trans (Nat.add_comm _ _))).trans htp.symm))) (pS' rfl (OkE.nil (OkQ.subF (sL [4, 5, 6, 7, 8, 9, 10, 11] rfl) ?_)))))
  refine q1 (rG' [(0, true), (1, true), (2, true), (3, true), (4, true), (5, true), (6, true), (7, true), (8, true), (9, true), (10, true), (11, true), (12, true), (13, true), (14, true), (15, true), (16, true), (17, true)] sr (pM' rfl (pM' rfl (pM' rfl (pE' rfl (ex_sub (c := (((nw b) - 1 : Nat) : Int)) rfl rfl (subN_i64 (a := nw b) (b := 1) (by omega) (by omega))) ?_)))))
  refine pE' (v := (pP b2 ((nw b) - 1))) rfl (ex_indexAddr_slice (j := (nw b) - 1) rfl rfl Tryz.underlying226 Tryz.sizeOf105 rfl (by omega) (by simp)) ?_
  have hx4 : vb.getD ((nw b) - 1) 0 < 4294967296 := W32.getD hN.w32 ((nw b) - 1)
  refine pE' rfl (ex_load_one (i := 1) (v := (vK .u32 (vb.getD ((nw b) - 1) 0))) rfl rfl Tryz.isAgg105 (u32s_get (xs := vb) (j := ((nw b) - 1)) (by omega))) (pE' rfl (ex_conv (c := ((vb.getD ((nw b) - 1) 0 : Nat) : Int)) rfl Tryz.underlying105 Tryz.underlying73 (convN_u64 (by omega))) (pE' rfl (ex_quo (c := ((top / (vb.getD ((nw b) - 1) 0) : Nat) : Int)) rfl rfl (by omega) (quoN_u64 (a := top) (b := vb.getD ((nw b) - 1) 0) (by omega))) (pM' rfl (pM' rfl (pM' rfl ?_)))))
  refine pE' rfl (ex_sub (c := (((nw b) - 1 : Nat) : Int)) rfl rfl (subN_i64 (a := nw b) (b := 1) (by omega) (by omega))) (pE' (v := (pP b2 ((nw b) - 1))) rfl (ex_indexAddr_slice (j := (nw b) - 1) rfl rfl Tryz.underlying226 Tryz.sizeOf105 rfl (by omega) (by simp)) ?_)
  have hx5 : vb.getD ((nw b) - 1) 0 < 4294967296 := W32.getD hN.w32 ((nw b) - 1)
  refine pE' rfl (ex_load_one (i := 1) (v := (vK .u32 (vb.getD ((nw b) - 1) 0))) rfl rfl Tryz.isAgg105 (u32s_get (xs := vb) (j := ((nw b) - 1)) (by omega))) (pE' rfl (ex_conv (c := ((vb.getD ((nw b) - 1) 0 : Nat) : Int)) rfl Tryz.underlying105 Tryz.underlying73 (convN_u64 (by omega))) (pE' rfl (ex_rem (c := ((top % (vb.getD ((nw b) - 1) 0) : Nat) : Int)) rfl rfl (by omega) (remN (a := top) (b := vb.getD ((nw b) - 1) 0))) (pS' rfl (pS' rfl (OkE.nil ?_)))))
  refine OkQ.subF (sL [4, 5, 6, 7, 8, 9, 10, 12, 13] rfl) (q1 (OkC.label (q1 ?_)))
  refine OkC.jn1 (tg fun (d : Nat) => d ≤ 4294967295 ∧ (d = W / V ∨ d = W / V + 1)) (tg fun (d : Nat) => [(4, (Value.slice (some ⟨b3, 0, none⟩) m m)), (5, (Value.slice none 0 0)), (6, (vN s)), (7, (Value.slice (some ⟨b1, 0, none⟩) (nw a + 1) (nw a + 1))), (8, (Value.slice (some ⟨b2, 0, none⟩) (nw b) (nw b + 1))), (9, (vN (nw b))), (10, (vN k)), (12, (vK .u64 d))]) (tg fun (d : Nat) => [blk b3 105 (u32s qs), blk b2 105 (u32s vb), blk b1 105 (u32s us)]) ?_ ?_
  ·skip
   refine OkC.block ?_
   refine OkC.lp2 (tg fun (d : Nat) (r : Nat) => Guess V W (vb.getD (nw b - 1) 0) top d r ∧ r < 8589934592 ∧ d < 8589934593) (tg fun (d : Nat) (r : Nat) => [(4, (Value.slice (some ⟨b3, 0, none⟩) m m)), (5, (Value.slice none 0 0)), (6, (vN s)), (7, (Value.slice (some ⟨b1, 0, none⟩) (nw a + 1) (nw a + 1))), (8, (Value.slice (some ⟨b2, 0, none⟩) (nw b) (nw b + 1))), (9, (vN (nw b))), (10, (vN k)), (12, (vK .u64 d)), (13, (vK .u64 r))]) (tg fun (d : Nat) (r : Nat) => [blk b3 105 (u32s qs), blk b2 105 (u32s vb), blk b1 105 (u32s us)]) (tg fun (d : Nat) (r : Nat) => d) (top / vb.getD (nw b - 1) 0) (top % vb.getD (nw b - 1) 0) (⟨hG0, by have := Nat.mod_lt top (show vb.getD (nw b - 1) 0 > 0 by omega); omega, Nat.div_lt_of_lt_mul (by omega)⟩) (sF rfl) sr (fun d r hJ => ?_)
   obtain ⟨hG, hr2, hd2⟩ := hJ
   refine OkC.seq (q4 (mv' rfl (st' (ex_leq (c := (decide (r ≤ 4294967295))) rfl rfl (leN (a := r) (b := 4294967295))) rfl (OkL.nil (OkQ.subF (sL [4, 5, 6, 7, 8, 9, 10, 12, 13, 81] rfl) ?_)))))
   refine OkQ.then_ ?_
   refine OkC.cond rfl (fun hc1 => ?_) (fun hc1 => ?_)
   ·replace hc1 := of_decide_eq_true hc1
    refine OkC.skip (OkQ.then_ (OkC.block (OkC.seq (OkC.seq ?_))))
    by_cases hsp : d ≤ 4294967295
    ·skip
     have hv2 := hN.w32.getD (nw b - 2)
     have hml := mul_w (a := d) (b := vb.getD (nw b - 2) 0) (by omega) hv2
     refine rG' [(0, true), (1, true), (2, true), (3, true), (4, true), (5, true), (6, true), (7, true), (8, true), (9, true), (10, true), (11, true), (12, true), (13, true), (14, true), (15, true), (16, true), (17, true), (18, true), (19, true), (20, true), (21, true), (22, true), (23, true)] sr (pM' rfl (pE' rfl (ex_leq (c := true) rfl rfl (leN.trans (decide_eq_true hsp))) (pM' rfl (OkE.pas (v := (vK .u64 d)) rfl (wt_some' rfl) (ex_move rfl) rfl rfl (OkE.pas (v := (Value.slice (some ⟨b2, 0, none⟩) (nw b) (nw b + 1))) rfl (wt_some' rfl) (ex_move rfl) rfl rfl ?_)))))
     refine OkE.pas (v := (vN (nw b))) rfl (wt_some' rfl) (ex_move rfl) rfl rfl (OkE.pas (v := (vN ((nw b) - 2))) rfl (wt_some' rfl) (ex_sub (c := (((nw b) - 2 : Nat) : Int)) rfl rfl (subN_i64 (a := nw b) (b := 2) (by omega) (by omega))) rfl rfl (OkE.pas (v := (pP b2 ((nw b) - 2))) rfl (wt_some' rfl) (ex_indexAddr_slice (j := (nw b) - 2) rfl rfl Tryz.underlying226 Tryz.sizeOf105 rfl (by omega) (by simp)) rfl rfl ?_))
     have hx6 : vb.getD ((nw b) - 2) 0 < 4294967296 := W32.getD hN.w32 ((nw b) - 2)
     refine OkE.pas (v := (vK .u32 (vb.getD ((nw b) - 2) 0))) rfl (wt_some' rfl) (ex_load_one (i := 1) (v := (vK .u32 (vb.getD ((nw b) - 2) 0))) rfl rfl Tryz.isAgg105 (u32s_get (xs := vb) (j := ((nw b) - 2)) (by omega))) rfl rfl (OkE.pas (v := (vK .u64 (vb.getD ((nw b) - 2) 0))) rfl (wt_some' rfl) (ex_conv (c := ((vb.getD ((nw b) - 2) 0 : Nat) : Int)) rfl Tryz.underlying105 Tryz.underlying73 (convN_u64 (by omega))) rfl rfl (OkE.pas (v := (vK .u64 (d * (vb.getD ((nw b) - 2) 0)))) rfl (wt_some' rfl) (ex_mul (c := ((d * (vb.getD ((nw b) - 2) 0) : Nat) : Int)) rfl rfl (mulN_u64 (a := d) (b := vb.getD ((nw b) - 2) 0) (by omega))) rfl rfl (OkE.pas (v := (vK .u64 r)) rfl (wt_some' rfl) (ex_move rfl) rfl rfl (OkE.pas (v := (vK .u64 (r * 4294967296))) rfl (wt_some' rfl) (ex_shl (s := 32) rfl rfl rfl (by decide) (shlN_u64 (s := 32) (by omega))) rfl rfl (OkE.pas (v := (Value.slice (some ⟨b1, 0, none⟩) (nw a + 1) (nw a + 1))) rfl (wt_some' rfl) (ex_move rfl) rfl rfl ?_)))))
     refine OkE.pas (v := (vN k)) rfl (wt_some' rfl) (ex_move rfl) rfl rfl (OkE.pas (v := (vN (nw b))) rfl (wt_some' rfl) (ex_move rfl) rfl rfl (OkE.pas (v := (vN (k + (nw b)))) rfl (wt_some' rfl) (ex_add (c := ((k + (nw b) : Nat) : Int)) rfl rfl (addN_i64 (a := k) (b := nw b) (by omega))) rfl rfl (OkE.pas (v := (vN ((k + (nw b)) - 2))) rfl (wt_some' rfl) (ex_sub (c := (((k + (nw b)) - 2 : Nat) : Int)) rfl rfl (subN_i64 (a := k + (nw b)) (b := 2) (by omega) (by omega))) rfl rfl (OkE.pas (v := (pP b1 ((k + (nw b)) - 2))) rfl (wt_some' rfl) (ex_indexAddr_slice (j := (k + (nw b)) - 2) rfl rfl Tryz.underlying226 Tryz.sizeOf105 rfl (by omega) (by simp)) rfl rfl ?_))))
     have hx7 : us.getD ((k + (nw b)) - 2) 0 < 4294967296 := W32.getD huw ((k + (nw b)) - 2)
     refine OkE.pas (v := (vK .u32 (us.getD ((k + (nw b)) - 2) 0))) rfl (wt_some' rfl) (ex_load_one (i := 2) (v := (vK .u32 (us.getD ((k + (nw b)) - 2) 0))) rfl rfl Tryz.isAgg105 (u32s_get (xs := us) (j := ((k + (nw b)) - 2)) (by omega))) rfl rfl (OkE.pas (v := (vK .u64 (us.getD ((k + (nw b)) - 2) 0))) rfl (wt_some' rfl) (ex_conv (c := ((us.getD ((k + (nw b)) - 2) 0 : Nat) : Int)) rfl Tryz.underlying105 Tryz.underlying73 (convN_u64 (by omega))) rfl rfl (OkE.pas (v := (vK .u64 (r * 4294967296 + us.getD (k + nw b - 2) 0))) rfl (wt_some' rfl) (ex_or (c := ((r * 4294967296 + us.getD (k + nw b - 2) 0 : Nat) : Int)) rfl rfl (orN_u64 (by omega) (by omega) (((Nat.or_comm _ _).trans ((or_add (s := 32) (by omega)).trans (Nat.add_comm _ _)))))) rfl rfl (OkE.pas (v := (Value.bool (decide ((d * (vb.getD ((nw b) - 2) 0)) ≤ (r * 4294967296 + us.getD (k + nw b - 2) 0))))) rfl (wt_some' rfl) (ex_leq (c := (decide ((d * (vb.getD ((nw b) - 2) 0)) ≤ (r * 4294967296 + us.getD (k + nw b - 2) 0)))) rfl rfl (leN (a := d * (vb.getD ((nw b) - 2) 0)) (b := r * 4294967296 + us.getD (k + nw b - 2) 0))) rfl rfl (pE' (v := (Value.bool (decide ((d * (vb.getD ((nw b) - 2) 0)) ≤ (r * 4294967296 + us.getD (k + nw b - 2) 0))))) rfl (ex_pick_true rfl rfl) (OkE.nil ?_)))))
     refine OkQ.subF (sL [4, 5, 6, 7, 8, 9, 10, 12, 13, 105] rfl) (OkQ.then_ ?_)
     refine OkC.cond rfl (fun hc2 => ?_) (fun hc2 => ?_)
     ·replace hc2 := of_decide_eq_true hc2
      have hg := last_guess hN hWin hG (.inr ⟨hsp, hc2⟩)
      exact OkC.exit (OkQ.then_exit (OkQ.in_exit_ne rfl (OkQ.round2_exit (OkQ.in_exit (OkQ.join1 d (hg) (sF rfl) sr)))))
     ·replace hc2 := of_decide_eq_false hc2
      obtain ⟨hng1, hng2⟩ := next_guess hN hWin hG (fun h => hc2 h.2)
      refine OkC.skip (q2 (mv' rfl (st' (ex_sub (c := ((d - 1 : Nat) : Int)) rfl rfl (subN_u64 (a := d) (b := 1) (by omega) (by omega))) rfl (asg' rfl (OkL.nil ?_)))))
      refine OkQ.subF (sL [4, 5, 6, 7, 8, 9, 10, 12, 13] rfl) (OkQ.then_ (OkC.region (mv' rfl (mv' rfl (mv' rfl ?_)))))
      refine st' (ex_sub (c := (((nw b) - 1 : Nat) : Int)) rfl rfl (subN_i64 (a := nw b) (b := 1) (by omega) (by omega))) rfl (st' (v := (pP b2 ((nw b) - 1))) (ex_indexAddr_slice (j := (nw b) - 1) rfl rfl Tryz.underlying226 Tryz.sizeOf105 rfl (by omega) (by simp)) rfl ?_)
      have hx8 : vb.getD ((nw b) - 1) 0 < 4294967296 := W32.getD hN.w32 ((nw b) - 1)
      refine st' (ex_load_one (i := 1) (v := (vK .u32 (vb.getD ((nw b) - 1) 0))) rfl rfl Tryz.isAgg105 (u32s_get (xs := vb) (j := ((nw b) - 1)) (by omega))) rfl (st' (ex_conv (c := ((vb.getD ((nw b) - 1) 0 : Nat) : Int)) rfl Tryz.underlying105 Tryz.underlying73 (convN_u64 (by omega))) rfl (st' (ex_add (c := ((r + (vb.getD ((nw b) - 1) 0) : Nat) : Int)) rfl rfl (addN_u64 (a := r) (b := vb.getD ((nw b) - 1) 0) (by omega))) rfl (asg' rfl (OkL.nil (OkQ.subF (sL [4, 5, 6, 7, 8, 9, 10, 12, 13] rfl) ?_)))))
      exact OkQ.in_normal (OkQ.round2 (d - 1) (r + vb.getD (nw b - 1) 0) (⟨hng1, by omega, by omega⟩) (by omega) (sF rfl) sr)
    ·skip
     obtain ⟨hng1, hng2⟩ := next_guess hN hWin hG (fun h => hsp h.1)
     refine rG' [(0, true), (1, true), (2, true), (3, true), (4, true), (5, true), (6, true), (7, true), (8, true), (9, true), (10, true), (11, true), (12, true), (13, true), (14, true), (15, true), (16, true), (17, true), (18, true), (19, true), (20, true), (21, true), (22, true), (23, true)] sr (pM' rfl (pE' rfl (ex_leq (c := false) rfl rfl (leN.trans (decide_eq_false hsp))) (pM' rfl (OkE.skp rfl (wt_not' rfl) rfl rfl (OkE.skp rfl (wt_not' rfl) rfl rfl ?_)))))
     refine OkE.skp rfl (wt_not' rfl) rfl rfl (OkE.skp rfl (wt_not' rfl) rfl rfl (OkE.skp rfl (wt_not' rfl) rfl rfl (OkE.skp rfl (wt_not' rfl) rfl rfl (OkE.skp rfl (wt_not' rfl) rfl rfl (OkE.skp rfl (wt_not' rfl) rfl rfl ?_)))))
     refine OkE.skp rfl (wt_not' rfl) rfl rfl (OkE.skp rfl (wt_not' rfl) rfl rfl (OkE.skp rfl (wt_not' rfl) rfl rfl (OkE.skp rfl (wt_not' rfl) rfl rfl (OkE.skp rfl (wt_not' rfl) rfl rfl (OkE.skp rfl (wt_not' rfl) rfl rfl ?_)))))
     refine OkE.skp rfl (wt_not' rfl) rfl rfl (OkE.skp rfl (wt_not' rfl) rfl rfl (OkE.skp rfl (wt_not' rfl) rfl rfl (OkE.skp rfl (wt_not' rfl) rfl rfl (OkE.skp rfl (wt_not' rfl) rfl rfl (OkE.skp rfl (wt_not' rfl) rfl rfl ?_)))))
     refine pE' (v := (Value.bool false)) rfl (ex_pick_false rfl rfl) (OkE.nil (OkQ.subF (sL [4, 5, 6, 7, 8, 9, 10, 12, 13, 105] rfl) (OkQ.then_ (OkC.cond_false rfl (OkC.skip ?_)))))
     refine q2 (mv' rfl (st' (ex_sub (c := ((d - 1 : Nat) : Int)) rfl rfl (subN_u64 (a := d) (b := 1) (by omega) (by omega))) rfl (asg' rfl (OkL.nil (OkQ.subF (sL [4, 5, 6, 7, 8, 9, 10, 12, 13] rfl) ?_)))))
     refine OkQ.then_ (OkC.region (mv' rfl (mv' rfl (mv' rfl (st' (ex_sub (c := (((nw b) - 1 : Nat) : Int)) rfl rfl (subN_i64 (a := nw b) (b := 1) (by omega) (by omega))) rfl ?_)))))
     refine st' (v := (pP b2 ((nw b) - 1))) (ex_indexAddr_slice (j := (nw b) - 1) rfl rfl Tryz.underlying226 Tryz.sizeOf105 rfl (by omega) (by simp)) rfl ?_
     have hx9 : vb.getD ((nw b) - 1) 0 < 4294967296 := W32.getD hN.w32 ((nw b) - 1)
     refine st' (ex_load_one (i := 1) (v := (vK .u32 (vb.getD ((nw b) - 1) 0))) rfl rfl Tryz.isAgg105 (u32s_get (xs := vb) (j := ((nw b) - 1)) (by omega))) rfl (st' (ex_conv (c := ((vb.getD ((nw b) - 1) 0 : Nat) : Int)) rfl Tryz.underlying105 Tryz.underlying73 (convN_u64 (by omega))) rfl (st' (ex_add (c := ((r + (vb.getD ((nw b) - 1) 0) : Nat) : Int)) rfl rfl (addN_u64 (a := r) (b := vb.getD ((nw b) - 1) 0) (by omega))) rfl (asg' rfl (OkL.nil (OkQ.subF (sL [4, 5, 6, 7, 8, 9, 10, 12, 13] rfl) ?_)))))
     exact OkQ.in_normal (OkQ.round2 (d - 1) (r + vb.getD (nw b - 1) 0) (⟨hng1, by omega, by omega⟩) (by omega) (sF rfl) sr)
   ·replace hc1 := of_decide_eq_false hc1
    have hg := last_guess hN hWin hG (.inl (by omega))
    exact OkC.exit (OkQ.then_exit (OkQ.round2_exit (OkQ.in_exit (OkQ.join1 d (hg) (sF rfl) sr))))
  ·intro d hJ
   obtain ⟨hdb, hdq⟩ := hJ
   refine q1 (q4 (mv' rfl (mv' rfl (mv' rfl (mv' rfl ?_)))))
   refine st' (ex_add (c := ((k + (nw b) : Nat) : Int)) rfl rfl (addN_i64 (a := k) (b := nw b) (by omega))) rfl (st' (ex_add (c := (((k + (nw b)) + 1 : Nat) : Int)) rfl rfl (addN_i64 (a := k + (nw b)) (b := 1) (by omega))) rfl (st' (v := (Value.slice (some ⟨b1, k, none⟩) (((k + (nw b)) + 1) - k) ((nw a + 1) - k))) (ex_slice_mid (i := k) (m := (k + (nw b)) + 1) rfl rfl rfl Tryz.underlying226 Tryz.sizeOf105 (by omega) (by omega) (by omega) (by simp)) rfl (OkL.retell (k := 122) (u := (Value.slice (some ⟨b1, k, none⟩) (nw b + 1) ((nw a + 1) - k))) rfl (by rw [show k + nw b + 1 - k = nw b + 1 by omega]) (mv' rfl (mv' rfl ?_)))))
   refine OkL.callM (v := (Value.bool (decide (val us < d * val (vb.take (nw b)) * 4294967296 ^ k)))) (i := 2) (cs' := u32s (rowN (nw a + 1) (val us + (if val us < d * val (vb.take (nw b)) * 4294967296 ^ k then 4294967296 ^ (k + nw b + 1) else 0) - d * val (vb.take (nw b)) * 4294967296 ^ k))) (L' := [blk b3 105 (u32s qs), blk b2 105 (u32s vb), blk b1 105 (u32s (rowN (nw a + 1) (val us + (if val us < d * val (vb.take (nw b)) * 4294967296 ^ k then 4294967296 ^ (k + nw b + 1) else 0) - d * val (vb.take (nw b)) * 4294967296 ^ k)))]) (wt_none rfl) (op_call0 (args := [(Value.slice (some ⟨b1, k, none⟩) (nw b + 1) ((nw a + 1) - k)), (Value.slice (some ⟨b2, 0, none⟩) (nw b) (nw b + 1)), (vK .u64 d)]) rfl rfl Tryz.call207) rfl (fun w hw => less_ok _ _ k (nw b) (nw a + 1) _ _ d us vb huw hul hN.w32 (by omega) (by omega) (by omega) (by omega) hWin.fits ((hw.apart (i := 1) (j := 2) (by decide) rfl rfl)) w (hw.get (i := 2) rfl) (hw.get (i := 1) rfl)) (fun d hd => by cases hd <;> exact (leB rfl)) rfl (OkL.nil (OkQ.subF (sL [4, 5, 6, 7, 8, 9, 10, 12, 125] rfl) (OkQ.then_ ?_)))
   refine OkC.jn1 (tg fun (us2 : List Nat) => us2.length = nw a + 1 ∧ W32 us2 ∧ val us2 = val us - W / V * V * 4294967296 ^ k) (tg fun (us2 : List Nat) => [(4, (Value.slice (some ⟨b3, 0, none⟩) m m)), (5, (Value.slice none 0 0)), (6, (vN s)), (7, (Value.slice (some ⟨b1, 0, none⟩) (nw a + 1) (nw a + 1))), (8, (Value.slice (some ⟨b2, 0, none⟩) (nw b) (nw b + 1))), (9, (vN (nw b))), (10, (vN k)), (12, (vK .u64 (W / V)))]) (tg fun (us2 : List Nat) => [blk b3 105 (u32s qs), blk b2 105 (u32s vb), blk b1 105 (u32s us2)]) ?_ ?_
   ·skip
    refine OkC.cond rfl (fun hc3 => ?_) (fun hc3 => ?_)
    ·replace hc3 := of_decide_eq_true hc3
     have hP : 4294967296 ^ (k + nw b + 1) ≤ 4294967296 ^ (nw a + 1) := Nat.pow_le_pow_right (by omega) (by omega)
     rw [hN.take] at hc3
     obtain ⟨hde, hdS⟩ := less_wrong (vb := vb) hWin hdq hc3
     have hXP : V * 4294967296 ^ k ≤ 4294967296 ^ (k + nw b + 1) := Nat.le_trans (Nat.mul_le_mul_right _ (Nat.le_of_lt hN.high)) (by rw [← Nat.pow_add]; exact Nat.pow_le_pow_right (by omega) (by omega))
     have hqle := quo_le (vb := vb) hWin
     have hfit := hWin.fits
     have hd1 : 1 ≤ d := by rw [hde]; exact Nat.le_add_left _ _
     have hU1 : val (rowN (nw a + 1) (val us + (if val us < d * val (vb.take (nw b)) * 4294967296 ^ k then 4294967296 ^ (k + nw b + 1) else 0) - d * val (vb.take (nw b)) * 4294967296 ^ k)) = val us + 4294967296 ^ (k + nw b + 1) - d * V * 4294967296 ^ k := by rw [hN.take, if_pos hc3, val_rowN _ _ (by omega)]
     have hU1lt : val (rowN (nw a + 1) (val us + (if val us < d * val (vb.take (nw b)) * 4294967296 ^ k then 4294967296 ^ (k + nw b + 1) else 0) - d * val (vb.take (nw b)) * 4294967296 ^ k)) < 4294967296 ^ (k + nw b + 1) := by rw [hU1]; omega
     refine q4 (mv' rfl (st' (ex_sub (c := ((d - 1 : Nat) : Int)) rfl rfl (subN_u64 (a := d) (b := 1) (by omega) (by omega))) rfl (asg' rfl (q3 (sL [4, 5, 6, 7, 8, 9, 10, 12] rfl) (asg' rfl ?_)))))
     refine OkL.nil (q1 (q4 (mv' rfl (st' (v := (vN (nw b))) (ex_len_slice rfl Tryz.underlying226) rfl (mv' rfl ?_)))))
     refine OkL.nil (OkQ.then_ (OkC.block ?_))
     refine OkC.lp3 (tg fun (i : Nat) (os : List Nat) (c : Nat) => i ≤ nw b ∧ os.length = nw a + 1 ∧ W32 os ∧ c ≤ 1 ∧ (∀ j, k + nw b + 1 ≤ j → os.getD j 0 = 0) ∧ val os + c * 4294967296 ^ (k + i) = (val us + 4294967296 ^ (k + nw b + 1) - d * V * 4294967296 ^ k) + val (vb.take i) * 4294967296 ^ k) (tg fun (i : Nat) (os : List Nat) (c : Nat) => [(4, (Value.slice (some ⟨b3, 0, none⟩) m m)), (5, (Value.slice none 0 0)), (6, (vN s)), (7, (Value.slice (some ⟨b1, 0, none⟩) (nw a + 1) (nw a + 1))), (8, (Value.slice (some ⟨b2, 0, none⟩) (nw b) (nw b + 1))), (9, (vN (nw b))), (10, (vN k)), (12, (vK .u64 (d - 1))), (128, (Value.slice (some ⟨b2, 0, none⟩) (nw b) (nw b + 1))), (129, (vN (nw b))), (130, (vN i)), (14, (vK .u32 c))]) (tg fun (i : Nat) (os : List Nat) (c : Nat) => [blk b3 105 (u32s qs), blk b2 105 (u32s vb), blk b1 105 (u32s os)]) (tg fun (i : Nat) (os : List Nat) (c : Nat) => nw b - i) 0 (rowN (nw a + 1) (val us + (if val us < d * val (vb.take (nw b)) * 4294967296 ^ k then 4294967296 ^ (k + nw b + 1) else 0) - d * val (vb.take (nw b)) * 4294967296 ^ k)) 0 (⟨Nat.zero_le _, rowN_length _ _, rowN_w32 _ _, by omega, zero_of_val hU1lt, by rw [hU1]; simp [val]⟩) (sF rfl) sr (fun i os c hJ => ?_)
     obtain ⟨hi, hl, hw32, hcc, hz, hv⟩ := hJ
     refine q4 (st' (ex_lss (c := (decide (i < (nw b)))) rfl rfl (ltN (a := i) (b := nw b))) rfl (OkL.nil (q1 ?_)))
     refine OkC.cond rfl (fun hc4 => ?_) (fun hc4 => ?_)
     ·replace hc4 := of_decide_eq_true hc4
      refine OkC.skip (q1 (OkC.block (q4 (mv' rfl (st' (v := (pP b2 i)) (ex_indexAddr_slice (j := i) rfl rfl Tryz.underlying226 Tryz.sizeOf105 rfl (by omega) (by simp)) rfl ?_)))))
      have hx10 : vb.getD i 0 < 4294967296 := W32.getD hN.w32 i
      refine st' (ex_load_one (i := 1) (v := (vK .u32 (vb.getD i 0))) rfl rfl Tryz.isAgg105 (u32s_get (xs := vb) (j := i) (by omega))) rfl (asg' rfl (asg' rfl (OkL.nil (OkQ.subF (sL [4, 5, 6, 7, 8, 9, 10, 12, 128, 129, 130, 14, 15, 16] rfl) (OkQ.then_ ?_)))))
      refine OkC.region (mv' rfl (mv' rfl (mv' rfl (st' (ex_add (c := ((k + i : Nat) : Int)) rfl rfl (addN_i64 (a := k) (b := i) (by omega))) rfl (mv' rfl ?_)))))
      refine mv' rfl (mv' rfl (st' (ex_add (c := ((k + i : Nat) : Int)) rfl rfl (addN_i64 (a := k) (b := i) (by omega))) rfl (st' (v := (pP b1 (k + i))) (ex_indexAddr_slice (j := k + i) rfl rfl Tryz.underlying226 Tryz.sizeOf105 rfl (by omega) (by simp)) rfl ?_)))
      have hx11 : os.getD (k + i) 0 < 4294967296 := W32.getD hw32 (k + i)
      refine st' (ex_load_one (i := 2) (v := (vK .u32 (os.getD (k + i) 0))) rfl rfl Tryz.isAgg105 (u32s_get (xs := os) (j := (k + i)) (by omega))) rfl (mv' rfl (mv' rfl (ck' Tryz.call182 (add32_ok (os.getD (k + i) 0) (vb.getD i 0) c (by omega) (by omega) (by omega)) rfl (mv' rfl (st' (ex_extract (v := (vK .u32 (((os.getD (k + i) 0) + (vb.getD i 0) + c) % 4294967296))) rfl rfl) rfl ?_)))))
      refine st' (ex_extract (v := (vK .u32 (((os.getD (k + i) 0) + (vb.getD i 0) + c) / 4294967296))) rfl rfl) rfl (st' (v := (pP b1 (k + i))) (ex_indexAddr_slice (j := k + i) rfl rfl Tryz.underlying226 Tryz.sizeOf105 rfl (by omega) (by simp)) rfl (OkL.store' (i := 2) (off := (k + i)) (vs := [(vK .u32 (((os.getD (k + i) 0) + (vb.getD i 0) + c) % 4294967296))]) (cs' := u32s (os.set (k + i) (((os.getD (k + i) 0) + (vb.getD i 0) + c) % 4294967296))) (L' := [blk b3 105 (u32s qs), blk b2 105 (u32s vb), blk b1 105 (u32s (os.set (k + i) (((os.getD (k + i) 0) + (vb.getD i 0) + c) % 4294967296)))]) (wt_none rfl) rfl rfl rfl rfl rfl Tryz.sizeOf105 rfl (ble_row (u32s_length _) (by omega)) (u32s_set (by omega)) rfl (asg' rfl (OkL.nil (OkQ.subF (sL [4, 5, 6, 7, 8, 9, 10, 12, 128, 129, 130, 14] rfl) ?_)))))
      refine OkQ.in_normal (OkQ.then_ (OkC.region (st' (ex_add (c := ((i + 1 : Nat) : Int)) rfl rfl (addN_i64 (a := i) (b := 1) (by omega))) rfl (mv' rfl (OkL.nil ?_)))))
      exact OkQ.subF (sL [4, 5, 6, 7, 8, 9, 10, 12, 128, 129, 130, 14] rfl) (OkQ.round3 (i + 1) (os.set (k + i) ((os.getD (k + i) 0 + vb.getD i 0 + c) % 4294967296)) ((os.getD (k + i) 0 + vb.getD i 0 + c) / 4294967296) (⟨by omega, by rw [List.length_set]; exact hl, W32.set hw32 (by omega) _, by omega, set_above hz (by omega), back_step hl (by omega) hv⟩) (by omega) (sF rfl) sr)
     ·replace hc4 := of_decide_eq_false hc4
      have hib : i = nw b := by omega
      have hv3 := hv
      rw [hib, hN.take] at hv3
      have hbk := back_done (T := val us - W / V * V * 4294967296 ^ k) (P := 4294967296 ^ (k + nw b + 1)) hl (by omega) hw32 hcc hz rfl (hv3.trans (back_arith hdS hqle hfit hc3 hXP)) (Nat.lt_of_le_of_lt (Nat.sub_le _ _) hfit)
      refine OkC.exit (OkQ.then_exit (OkQ.round3_exit (OkQ.in_exit (OkQ.then_ (OkC.region ?_)))))
      refine mv' rfl (mv' rfl (mv' rfl (st' (ex_add (c := ((k + (nw b) : Nat) : Int)) rfl rfl (addN_i64 (a := k) (b := nw b) (by omega))) rfl (st' (v := (pP b1 (k + (nw b)))) (ex_indexAddr_slice (j := k + (nw b)) rfl rfl Tryz.underlying226 Tryz.sizeOf105 rfl (by omega) (by simp)) rfl ?_))))
      have hx12 : os.getD (k + (nw b)) 0 < 4294967296 := W32.getD hw32 (k + (nw b))
      refine st' (ex_load_one (i := 2) (v := (vK .u32 (os.getD (k + (nw b)) 0))) rfl rfl Tryz.isAgg105 (u32s_get (xs := os) (j := (k + (nw b))) (by omega))) rfl (mv' rfl (st' (ex_add (c := (((os.getD (k + nw b) 0 + c) % 4294967296 : Nat) : Int)) rfl rfl addM_u32) rfl (st' (v := (pP b1 (k + (nw b)))) (ex_indexAddr_slice (j := k + (nw b)) rfl rfl Tryz.underlying226 Tryz.sizeOf105 rfl (by omega) (by simp)) rfl (OkL.store' (i := 2) (off := (k + (nw b))) (vs := [(vK .u32 ((os.getD (k + nw b) 0 + c) % 4294967296))]) (cs' := u32s (os.set (k + (nw b)) ((os.getD (k + nw b) 0 + c) % 4294967296))) (L' := [blk b3 105 (u32s qs), blk b2 105 (u32s vb), blk b1 105 (u32s (os.set (k + (nw b)) ((os.getD (k + nw b) 0 + c) % 4294967296)))]) (wt_none rfl) rfl rfl rfl rfl rfl Tryz.sizeOf105 rfl (ble_row (u32s_length _) (by omega)) (u32s_set (by omega)) rfl (OkL.nil ?_)))))
      exact OkQ.subF (sL [4, 5, 6, 7, 8, 9, 10, 12, 128, 129, 130, 14] rfl) (OkQ.retell (k := 12) (u := Value.int .u64 ((W / V : Nat) : Int)) rfl (by rw [hde, Nat.add_sub_cancel]) (OkQ.join1 (os.set (k + (nw b)) ((os.getD (k + nw b) 0 + c) % 4294967296)) (⟨by rw [List.length_set]; exact hl, W32.set hw32 (by omega) _, hbk⟩) (sF rfl) sr))
    ·replace hc3 := of_decide_eq_false hc3
     have hP : 4294967296 ^ (k + nw b + 1) ≤ 4294967296 ^ (nw a + 1) := Nat.pow_le_pow_right (by omega) (by omega)
     rw [hN.take] at hc3
     obtain ⟨hde, hdS⟩ := less_right hN hWin hdq hc3
     have hfit := hWin.fits
     have hU1 : val (rowN (nw a + 1) (val us + (if val us < d * val (vb.take (nw b)) * 4294967296 ^ k then 4294967296 ^ (k + nw b + 1) else 0) - d * val (vb.take (nw b)) * 4294967296 ^ k)) = val us - W / V * V * 4294967296 ^ k := by rw [hN.take, if_neg hc3, val_rowN _ _ (by omega)]; exact hdS
     exact OkC.skip (OkQ.retell (k := 12) (u := Value.int .u64 ((W / V : Nat) : Int)) rfl (by rw [hde]) (OkQ.join1 (rowN (nw a + 1) (val us + (if val us < d * val (vb.take (nw b)) * 4294967296 ^ k then 4294967296 ^ (k + nw b + 1) else 0) - d * val (vb.take (nw b)) * 4294967296 ^ k)) (⟨rowN_length _ _, rowN_w32 _ _, hU1⟩) (sF rfl) sr))
   ·intro us2 hJ
    obtain ⟨hu2l, hu2w, hu2v⟩ := hJ
    refine OkQ.then_ (OkC.region (mv' rfl (mv' rfl (mv' rfl (st' (ex_conv (c := ((W / V : Nat) : Int)) rfl Tryz.underlying73 Tryz.underlying105 (convN_u32 (by exact hq32))) rfl ?_)))))
    refine st' (v := (pP b3 k)) (ex_indexAddr_slice (j := k) rfl rfl Tryz.underlying226 Tryz.sizeOf105 rfl (by omega) (by simp)) rfl (OkL.store' (i := 0) (off := k) (vs := [(vK .u32 (W / V))]) (cs' := u32s (qs.set k (W / V))) (L' := [blk b3 105 (u32s (qs.set k (W / V))), blk b2 105 (u32s vb), blk b1 105 (u32s us2)]) (wt_none rfl) rfl rfl rfl rfl rfl Tryz.sizeOf105 rfl (ble_row (u32s_length _) (by omega)) (u32s_set (by omega)) rfl (OkL.nil (OkQ.subF (sL [4, 5, 6, 7, 8, 9, 10, 12] rfl) (OkQ.scope_normal (OkQ.in_normal ?_)))))
    refine OkQ.then_ (OkC.region (mv' rfl (st' (ex_sub (c := (((k : Nat) : Int) - 1)) rfl rfl (wrap_i64 (by omega) (by omega))) rfl (asg' rfl (OkL.nil ?_)))))
    refine OkQ.subF (sL [4, 5, 6, 7, 8, 9, 10, 12] rfl) ?_
    have hdd := digit_done hN hWin hu2v hAeq hql (by omega) (hqz k (by omega))
    exact OkQ.round3 k us2 (qs.set k (W / V)) (⟨by omega, hu2l, hu2w, by rw [List.length_set]; exact hql, W32.set hqw hq32 _, fun j hj => by rw [set_getD_ne (by omega)]; exact hqz j (by omega), hdd.1, hdd.2⟩) (by omega) (sF rfl) sr
 ·replace hc0 := of_decide_eq_false hc0
  have hk00 : k0 = 0 := by omega
  have hlt0 := hlt
  rw [hk00, Nat.pow_zero, Nat.mul_one] at hlt0
  have hfin := long_done (a := a) (b := b) (s := s) (q := val qs) (r := val us) hb0 (by rw [← hV]; exact hAeq) (by rw [← hV]; exact hlt0)
  refine OkC.exit (OkQ.then_exit (OkQ.round3_exit (OkQ.in_exit (q1 (q4 ?_)))))
  refine mv' rfl (mv' rfl (OkL.nil (OkQ.then_ (OkC.block ?_))))
  refine OkC.lp2 (tg fun (i : Nat) (us3 : List Nat) => i ≤ s ∧ us3.length = nw a + 1 ∧ W32 us3 ∧ val us3 = a % b * 2 ^ s / 2 ^ i) (tg fun (i : Nat) (us3 : List Nat) => [(4, (Value.slice (some ⟨b3, 0, none⟩) m m)), (5, (Value.slice none 0 0)), (7, (Value.slice (some ⟨b1, 0, none⟩) (nw a + 1) (nw a + 1))), (167, (vN s)), (168, (vN i))]) (tg fun (i : Nat) (us3 : List Nat) => [blk b3 105 (u32s qs), blk b2 105 (u32s vb), blk b1 105 (u32s us3)]) (tg fun (i : Nat) (us3 : List Nat) => s - i) 0 us (⟨Nat.zero_le _, hul, huw, by rw [hfin.2]; simp⟩) (sF rfl) sr (fun i us3 hJ => ?_)
  obtain ⟨hi, hl3, hw3, hv3⟩ := hJ
  refine q4 (st' (ex_lss (c := (decide (i < s))) rfl rfl (ltN (a := i) (b := s))) rfl (OkL.nil (q1 ?_)))
  refine OkC.cond rfl (fun hc5 => ?_) (fun hc5 => ?_)
  ·replace hc5 := of_decide_eq_true hc5
   refine OkC.skip (q1 (OkC.block (OkC.region (mv' rfl (OkL.callM (v := (Value.tuple #[])) (i := 2) (cs' := u32s (rowN (nw a + 1) (val us3 / 2))) (L' := [blk b3 105 (u32s qs), blk b2 105 (u32s vb), blk b1 105 (u32s (rowN (nw a + 1) (val us3 / 2)))]) (wt_none rfl) (op_call0 (args := [(Value.slice (some ⟨b1, 0, none⟩) (nw a + 1) (nw a + 1))]) rfl rfl Tryz.call208) rfl (fun w hw => half_ok _ (nw a + 1) _ us3 hw3 hl3 (by omega) w (hw.get (i := 2) rfl)) (fun d hd => by cases hd <;> exact (leB rfl)) rfl ?_)))))
   refine OkL.nil (OkQ.subF (sL [4, 5, 7, 167, 168] rfl) (OkQ.in_normal (OkQ.then_ (OkC.region (st' (ex_add (c := ((i + 1 : Nat) : Int)) rfl rfl (addN_i64 (a := i) (b := 1) (by omega))) rfl ?_)))))
   refine mv' rfl (OkL.nil (OkQ.subF (sL [4, 5, 7, 167, 168] rfl) ?_))
   have hb3 : val us3 / 2 < 4294967296 ^ (nw a + 1) := Nat.lt_of_le_of_lt (Nat.div_le_self _ _) (by have := val_lt hw3; rw [hl3] at this; exact this)
   exact OkQ.round2 (i + 1) (rowN (nw a + 1) (val us3 / 2)) (⟨by omega, rowN_length _ _, rowN_w32 _ _, by rw [val_rowN _ _ hb3, hv3, Nat.div_div_eq_div_mul, ← Nat.pow_succ]⟩) (by omega) (sF rfl) sr
  ·replace hc5 := of_decide_eq_false hc5
   have his : i = s := by omega
   have hr : val us3 = a % b := by rw [hv3, his, Nat.mul_div_cancel _ (Nat.pow_pos (by omega))]
   have hr1 := row_eq hw3 hl3 hr
   have hq1 := row_eq hqw hql hfin.1
   refine OkC.exit (OkQ.then_exit (OkQ.round2_exit (OkQ.in_exit (q2 (mv' rfl ?_)))))
   refine mv' rfl (asg' rfl (asg' rfl (OkL.nil (OkQ.subF (sL [4, 5, 7, 167, 168] rfl) (OkQ.then_ ?_)))))
   exact OkC.ret (ret_two rfl (rd_tmp (v := (Value.slice (some ⟨b3, 0, none⟩) m m)) rfl) (rd_tmp (v := (Value.slice (some ⟨b1, 0, none⟩) (nw a + 1) (nw a + 1))) rfl) (fun w hw => ⟨b3, b1, by rw [hm], hw.out, hw.fresh (i := 0) rfl, hw.fresh (i := 2) rfl, (hw.apart (i := 0) (j := 2) (by decide) rfl rfl), by rw [← hm, ← hq1]; exact hw.get (i := 0) rfl, by rw [← hr1]; exact hw.get (i := 2) rfl⟩))
end
end Go.Proofs.YtgiacpkjnikjdaaGreat
