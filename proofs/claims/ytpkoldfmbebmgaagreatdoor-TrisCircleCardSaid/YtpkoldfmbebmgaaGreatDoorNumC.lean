/- Walks, printed by gen.py. -/
import Derived.Test.YtpkoldfmbebmgaaGreatDoorNumB
namespace Go.Proofs.YtpkoldfmbebmgaaGreatDoor
open Go Go.RowKit
set_option maxRecDepth 100000
set_option linter.unusedVariables false
set_option linter.unusedSimpArgs false

theorem of_ok (b m c : Nat) (bs : List Nat) (hbs : W32 bs) (hm : m ≤ bs.length) (hc : m ≤ c) (hL : c < 4398046511104) (w : World) (hb : w.heap[b]? = some (.cells (u32s bs).toArray 22 (0, 0))) : Calls Tryz.prog 120 #[(Value.slice (some ⟨b, 0, none⟩) m c)] w (Gives w (aG (natL (val (bs.take m))))) := by
  have hle := cutN_le bs m
  have hval := val_cutN bs m
  have hwd := words_cut hbs hm
  have hnw := nw_cut hbs hm
  generalize hK : cutN bs m = K at *
  refine calls_of (args := [(Value.slice (some ⟨b, 0, none⟩) m c)]) Tryz.func120 rfl rfl (leB rfl) ?_
  refine OkC.subF (sC 0 rfl (sN)) ?_
  refine q4 ?_
  refine OkL.open_ (T := 30) (cs := natL 0) (wt_none rfl) (op_alloc (cs := natL 0) Tryz.zeroValue30 rfl) rfl (leB rfl) ?_; intro b1
  refine OkL.nil ?_
  refine q2 ?_
  refine st (ex_move rfl) (leB rfl) ?_
  refine OkL.call (v := (Value.slice (some ⟨b, 0, none⟩) (cutN bs m) c)) (wt_none rfl) (op_call0 (args := [(Value.slice (some ⟨b, 0, none⟩) m c)]) rfl rfl Tryz.call147) (fun w hw => cut_ok _ m c bs hbs (by omega) (by omega) (by omega) w (hw.old (by simp) hb)) rfl (leB rfl) ?_
  refine OkL.retell (k := 10) (u := (Value.slice (some ⟨b, 0, none⟩) K c)) rfl (by rw [hK]) ?_
  refine st (ex_assign rfl) (leB rfl) ?_
  refine q6 (sC 0 rfl (sC 2 rfl (sN))) ?_
  refine q4 ?_
  refine st (ex_move rfl) (leB rfl) ?_
  refine st (v := (vN K)) (ex_len_slice rfl Tryz.underlying161) (leB rfl) ?_
  refine st (ex_leq (c := (decide (K ≤ 2))) rfl rfl (leN (a := K) (b := 2))) (leB rfl) ?_
  refine OkL.nil ?_
  refine OkQ.subF (sC 0 rfl (sC 2 rfl (sC 13 rfl (sN)))) ?_
  refine OkQ.then_ ?_
  refine OkC.cond rfl (fun hc0 => ?_) (fun hc0 => ?_)
  · replace hc0 := of_decide_eq_true hc0
    refine q4 ?_
    refine st (ex_assign rfl) (leB rfl) ?_
    refine OkL.nil ?_
    refine q1 ?_
    refine q4 ?_
    refine st (ex_move rfl) (leB rfl) ?_
    refine st (v := (vN K)) (ex_len_slice rfl Tryz.underlying161) (leB rfl) ?_
    refine st (ex_move rfl) (leB rfl) ?_
    refine OkL.nil ?_
    refine OkQ.then_ ?_
    refine OkC.block ?_
    refine OkC.sub (F' := [(0, (Value.slice (some ⟨b, 0, none⟩) K c)), (2, (pP b1 0)), (14, (Value.slice (some ⟨b, 0, none⟩) K c)), (15, (vN K)), (16, (vI 0)), (3, (Value.int .u64 (0 : Int)))]) (L' := [blk b1 30 (natL 0)]) (sF rfl) (List.Sublist.refl _) ?_
    refine OkC.loop2 (J := fun (i : Nat) (n : Nat) => i ≤ K ∧ n = val (bs.take i)) (FI := fun (i : Nat) (n : Nat) => [(0, (Value.slice (some ⟨b, 0, none⟩) K c)), (2, (pP b1 0)), (14, (Value.slice (some ⟨b, 0, none⟩) K c)), (15, (vN K)), (16, (vN i)), (3, (vK .u64 n))]) (LI := fun (i : Nat) (n : Nat) => [blk b1 30 (natL 0)]) (m := fun (i : Nat) (n : Nat) => K - i) (fun i n hJ => ?_) 0 0 (⟨Nat.zero_le _, by simp [val]⟩)
    replace hJ : i ≤ K ∧ n = val (bs.take i) := hJ
    obtain ⟨hi, hn⟩ := hJ
    refine OkC.sub (F' := [(0, (Value.slice (some ⟨b, 0, none⟩) K c)), (2, (pP b1 0)), (14, (Value.slice (some ⟨b, 0, none⟩) K c)), (15, (vN K)), (16, (vN i)), (3, (vK .u64 n))]) (L' := [blk b1 30 (natL 0)]) (sF rfl) (List.Sublist.refl _) ?_
    refine q4 ?_
    refine st (ex_lss (c := (decide (i < K))) rfl rfl (ltN (a := i) (b := K))) (leB rfl) ?_
    refine OkL.nil ?_
    refine q1 ?_
    refine OkC.cond rfl (fun hc1 => ?_) (fun hc1 => ?_)
    · replace hc1 := of_decide_eq_true hc1
      refine OkC.skip ?_
      refine q1 ?_
      refine OkC.block ?_
      refine q4 ?_
      refine st (ex_move rfl) (leB rfl) ?_
      refine st (v := (pP b i)) (ex_indexAddr_slice (j := i) rfl rfl Tryz.underlying161 Tryz.sizeOf22 rfl (by omega) (by simp)) (leB rfl) ?_
      have hx1 : bs.getD i 0 < 4294967296 := W32.getD hbs i
      refine st (ex_load_one_at (v := (vK .u32 (bs.getD i 0))) rfl (fun w' hw => CA.at0 (hw.oldCA (by simp) (ca_blk hb)) (u32s_get (xs := bs) (j := i) (by omega))) Tryz.isAgg22) (leB rfl) ?_
      refine st (ex_assign rfl) (leB rfl) ?_
      refine st (ex_assign rfl) (leB rfl) ?_
      refine OkL.nil ?_
      refine OkQ.subF (sC 0 rfl (sC 2 rfl (sC 14 rfl (sC 15 rfl (sC 16 rfl (sC 3 rfl (sC 4 rfl (sC 5 rfl (sN))))))))) ?_
      refine OkQ.then_ ?_
      refine OkC.region ?_
      refine st (ex_move rfl) (leB rfl) ?_
      refine st (ex_move rfl) (leB rfl) ?_
      refine st (ex_conv (c := ((bs.getD i 0 : Nat) : Int)) rfl Tryz.underlying22 Tryz.underlying28 (convN_u64 (by omega))) (leB rfl) ?_
      refine st (ex_move rfl) (leB rfl) ?_
      have hiK : i < K := hc1
      have hi2 : i < 2 := by omega
      have hn2 : n < 4294967296 ^ i := by rw [hn]; exact Nat.lt_of_lt_of_le (val_lt (hbs.take i)) (Nat.pow_le_pow_right (by omega) (by simp; omega))
      have hsh := shift_lt (i := i) (hbs.getD i) hi2
      have hn3 : n < 18446744073709551616 := small_pow hn2 hi2
      refine st (ex_mul (c := ((32 * i : Nat) : Int)) rfl rfl (mulN_i64 (a := 32) (b := i) (by omega))) (leB rfl) ?_
      refine st (v := (vK .u64 (bs.getD i 0 * 2 ^ (32 * i)))) (ex_shl (s := 32 * i) rfl rfl rfl (show 32 * i ≤ 64 by omega) (shlN_u64 hsh)) (leB rfl) ?_
      refine st (ex_or (c := ((n + bs.getD i 0 * 2 ^ (32 * i) : Nat) : Int)) rfl rfl (orN_u64 hn3 hsh (or_add (by rw [← pow32]; exact hn2)))) (leB rfl) ?_
      refine st (ex_assign rfl) (leB rfl) ?_
      refine OkL.nil ?_
      refine OkQ.subF (sC 0 rfl (sC 2 rfl (sC 14 rfl (sC 15 rfl (sC 16 rfl (sC 3 rfl (sN))))))) ?_
      refine OkQ.in_normal ?_
      refine OkQ.then_ ?_
      refine OkC.region ?_
      refine st (ex_add (c := ((i + 1 : Nat) : Int)) rfl rfl (addN_i64 (a := i) (b := 1) (by omega))) (leB rfl) ?_
      refine st (ex_move rfl) (leB rfl) ?_
      refine OkL.nil ?_
      refine OkQ.subF (sC 0 rfl (sC 2 rfl (sC 14 rfl (sC 15 rfl (sC 16 rfl (sC 3 rfl (sN))))))) ?_
      exact OkQ.round2 (i + 1) (n + bs.getD i 0 * 2 ^ (32 * i)) (⟨by omega, by rw [val_take_succ, ← hn, pow32]⟩) (by omega) (sS rfl (sS rfl (sS rfl (sS rfl (sS rfl (sS rfl (sN))))))) (List.Sublist.refl _)
    · replace hc1 := of_decide_eq_false hc1
      refine OkC.exit ?_
      refine OkQ.then_exit ?_
      refine OkQ.round2_exit ?_
      refine OkQ.in_exit ?_
      refine q2 ?_
      refine st (ex_move rfl) (leB rfl) ?_
      have hnn : n = val (bs.take K) := by rw [hn, show i = K by omega]
      have hv2 : val (bs.take m) < 18446744073709551616 := by rw [← hval]; exact Nat.lt_of_lt_of_le (val_lt (hbs.take K)) (by rw [List.length_take]; exact Nat.le_trans (Nat.pow_le_pow_right (n := 4294967296) (by omega) (show min K bs.length ≤ 2 by omega)) (by decide))
      refine st (v := (aG ([(vK .u64 n), (Value.string (bigB 0))]))) (ex_build_struct (zs := natL 0) (vs := [(vK .u64 n), (Value.string (bigB 0))]) (pv := [(0, (vK .u64 n))]) (places := [(0, 1), (1, 1)]) Tryz.zeroValue30 Tryz.underlying30 (fun w => by simp [Tryz.sizeOf9, Tryz.sizeOf28]) rfl rfl) (leB rfl) ?_
      refine OkL.retell (k := 30) (u := (aG (natL (val (bs.take m))))) rfl (by rw [natL_small hv2, ← hval, ← hnn]; rfl) ?_
      refine OkL.store' (i := 0) (off := 0) (vs := natL (val (bs.take m))) (cs' := natL (val (bs.take m))) (L' := [blk b1 30 (natL (val (bs.take m)))]) (wt_none rfl) rfl rfl rfl rfl rfl Tryz.sizeOf30 rfl rfl rfl rfl ?_
      refine OkL.nil ?_
      refine OkQ.subF (sC 0 rfl (sC 2 rfl (sC 14 rfl (sC 15 rfl (sC 16 rfl (sC 3 rfl (sN))))))) ?_
      refine OkQ.then_ ?_
      refine OkC.ret ?_
      refine OkQ.then_ret ?_
      exact ret_one rfl (rd_agg (i := 0) (cs := natL (val (bs.take m))) rfl rfl Tryz.isAgg30 Tryz.sizeOf30 rfl) (fun w hw => ⟨rfl, hw.out⟩)
  · replace hc0 := of_decide_eq_false hc0
    refine OkC.skip ?_
    refine q2 ?_
    refine st (ex_move rfl) (leB rfl) ?_
    refine st (v := (vN K)) (ex_len_slice rfl Tryz.underlying161) (leB rfl) ?_
    refine st (ex_mul (c := ((4 * K : Nat) : Int)) rfl rfl (mulN_i64 (a := 4) (b := K) (by omega))) (leB rfl) ?_
    refine OkL.openV (V := fun b2 => (Value.slice (some ⟨b2, 0, none⟩) 0 (4 * K))) (T := 5) (cs := u8s (List.replicate (4 * K) 0)) (wt_none rfl) (op_make_u8 (m := 0) (c := 4 * K) rfl rfl (by omega) (by omega)) rfl (leB rfl) ?_; intro b2
    refine st (ex_assign rfl) (leB rfl) ?_
    refine q6 (sC 0 rfl (sC 2 rfl (sC 6 rfl (sN)))) ?_
    refine q4 ?_
    refine st (ex_move rfl) (leB rfl) ?_
    refine st (v := (vN K)) (ex_len_slice rfl Tryz.underlying161) (leB rfl) ?_
    refine st (ex_move rfl) (leB rfl) ?_
    refine OkL.nil ?_
    refine OkQ.then_ ?_
    refine OkC.block ?_
    refine OkC.sub (F' := [(2, (pP b1 0)), (35, (Value.slice (some ⟨b, 0, none⟩) K c)), (36, (vN K)), (37, (vI 0)), (6, (Value.slice (some ⟨b2, 0, none⟩) (4 * 0) (4 * K)))]) (L' := [blk b2 5 (u8s (List.replicate (4 * K) 0)), blk b1 30 (natL 0)]) (sF rfl) (List.Sublist.refl _) ?_
    refine OkC.loop2 (J := fun (i : Nat) (bz : List Nat) => i ≤ K ∧ bz = bytesN (bs.take i) ++ List.replicate (4 * (K - i)) 0) (FI := fun (i : Nat) (bz : List Nat) => [(2, (pP b1 0)), (35, (Value.slice (some ⟨b, 0, none⟩) K c)), (36, (vN K)), (37, (vN i)), (6, (Value.slice (some ⟨b2, 0, none⟩) (4 * i) (4 * K)))]) (LI := fun (i : Nat) (bz : List Nat) => [blk b2 5 (u8s bz), blk b1 30 (natL 0)]) (m := fun (i : Nat) (bz : List Nat) => K - i) (fun i bz hJ => ?_) 0 (List.replicate (4 * K) 0) (⟨Nat.zero_le _, by simp [bytesN]⟩)
    replace hJ : i ≤ K ∧ bz = bytesN (bs.take i) ++ List.replicate (4 * (K - i)) 0 := hJ
    obtain ⟨hi, hz⟩ := hJ
    refine OkC.sub (F' := [(2, (pP b1 0)), (35, (Value.slice (some ⟨b, 0, none⟩) K c)), (36, (vN K)), (37, (vN i)), (6, (Value.slice (some ⟨b2, 0, none⟩) (4 * i) (4 * K)))]) (L' := [blk b2 5 (u8s bz), blk b1 30 (natL 0)]) (sF rfl) (List.Sublist.refl _) ?_
    refine q4 ?_
    refine st (ex_lss (c := (decide (i < K))) rfl rfl (ltN (a := i) (b := K))) (leB rfl) ?_
    refine OkL.nil ?_
    refine q1 ?_
    refine OkC.cond rfl (fun hc2 => ?_) (fun hc2 => ?_)
    · replace hc2 := of_decide_eq_true hc2
      refine OkC.skip ?_
      refine q1 ?_
      refine OkC.block ?_
      refine q4 ?_
      refine st (v := (pP b i)) (ex_indexAddr_slice (j := i) rfl rfl Tryz.underlying161 Tryz.sizeOf22 rfl (by omega) (by simp)) (leB rfl) ?_
      have hx2 : bs.getD i 0 < 4294967296 := W32.getD hbs i
      refine st (ex_load_one_at (v := (vK .u32 (bs.getD i 0))) rfl (fun w' hw => CA.at0 (hw.oldCA (by simp) (ca_blk hb)) (u32s_get (xs := bs) (j := i) (by omega))) Tryz.isAgg22) (leB rfl) ?_
      refine st (ex_assign rfl) (leB rfl) ?_
      refine OkL.nil ?_
      refine OkQ.subF (sC 2 rfl (sC 35 rfl (sC 36 rfl (sC 37 rfl (sC 6 rfl (sC 8 rfl (sN))))))) ?_
      refine OkQ.then_ ?_
      refine OkC.region ?_
      refine st (ex_move rfl) (leB rfl) ?_
      refine st (ex_move rfl) (leB rfl) ?_
      refine st (ex_conv (c := (((bs.getD i 0) % 256 : Nat) : Int)) rfl Tryz.underlying22 Tryz.underlying5 modN_u8) (leB rfl) ?_
      refine st (ex_move rfl) (leB rfl) ?_
      refine st (ex_shr (s := 8) (c := (((bs.getD i 0) / 256 : Nat) : Int)) rfl rfl rfl (by decide) (shrN (a := bs.getD i 0) (s := 8))) (leB rfl) ?_
      refine st (ex_conv (c := ((((bs.getD i 0) / 256) % 256 : Nat) : Int)) rfl Tryz.underlying22 Tryz.underlying5 modN_u8) (leB rfl) ?_
      refine st (ex_move rfl) (leB rfl) ?_
      refine st (ex_shr (s := 16) (c := (((bs.getD i 0) / 65536 : Nat) : Int)) rfl rfl rfl (by decide) (shrN (a := bs.getD i 0) (s := 16))) (leB rfl) ?_
      refine st (ex_conv (c := ((((bs.getD i 0) / 65536) % 256 : Nat) : Int)) rfl Tryz.underlying22 Tryz.underlying5 modN_u8) (leB rfl) ?_
      refine st (ex_move rfl) (leB rfl) ?_
      refine st (ex_shr (s := 24) (c := (((bs.getD i 0) / 16777216 : Nat) : Int)) rfl rfl rfl (by decide) (shrN (a := bs.getD i 0) (s := 24))) (leB rfl) ?_
      refine st (ex_conv (c := ((((bs.getD i 0) / 16777216) % 256 : Nat) : Int)) rfl Tryz.underlying22 Tryz.underlying5 modN_u8) (leB rfl) ?_
      refine OkL.openV (V := fun b3 => (Value.slice (some ⟨b3, 0, none⟩) 4 4)) (T := 5) (cs := u8s ([(bs.getD i 0) % 256, ((bs.getD i 0) / 256) % 256, ((bs.getD i 0) / 65536) % 256, ((bs.getD i 0) / 16777216) % 256])) (wt_none rfl) (op_buildSlice (cs := u8s ([(bs.getD i 0) % 256, ((bs.getD i 0) / 256) % 256, ((bs.getD i 0) / 65536) % 256, ((bs.getD i 0) / 16777216) % 256])) (pv := [(0, (vK .u8 ((bs.getD i 0) % 256))), (1, (vK .u8 (((bs.getD i 0) / 256) % 256))), (2, (vK .u8 (((bs.getD i 0) / 65536) % 256))), (3, (vK .u8 (((bs.getD i 0) / 16777216) % 256)))]) Tryz.underlying197 Tryz.sizeOf5 Tryz.zeroValue5 (by decide) (by decide) rfl (by kernel_rfl)) rfl (leB rfl) ?_; intro b3
      obtain ⟨bz2, hz2, hlay⟩ : ∃ bz2, bz2 = bytesN (bs.take (i + 1)) ++ List.replicate (4 * (K - (i + 1))) 0 ∧ lay (u8s bz) (4 * i) (u8s ([(bs.getD i 0) % 256, ((bs.getD i 0) / 256) % 256, ((bs.getD i 0) / 65536) % 256, ((bs.getD i 0) / 16777216) % 256])) = u8s bz2 := ⟨_, rfl, by rw [hz]; exact bytes_step hc2 (by omega)⟩
      refine OkL.append_u8 (i := 1) (j := 0) (m := 4 * i) (c := 4 * K) (k := 4) (cs' := u8s bz2) (L' := [blk b3 5 (u8s ([(bs.getD i 0) % 256, ((bs.getD i 0) / 256) % 256, ((bs.getD i 0) / 65536) % 256, ((bs.getD i 0) / 16777216) % 256])), blk b2 5 (u8s bz2), blk b1 30 (natL 0)]) rfl (wt_none rfl) rfl rfl rfl rfl rfl rfl (by omega) (by rw [u8s_length, hz]; simp [bytesN_length]; omega) hlay rfl (leB rfl) ?_
      refine st (ex_assign rfl) (leB rfl) ?_
      refine OkL.nil ?_
      refine OkQ.subF (sC 2 rfl (sC 35 rfl (sC 36 rfl (sC 37 rfl (sC 6 rfl (sN)))))) ?_
      refine OkQ.in_normal ?_
      refine OkQ.then_ ?_
      refine OkC.region ?_
      refine st (ex_add (c := ((i + 1 : Nat) : Int)) rfl rfl (addN_i64 (a := i) (b := 1) (by omega))) (leB rfl) ?_
      refine st (ex_move rfl) (leB rfl) ?_
      refine OkL.nil ?_
      refine OkQ.subF (sC 2 rfl (sC 35 rfl (sC 36 rfl (sC 37 rfl (sC 6 rfl (sN)))))) ?_
      exact OkQ.round2 (i + 1) bz2 (⟨by omega, hz2⟩) (by omega) (sS rfl (sS rfl (sS rfl (sS rfl (sS rfl (sN)))))) (List.Sublist.cons _ (List.Sublist.refl _))
    · replace hc2 := of_decide_eq_false hc2
      refine OkC.exit ?_
      refine OkQ.then_exit ?_
      refine OkQ.round2_exit ?_
      refine OkQ.in_exit ?_
      refine q2 ?_
      refine st (ex_move rfl) (leB rfl) ?_
      have hbl : bz.length = 4 * i := by rw [hz, List.length_append, bytesN_length, List.length_take, List.length_replicate]; omega
      have htk : (u8s bz).take (4 * i) = u8s bz := List.take_of_length_le (by rw [u8s_length]; omega)
      refine st (v := (Value.string (strOf bz))) (ex_bytes_string (i := 0) (m := 4 * i) (ns := bz) rfl rfl htk hbl) (leB rfl) ?_
      have hv3 : ¬ val (bs.take m) < 18446744073709551616 := fun h => by have := nw_small h; omega
      have hbz : bz = bytesN (bs.take K) := by rw [hz, show i = K by omega]; simp
      refine st (v := (aG ([(vK .u64 (lowN 0)), (Value.string (strOf bz))]))) (ex_build_struct (zs := natL 0) (vs := [(vK .u64 (lowN 0)), (Value.string (strOf bz))]) (pv := [(1, (Value.string (strOf bz)))]) (places := [(0, 1), (1, 1)]) Tryz.zeroValue30 Tryz.underlying30 (fun w => by simp [Tryz.sizeOf9, Tryz.sizeOf28]) rfl rfl) (leB rfl) ?_
      refine OkL.retell (k := 58) (u := (aG (natL (val (bs.take m))))) rfl (by rw [natL_big hv3, hwd, ← hbz]; rfl) ?_
      refine OkL.store' (i := 1) (off := 0) (vs := natL (val (bs.take m))) (cs' := natL (val (bs.take m))) (L' := [blk b2 5 (u8s bz), blk b1 30 (natL (val (bs.take m)))]) (wt_none rfl) rfl rfl rfl rfl rfl Tryz.sizeOf30 rfl rfl rfl rfl ?_
      refine OkL.nil ?_
      refine OkQ.subF (sC 2 rfl (sC 35 rfl (sC 36 rfl (sC 37 rfl (sC 6 rfl (sN)))))) ?_
      refine OkQ.then_ ?_
      refine OkC.ret ?_
      exact ret_one rfl (rd_agg (i := 1) (cs := natL (val (bs.take m))) rfl rfl Tryz.isAgg30 Tryz.sizeOf30 rfl) (fun w hw => ⟨rfl, hw.out⟩)


end Go.Proofs.YtpkoldfmbebmgaaGreatDoor
