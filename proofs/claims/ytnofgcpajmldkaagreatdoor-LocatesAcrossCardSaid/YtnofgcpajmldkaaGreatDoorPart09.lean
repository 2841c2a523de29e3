import Derived.Laws.StructEq
import Derived.Test.YtnofgcpajmldkaaGreatDoorPart05
import Derived.Test.YtnofgcpajmldkaaGreatDoorPart08
namespace Go.Proofs.YtnofgcpajmldkaaGreatDoor
open Go Go.RowKit
set_option linter.unusedVariables false
set_option linter.unusedSimpArgs false
section
set_option maxRecDepth 100000
theorem cut_ok (b m c : Nat) (bs : List Nat) (hbs : W32 bs) (hm : m ≤ bs.length) (hc : m ≤ c) (hL : c < 4611686018427387904) (w : World) (hb : w.heap[b]? = some (.cells (u32s bs).toArray 27 (0, 0))) : Calls Tryz.prog 105 #[(Value.slice (some ⟨b, 0, none⟩) m c)] w (Gives w (Value.slice (some ⟨b, 0, none⟩) (cutN bs m) c)) := by
 refine calls_of (args := [(Value.slice (some ⟨b, 0, none⟩) m c)]) Tryz.func105 rfl rfl (leB rfl) (OkC.subF (sL [0] rfl) (q4 (asg' rfl (OkL.nil (q1 ?_)))))
 refine OkC.block ?_
 refine OkC.lp1 (tg fun (k : Nat) => k ≤ m ∧ cutN bs k = cutN bs m) (tg fun (k : Nat) => [(2, (Value.slice none 0 0)), (0, (Value.slice (some ⟨b, 0, none⟩) k c))]) (tg fun (k : Nat) => []) (tg fun (k : Nat) => k) m (⟨Nat.le_refl _, rfl⟩) (sF rfl) sr (fun k hJ => ?_)
 obtain ⟨hk, hv⟩ := hJ
 refine OkC.seq (q4 (mv' rfl (st' (v := (vN k)) (ex_len_slice rfl Tryz.underlying160) rfl (st' (ex_gtr (c := (decide (0 < k))) rfl rfl (ltN (a := 0) (b := k))) rfl (mv' rfl ?_)))))
 refine OkL.mid (FM := [(2, (Value.slice none 0 0)), (0, (Value.slice (some ⟨b, 0, none⟩) k c)), (3, (Value.slice (some ⟨b, 0, none⟩) k c)), (4, (vN k)), (5, (Value.bool (decide (0 < k)))), (6, (Value.bool (decide (0 < k)))), (14, (Value.bool ((decide (0 < k)) && (decide ((bs.getD (k - 1) 0) = 0)))))]) (LM := []) 8 ?_ ?_
 ·rcases Bool.eq_false_or_eq_true (decide (0 < k)) with hg1 | hg1
  ·skip
   refine OkL.retell (k := 6) (u := Value.bool true) rfl (by rw [hg1]) ?_
   have hg1' := hg1
   replace hg1' := of_decide_eq_true hg1'
   refine OkL.step (v := (Value.slice (some ⟨b, 0, none⟩) k c)) (wt_some' rfl) (ex_move rfl) rfl (leB rfl) (OkL.step (v := (Value.slice (some ⟨b, 0, none⟩) k c)) (wt_some' rfl) (ex_move rfl) rfl (leB rfl) (OkL.step (v := (vN k)) (wt_some' rfl) (ex_len_slice rfl Tryz.underlying160) rfl (leB rfl) (OkL.step (v := (vN (k - 1))) (wt_some' rfl) (ex_sub (c := ((k - 1 : Nat) : Int)) rfl rfl (subN_i64 (a := k) (b := 1) (by omega) (by omega))) rfl (leB rfl) (OkL.step (v := (pP b (k - 1))) (wt_some' rfl) (ex_indexAddr_slice (j := k - 1) rfl rfl Tryz.underlying160 Tryz.sizeOf27 rfl (by omega) (by simp)) rfl (leB rfl) ?_))))
   have hx1 : bs.getD (k - 1) 0 < 4294967296 := W32.getD hbs (k - 1)
   exact OkL.step (v := (vK .u32 (bs.getD (k - 1) 0))) (wt_some' rfl) (ex_load_one_at (v := (vK .u32 (bs.getD (k - 1) 0))) rfl (fun w' hw => CA.at0 (hw.oldCA (by simp) (ca_blk hb)) (u32s_get (xs := bs) (j := (k - 1)) (by omega))) Tryz.isAgg27) rfl (leB rfl) (OkL.step (v := (Value.bool (decide ((bs.getD (k - 1) 0) = 0)))) (wt_some' rfl) (ex_eql (c := (decide ((bs.getD (k - 1) 0) = 0))) rfl rfl (eqN (a := bs.getD (k - 1) 0) (b := 0))) rfl (leB rfl) (st' (v := (Value.bool (decide ((bs.getD (k - 1) 0) = 0)))) (ex_pick_true rfl rfl) rfl (OkL.nil (OkQ.mid (sS rfl (sS rfl (sS rfl (sS rfl (sS rfl (sS (by first | rfl | (rw [hg1]; rfl) | rw [hg1]) (sS (by first | rfl | (rw [hg1]; rfl) | rw [hg1]) (sN)))))))) (List.Sublist.refl _)))))
  ·skip
   refine OkL.retell (k := 6) (u := Value.bool false) rfl (by rw [hg1]) ?_
   have hg1' := hg1
   replace hg1' := of_decide_eq_false hg1'
   refine OkL.skip (wt_not' rfl) rfl (leB rfl) (OkL.skip (wt_not' rfl) rfl (leB rfl) (OkL.skip (wt_not' rfl) rfl (leB rfl) (OkL.skip (wt_not' rfl) rfl (leB rfl) (OkL.skip (wt_not' rfl) rfl (leB rfl) (OkL.skip (wt_not' rfl) rfl (leB rfl) ?_)))))
   exact OkL.skip (wt_not' rfl) rfl (leB rfl) (st' (v := (Value.bool false)) (ex_pick_false rfl rfl) rfl (OkL.nil (OkQ.mid (sS rfl (sS rfl (sS rfl (sS rfl (sS rfl (sS (by first | rfl | (rw [hg1]; rfl) | rw [hg1]) (sS (by first | rfl | (rw [hg1]; rfl) | rw [hg1]) (sN)))))))) (List.Sublist.refl _))))
 refine OkL.nil (OkQ.subF (sL [2, 0, 14] rfl) (OkQ.then_ ?_))
 refine OkC.cond rfl (fun hc0 => ?_) (fun hc0 => ?_)
 ·simp only [Bool.and_eq_true, Bool.or_eq_true, Bool.and_eq_false_iff, Bool.or_eq_false_iff, Bool.not_eq_true', Bool.not_eq_false', decide_eq_true_eq, decide_eq_false_iff_not] at hc0
  refine OkC.skip (OkQ.then_ (OkC.block (OkC.region (mv' rfl (mv' rfl ?_)))))
  refine st' (v := (vN k)) (ex_len_slice rfl Tryz.underlying160) rfl (st' (ex_sub (c := ((k - 1 : Nat) : Int)) rfl rfl (subN_i64 (a := k) (b := 1) (by omega) (by omega))) rfl (st' (v := (Value.slice (some ⟨b, 0, none⟩) (k - 1) c)) (ex_slice_hi (m := k - 1) rfl rfl Tryz.underlying160 Tryz.sizeOf27 (by omega)) rfl (asg' rfl (OkL.nil (OkQ.subF (sL [2, 0] rfl) ?_)))))
  exact OkQ.in_normal (OkQ.round1 (k - 1) (⟨by omega, by rw [← cutN_step hc0.1 hc0.2]; exact hv⟩) (by omega) (sF rfl) sr)
 ·simp only [Bool.and_eq_true, Bool.or_eq_true, Bool.and_eq_false_iff, Bool.or_eq_false_iff, Bool.not_eq_true', Bool.not_eq_false', decide_eq_true_eq, decide_eq_false_iff_not] at hc0
  have hstop : cutN bs k = k := cutN_stop (by omega)
  refine OkC.exit (OkQ.then_exit (OkQ.round1_exit (OkQ.in_exit (q2 (mv' rfl ?_)))))
  exact asg' rfl (OkL.nil (OkQ.subF (sL [2, 0] rfl) (OkQ.then_ (OkC.ret (ret_one rfl (rd_tmp (v := (Value.slice (some ⟨b, 0, none⟩) k c)) rfl) (fun w hw => ⟨by rw [← hv, hstop], hw.out⟩))))))
theorem add32_ok (x y c : Nat) (hx : x < 4294967296) (hy : y < 4294967296) (hc : c ≤ 1) (w : World)  : Calls Tryz.prog 115 #[(vK .u32 x), (vK .u32 y), (vK .u32 c)] w (Gives w (Value.tuple #[(vK .u32 ((x + y + c) % 4294967296)), (vK .u32 ((x + y + c) / 4294967296))])) := by
 refine calls_of (args := [(vK .u32 x), (vK .u32 y), (vK .u32 c)]) Tryz.func115 rfl rfl (leB rfl) (OkC.subF (sL [0, 1, 2] rfl) (q4 (asg' rfl (asg' rfl (OkL.nil ?_)))))
 refine q2 (mv' rfl (st' (ex_conv (c := ((x : Nat) : Int)) rfl Tryz.underlying27 Tryz.underlying39 (convN_u64 (by omega))) rfl (mv' rfl (st' (ex_conv (c := ((y : Nat) : Int)) rfl Tryz.underlying27 Tryz.underlying39 (convN_u64 (by omega))) rfl (st' (ex_add (c := ((x + y : Nat) : Int)) rfl rfl (addN_u64 (a := x) (b := y) (by omega))) rfl ?_)))))
 refine mv' rfl (st' (ex_conv (c := ((c : Nat) : Int)) rfl Tryz.underlying27 Tryz.underlying39 (convN_u64 (by omega))) rfl (st' (ex_add (c := (((x + y) + c : Nat) : Int)) rfl rfl (addN_u64 (a := x + y) (b := c) (by omega))) rfl (asg' rfl (q3 (sL [6, 7, 8] rfl) (mv' rfl ?_)))))
 refine st' (ex_conv (c := ((((x + y) + c) % 4294967296 : Nat) : Int)) rfl Tryz.underlying39 Tryz.underlying27 modN_u32) rfl (asg' rfl (q3 (sL [6, 7, 8] rfl) (mv' rfl (st' (ex_shr (s := 32) (c := ((((x + y) + c) / 4294967296 : Nat) : Int)) rfl rfl rfl (by decide) (shrN (a := (x + y) + c) (s := 32))) rfl (st' (ex_conv (c := ((((x + y) + c) / 4294967296 : Nat) : Int)) rfl Tryz.underlying39 Tryz.underlying27 (convN_u32 (by omega))) rfl ?_)))))
 exact asg' rfl (OkL.nil (OkQ.subF (sL [6, 7, 8] rfl) (OkQ.then_ (OkC.ret (ret_two rfl (rd_tmp (v := (vK .u32 (((x + y) + c) % 4294967296))) rfl) (rd_tmp (v := (vK .u32 (((x + y) + c) / 4294967296))) rfl) (fun w hw => ⟨rfl, hw.out⟩))))))
theorem sub32_ok (x y c d : Nat) (hx : x < 4294967296) (hy : y < 4294967296) (hc : c ≤ 1) (hd : d = (x + (4294967296 - y) + (4294967296 - c)) % 4294967296) (w : World)  : Calls Tryz.prog 113 #[(vK .u32 x), (vK .u32 y), (vK .u32 c)] w (Gives w (Value.tuple #[(vK .u32 d), (vK .u32 (bor x (y + c)))])) := by
 have hd2 : d < 4294967296 := by omega
 have hb := borrow32 hx hy hc hd
 have hx1 : 4294967295 ^^^ x < 4294967296 := Nat.xor_lt_two_pow (n := 32) (by omega) hx
 have hx2 : x ^^^ y < 4294967296 := Nat.xor_lt_two_pow (n := 32) hx hy
 have hx3 : 4294967295 ^^^ (x ^^^ y) < 4294967296 := Nat.xor_lt_two_pow (n := 32) (by omega) hx2
 have hx4 : (4294967295 ^^^ x) &&& y < 4294967296 := Nat.lt_of_le_of_lt Nat.and_le_right hy
 have hx5 : (4294967295 ^^^ (x ^^^ y)) &&& d < 4294967296 := Nat.lt_of_le_of_lt Nat.and_le_right hd2
 refine calls_of (args := [(vK .u32 x), (vK .u32 y), (vK .u32 c)]) Tryz.func113 rfl rfl (leB rfl) (OkC.subF (sL [0, 1, 2] rfl) (q4 (asg' rfl (asg' rfl (OkL.nil ?_)))))
 refine q2 (mv' rfl (mv' rfl (st' (ex_sub (c := (((x + (4294967296 - y)) % 4294967296 : Nat) : Int)) rfl rfl (subM_u32 (by omega))) rfl (mv' rfl (st' (ex_sub (c := ((d : Nat) : Int)) rfl rfl (by rw [subM_u32 (by omega), hd]; exact congrArg Int.ofNat (by omega))) rfl ?_)))))
 refine asg' rfl (q3 (sL [0, 1, 6, 7] rfl) (mv' rfl (st' (ex_com (c := ((4294967295 ^^^ x : Nat) : Int)) rfl (comN_u32 hx)) rfl (mv' rfl (st' (ex_and (c := (((4294967295 ^^^ x) &&& y : Nat) : Int)) rfl rfl (andN_u32 hx1 hy)) rfl ?_)))))
 refine mv' rfl (mv' rfl (st' (ex_xor (c := ((x ^^^ y : Nat) : Int)) rfl rfl (xorN_u32 hx hy)) rfl (st' (ex_com (c := ((4294967295 ^^^ (x ^^^ y) : Nat) : Int)) rfl (comN_u32 hx2)) rfl (mv' rfl (st' (ex_and (c := (((4294967295 ^^^ (x ^^^ y)) &&& d : Nat) : Int)) rfl rfl (andN_u32 hx3 hd2)) rfl ?_)))))
 refine st' (ex_or (c := (((4294967295 ^^^ x) &&& y ||| (4294967295 ^^^ (x ^^^ y)) &&& d : Nat) : Int)) rfl rfl (orN_u32 hx4 hx5 rfl)) rfl (st' (ex_shr (s := 31) (c := ((((4294967295 ^^^ x) &&& y ||| (4294967295 ^^^ (x ^^^ y)) &&& d) / 2147483648 : Nat) : Int)) rfl rfl rfl (by decide) (shrN (a := (4294967295 ^^^ x) &&& y ||| (4294967295 ^^^ (x ^^^ y)) &&& d) (s := 31))) rfl (asg' rfl (OkL.nil (OkQ.subF (sL [0, 1, 6, 7] rfl) (OkQ.then_ ?_)))))
 exact OkC.ret (ret_two rfl (rd_tmp (v := (vK .u32 d)) rfl) (rd_tmp (v := (vK .u32 (((4294967295 ^^^ x) &&& y ||| (4294967295 ^^^ (x ^^^ y)) &&& d) / 2147483648))) rfl) (fun w hw => ⟨by rw [← hb], hw.out⟩))
theorem mul64_ok (x y : Nat) (hx : x < 18446744073709551616) (hy : y < 18446744073709551616) (w : World)  : Calls Tryz.prog 83 #[(vK .u64 x), (vK .u64 y)] w (Gives w (Value.tuple #[(vK .u64 (x * y / 18446744073709551616)), (vK .u64 (x * y % 18446744073709551616))])) := by
 have h1 := mul_w (a := x % 4294967296) (b := y % 4294967296) (by omega) (by omega)
 have h2 := mul_w (a := x / 4294967296) (b := y % 4294967296) (by omega) (by omega)
 have h3 := mul_w (a := x % 4294967296) (b := y / 4294967296) (by omega) (by omega)
 have h4 := mul_w (a := x / 4294967296) (b := y / 4294967296) (by omega) (by omega)
 have hh := mul64_hi x y
 have hh2 : x * y / 18446744073709551616 < 18446744073709551616 := Nat.div_lt_of_lt_mul (Nat.mul_lt_mul'' hx hy)
 refine calls_of (args := [(vK .u64 x), (vK .u64 y)]) Tryz.func83 rfl rfl (leB rfl) (OkC.subF (sL [0, 1] rfl) (q4 (asg' rfl (asg' rfl (OkL.nil ?_)))))
 refine q2 (mv' rfl (st' (ex_and (c := ((x % 4294967296 : Nat) : Int)) rfl rfl (maskN_u64 (a := x) (by omega))) rfl (asg' rfl (q3 (sL [0, 1, 4, 5, 6] rfl) (mv' rfl ?_)))))
 refine st' (ex_shr (s := 32) (c := ((x / 4294967296 : Nat) : Int)) rfl rfl rfl (by decide) (shrN (a := x) (s := 32))) rfl (asg' rfl (q3 (sL [0, 1, 4, 5, 6, 7] rfl) (mv' rfl (st' (ex_and (c := ((y % 4294967296 : Nat) : Int)) rfl rfl (maskN_u64 (a := y) (by omega))) rfl (asg' rfl ?_)))))
 refine q3 (sL [0, 1, 4, 5, 6, 7, 8] rfl) (mv' rfl (st' (ex_shr (s := 32) (c := ((y / 4294967296 : Nat) : Int)) rfl rfl rfl (by decide) (shrN (a := y) (s := 32))) rfl (asg' rfl (q3 (sL [0, 1, 4, 5, 6, 7, 8, 9] rfl) (mv' rfl ?_)))))
 refine mv' rfl (st' (ex_mul (c := (((x % 4294967296) * (y % 4294967296) : Nat) : Int)) rfl rfl (mulN_u64 (a := x % 4294967296) (b := y % 4294967296) (by omega))) rfl (asg' rfl (q3 (sL [0, 1, 4, 5, 6, 7, 8, 9, 10] rfl) (mv' rfl (mv' rfl ?_)))))
 refine st' (ex_mul (c := (((x / 4294967296) * (y % 4294967296) : Nat) : Int)) rfl rfl (mulN_u64 (a := x / 4294967296) (b := y % 4294967296) (by omega))) rfl (mv' rfl (st' (ex_shr (s := 32) (c := ((((x % 4294967296) * (y % 4294967296)) / 4294967296 : Nat) : Int)) rfl rfl rfl (by decide) (shrN (a := (x % 4294967296) * (y % 4294967296)) (s := 32))) rfl (st' (ex_add (c := ((((x / 4294967296) * (y % 4294967296)) + (((x % 4294967296) * (y % 4294967296)) / 4294967296) : Nat) : Int)) rfl rfl (addN_u64 (a := (x / 4294967296) * (y % 4294967296)) (b := ((x % 4294967296) * (y % 4294967296)) / 4294967296) (by omega))) rfl (asg' rfl (q3 (sL [0, 1, 4, 5, 6, 7, 8, 9, 11] rfl) ?_)))))
 refine mv' rfl (st' (ex_and (c := (((((x / 4294967296) * (y % 4294967296)) + (((x % 4294967296) * (y % 4294967296)) / 4294967296)) % 4294967296 : Nat) : Int)) rfl rfl (maskN_u64 (a := ((x / 4294967296) * (y % 4294967296)) + (((x % 4294967296) * (y % 4294967296)) / 4294967296)) (by omega))) rfl (asg' rfl (q3 (sL [0, 1, 4, 5, 6, 7, 8, 9, 11, 12] rfl) (mv' rfl (st' (ex_shr (s := 32) (c := (((((x / 4294967296) * (y % 4294967296)) + (((x % 4294967296) * (y % 4294967296)) / 4294967296)) / 4294967296 : Nat) : Int)) rfl rfl rfl (by decide) (shrN (a := ((x / 4294967296) * (y % 4294967296)) + (((x % 4294967296) * (y % 4294967296)) / 4294967296)) (s := 32))) rfl ?_)))))
 refine asg' rfl (q3 (sL [0, 1, 4, 5, 6, 7, 8, 9, 11, 12, 13] rfl) (mv' rfl (mv' rfl (mv' rfl (st' (ex_mul (c := (((x % 4294967296) * (y / 4294967296) : Nat) : Int)) rfl rfl (mulN_u64 (a := x % 4294967296) (b := y / 4294967296) (by omega))) rfl ?_)))))
 refine st' (ex_add (c := ((((((x / 4294967296) * (y % 4294967296)) + (((x % 4294967296) * (y % 4294967296)) / 4294967296)) % 4294967296) + ((x % 4294967296) * (y / 4294967296)) : Nat) : Int)) rfl rfl (addN_u64 (a := (((x / 4294967296) * (y % 4294967296)) + (((x % 4294967296) * (y % 4294967296)) / 4294967296)) % 4294967296) (b := (x % 4294967296) * (y / 4294967296)) (by omega))) rfl (asg' rfl (q3 (sL [0, 1, 4, 5, 6, 7, 8, 9, 11, 12, 13] rfl) (mv' rfl (mv' rfl (st' (ex_mul (c := (((x / 4294967296) * (y / 4294967296) : Nat) : Int)) rfl rfl (mulN_u64 (a := x / 4294967296) (b := y / 4294967296) (by omega))) rfl ?_)))))
 refine mv' rfl (st' (ex_add (c := ((((x / 4294967296) * (y / 4294967296)) + ((((x / 4294967296) * (y % 4294967296)) + (((x % 4294967296) * (y % 4294967296)) / 4294967296)) / 4294967296) : Nat) : Int)) rfl rfl (addN_u64 (a := (x / 4294967296) * (y / 4294967296)) (b := (((x / 4294967296) * (y % 4294967296)) + (((x % 4294967296) * (y % 4294967296)) / 4294967296)) / 4294967296) (by omega))) rfl (mv' rfl (st' (ex_shr (s := 32) (c := (((((((x / 4294967296) * (y % 4294967296)) + (((x % 4294967296) * (y % 4294967296)) / 4294967296)) % 4294967296) + ((x % 4294967296) * (y / 4294967296))) / 4294967296 : Nat) : Int)) rfl rfl rfl (by decide) (shrN (a := ((((x / 4294967296) * (y % 4294967296)) + (((x % 4294967296) * (y % 4294967296)) / 4294967296)) % 4294967296) + ((x % 4294967296) * (y / 4294967296))) (s := 32))) rfl (st' (ex_add (c := ((x * y / 18446744073709551616 : Nat) : Int)) rfl rfl (by rw [← Int.natCast_add, hh]; exact convN_u64 hh2)) rfl (asg' rfl ?_)))))
 refine q3 (sL [0, 1, 4, 5, 6, 7, 8, 9, 11, 12] rfl) (mv' rfl (mv' rfl (st' (ex_mul (c := ((x * y % 18446744073709551616 : Nat) : Int)) rfl rfl mulM_u64) rfl (asg' rfl (OkL.nil ?_)))))
 exact OkQ.subF (sL [0, 1, 4, 5, 6, 7, 8, 9, 11, 12] rfl) (OkQ.then_ (OkC.ret (ret_two rfl (rd_tmp (v := (vK .u64 (x * y / 18446744073709551616))) rfl) (rd_tmp (v := (vK .u64 (x * y % 18446744073709551616))) rfl) (fun w hw => ⟨rfl, hw.out⟩))))
theorem div32_ok (hi lo y : Nat) (hh : hi < y) (hl : lo < 4294967296) (hy : y < 4294967296) (w : World)  : Calls Tryz.prog 131 #[(vK .u32 hi), (vK .u32 lo), (vK .u32 y)] w (Gives w (Value.tuple #[(vK .u32 ((hi * 4294967296 + lo) / y)), (vK .u32 ((hi * 4294967296 + lo) % y))])) := by
 refine calls_of (args := [(vK .u32 hi), (vK .u32 lo), (vK .u32 y)]) Tryz.func131 rfl rfl (leB rfl) (OkC.subF (sL [0, 1, 2] rfl) (q4 (asg' rfl (asg' rfl (OkL.nil ?_)))))
 refine q1 (q4 (mv' rfl (st' (ex_neq (c := (decide (y ≠ 0))) rfl rfl (neN (a := y) (b := 0))) rfl (mv' rfl ?_))))
 refine OkL.mid (FM := [(0, (vK .u32 hi)), (1, (vK .u32 lo)), (2, (vK .u32 y)), (6, (Value.int .u32 (0 : Int))), (7, (Value.int .u32 (0 : Int))), (9, (vK .u32 y)), (10, (Value.bool (decide (y ≠ 0)))), (11, (Value.bool (decide (y ≠ 0)))), (15, (Value.bool ((decide (y ≠ 0)) && (decide (y ≤ hi)))))]) (LM := []) 4 ?_ ?_
 ·rcases Bool.eq_false_or_eq_true (decide (y ≠ 0)) with hg1 | hg1
  ·skip
   refine OkL.retell (k := 11) (u := Value.bool true) rfl (by rw [hg1]) ?_
   have hg1' := hg1
   replace hg1' := of_decide_eq_true hg1'
   exact OkL.step (v := (vK .u32 y)) (wt_some' rfl) (ex_move rfl) rfl (leB rfl) (OkL.step (v := (vK .u32 hi)) (wt_some' rfl) (ex_move rfl) rfl (leB rfl) (OkL.step (v := (Value.bool (decide (y ≤ hi)))) (wt_some' rfl) (ex_leq (c := (decide (y ≤ hi))) rfl rfl (leN (a := y) (b := hi))) rfl (leB rfl) (st' (v := (Value.bool (decide (y ≤ hi)))) (ex_pick_true rfl rfl) rfl (OkL.nil (OkQ.mid (sS rfl (sS rfl (sS rfl (sS rfl (sS rfl (sS rfl (sS rfl (sS (by first | rfl | (rw [hg1]; rfl) | rw [hg1]) (sS (by first | rfl | (rw [hg1]; rfl) | rw [hg1]) (sN)))))))))) (List.Sublist.refl _))))))
  ·skip
   refine OkL.retell (k := 11) (u := Value.bool false) rfl (by rw [hg1]) ?_
   have hg1' := hg1
   replace hg1' := of_decide_eq_false hg1'
   exact OkL.skip (wt_not' rfl) rfl (leB rfl) (OkL.skip (wt_not' rfl) rfl (leB rfl) (OkL.skip (wt_not' rfl) rfl (leB rfl) (st' (v := (Value.bool false)) (ex_pick_false rfl rfl) rfl (OkL.nil (OkQ.mid (sS rfl (sS rfl (sS rfl (sS rfl (sS rfl (sS rfl (sS rfl (sS (by first | rfl | (rw [hg1]; rfl) | rw [hg1]) (sS (by first | rfl | (rw [hg1]; rfl) | rw [hg1]) (sN)))))))))) (List.Sublist.refl _))))))
 refine OkL.nil (OkQ.subF (sL [0, 1, 2, 6, 7, 15] rfl) (OkQ.then_ ?_))
 refine OkC.cond rfl (fun hc0 => ?_) (fun hc0 => ?_)
 ·simp only [Bool.and_eq_true, Bool.or_eq_true, Bool.and_eq_false_iff, Bool.or_eq_false_iff, Bool.not_eq_true', Bool.not_eq_false', decide_eq_true_eq, decide_eq_false_iff_not] at hc0
  exfalso; omega
 ·simp only [Bool.and_eq_true, Bool.or_eq_true, Bool.and_eq_false_iff, Bool.or_eq_false_iff, Bool.not_eq_true', Bool.not_eq_false', decide_eq_true_eq, decide_eq_false_iff_not] at hc0
  refine OkC.skip (q2 (mv' rfl (st' (ex_conv (c := ((hi : Nat) : Int)) rfl Tryz.underlying27 Tryz.underlying39 (convN_u64 (by omega))) rfl (st' (v := (vK .u64 (hi * 4294967296))) (ex_shl (s := 32) rfl rfl rfl (by decide) (shlN_u64 (s := 32) (by omega))) rfl (mv' rfl ?_)))))
  refine st' (ex_conv (c := ((lo : Nat) : Int)) rfl Tryz.underlying27 Tryz.underlying39 (convN_u64 (by omega))) rfl (st' (ex_or (c := ((hi * 4294967296 + lo : Nat) : Int)) rfl rfl (orN_u64 (by omega) (by omega) (by rw [Nat.or_comm, Nat.add_comm]; exact or_add (s := 32) (by omega)))) rfl ?_)
  have hq : (hi * 4294967296 + lo) / y < 4294967296 := Nat.div_lt_of_lt_mul (by have h9 : (hi + 1) * 4294967296 ≤ y * 4294967296 := Nat.mul_le_mul_right _ hh; omega)
  have hr : (hi * 4294967296 + lo) % y < y := Nat.mod_lt _ (by omega)
  refine asg' rfl (q6 (sL [0, 2, 6, 7, 8] rfl) (rG' [(0, true), (1, true), (2, true), (3, true), (4, true), (5, true), (6, true), (7, true), (8, true), (9, true), (10, true), (11, true)] sr (pM' rfl (pM' rfl (pE' rfl (ex_conv (c := ((y : Nat) : Int)) rfl Tryz.underlying27 Tryz.underlying39 (convN_u64 (by omega))) ?_)))))
  refine pE' rfl (ex_quo (c := (((hi * 4294967296 + lo) / y : Nat) : Int)) rfl rfl (by omega) (quoN_u64 (a := hi * 4294967296 + lo) (b := y) (by omega))) (pE' rfl (ex_conv (c := (((hi * 4294967296 + lo) / y : Nat) : Int)) rfl Tryz.underlying39 Tryz.underlying27 (convN_u32 (by omega))) (pM' rfl (pM' rfl (pE' rfl (ex_conv (c := ((y : Nat) : Int)) rfl Tryz.underlying27 Tryz.underlying39 (convN_u64 (by omega))) (pE' rfl (ex_rem (c := (((hi * 4294967296 + lo) % y : Nat) : Int)) rfl rfl (by omega) (remN (a := hi * 4294967296 + lo) (b := y))) ?_)))))
  refine pE' rfl (ex_conv (c := (((hi * 4294967296 + lo) % y : Nat) : Int)) rfl Tryz.underlying39 Tryz.underlying27 (convN_u32 (by omega))) (pS' rfl (pS' rfl (OkE.nil (OkQ.subF (sL [0, 2, 6, 7] rfl) (OkQ.then_ ?_)))))
  exact OkC.ret (ret_two rfl (rd_tmp (v := (vK .u32 ((hi * 4294967296 + lo) / y))) rfl) (rd_tmp (v := (vK .u32 ((hi * 4294967296 + lo) % y))) rfl) (fun w hw => ⟨rfl, hw.out⟩))
theorem len32_ok (x : Nat) (hx : x < 4294967296) (w : World)  : Calls Tryz.prog 96 #[(vK .u32 x)] w (Gives w (vN (bl x))) := by
 refine calls_of (args := [(vK .u32 x)]) Tryz.func96 rfl rfl (leB rfl) (OkC.subF (sL [0] rfl) (q4 (asg' rfl (OkL.nil (q1 ?_)))))
 refine q4 (mv' rfl (st' (ex_geq (c := (decide (65536 ≤ x))) rfl rfl (leN (a := 65536) (b := x))) rfl (OkL.nil (OkQ.subF (sL [0, 2, 4] rfl) (OkQ.then_ ?_)))))
 refine OkC.jn2 (tg fun (u : Nat) (n : Nat) => u < 65536 ∧ n ≤ 16 ∧ bl x = bl u + n) (tg fun (u : Nat) (n : Nat) => [(0, (vK .u32 u)), (2, (vN n))]) (tg fun (u : Nat) (n : Nat) => []) ?_ ?_
 ·skip
  refine OkC.cond rfl (fun hc0 => ?_) (fun hc0 => ?_)
  ·replace hc0 := of_decide_eq_true hc0
   refine q4 (mv' rfl (st' (ex_shr (s := 16) (c := ((x / 65536 : Nat) : Int)) rfl rfl rfl (by decide) (shrN (a := x) (s := 16))) rfl (asg' rfl (OkL.nil (OkQ.subF (sL [0, 2] rfl) ?_)))))
   exact OkQ.then_ (OkC.region (asg' rfl (OkL.nil (OkQ.join2 (x / 65536) 16 (⟨by omega, by omega, bl_shift (k := 16) hc0⟩) (sF rfl) sr))))
  ·replace hc0 := of_decide_eq_false hc0
   exact OkC.skip (OkQ.join2 x 0 (⟨by omega, by omega, rfl⟩) (sF rfl) sr)
 ·intro u n hJ
  obtain ⟨hu, hn, hv⟩ := hJ
  refine q1 (q4 (mv' rfl (st' (ex_geq (c := (decide (256 ≤ u))) rfl rfl (leN (a := 256) (b := u))) rfl (OkL.nil (OkQ.subF (sL [0, 2, 8] rfl) ?_)))))
  refine OkQ.then_ ?_
  refine OkC.jn2 (tg fun (u2 : Nat) (n2 : Nat) => u2 < 256 ∧ n2 ≤ 24 ∧ bl x = bl u2 + n2) (tg fun (u2 : Nat) (n2 : Nat) => [(0, (vK .u32 u2)), (2, (vN n2))]) (tg fun (u2 : Nat) (n2 : Nat) => []) ?_ ?_
  ·skip
   refine OkC.cond rfl (fun hc1 => ?_) (fun hc1 => ?_)
   ·replace hc1 := of_decide_eq_true hc1
    refine q4 (mv' rfl (st' (ex_shr (s := 8) (c := ((u / 256 : Nat) : Int)) rfl rfl rfl (by decide) (shrN (a := u) (s := 8))) rfl (asg' rfl (OkL.nil (OkQ.subF (sL [0, 2] rfl) ?_)))))
    refine OkQ.then_ (OkC.region (mv' rfl (st' (ex_add (c := ((n + 8 : Nat) : Int)) rfl rfl (addN_i64 (a := n) (b := 8) (by omega))) rfl (asg' rfl (OkL.nil ?_)))))
    exact OkQ.subF (sL [0, 2] rfl) (OkQ.join2 (u / 256) (n + 8) (⟨by omega, by omega, by rw [hv, bl_256 hc1]; omega⟩) (sF rfl) sr)
   ·replace hc1 := of_decide_eq_false hc1
    exact OkC.skip (OkQ.join2 u n (⟨by omega, by omega, hv⟩) (sF rfl) sr)
  ·intro u2 n2 hJ
   obtain ⟨hu2, hn2, hv2⟩ := hJ
   refine q2 (mv' rfl (mv' rfl (st' (ex_conv (c := ((u2 : Nat) : Int)) rfl Tryz.underlying27 Tryz.underlying5 (convN_u8 (by omega))) rfl ?_)))
   have hb8 : bl u2 ≤ 8 := bl_le (k := 8) hu2
   refine st' (v := (vK .u8 (bl u2))) (ex_index_str (j := u2) (m := bl u2) rfl rfl Tryz.underlying9 (tab_ok (by kernel_rfl) hu2) (by omega)) rfl (st' (ex_conv (c := ((bl u2 : Nat) : Int)) rfl Tryz.underlying5 Tryz.underlying3 (convN_i64 (by omega))) rfl (st' (ex_add (c := ((bl x : Nat) : Int)) rfl rfl (by rw [hv2, Int.add_comm, ← Int.natCast_add]; exact convN_i64 (by omega))) rfl (asg' rfl (OkL.nil (OkQ.subF (sL [0, 2] rfl) ?_)))))
   exact OkQ.then_ (OkC.ret (ret_one rfl (rd_tmp (v := (vN (bl x))) rfl) (fun w hw => ⟨rfl, hw.out⟩)))
theorem lz32_ok (x : Nat) (hx : x < 4294967296) (w : World)  : Calls Tryz.prog 140 #[(vK .u32 x)] w (Gives w (vN (32 - bl x))) := by
 have hb := bl_le (k := 32) hx
 refine calls_of (args := [(vK .u32 x)]) Tryz.func140 rfl rfl (leB rfl) (OkC.subF (sL [0] rfl) (q4 (asg' rfl (OkL.nil (q2 ?_)))))
 refine mv' rfl (ck' Tryz.call96 (len32_ok _ (by omega)) rfl (st' (ex_sub (c := ((32 - (bl x) : Nat) : Int)) rfl rfl (subN_i64 (a := 32) (b := bl x) (by omega) (by omega))) rfl (asg' rfl (OkL.nil (OkQ.subF (sL [2] rfl) ?_)))))
 exact OkQ.then_ (OkC.ret (ret_one rfl (rd_tmp (v := (vN (32 - (bl x)))) rfl) (fun w hw => ⟨rfl, hw.out⟩)))
theorem sign_ok (z : Int) (hz : -9223372036854775808 ≤ z) (hz2 : z < 9223372036854775808) (w : World)  : Calls Tryz.prog 157 #[(vI z)] w (Gives w (vI z.sign)) := by
 refine calls_of (args := [(vI z)]) Tryz.func157 rfl rfl (leB rfl) (OkC.subF (sL [0] rfl) (q4 (asg' rfl (OkL.nil (q2 ?_)))))
 refine mv' rfl (st' (ex_min (c := (if z < 1 then z else 1)) rfl rfl rfl) rfl (st' (ex_max (c := z.sign) rfl rfl (sign_law z)) rfl (asg' rfl (OkL.nil (OkQ.subF (sL [2] rfl) ?_)))))
 exact OkQ.then_ (OkC.ret (ret_one rfl (rd_tmp (v := (vI z.sign)) rfl) (fun w hw => ⟨rfl, hw.out⟩)))
end
section
section
variable {P : Program} {n : Nat} {F : List (Nat × Value)} {w0 : Base} {L : List As} {x y : Operand} {d : Option Tmp} {t : TypeId} {p : String} {af : Array Edge} {g : Option (Nat × Bool)}
def EqB (P : Program) (D : Nat) (T : TypeId) (u v : Value) (b : Bool) : Prop := ∀ w, (Op.equalIn D T u v).run P w = .ok b w
def EqF (P : Program) (D : Nat) (xs ys : List Value) (fs : List Field) (b : Bool) : Prop := ∀ w, (Op.eqFields D xs.toArray ys.toArray fs).run P w = .ok b w
theorem EqB.int {D : Nat} {T : TypeId} {k k' : IntKind} {a b : Int} (h : P.underlying T = some (.int k')) : EqB P (D + 1) T (.int k a) (.int k b) (a == b) := fun w => run_equalIn_int w D T k k' a b h
theorem EqB.bool {D : Nat} {T : TypeId} {a b : Bool} (h : P.underlying T = some .bool) : EqB P (D + 1) T (.bool a) (.bool b) (a == b) := fun w => run_equalIn_bool' w D T a b h
theorem EqB.str {D : Nat} {T : TypeId} {a b : ByteArray} (h : P.underlying T = some .string) : EqB P (D + 1) T (.string a) (.string b) (a.toList == b.toList) := fun w => run_equalIn_string w D T a b h
theorem EqB.struct {D : Nat} {T : TypeId} {xs ys : List Value} {b : Bool} {fs : Array Field} (hu : P.underlying T = some (.struct fs)) (hp : P.stoodInHeld T = false) (h : EqF P D xs ys fs.toList b) : EqB P (D + 1) T (.agg xs.toArray) (.agg ys.toArray) b := fun w => by
  have e : P.fieldsOf T = fs := by simp [Program.fieldsOf, hu]
  rw [run_equalIn_struct w D T _ _ (by rw [e]; exact hu) hp, e]; exact h w
theorem EqF.nil {D : Nat} {xs ys : List Value} : EqF P D xs ys [] true := fun w => rfl
theorem EqF.one {D : Nat} {xs ys : List Value} {f : Field} {fs : List Field} {a b : Value} {r s : Bool} (hn : f.name ≠ "_") (hg : ∀ w, (isAgg f.type).run P w = .ok false w) (ha : xs[f.offset]? = some a) (hb : ys[f.offset]? = some b)
    (h : EqB P D f.type a b r) (h2 : EqF P D xs ys fs s) : EqF P D xs ys (f :: fs) (r && s) := fun w => by
  have e1 : (part f.type xs.toArray f.offset).run P w = .ok a w := by simp [part, hg, ha]
  have e2 : (part f.type ys.toArray f.offset).run P w = .ok b w := by simp [part, hg, hb]
  simp only [Op.eqFields, Sem.run_ite, if_pos hn, Sem.run_bind, e1, e2, Result.andThen_ok, h w]
  cases r
  · simp
  · simp [h2 w]
theorem EqF.agg {D k : Nat} {xs ys us bs : List Value} {f : Field} {fs : List Field} {r s : Bool} (hn : f.name ≠ "_") (hg : ∀ w, (isAgg f.type).run P w = .ok true w) (hs : ∀ w, (sizeOf f.type).run P w = .ok k w)
    (ha : (xs.drop f.offset).take k = us) (hb : (ys.drop f.offset).take k = bs)
    (h : EqB P D f.type (.agg us.toArray) (.agg bs.toArray) r) (h2 : EqF P D xs ys fs s) : EqF P D xs ys (f :: fs) (r && s) := fun w => by
  have ex : ∀ l : List Value, l.toArray.extract f.offset (f.offset + k) = ((l.drop f.offset).take k).toArray := fun l => by simp [List.extract_eq_take_drop]
  have e1 : (part f.type xs.toArray f.offset).run P w = .ok (.agg us.toArray) w := by simp [part, hg, hs, ex, ha]
  have e2 : (part f.type ys.toArray f.offset).run P w = .ok (.agg bs.toArray) w := by simp [part, hg, hs, ex, hb]
  simp only [Op.eqFields, Sem.run_ite, if_pos hn, Sem.run_bind, e1, e2, Result.andThen_ok, h w]
  cases r
  · simp
  · simp [h2 w]
theorem ex_eql_agg {xs ys : List Value} {c : Bool} {tx ty : TypeId} (hx : evF F x = some (.agg xs.toArray)) (hy : evF F y = some (.agg ys.toArray)) (hg : P.eqGuardType P.depth tx = false) (hc : EqB P 10000 tx (.agg xs.toArray) (.agg ys.toArray) c) :
    Ex P n F w0 L ⟨d, .binOp .eql tx x y ty, t, p, af, g⟩ (.bool c) := fun A w ha _ => by
  simp only [execOp, ha.ev hx, ha.ev hy, Sem.run_bind, run_eqGuard_agg w .eql tx x y _ _ hg, Result.andThen_ok, run_eql_struct, hc w, Sem.run_pure]
theorem ex_neq_agg {xs ys : List Value} {c : Bool} {tx ty : TypeId} (hx : evF F x = some (.agg xs.toArray)) (hy : evF F y = some (.agg ys.toArray)) (hg : P.eqGuardType P.depth tx = false) (hc : EqB P 10000 tx (.agg xs.toArray) (.agg ys.toArray) c) :
    Ex P n F w0 L ⟨d, .binOp .neq tx x y ty, t, p, af, g⟩ (.bool (!c)) := fun A w ha _ => by
  simp only [execOp, ha.ev hx, ha.ev hy, Sem.run_bind, run_eqGuard_agg w .neq tx x y _ _ hg, Result.andThen_ok, run_neq_struct, hc w, Sem.run_pure]
end
theorem bigB_inj {a b : Nat} (ha : ¬ a < 18446744073709551616) (hb : ¬ b < 18446744073709551616) (h : bigB a = bigB b) : a = b := by
  rw [bigB_big ha, bigB_big hb] at h
  have h1 : bytesN (wordsOf a) = bytesN (wordsOf b) := by
    have lt : ∀ (xs : List Nat), ∀ x ∈ bytesN xs, x < 256 := fun xs x hx => by
      simp only [bytesN, List.mem_flatMap, List.mem_cons, List.not_mem_nil, or_false] at hx
      obtain ⟨y, _, hy⟩ := hx
      omega
    have inj : ∀ (l r : List Nat), (∀ x ∈ l, x < 256) → (∀ x ∈ r, x < 256) → l.map UInt8.ofNat = r.map UInt8.ofNat → l = r := by
      intro l
      induction l with
      | nil => intro r _ _ h; cases r <;> simp_all
      | cons x l ih =>
        intro r hl hr h
        cases r with
        | nil => simp at h
        | cons y r =>
          simp only [List.map_cons, List.cons.injEq] at h
          have e : x = y := by
            have h3 := congrArg UInt8.toNat h.1
            have h4 := hl x (by simp)
            have h5 := hr y (by simp)
            simp at h3
            omega
          rw [e, ih r (fun z hz => hl z (by simp [hz])) (fun z hz => hr z (by simp [hz])) h.2]
    refine inj _ _ (lt _) (lt _) ?_
    have := congrArg (fun s : ByteArray => s.data.toList) h
    simpa [strOf] using this
  have h2 : wordsOf a = wordsOf b := by
    have hl : (wordsOf a).length = (wordsOf b).length := by
      have := congrArg List.length h1
      simp only [bytesN_length] at this
      omega
    apply List.ext_getElem hl
    intro i hi hi'
    have g : ∀ k, k < 4 → (wordsOf a).getD i 0 / 256 ^ k % 256 = (wordsOf b).getD i 0 / 256 ^ k % 256 := fun k hk => by rw [← bytesN_get _ _ _ hi hk, ← bytesN_get _ _ _ hi' hk, h1]
    have wa := (words_w32 a).getD i
    have wb := (words_w32 b).getD i
    have ea : (wordsOf a).getD i 0 = (wordsOf a)[i] := by simp [hi]
    have eb : (wordsOf b).getD i 0 = (wordsOf b)[i] := by simp [hi']
    rw [ea, eb] at g
    rw [ea] at wa
    rw [eb] at wb
    have g0 := g 0 (by omega)
    have g1 := g 1 (by omega)
    have g2 := g 2 (by omega)
    have g3 := g 3 (by omega)
    simp only [Nat.pow_zero, Nat.div_one, Nat.pow_one, show (256 : Nat) ^ 2 = 65536 from rfl, show (256 : Nat) ^ 3 = 16777216 from rfl] at g0 g1 g2 g3
    omega
  rw [← val_words a, ← val_words b, h2]
theorem eq_natL (a b : Nat) : ((((lowN a : Nat) : Int) == ((lowN b : Nat) : Int)) && (((bigB a).toList == (bigB b).toList) && true)) = decide (a = b) := by
  by_cases e : a = b
  · subst e; simp
  · rw [decide_eq_false e]
    by_cases ha : a < 18446744073709551616
    · by_cases hb : b < 18446744073709551616
      · rw [lowN_small ha, lowN_small hb]
        have : ((a : Int) == (b : Int)) = false := by simp; omega
        rw [this]; rfl
      · have h1 := nw_big hb
        rw [bigB_small ha, ← beq_toListBytes]
        have : (ByteArray.empty == bigB b) = false := by
          rw [beq_toListBytes, ByteArray.toList_eq, ByteArray.toList_eq, bigB_big hb]
          cases hl : (strOf (bytesN (wordsOf b))).data.toList with
          | nil =>
            have h3 := congrArg List.length hl
            simp [strOf, bytesN_length] at h3
            unfold nw at h1
            omega
          | cons => rfl
        rw [this]; simp
    · by_cases hb : b < 18446744073709551616
      · have h1 := nw_big ha
        rw [bigB_small hb, ← beq_toListBytes]
        have : (bigB a == ByteArray.empty) = false := by
          rw [beq_toListBytes, ByteArray.toList_eq, ByteArray.toList_eq, bigB_big ha]
          cases hl : (strOf (bytesN (wordsOf a))).data.toList with
          | nil =>
            have h3 := congrArg List.length hl
            simp [strOf, bytesN_length] at h3
            unfold nw at h1
            omega
          | cons => rfl
        rw [this]; simp
      · rw [← beq_toListBytes]
        have : (bigB a == bigB b) = false := by
          cases hbb : bigB a == bigB b with
          | false => rfl
          | true =>
            rw [beq_toListBytes] at hbb
            have h2 : (bigB a).toList = (bigB b).toList := by simpa using hbb
            rw [ByteArray.toList_eq, ByteArray.toList_eq] at h2
            have h3 : bigB a = bigB b := by
              cases hA : bigB a with | mk da => cases hB : bigB b with | mk db =>
                rw [hA, hB] at h2
                congr 1
                exact Array.toList_inj.1 h2
            exact absurd (bigB_inj ha hb h3) e
        rw [this]; simp
theorem eqB_nat (D a b : Nat) : EqB Tryz.prog (D + 2) 41 (.agg (natL a).toArray) (.agg (natL b).toArray) (decide (a = b)) := by
  rw [← eq_natL]
  exact EqB.struct Tryz.underlying41 Tryz.stoodInHeld41 (EqF.one (by decide) Tryz.isAgg39 rfl rfl (EqB.int Tryz.underlying39) (EqF.one (by decide) Tryz.isAgg9 rfl rfl (EqB.str Tryz.underlying9) EqF.nil))
end
end Go.Proofs.YtnofgcpajmldkaaGreatDoor
