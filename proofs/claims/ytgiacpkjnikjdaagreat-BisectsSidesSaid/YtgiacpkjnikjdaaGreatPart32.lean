import Derived.Test.YtgiacpkjnikjdaaGreatPart06
import Derived.Test.YtgiacpkjnikjdaaGreatPart28
import Derived.Test.YtgiacpkjnikjdaaGreatPart29
import Derived.Test.YtgiacpkjnikjdaaGreatPart31
namespace Go.Proofs.YtgiacpkjnikjdaaGreat
open Go Go.RowKit
set_option linter.unusedVariables false
set_option linter.unusedSimpArgs false
section
set_option maxRecDepth 100000
theorem tE40 : ElemT Tryz.prog 40 44 4 32 := ⟨Tryz.underlying40, elemT_of (by kernel_rfl)⟩
theorem keyEnds : KeyE Tryz.prog 230 kEd okE where
 law := .of_law (deep_law_laid laidB (m := 2) (by decide) (by decide +kernel) (by kernel_rfl) (by kernel_rfl))
 key := fun a h => keyOf_two Tryz.underlying230 ⟨rfl, rfl⟩ ⟨rfl, rfl⟩ (by decide +kernel) Tryz.underlying3 (by kernel_rfl) (by kernel_rfl) (by kernel_rfl) (by decide +kernel) (wf_nat h.1) (wf_nat h.2)
 inj := fun a b h => posL_inj h
theorem clipE_ok (p : Option Addr) (n cp : Nat) (h : n ≤ cp) (w : World)  : Calls Tryz.prog 111 #[(Value.slice p n cp)] w (Gives w (Value.slice p n n)) := by
 refine calls_of (args := [(Value.slice p n cp)]) Tryz.func111 rfl rfl (leB rfl) (OkC.subF (sL [0] rfl) (q4 (asg' rfl (OkL.nil (q2 ?_)))))
 refine mv' rfl (mv' rfl (st' (v := (vN n)) (ex_len_slice rfl Tryz.underlying40) rfl (mv' rfl (st' (v := (vN n)) (ex_len_slice rfl Tryz.underlying40) rfl (st' (v := (Value.slice p n n)) (ex_slice_clip (m := n) rfl rfl rfl Tryz.underlying40 Tryz.sizeOf44 (by omega)) rfl ?_)))))
 exact asg' rfl (OkL.nil (OkQ.subF (sL [2] rfl) (OkQ.then_ (OkC.ret (ret_one rfl (rd_tmp (v := (Value.slice p n n)) rfl) (fun w hw => ⟨rfl, hw.out⟩))))))
theorem tfs_numto_44_1 (x0 : E4) : Instr.fill (fun i => some (i * 4, 4)) ((Array.range (1 * 4)).map ((Value.agg (e4L (⟨0, 0, 0, 0⟩ : E4)).toArray).cells[· % (Value.agg (e4L (⟨0, 0, 0, 0⟩ : E4)).toArray).cells.size]!)) [(0, .agg (e4L x0).toArray)] = some (e4L x0).toArray := by kernel_rfl
set_option maxHeartbeats 4000000 in
theorem edges_ok (ts : List (Nat × Nat × Nat)) (x : RX (rowsL t3L ts) ts.length) (N : Nat) (hn : numB N ts = true) (hN : N ≤ 4611686018427387904) (hl : ts.length ≤ 1000000000) (w : World) {S : Nat → Prop} (hx : Ro S w x) : Calls Tryz.prog 93 #[(Value.slice x.p ts.length x.c)] w (GivesR (RX (rowsL e4L (edL ts)) (edL ts).length) S w) := by
 have lx := atA (W := w) hx
 refine calls_ofR (args := [(Value.slice x.p ts.length x.c)]) (L := [rowR x.p (rowsL t3L ts)]) Tryz.func93 rfl rfl (leB rfl) (sxA hx roL_nil) (OkC.subF (sL [0] rfl) (q4 (asg' rfl (OkL.nil (q2 ?_)))))
 refine OkL.makeMap kEd vEd (wt_none rfl) rfl fun b1 => asg' rfl (q6 (sL [0, 2, 3] rfl) (q4 (mv' rfl (st' (v := (vN ts.length)) (ex_len_slice rfl Tryz.underlying28) rfl ?_))))
 refine mv' rfl (OkL.nil (OkQ.subF (sL [2, 3, 16, 17, 18] rfl) (OkQ.then_ (OkC.block ?_))))
 refine OkC.lp1 (tg fun (t : Nat) => t ≤ ts.length) (tg fun (t : Nat) => [(2, (Value.slice none 0 0)), (3, (Value.map (some b1))), (16, (Value.slice x.p ts.length x.c)), (17, (vN ts.length)), (18, (vN t))]) (tg fun (t : Nat) => [mapA b1 kEd vEd (edS ts (3 * t + 0)), rowR x.p (rowsL t3L ts)]) (tg fun (t : Nat) => ts.length - t) 0 (Nat.zero_le _) (sF rfl) sr (fun t hJ => ?_)
 have ht := hJ
 refine q4 (st' (ex_lss (c := (decide (t < ts.length))) rfl rfl (ltN (a := t) (b := ts.length))) rfl (OkL.nil (q1 ?_)))
 refine OkC.cond rfl (fun hc0 => ?_) (fun hc0 => ?_)
 ·replace hc0 := of_decide_eq_true hc0
  obtain ⟨T, hT⟩ : ∃ q, q = ts.getD t (0, 0, 0) := ⟨_, rfl⟩
  obtain ⟨g1, g2, g3⟩ := okT_spec (numB_at hn hc0)
  rw [← hT] at g1 g2 g3
  refine OkC.skip (q1 (OkC.block (q4 (mv' rfl (st' (v := (pP (pB x.p) (pO x.p + t * 3))) (ex_index_row (j := t) rfl rfl x.ok Tryz.underlying28 Tryz.sizeOf45 rfl (by omega)) rfl ?_)))))
  refine st' (v := (aG (t3L (ts.getD t ((0, 0, 0) : Nat × Nat × Nat))))) (ex_load_rowR_agg (vs := t3L (ts.getD t ((0, 0, 0) : Nat × Nat × Nat))) (i := 1) rfl rfl (RowOk.ne x.ok (by omega)) tA45 (rowsL_get t3L_len _ _ _ (by omega)) (t3L_len _)) rfl (OkL.retell (k := 22) (u := (aG (t3L T))) rfl (by rw [hT]) (al tZ45 rfl fun b2 => asg' rfl (stW0' rfl Tryz.sizeOf45 rfl (q3 (sL [2, 3, 16, 17, 18, 5, 4] rfl) ?_))))
  refine mv' rfl (OkL.nil (OkQ.then_ (OkC.block (OkC.unroll 4 (OkR.step ?_)))))
  refine q4 (st' (ex_lss (c := true) rfl rfl (by decide)) rfl (OkL.nil (q1 (OkC.cond_true rfl (OkC.skip ?_)))))
  refine q1 (OkC.block (q4 (mv' rfl (asg' rfl (q6 (sL [2, 3, 16, 17, 18, 5, 4, 23, 6] rfl) ?_)))))
  refine rG' [(0, true), (1, true), (2, true), (3, true), (4, true), (5, true), (6, true), (7, true), (8, true), (9, true)] sr (pM' rfl (pE' (v := (pP b2 0)) rfl (ex_indexAddr_array (j := 0) rfl rfl Tryz.underlying45 Tryz.sizeOf3 rfl (by decide) rfl) (pO'' 0 (vN T.1) tO3 rfl (pM' rfl (pE' rfl (ex_add (c := (1 : Int)) rfl rfl (by decide)) ?_)))))
  refine pE' rfl (ex_rem (c := (1 : Int)) rfl rfl (by decide) (by decide)) (pE' (v := (pP b2 1)) rfl (ex_indexAddr_array (j := 1) rfl rfl Tryz.underlying45 Tryz.sizeOf3 rfl (by decide) rfl) (pO'' 0 (vN T.2.1) tO3 rfl (pS' rfl (pS' rfl (OkE.nil ?_)))))
  refine OkQ.subF (sL [2, 3, 16, 17, 18, 5, 4, 23, 7, 8] rfl) (q2 (mv' rfl (mv' rfl (st' (ex_min (c := ((min T.1 T.2.1 : Nat) : Int)) rfl rfl (by split <;> omega)) rfl (mv' rfl ?_)))))
  refine mv' rfl (st' (ex_max (c := ((max T.1 T.2.1 : Nat) : Int)) rfl rfl (by split <;> omega)) rfl (st' (v := (aG ([(vN (min T.1 T.2.1)), (vN (max T.1 T.2.1))]))) (ex_build_struct (zs := posL ((0, 0) : P2)) (vs := [(vN (min T.1 T.2.1)), (vN (max T.1 T.2.1))]) (pv := [(0, (vN (min T.1 T.2.1))), (1, (vN (max T.1 T.2.1)))]) (places := [(0, 1), (1, 1)]) Tryz.zeroValue230 Tryz.underlying230 (fun w => by simp [Tryz.sizeOf3]) rfl rfl) rfl (al tZ230 rfl fun b3 => stW0' rfl Tryz.sizeOf230 rfl (q3 (sL [2, 3, 16, 17, 18, 5, 4, 23, 7, 8, 9] rfl) ?_))))
  refine mv' rfl (ldW' 0 tA230 rfl (st' (v := (Value.tuple #[(aG (e4L ((getM (edS ts (3 * t + 0)) ((min T.1 T.2.1, max T.1 T.2.1) : P2)).getD (⟨0, 0, 0, 0⟩ : E4)))), (Value.bool ((getM (edS ts (3 * t + 0)) ((min T.1 T.2.1, max T.1 T.2.1) : P2)).isSome))])) (ex_lookup keyEnds 2 (eV := vEd) (kvs := edS ts (3 * t + 0)) (x := ((min T.1 T.2.1, max T.1 T.2.1) : P2)) (z0 := (⟨0, 0, 0, 0⟩ : E4)) (co := true) rfl rfl Tryz.underlying228 Tryz.zeroValue44 rfl (edS_ok hn hN _ (by omega)) (okE_ky (by omega) (by omega))) rfl (mv' rfl (st' (ex_extract (v := (aG (e4L ((getM (edS ts (3 * t + 0)) ((min T.1 T.2.1, max T.1 T.2.1) : P2)).getD (⟨0, 0, 0, 0⟩ : E4))))) rfl rfl) rfl (st' (ex_extract (v := (Value.bool ((getM (edS ts (3 * t + 0)) ((min T.1 T.2.1, max T.1 T.2.1) : P2)).isSome))) rfl rfl) rfl ?_)))))
  refine al tZ44 rfl fun b4 => stW0' rfl Tryz.sizeOf44 rfl (asg' rfl (q6 (sL [2, 3, 16, 17, 18, 5, 4, 23, 7, 8, 9, 10, 11] rfl) (q4 (mv' rfl ?_))))
  refine st' (ex_not (c := (!((getM (edS ts (3 * t + 0)) ((min T.1 T.2.1, max T.1 T.2.1) : P2)).isSome))) rfl rfl) rfl (OkL.nil (OkQ.subF (sL [2, 3, 16, 17, 18, 5, 4, 23, 7, 8, 9, 10, 48] rfl) (OkQ.then_ ?_)))
  refine OkC.jn1 (tg fun (e00 : E4) => e00 = (getM (edS ts (3 * t + 0)) (min T.1 T.2.1, max T.1 T.2.1)).getD (newE (min T.1 T.2.1, max T.1 T.2.1))) (tg fun (e00 : E4) => [(2, (Value.slice none 0 0)), (3, (Value.map (some b1))), (16, (Value.slice x.p ts.length x.c)), (17, (vN ts.length)), (18, (vN t)), (5, (pP b2 0)), (4, (vN t)), (23, (vI 0)), (7, (vN T.1)), (8, (vN T.2.1)), (9, (pP b3 0)), (10, (pP b4 0))]) (tg fun (e00 : E4) => [blk b4 44 (e4L e00), blk b3 230 ([(vN (min T.1 T.2.1)), (vN (max T.1 T.2.1))]), blk b2 45 (t3L T), mapA b1 kEd vEd (edS ts (3 * t + 0)), rowR x.p (rowsL t3L ts)]) ?_ ?_
  ·skip
   refine OkC.cond rfl (fun hc2 => ?_) (fun hc2 => ?_)
   ·simp only [Bool.and_eq_true, Bool.or_eq_true, Bool.and_eq_false_iff, Bool.or_eq_false_iff, Bool.not_eq_true', Bool.not_eq_false', decide_eq_true_eq, decide_eq_false_iff_not] at hc2
    refine OkC.region (st' (v := (pP b3 0)) (ex_fieldAddr rfl Tryz.underlying230 rfl Tryz.sizeOf3 rfl) rfl (ldO' 1 (vN (min T.1 T.2.1)) tO3 rfl (st' (v := (pP b3 1)) (ex_fieldAddr rfl Tryz.underlying230 rfl Tryz.sizeOf3 rfl) rfl (ldO' 1 (vN (max T.1 T.2.1)) tO3 rfl (st' (v := (aG ([(vN (min T.1 T.2.1)), (vN (max T.1 T.2.1)), (vI (-1 : Int)), (vI (-1 : Int))]))) (ex_build_struct (zs := e4L (⟨0, 0, 0, 0⟩ : E4)) (vs := [(vN (min T.1 T.2.1)), (vN (max T.1 T.2.1)), (vI (-1 : Int)), (vI (-1 : Int))]) (pv := [(0, (vN (min T.1 T.2.1))), (1, (vN (max T.1 T.2.1))), (2, (vI (-1 : Int))), (3, (vI (-1 : Int)))]) (places := [(0, 1), (1, 1), (2, 1), (3, 1)]) Tryz.zeroValue44 Tryz.underlying44 (fun w => by simp [Tryz.sizeOf3]) rfl rfl) rfl ?_)))))
    exact stW0' rfl Tryz.sizeOf44 rfl (OkL.nil (OkQ.subF (sL [2, 3, 16, 17, 18, 5, 4, 23, 7, 8, 9, 10] rfl) (OkQ.join1 (⟨min T.1 T.2.1, max T.1 T.2.1, -1, -1⟩ : E4) ((getD_new (k := (min T.1 T.2.1, max T.1 T.2.1)) (by simpa using hc2))) (sF rfl) sr)))
   ·simp only [Bool.and_eq_true, Bool.or_eq_true, Bool.and_eq_false_iff, Bool.or_eq_false_iff, Bool.not_eq_true', Bool.not_eq_false', decide_eq_true_eq, decide_eq_false_iff_not] at hc2
    exact OkC.skip (OkQ.join1 ((getM (edS ts (3 * t + 0)) ((min T.1 T.2.1, max T.1 T.2.1) : P2)).getD (⟨0, 0, 0, 0⟩ : E4)) ((getD_old (by simpa using hc2))) (sF rfl) sr)
  ·intro e00 hJ
   have he0 := hJ
   refine q1 ?_
   refine OkC.jn1 (tg fun (e20 : E4) => e20 = updE e00 t T.1 T.2.1) (tg fun (e20 : E4) => [(2, (Value.slice none 0 0)), (3, (Value.map (some b1))), (16, (Value.slice x.p ts.length x.c)), (17, (vN ts.length)), (18, (vN t)), (5, (pP b2 0)), (4, (vN t)), (23, (vI 0)), (9, (pP b3 0)), (10, (pP b4 0))]) (tg fun (e20 : E4) => [blk b4 44 (e4L e20), blk b3 230 ([(vN (min T.1 T.2.1)), (vN (max T.1 T.2.1))]), blk b2 45 (t3L T), mapA b1 kEd vEd (edS ts (3 * t + 0)), rowR x.p (rowsL t3L ts)]) ?_ ?_
   ·skip
    refine OkC.block (q4 (mv' rfl (mv' rfl (st' (ex_lss (c := (decide (T.1 < T.2.1))) rfl rfl (ltN (a := T.1) (b := T.2.1))) rfl (mv' rfl ?_)))))
    refine OkL.mid (FM := [(2, (Value.slice none 0 0)), (3, (Value.map (some b1))), (16, (Value.slice x.p ts.length x.c)), (17, (vN ts.length)), (18, (vN t)), (5, (pP b2 0)), (4, (vN t)), (23, (vI 0)), (7, (vN T.1)), (8, (vN T.2.1)), (9, (pP b3 0)), (10, (pP b4 0)), (55, (vN T.1)), (56, (vN T.2.1)), (57, (Value.bool (decide (T.1 < T.2.1)))), (58, (Value.bool (decide (T.1 < T.2.1)))), (62, (Value.bool ((decide (T.1 < T.2.1)) && (decide (e00.l = (-1 : Int))))))]) (LM := [blk b4 44 (e4L e00), blk b3 230 ([(vN (min T.1 T.2.1)), (vN (max T.1 T.2.1))]), blk b2 45 (t3L T), mapA b1 kEd vEd (edS ts (3 * t + 0)), rowR x.p (rowsL t3L ts)]) 4 ?_ ?_
    ·rcases Bool.eq_false_or_eq_true (decide (T.1 < T.2.1)) with hg1 | hg1
     ·skip
      refine OkL.retell (k := 58) (u := Value.bool true) rfl (by rw [hg1]) ?_
      have hg1' := hg1
      replace hg1' := of_decide_eq_true hg1'
      exact OkL.step (v := (pP b4 2)) (wt_some' rfl) (ex_fieldAddr rfl Tryz.underlying44 rfl Tryz.sizeOf3 rfl) rfl (leB rfl) (OkL.step (v := (vI e00.l)) (wt_some' rfl) (ex_load_one (i := 0) (v := (vI e00.l)) rfl rfl tO3.a rfl) rfl (leB rfl) (OkL.step (v := (Value.bool (decide (e00.l = (-1 : Int))))) (wt_some' rfl) (ex_eql (c := (decide (e00.l = (-1 : Int)))) rfl rfl rfl) rfl (leB rfl) (st' (v := (Value.bool (decide (e00.l = (-1 : Int))))) (ex_pick_true rfl rfl) rfl (OkL.nil (OkQ.mid (sS rfl (sS rfl (sS rfl (sS rfl (sS rfl (sS rfl (sS rfl (sS rfl (sS rfl (sS rfl (sS rfl (sS rfl (sS rfl (sS rfl (sS rfl (sS (by first | rfl | (rw [hg1]; rfl) | rw [hg1]) (sS (by first | rfl | (rw [hg1]; rfl) | rw [hg1]) (sN)))))))))))))))))) (List.Sublist.refl _))))))
     ·skip
      refine OkL.retell (k := 58) (u := Value.bool false) rfl (by rw [hg1]) ?_
      have hg1' := hg1
      replace hg1' := of_decide_eq_false hg1'
      exact OkL.skip (wt_not' rfl) rfl (leB rfl) (OkL.skip (wt_not' rfl) rfl (leB rfl) (OkL.skip (wt_not' rfl) rfl (leB rfl) (st' (v := (Value.bool false)) (ex_pick_false rfl rfl) rfl (OkL.nil (OkQ.mid (sS rfl (sS rfl (sS rfl (sS rfl (sS rfl (sS rfl (sS rfl (sS rfl (sS rfl (sS rfl (sS rfl (sS rfl (sS rfl (sS rfl (sS rfl (sS (by first | rfl | (rw [hg1]; rfl) | rw [hg1]) (sS (by first | rfl | (rw [hg1]; rfl) | rw [hg1]) (sN)))))))))))))))))) (List.Sublist.refl _))))))
    refine asg' rfl (OkL.nil (OkQ.subF (sL [2, 3, 16, 17, 18, 5, 4, 23, 7, 8, 9, 10, 54] rfl) (OkQ.then_ ?_)))
    refine OkC.cond rfl (fun hc3 => ?_) (fun hc3 => ?_)
    ·simp only [Bool.and_eq_true, Bool.or_eq_true, Bool.and_eq_false_iff, Bool.or_eq_false_iff, Bool.not_eq_true', Bool.not_eq_false', decide_eq_true_eq, decide_eq_false_iff_not] at hc3
     refine OkC.region (mv' rfl (st' (v := (pP b4 2)) (ex_fieldAddr rfl Tryz.underlying44 rfl Tryz.sizeOf3 rfl) rfl (stX 0 (off := 2) (vs := [(vN t)]) (cs' := [(vN e00.a), (vN e00.b), (vN t), (vI e00.r)]) (wt_none rfl) rfl Tryz.sizeOf3 rfl (OkL.nil (OkQ.subF (sL [2, 3, 16, 17, 18, 5, 4, 23, 7, 8, 9, 10] rfl) ?_)))))
     exact OkQ.in_normal (OkQ.join1 (⟨e00.a, e00.b, ((t : Nat) : Int), e00.r⟩ : E4) ((by unfold updE; rw [if_pos (by omega)])) (sF rfl) sr)
    ·simp only [Bool.and_eq_true, Bool.or_eq_true, Bool.and_eq_false_iff, Bool.or_eq_false_iff, Bool.not_eq_true', Bool.not_eq_false', decide_eq_true_eq, decide_eq_false_iff_not] at hc3
     refine q4 (mv' rfl (mv' rfl (st' (ex_gtr (c := (decide (T.2.1 < T.1))) rfl rfl (ltN (a := T.2.1) (b := T.1))) rfl (mv' rfl ?_))))
     refine OkL.mid (FM := [(2, (Value.slice none 0 0)), (3, (Value.map (some b1))), (16, (Value.slice x.p ts.length x.c)), (17, (vN ts.length)), (18, (vN t)), (5, (pP b2 0)), (4, (vN t)), (23, (vI 0)), (7, (vN T.1)), (8, (vN T.2.1)), (9, (pP b3 0)), (10, (pP b4 0)), (66, (vN T.1)), (67, (vN T.2.1)), (68, (Value.bool (decide (T.2.1 < T.1)))), (69, (Value.bool (decide (T.2.1 < T.1)))), (73, (Value.bool ((decide (T.2.1 < T.1)) && (decide (e00.r = (-1 : Int))))))]) (LM := [blk b4 44 (e4L e00), blk b3 230 ([(vN (min T.1 T.2.1)), (vN (max T.1 T.2.1))]), blk b2 45 (t3L T), mapA b1 kEd vEd (edS ts (3 * t + 0)), rowR x.p (rowsL t3L ts)]) 4 ?_ ?_
     ·rcases Bool.eq_false_or_eq_true (decide (T.2.1 < T.1)) with hg2 | hg2
      ·skip
       refine OkL.retell (k := 69) (u := Value.bool true) rfl (by rw [hg2]) ?_
       have hg2' := hg2
       replace hg2' := of_decide_eq_true hg2'
       exact OkL.step (v := (pP b4 3)) (wt_some' rfl) (ex_fieldAddr rfl Tryz.underlying44 rfl Tryz.sizeOf3 rfl) rfl (leB rfl) (OkL.step (v := (vI e00.r)) (wt_some' rfl) (ex_load_one (i := 0) (v := (vI e00.r)) rfl rfl tO3.a rfl) rfl (leB rfl) (OkL.step (v := (Value.bool (decide (e00.r = (-1 : Int))))) (wt_some' rfl) (ex_eql (c := (decide (e00.r = (-1 : Int)))) rfl rfl rfl) rfl (leB rfl) (st' (v := (Value.bool (decide (e00.r = (-1 : Int))))) (ex_pick_true rfl rfl) rfl (OkL.nil (OkQ.mid (sS rfl (sS rfl (sS rfl (sS rfl (sS rfl (sS rfl (sS rfl (sS rfl (sS rfl (sS rfl (sS rfl (sS rfl (sS rfl (sS rfl (sS rfl (sS (by first | rfl | (rw [hg2]; rfl) | rw [hg2]) (sS (by first | rfl | (rw [hg2]; rfl) | rw [hg2]) (sN)))))))))))))))))) (List.Sublist.refl _))))))
      ·skip
       refine OkL.retell (k := 69) (u := Value.bool false) rfl (by rw [hg2]) ?_
       have hg2' := hg2
       replace hg2' := of_decide_eq_false hg2'
       exact OkL.skip (wt_not' rfl) rfl (leB rfl) (OkL.skip (wt_not' rfl) rfl (leB rfl) (OkL.skip (wt_not' rfl) rfl (leB rfl) (st' (v := (Value.bool false)) (ex_pick_false rfl rfl) rfl (OkL.nil (OkQ.mid (sS rfl (sS rfl (sS rfl (sS rfl (sS rfl (sS rfl (sS rfl (sS rfl (sS rfl (sS rfl (sS rfl (sS rfl (sS rfl (sS rfl (sS rfl (sS (by first | rfl | (rw [hg2]; rfl) | rw [hg2]) (sS (by first | rfl | (rw [hg2]; rfl) | rw [hg2]) (sN)))))))))))))))))) (List.Sublist.refl _))))))
     refine asg' rfl (OkL.nil (OkQ.subF (sL [2, 3, 16, 17, 18, 5, 4, 23, 7, 8, 9, 10, 65] rfl) (OkQ.then_ ?_)))
     refine OkC.cond rfl (fun hc4 => ?_) (fun hc4 => ?_)
     ·simp only [Bool.and_eq_true, Bool.or_eq_true, Bool.and_eq_false_iff, Bool.or_eq_false_iff, Bool.not_eq_true', Bool.not_eq_false', decide_eq_true_eq, decide_eq_false_iff_not] at hc4
      refine OkC.region (mv' rfl (st' (v := (pP b4 3)) (ex_fieldAddr rfl Tryz.underlying44 rfl Tryz.sizeOf3 rfl) rfl (stX 0 (off := 3) (vs := [(vN t)]) (cs' := [(vN e00.a), (vN e00.b), (vI e00.l), (vN t)]) (wt_none rfl) rfl Tryz.sizeOf3 rfl (OkL.nil (OkQ.subF (sL [2, 3, 16, 17, 18, 5, 4, 23, 7, 8, 9, 10] rfl) ?_)))))
      exact OkQ.in_normal (OkQ.join1 (⟨e00.a, e00.b, e00.l, ((t : Nat) : Int)⟩ : E4) ((by unfold updE; rw [if_neg (by omega), if_pos (by omega)])) (sF rfl) sr)
     ·simp only [Bool.and_eq_true, Bool.or_eq_true, Bool.and_eq_false_iff, Bool.or_eq_false_iff, Bool.not_eq_true', Bool.not_eq_false', decide_eq_true_eq, decide_eq_false_iff_not] at hc4
      exact OkC.skip (OkQ.in_normal (OkQ.join1 e00 ((by unfold updE; rw [if_neg (by omega), if_neg (by omega)])) (sF rfl) sr))
   ·intro e20 hJ
    have hu0 := hJ
    refine OkQ.then_ (OkC.region (mv' rfl (ldW' 1 tA230 rfl (ldW' 0 tA44 rfl (OkL.mapUpdate keyEnds 3 (kvs := edS ts (3 * t + 0)) (x := ((min T.1 T.2.1, max T.1 T.2.1) : P2)) (y := e20) (wt_none rfl) rfl rfl rfl Tryz.underlying228 rfl (edS_ok hn hN _ (by omega)) (okE_ky (by omega) (by omega)) ?_)))))
    rw [show putM (edS ts (3 * t + 0)) ((min T.1 T.2.1, max T.1 T.2.1) : P2) e20 = edS ts (3 * t + 1) from by rw [hu0, he0, hT]; exact (edS_succ (ts := ts) (t := t) (i := 0) (by omega)).symm]
    refine OkL.nil (OkQ.subF (sL [2, 3, 16, 17, 18, 5, 4, 23, 9, 10] rfl) (OkQ.in_normal (OkQ.then_ (OkC.region (st' (ex_add (c := (1 : Int)) rfl rfl (by decide)) rfl ?_)))))
    refine mv' rfl (OkL.nil (OkQ.subF (sL [2, 3, 16, 17, 18, 5, 4, 23, 9, 10] rfl) (OkQ.again (OkR.step (q4 ?_)))))
    refine st' (ex_lss (c := true) rfl rfl (by decide)) rfl (OkL.nil (q1 (OkC.cond_true rfl (OkC.skip (q1 ?_)))))
    refine OkC.block (q4 (mv' rfl (asg' rfl (q6 (sL [2, 3, 16, 17, 18, 5, 4, 23, 9, 10, 6] rfl) (rG' [(0, true), (1, true), (2, true), (3, true), (4, true), (5, true), (6, true), (7, true), (8, true), (9, true)] sr ?_)))))
    refine pM' rfl (pE' (v := (pP b2 1)) rfl (ex_indexAddr_array (j := 1) rfl rfl Tryz.underlying45 Tryz.sizeOf3 rfl (by decide) rfl) (pO'' 2 (vN T.2.1) tO3 rfl (pM' rfl (pE' rfl (ex_add (c := (2 : Int)) rfl rfl (by decide)) (pE' rfl (ex_rem (c := (2 : Int)) rfl rfl (by decide) (by decide)) ?_)))))
    refine pE' (v := (pP b2 2)) rfl (ex_indexAddr_array (j := 2) rfl rfl Tryz.underlying45 Tryz.sizeOf3 rfl (by decide) rfl) (pO'' 2 (vN T.2.2) tO3 rfl (pS' rfl (pS' rfl (OkE.nil (OkQ.subF (sL [2, 3, 16, 17, 18, 5, 4, 23, 9, 10, 7, 8] rfl) ?_)))))
    refine q2 (mv' rfl (mv' rfl (st' (ex_min (c := ((min T.2.1 T.2.2 : Nat) : Int)) rfl rfl (by split <;> omega)) rfl (mv' rfl (mv' rfl ?_)))))
    refine st' (ex_max (c := ((max T.2.1 T.2.2 : Nat) : Int)) rfl rfl (by split <;> omega)) rfl (st' (v := (aG ([(vN (min T.2.1 T.2.2)), (vN (max T.2.1 T.2.2))]))) (ex_build_struct (zs := posL ((0, 0) : P2)) (vs := [(vN (min T.2.1 T.2.2)), (vN (max T.2.1 T.2.2))]) (pv := [(0, (vN (min T.2.1 T.2.2))), (1, (vN (max T.2.1 T.2.2)))]) (places := [(0, 1), (1, 1)]) Tryz.zeroValue230 Tryz.underlying230 (fun w => by simp [Tryz.sizeOf3]) rfl rfl) rfl (al tZ230 rfl fun b5 => stW0' rfl Tryz.sizeOf230 rfl (q3 (sL [2, 3, 16, 17, 18, 5, 4, 23, 9, 10, 7, 8] rfl) (mv' rfl ?_))))
    refine ldW' 0 tA230 rfl (st' (v := (Value.tuple #[(aG (e4L ((getM (edS ts (3 * t + 1)) ((min T.2.1 T.2.2, max T.2.1 T.2.2) : P2)).getD (⟨0, 0, 0, 0⟩ : E4)))), (Value.bool ((getM (edS ts (3 * t + 1)) ((min T.2.1 T.2.2, max T.2.1 T.2.2) : P2)).isSome))])) (ex_lookup keyEnds 4 (eV := vEd) (kvs := edS ts (3 * t + 1)) (x := ((min T.2.1 T.2.2, max T.2.1 T.2.2) : P2)) (z0 := (⟨0, 0, 0, 0⟩ : E4)) (co := true) rfl rfl Tryz.underlying228 Tryz.zeroValue44 rfl (edS_ok hn hN _ (by omega)) (okE_ky (by omega) (by omega))) rfl (mv' rfl (st' (ex_extract (v := (aG (e4L ((getM (edS ts (3 * t + 1)) ((min T.2.1 T.2.2, max T.2.1 T.2.2) : P2)).getD (⟨0, 0, 0, 0⟩ : E4))))) rfl rfl) rfl (st' (ex_extract (v := (Value.bool ((getM (edS ts (3 * t + 1)) ((min T.2.1 T.2.2, max T.2.1 T.2.2) : P2)).isSome))) rfl rfl) rfl (al tZ44 rfl fun b6 => ?_)))))
    refine stW0' rfl Tryz.sizeOf44 rfl (asg' rfl (q6 (sL [2, 3, 16, 17, 18, 5, 4, 23, 9, 10, 7, 8, 11] rfl) (q4 (mv' rfl (st' (ex_not (c := (!((getM (edS ts (3 * t + 1)) ((min T.2.1 T.2.2, max T.2.1 T.2.2) : P2)).isSome))) rfl rfl) rfl ?_)))))
    refine OkL.nil (OkQ.subF (sL [2, 3, 16, 17, 18, 5, 4, 23, 9, 10, 7, 8, 48] rfl) (OkQ.then_ ?_))
    refine OkC.jn1 (tg fun (e01 : E4) => e01 = (getM (edS ts (3 * t + 1)) (min T.2.1 T.2.2, max T.2.1 T.2.2)).getD (newE (min T.2.1 T.2.2, max T.2.1 T.2.2))) (tg fun (e01 : E4) => [(2, (Value.slice none 0 0)), (3, (Value.map (some b1))), (16, (Value.slice x.p ts.length x.c)), (17, (vN ts.length)), (18, (vN t)), (5, (pP b2 0)), (4, (vN t)), (23, (vI 1)), (9, (pP b5 0)), (10, (pP b6 0)), (7, (vN T.2.1)), (8, (vN T.2.2))]) (tg fun (e01 : E4) => [blk b6 44 (e4L e01), blk b5 230 ([(vN (min T.2.1 T.2.2)), (vN (max T.2.1 T.2.2))]), blk b4 44 (e4L e20), blk b3 230 ([(vN (min T.1 T.2.1)), (vN (max T.1 T.2.1))]), blk b2 45 (t3L T), mapA b1 kEd vEd (edS ts (3 * t + 1)), rowR x.p (rowsL t3L ts)]) ?_ ?_
    ·skip
     refine OkC.cond rfl (fun hc2 => ?_) (fun hc2 => ?_)
     ·simp only [Bool.and_eq_true, Bool.or_eq_true, Bool.and_eq_false_iff, Bool.or_eq_false_iff, Bool.not_eq_true', Bool.not_eq_false', decide_eq_true_eq, decide_eq_false_iff_not] at hc2
      refine OkC.region (st' (v := (pP b5 0)) (ex_fieldAddr rfl Tryz.underlying230 rfl Tryz.sizeOf3 rfl) rfl (ldO' 1 (vN (min T.2.1 T.2.2)) tO3 rfl (st' (v := (pP b5 1)) (ex_fieldAddr rfl Tryz.underlying230 rfl Tryz.sizeOf3 rfl) rfl (ldO' 1 (vN (max T.2.1 T.2.2)) tO3 rfl (st' (v := (aG ([(vN (min T.2.1 T.2.2)), (vN (max T.2.1 T.2.2)), (vI (-1 : Int)), (vI (-1 : Int))]))) (ex_build_struct (zs := e4L (⟨0, 0, 0, 0⟩ : E4)) (vs := [(vN (min T.2.1 T.2.2)), (vN (max T.2.1 T.2.2)), (vI (-1 : Int)), (vI (-1 : Int))]) (pv := [(0, (vN (min T.2.1 T.2.2))), (1, (vN (max T.2.1 T.2.2))), (2, (vI (-1 : Int))), (3, (vI (-1 : Int)))]) (places := [(0, 1), (1, 1), (2, 1), (3, 1)]) Tryz.zeroValue44 Tryz.underlying44 (fun w => by simp [Tryz.sizeOf3]) rfl rfl) rfl ?_)))))
      exact stW0' rfl Tryz.sizeOf44 rfl (OkL.nil (OkQ.subF (sL [2, 3, 16, 17, 18, 5, 4, 23, 9, 10, 7, 8] rfl) (OkQ.join1 (⟨min T.2.1 T.2.2, max T.2.1 T.2.2, -1, -1⟩ : E4) ((getD_new (k := (min T.2.1 T.2.2, max T.2.1 T.2.2)) (by simpa using hc2))) (sF rfl) sr)))
     ·simp only [Bool.and_eq_true, Bool.or_eq_true, Bool.and_eq_false_iff, Bool.or_eq_false_iff, Bool.not_eq_true', Bool.not_eq_false', decide_eq_true_eq, decide_eq_false_iff_not] at hc2
      exact OkC.skip (OkQ.join1 ((getM (edS ts (3 * t + 1)) ((min T.2.1 T.2.2, max T.2.1 T.2.2) : P2)).getD (⟨0, 0, 0, 0⟩ : E4)) ((getD_old (by simpa using hc2))) (sF rfl) sr)
    ·intro e01 hJ
     have he1 := hJ
     refine q1 ?_
     refine OkC.jn1 (tg fun (e21 : E4) => e21 = updE e01 t T.2.1 T.2.2) (tg fun (e21 : E4) => [(2, (Value.slice none 0 0)), (3, (Value.map (some b1))), (16, (Value.slice x.p ts.length x.c)), (17, (vN ts.length)), (18, (vN t)), (5, (pP b2 0)), (4, (vN t)), (23, (vI 1)), (9, (pP b5 0)), (10, (pP b6 0))]) (tg fun (e21 : E4) => [blk b6 44 (e4L e21), blk b5 230 ([(vN (min T.2.1 T.2.2)), (vN (max T.2.1 T.2.2))]), blk b4 44 (e4L e20), blk b3 230 ([(vN (min T.1 T.2.1)), (vN (max T.1 T.2.1))]), blk b2 45 (t3L T), mapA b1 kEd vEd (edS ts (3 * t + 1)), rowR x.p (rowsL t3L ts)]) ?_ ?_
     ·skip
      refine OkC.block (q4 (mv' rfl (mv' rfl (st' (ex_lss (c := (decide (T.2.1 < T.2.2))) rfl rfl (ltN (a := T.2.1) (b := T.2.2))) rfl (mv' rfl ?_)))))
      refine OkL.mid (FM := [(2, (Value.slice none 0 0)), (3, (Value.map (some b1))), (16, (Value.slice x.p ts.length x.c)), (17, (vN ts.length)), (18, (vN t)), (5, (pP b2 0)), (4, (vN t)), (23, (vI 1)), (9, (pP b5 0)), (10, (pP b6 0)), (7, (vN T.2.1)), (8, (vN T.2.2)), (55, (vN T.2.1)), (56, (vN T.2.2)), (57, (Value.bool (decide (T.2.1 < T.2.2)))), (58, (Value.bool (decide (T.2.1 < T.2.2)))), (62, (Value.bool ((decide (T.2.1 < T.2.2)) && (decide (e01.l = (-1 : Int))))))]) (LM := [blk b6 44 (e4L e01), blk b5 230 ([(vN (min T.2.1 T.2.2)), (vN (max T.2.1 T.2.2))]), blk b4 44 (e4L e20), blk b3 230 ([(vN (min T.1 T.2.1)), (vN (max T.1 T.2.1))]), blk b2 45 (t3L T), mapA b1 kEd vEd (edS ts (3 * t + 1)), rowR x.p (rowsL t3L ts)]) 4 ?_ ?_
      ·rcases Bool.eq_false_or_eq_true (decide (T.2.1 < T.2.2)) with hg3 | hg3
       ·skip
        refine OkL.retell (k := 58) (u := Value.bool true) rfl (by rw [hg3]) ?_
        have hg3' := hg3
        replace hg3' := of_decide_eq_true hg3'
        exact OkL.step (v := (pP b6 2)) (wt_some' rfl) (ex_fieldAddr rfl Tryz.underlying44 rfl Tryz.sizeOf3 rfl) rfl (leB rfl) (OkL.step (v := (vI e01.l)) (wt_some' rfl) (ex_load_one (i := 0) (v := (vI e01.l)) rfl rfl tO3.a rfl) rfl (leB rfl) (OkL.step (v := (Value.bool (decide (e01.l = (-1 : Int))))) (wt_some' rfl) (ex_eql (c := (decide (e01.l = (-1 : Int)))) rfl rfl rfl) rfl (leB rfl) (st' (v := (Value.bool (decide (e01.l = (-1 : Int))))) (ex_pick_true rfl rfl) rfl (OkL.nil (OkQ.mid (sS rfl (sS rfl (sS rfl (sS rfl (sS rfl (sS rfl (sS rfl (sS rfl (sS rfl (sS rfl (sS rfl (sS rfl (sS rfl (sS rfl (sS rfl (sS (by first | rfl | (rw [hg3]; rfl) | rw [hg3]) (sS (by first | rfl | (rw [hg3]; rfl) | rw [hg3]) (sN)))))))))))))))))) (List.Sublist.refl _))))))
       ·skip
        refine OkL.retell (k := 58) (u := Value.bool false) rfl (by rw [hg3]) ?_
        have hg3' := hg3
        replace hg3' := of_decide_eq_false hg3'
        exact OkL.skip (wt_not' rfl) rfl (leB rfl) (OkL.skip (wt_not' rfl) rfl (leB rfl) (OkL.skip (wt_not' rfl) rfl (leB rfl) (st' (v := (Value.bool false)) (ex_pick_false rfl rfl) rfl (OkL.nil (OkQ.mid (sS rfl (sS rfl (sS rfl (sS rfl (sS rfl (sS rfl (sS rfl (sS rfl (sS rfl (sS rfl (sS rfl (sS rfl (sS rfl (sS rfl (sS rfl (sS (by first | rfl | (rw [hg3]; rfl) | rw [hg3]) (sS (by first | rfl | (rw [hg3]; rfl) | rw [hg3]) (sN)))))))))))))))))) (List.Sublist.refl _))))))
      refine asg' rfl (OkL.nil (OkQ.subF (sL [2, 3, 16, 17, 18, 5, 4, 23, 9, 10, 7, 8, 54] rfl) (OkQ.then_ ?_)))
      refine OkC.cond rfl (fun hc3 => ?_) (fun hc3 => ?_)
      ·simp only [Bool.and_eq_true, Bool.or_eq_true, Bool.and_eq_false_iff, Bool.or_eq_false_iff, Bool.not_eq_true', Bool.not_eq_false', decide_eq_true_eq, decide_eq_false_iff_not] at hc3
       refine OkC.region (mv' rfl (st' (v := (pP b6 2)) (ex_fieldAddr rfl Tryz.underlying44 rfl Tryz.sizeOf3 rfl) rfl (stX 0 (off := 2) (vs := [(vN t)]) (cs' := [(vN e01.a), (vN e01.b), (vN t), (vI e01.r)]) (wt_none rfl) rfl Tryz.sizeOf3 rfl (OkL.nil (OkQ.subF (sL [2, 3, 16, 17, 18, 5, 4, 23, 9, 10, 7, 8] rfl) ?_)))))
       exact OkQ.in_normal (OkQ.join1 (⟨e01.a, e01.b, ((t : Nat) : Int), e01.r⟩ : E4) ((by unfold updE; rw [if_pos (by omega)])) (sF rfl) sr)
      ·simp only [Bool.and_eq_true, Bool.or_eq_true, Bool.and_eq_false_iff, Bool.or_eq_false_iff, Bool.not_eq_true', Bool.not_eq_false', decide_eq_true_eq, decide_eq_false_iff_not] at hc3
       refine q4 (mv' rfl (mv' rfl (st' (ex_gtr (c := (decide (T.2.2 < T.2.1))) rfl rfl (ltN (a := T.2.2) (b := T.2.1))) rfl (mv' rfl ?_))))
       refine OkL.mid (FM := [(2, (Value.slice none 0 0)), (3, (Value.map (some b1))), (16, (Value.slice x.p ts.length x.c)), (17, (vN ts.length)), (18, (vN t)), (5, (pP b2 0)), (4, (vN t)), (23, (vI 1)), (9, (pP b5 0)), (10, (pP b6 0)), (7, (vN T.2.1)), (8, (vN T.2.2)), (66, (vN T.2.1)), (67, (vN T.2.2)), (68, (Value.bool (decide (T.2.2 < T.2.1)))), (69, (Value.bool (decide (T.2.2 < T.2.1)))), (73, (Value.bool ((decide (T.2.2 < T.2.1)) && (decide (e01.r = (-1 : Int))))))]) (LM := [blk b6 44 (e4L e01), blk b5 230 ([(vN (min T.2.1 T.2.2)), (vN (max T.2.1 T.2.2))]), blk b4 44 (e4L e20), blk b3 230 ([(vN (min T.1 T.2.1)), (vN (max T.1 T.2.1))]), blk b2 45 (t3L T), mapA b1 kEd vEd (edS ts (3 * t + 1)), rowR x.p (rowsL t3L ts)]) 4 ?_ ?_
       ·rcases Bool.eq_false_or_eq_true (decide (T.2.2 < T.2.1)) with hg4 | hg4
        ·skip
         refine OkL.retell (k := 69) (u := Value.bool true) rfl (by rw [hg4]) ?_
         have hg4' := hg4
         replace hg4' := of_decide_eq_true hg4'
         exact OkL.step (v := (pP b6 3)) (wt_some' rfl) (ex_fieldAddr rfl Tryz.underlying44 rfl Tryz.sizeOf3 rfl) rfl (leB rfl) (OkL.step (v := (vI e01.r)) (wt_some' rfl) (ex_load_one (i := 0) (v := (vI e01.r)) rfl rfl tO3.a rfl) rfl (leB rfl) (OkL.step (v := (Value.bool (decide (e01.r = (-1 : Int))))) (wt_some' rfl) (ex_eql (c := (decide (e01.r = (-1 : Int)))) rfl rfl rfl) rfl (leB rfl) (st' (v := (Value.bool (decide (e01.r = (-1 : Int))))) (ex_pick_true rfl rfl) rfl (OkL.nil (OkQ.mid (sS rfl (sS rfl (sS rfl (sS rfl (sS rfl (sS rfl (sS rfl (sS rfl (sS rfl (sS rfl (sS rfl (sS rfl (sS rfl (sS rfl (sS rfl (sS (by first | rfl | (rw [hg4]; rfl) | rw [hg4]) (sS (by first | rfl | (rw [hg4]; rfl) | rw [hg4]) (sN)))))))))))))))))) (List.Sublist.refl _))))))
        ·skip
         refine OkL.retell (k := 69) (u := Value.bool false) rfl (by rw [hg4]) ?_
         have hg4' := hg4
         replace hg4' := of_decide_eq_false hg4'
         exact OkL.skip (wt_not' rfl) rfl (leB rfl) (OkL.skip (wt_not' rfl) rfl (leB rfl) (OkL.skip (wt_not' rfl) rfl (leB rfl) (st' (v := (Value.bool false)) (ex_pick_false rfl rfl) rfl (OkL.nil (OkQ.mid (sS rfl (sS rfl (sS rfl (sS rfl (sS rfl (sS rfl (sS rfl (sS rfl (sS rfl (sS rfl (sS rfl (sS rfl (sS rfl (sS rfl (sS rfl (sS (by first | rfl | (rw [hg4]; rfl) | rw [hg4]) (sS (by first | rfl | (rw [hg4]; rfl) | rw [hg4]) (sN)))))))))))))))))) (List.Sublist.refl _))))))
       refine asg' rfl (OkL.nil (OkQ.subF (sL [2, 3, 16, 17, 18, 5, 4, 23, 9, 10, 7, 8, 65] rfl) (OkQ.then_ ?_)))
       refine OkC.cond rfl (fun hc4 => ?_) (fun hc4 => ?_)
       ·simp only [Bool.and_eq_true, Bool.or_eq_true, Bool.and_eq_false_iff, Bool.or_eq_false_iff, Bool.not_eq_true', Bool.not_eq_false', decide_eq_true_eq, decide_eq_false_iff_not] at hc4
        refine OkC.region (mv' rfl (st' (v := (pP b6 3)) (ex_fieldAddr rfl Tryz.underlying44 rfl Tryz.sizeOf3 rfl) rfl (stX 0 (off := 3) (vs := [(vN t)]) (cs' := [(vN e01.a), (vN e01.b), (vI e01.l), (vN t)]) (wt_none rfl) rfl Tryz.sizeOf3 rfl (OkL.nil (OkQ.subF (sL [2, 3, 16, 17, 18, 5, 4, 23, 9, 10, 7, 8] rfl) ?_)))))
        exact OkQ.in_normal (OkQ.join1 (⟨e01.a, e01.b, e01.l, ((t : Nat) : Int)⟩ : E4) ((by unfold updE; rw [if_neg (by omega), if_pos (by omega)])) (sF rfl) sr)
       ·simp only [Bool.and_eq_true, Bool.or_eq_true, Bool.and_eq_false_iff, Bool.or_eq_false_iff, Bool.not_eq_true', Bool.not_eq_false', decide_eq_true_eq, decide_eq_false_iff_not] at hc4
        exact OkC.skip (OkQ.in_normal (OkQ.join1 e01 ((by unfold updE; rw [if_neg (by omega), if_neg (by omega)])) (sF rfl) sr))
     ·intro e21 hJ
      have hu1 := hJ
      refine OkQ.then_ (OkC.region (mv' rfl (ldW' 1 tA230 rfl (ldW' 0 tA44 rfl (OkL.mapUpdate keyEnds 5 (kvs := edS ts (3 * t + 1)) (x := ((min T.2.1 T.2.2, max T.2.1 T.2.2) : P2)) (y := e21) (wt_none rfl) rfl rfl rfl Tryz.underlying228 rfl (edS_ok hn hN _ (by omega)) (okE_ky (by omega) (by omega)) ?_)))))
      rw [show putM (edS ts (3 * t + 1)) ((min T.2.1 T.2.2, max T.2.1 T.2.2) : P2) e21 = edS ts (3 * t + 2) from by rw [hu1, he1, hT]; exact (edS_succ (ts := ts) (t := t) (i := 1) (by omega)).symm]
      refine OkL.nil (OkQ.subF (sL [2, 3, 16, 17, 18, 5, 4, 23, 9, 10] rfl) (OkQ.in_normal (OkQ.then_ (OkC.region (st' (ex_add (c := (2 : Int)) rfl rfl (by decide)) rfl ?_)))))
      refine mv' rfl (OkL.nil (OkQ.subF (sL [2, 3, 16, 17, 18, 5, 4, 23, 9, 10] rfl) (OkQ.again (OkR.step (q4 ?_)))))
      refine st' (ex_lss (c := true) rfl rfl (by decide)) rfl (OkL.nil (q1 (OkC.cond_true rfl (OkC.skip (q1 ?_)))))
      refine OkC.block (q4 (mv' rfl (asg' rfl (q6 (sL [2, 3, 16, 17, 18, 5, 4, 23, 9, 10, 6] rfl) (rG' [(0, true), (1, true), (2, true), (3, true), (4, true), (5, true), (6, true), (7, true), (8, true), (9, true)] sr ?_)))))
      refine pM' rfl (pE' (v := (pP b2 2)) rfl (ex_indexAddr_array (j := 2) rfl rfl Tryz.underlying45 Tryz.sizeOf3 rfl (by decide) rfl) (pO'' 4 (vN T.2.2) tO3 rfl (pM' rfl (pE' rfl (ex_add (c := (3 : Int)) rfl rfl (by decide)) (pE' rfl (ex_rem (c := (0 : Int)) rfl rfl (by decide) (by decide)) ?_)))))
      refine pE' (v := (pP b2 0)) rfl (ex_indexAddr_array (j := 0) rfl rfl Tryz.underlying45 Tryz.sizeOf3 rfl (by decide) rfl) (pO'' 4 (vN T.1) tO3 rfl (pS' rfl (pS' rfl (OkE.nil (OkQ.subF (sL [2, 3, 16, 17, 18, 5, 4, 23, 9, 10, 7, 8] rfl) ?_)))))
      refine q2 (mv' rfl (mv' rfl (st' (ex_min (c := ((min T.2.2 T.1 : Nat) : Int)) rfl rfl (by split <;> omega)) rfl (mv' rfl (mv' rfl ?_)))))
      refine st' (ex_max (c := ((max T.2.2 T.1 : Nat) : Int)) rfl rfl (by split <;> omega)) rfl (st' (v := (aG ([(vN (min T.2.2 T.1)), (vN (max T.2.2 T.1))]))) (ex_build_struct (zs := posL ((0, 0) : P2)) (vs := [(vN (min T.2.2 T.1)), (vN (max T.2.2 T.1))]) (pv := [(0, (vN (min T.2.2 T.1))), (1, (vN (max T.2.2 T.1)))]) (places := [(0, 1), (1, 1)]) Tryz.zeroValue230 Tryz.underlying230 (fun w => by simp [Tryz.sizeOf3]) rfl rfl) rfl (al tZ230 rfl fun b7 => stW0' rfl Tryz.sizeOf230 rfl (q3 (sL [2, 3, 16, 17, 18, 5, 4, 23, 9, 10, 7, 8] rfl) (mv' rfl ?_))))
      refine ldW' 0 tA230 rfl (st' (v := (Value.tuple #[(aG (e4L ((getM (edS ts (3 * t + 2)) ((min T.2.2 T.1, max T.2.2 T.1) : P2)).getD (⟨0, 0, 0, 0⟩ : E4)))), (Value.bool ((getM (edS ts (3 * t + 2)) ((min T.2.2 T.1, max T.2.2 T.1) : P2)).isSome))])) (ex_lookup keyEnds 6 (eV := vEd) (kvs := edS ts (3 * t + 2)) (x := ((min T.2.2 T.1, max T.2.2 T.1) : P2)) (z0 := (⟨0, 0, 0, 0⟩ : E4)) (co := true) rfl rfl Tryz.underlying228 Tryz.zeroValue44 rfl (edS_ok hn hN _ (by omega)) (okE_ky (by omega) (by omega))) rfl (mv' rfl (st' (ex_extract (v := (aG (e4L ((getM (edS ts (3 * t + 2)) ((min T.2.2 T.1, max T.2.2 T.1) : P2)).getD (⟨0, 0, 0, 0⟩ : E4))))) rfl rfl) rfl (st' (ex_extract (v := (Value.bool ((getM (edS ts (3 * t + 2)) ((min T.2.2 T.1, max T.2.2 T.1) : P2)).isSome))) rfl rfl) rfl (al tZ44 rfl fun b8 => ?_)))))
      refine stW0' rfl Tryz.sizeOf44 rfl (asg' rfl (q6 (sL [2, 3, 16, 17, 18, 5, 4, 23, 9, 10, 7, 8, 11] rfl) (q4 (mv' rfl (st' (ex_not (c := (!((getM (edS ts (3 * t + 2)) ((min T.2.2 T.1, max T.2.2 T.1) : P2)).isSome))) rfl rfl) rfl ?_)))))
      refine OkL.nil (OkQ.subF (sL [2, 3, 16, 17, 18, 5, 4, 23, 9, 10, 7, 8, 48] rfl) (OkQ.then_ ?_))
      refine OkC.jn1 (tg fun (e02 : E4) => e02 = (getM (edS ts (3 * t + 2)) (min T.2.2 T.1, max T.2.2 T.1)).getD (newE (min T.2.2 T.1, max T.2.2 T.1))) (tg fun (e02 : E4) => [(2, (Value.slice none 0 0)), (3, (Value.map (some b1))), (16, (Value.slice x.p ts.length x.c)), (17, (vN ts.length)), (18, (vN t)), (5, (pP b2 0)), (4, (vN t)), (23, (vI 2)), (9, (pP b7 0)), (10, (pP b8 0)), (7, (vN T.2.2)), (8, (vN T.1))]) (tg fun (e02 : E4) => [blk b8 44 (e4L e02), blk b7 230 ([(vN (min T.2.2 T.1)), (vN (max T.2.2 T.1))]), blk b6 44 (e4L e21), blk b5 230 ([(vN (min T.2.1 T.2.2)), (vN (max T.2.1 T.2.2))]), blk b4 44 (e4L e20), blk b3 230 ([(vN (min T.1 T.2.1)), (vN (max T.1 T.2.1))]), blk b2 45 (t3L T), mapA b1 kEd vEd (edS ts (3 * t + 2)), rowR x.p (rowsL t3L ts)]) ?_ ?_
      ·skip
       refine OkC.cond rfl (fun hc2 => ?_) (fun hc2 => ?_)
       ·simp only [Bool.and_eq_true, Bool.or_eq_true, Bool.and_eq_false_iff, Bool.or_eq_false_iff, Bool.not_eq_true', Bool.not_eq_false', decide_eq_true_eq, decide_eq_false_iff_not] at hc2
        refine OkC.region (st' (v := (pP b7 0)) (ex_fieldAddr rfl Tryz.underlying230 rfl Tryz.sizeOf3 rfl) rfl (ldO' 1 (vN (min T.2.2 T.1)) tO3 rfl (st' (v := (pP b7 1)) (ex_fieldAddr rfl Tryz.underlying230 rfl Tryz.sizeOf3 rfl) rfl (ldO' 1 (vN (max T.2.2 T.1)) tO3 rfl (st' (v := (aG ([(vN (min T.2.2 T.1)), (vN (max T.2.2 T.1)), (vI (-1 : Int)), (vI (-1 : Int))]))) (ex_build_struct (zs := e4L (⟨0, 0, 0, 0⟩ : E4)) (vs := [(vN (min T.2.2 T.1)), (vN (max T.2.2 T.1)), (vI (-1 : Int)), (vI (-1 : Int))]) (pv := [(0, (vN (min T.2.2 T.1))), (1, (vN (max T.2.2 T.1))), (2, (vI (-1 : Int))), (3, (vI (-1 : Int)))]) (places := [(0, 1), (1, 1), (2, 1), (3, 1)]) Tryz.zeroValue44 Tryz.underlying44 (fun w => by simp [Tryz.sizeOf3]) rfl rfl) rfl ?_)))))
        exact stW0' rfl Tryz.sizeOf44 rfl (OkL.nil (OkQ.subF (sL [2, 3, 16, 17, 18, 5, 4, 23, 9, 10, 7, 8] rfl) (OkQ.join1 (⟨min T.2.2 T.1, max T.2.2 T.1, -1, -1⟩ : E4) ((getD_new (k := (min T.2.2 T.1, max T.2.2 T.1)) (by simpa using hc2))) (sF rfl) sr)))
       ·simp only [Bool.and_eq_true, Bool.or_eq_true, Bool.and_eq_false_iff, Bool.or_eq_false_iff, Bool.not_eq_true', Bool.not_eq_false', decide_eq_true_eq, decide_eq_false_iff_not] at hc2
        exact OkC.skip (OkQ.join1 ((getM (edS ts (3 * t + 2)) ((min T.2.2 T.1, max T.2.2 T.1) : P2)).getD (⟨0, 0, 0, 0⟩ : E4)) ((getD_old (by simpa using hc2))) (sF rfl) sr)
      ·intro e02 hJ
       have he2 := hJ
       refine q1 ?_
       refine OkC.jn1 (tg fun (e22 : E4) => e22 = updE e02 t T.2.2 T.1) (tg fun (e22 : E4) => [(2, (Value.slice none 0 0)), (3, (Value.map (some b1))), (16, (Value.slice x.p ts.length x.c)), (17, (vN ts.length)), (18, (vN t)), (5, (pP b2 0)), (4, (vN t)), (23, (vI 2)), (9, (pP b7 0)), (10, (pP b8 0))]) (tg fun (e22 : E4) => [blk b8 44 (e4L e22), blk b7 230 ([(vN (min T.2.2 T.1)), (vN (max T.2.2 T.1))]), blk b6 44 (e4L e21), blk b5 230 ([(vN (min T.2.1 T.2.2)), (vN (max T.2.1 T.2.2))]), blk b4 44 (e4L e20), blk b3 230 ([(vN (min T.1 T.2.1)), (vN (max T.1 T.2.1))]), blk b2 45 (t3L T), mapA b1 kEd vEd (edS ts (3 * t + 2)), rowR x.p (rowsL t3L ts)]) ?_ ?_
       ·skip
        refine OkC.block (q4 (mv' rfl (mv' rfl (st' (ex_lss (c := (decide (T.2.2 < T.1))) rfl rfl (ltN (a := T.2.2) (b := T.1))) rfl (mv' rfl ?_)))))
        refine OkL.mid (FM := [(2, (Value.slice none 0 0)), (3, (Value.map (some b1))), (16, (Value.slice x.p ts.length x.c)), (17, (vN ts.length)), (18, (vN t)), (5, (pP b2 0)), (4, (vN t)), (23, (vI 2)), (9, (pP b7 0)), (10, (pP b8 0)), (7, (vN T.2.2)), (8, (vN T.1)), (55, (vN T.2.2)), (56, (vN T.1)), (57, (Value.bool (decide (T.2.2 < T.1)))), (58, (Value.bool (decide (T.2.2 < T.1)))), (62, (Value.bool ((decide (T.2.2 < T.1)) && (decide (e02.l = (-1 : Int))))))]) (LM := [blk b8 44 (e4L e02), blk b7 230 ([(vN (min T.2.2 T.1)), (vN (max T.2.2 T.1))]), blk b6 44 (e4L e21), blk b5 230 ([(vN (min T.2.1 T.2.2)), (vN (max T.2.1 T.2.2))]), blk b4 44 (e4L e20), blk b3 230 ([(vN (min T.1 T.2.1)), (vN (max T.1 T.2.1))]), blk b2 45 (t3L T), mapA b1 kEd vEd (edS ts (3 * t + 2)), rowR x.p (rowsL t3L ts)]) 4 ?_ ?_
        ·rcases Bool.eq_false_or_eq_true (decide (T.2.2 < T.1)) with hg5 | hg5
         ·skip
          refine OkL.retell (k := 58) (u := Value.bool true) rfl (by rw [hg5]) ?_
          have hg5' := hg5
          replace hg5' := of_decide_eq_true hg5'
          exact OkL.step (v := (pP b8 2)) (wt_some' rfl) (ex_fieldAddr rfl Tryz.underlying44 rfl Tryz.sizeOf3 rfl) rfl (leB rfl) (OkL.step (v := (vI e02.l)) (wt_some' rfl) (ex_load_one (i := 0) (v := (vI e02.l)) rfl rfl tO3.a rfl) rfl (leB rfl) (OkL.step (v := (Value.bool (decide (e02.l = (-1 : Int))))) (wt_some' rfl) (ex_eql (c := (decide (e02.l = (-1 : Int)))) rfl rfl rfl) rfl (leB rfl) (st' (v := (Value.bool (decide (e02.l = (-1 : Int))))) (ex_pick_true rfl rfl) rfl (OkL.nil (OkQ.mid (sS rfl (sS rfl (sS rfl (sS rfl (sS rfl (sS rfl (sS rfl (sS rfl (sS rfl (sS rfl (sS rfl (sS rfl (sS rfl (sS rfl (sS rfl (sS (by first | rfl | (rw [hg5]; rfl) | rw [hg5]) (sS (by first | rfl | (rw [hg5]; rfl) | rw [hg5]) (sN)))))))))))))))))) (List.Sublist.refl _))))))
         ·skip
          refine OkL.retell (k := 58) (u := Value.bool false) rfl (by rw [hg5]) ?_
          have hg5' := hg5
          replace hg5' := of_decide_eq_false hg5'
          exact OkL.skip (wt_not' rfl) rfl (leB rfl) (OkL.skip (wt_not' rfl) rfl (leB rfl) (OkL.skip (wt_not' rfl) rfl (leB rfl) (st' (v := (Value.bool false)) (ex_pick_false rfl rfl) rfl (OkL.nil (OkQ.mid (sS rfl (sS rfl (sS rfl (sS rfl (sS rfl (sS rfl (sS rfl (sS rfl (sS rfl (sS rfl (sS rfl (sS rfl (sS rfl (sS rfl (sS rfl (sS (by first | rfl | (rw [hg5]; rfl) | rw [hg5]) (sS (by first | rfl | (rw [hg5]; rfl) | rw [hg5]) (sN)))))))))))))))))) (List.Sublist.refl _))))))
        refine asg' rfl (OkL.nil (OkQ.subF (sL [2, 3, 16, 17, 18, 5, 4, 23, 9, 10, 7, 8, 54] rfl) (OkQ.then_ ?_)))
        refine OkC.cond rfl (fun hc3 => ?_) (fun hc3 => ?_)
        ·simp only [Bool.and_eq_true, Bool.or_eq_true, Bool.and_eq_false_iff, Bool.or_eq_false_iff, Bool.not_eq_true', Bool.not_eq_false', decide_eq_true_eq, decide_eq_false_iff_not] at hc3
         refine OkC.region (mv' rfl (st' (v := (pP b8 2)) (ex_fieldAddr rfl Tryz.underlying44 rfl Tryz.sizeOf3 rfl) rfl (stX 0 (off := 2) (vs := [(vN t)]) (cs' := [(vN e02.a), (vN e02.b), (vN t), (vI e02.r)]) (wt_none rfl) rfl Tryz.sizeOf3 rfl (OkL.nil (OkQ.subF (sL [2, 3, 16, 17, 18, 5, 4, 23, 9, 10, 7, 8] rfl) ?_)))))
         exact OkQ.in_normal (OkQ.join1 (⟨e02.a, e02.b, ((t : Nat) : Int), e02.r⟩ : E4) ((by unfold updE; rw [if_pos (by omega)])) (sF rfl) sr)
        ·simp only [Bool.and_eq_true, Bool.or_eq_true, Bool.and_eq_false_iff, Bool.or_eq_false_iff, Bool.not_eq_true', Bool.not_eq_false', decide_eq_true_eq, decide_eq_false_iff_not] at hc3
         refine q4 (mv' rfl (mv' rfl (st' (ex_gtr (c := (decide (T.1 < T.2.2))) rfl rfl (ltN (a := T.1) (b := T.2.2))) rfl (mv' rfl ?_))))
         refine OkL.mid (FM := [(2, (Value.slice none 0 0)), (3, (Value.map (some b1))), (16, (Value.slice x.p ts.length x.c)), (17, (vN ts.length)), (18, (vN t)), (5, (pP b2 0)), (4, (vN t)), (23, (vI 2)), (9, (pP b7 0)), (10, (pP b8 0)), (7, (vN T.2.2)), (8, (vN T.1)), (66, (vN T.2.2)), (67, (vN T.1)), (68, (Value.bool (decide (T.1 < T.2.2)))), (69, (Value.bool (decide (T.1 < T.2.2)))), (73, (Value.bool ((decide (T.1 < T.2.2)) && (decide (e02.r = (-1 : Int))))))]) (LM := [blk b8 44 (e4L e02), blk b7 230 ([(vN (min T.2.2 T.1)), (vN (max T.2.2 T.1))]), blk b6 44 (e4L e21), blk b5 230 ([(vN (min T.2.1 T.2.2)), (vN (max T.2.1 T.2.2))]), blk b4 44 (e4L e20), blk b3 230 ([(vN (min T.1 T.2.1)), (vN (max T.1 T.2.1))]), blk b2 45 (t3L T), mapA b1 kEd vEd (edS ts (3 * t + 2)), rowR x.p (rowsL t3L ts)]) 4 ?_ ?_
         ·rcases Bool.eq_false_or_eq_true (decide (T.1 < T.2.2)) with hg6 | hg6
          ·skip
           refine OkL.retell (k := 69) (u := Value.bool true) rfl (by rw [hg6]) ?_
           have hg6' := hg6
           replace hg6' := of_decide_eq_true hg6'
           exact OkL.step (v := (pP b8 3)) (wt_some' rfl) (ex_fieldAddr rfl Tryz.underlying44 rfl Tryz.sizeOf3 rfl) rfl (leB rfl) (OkL.step (v := (vI e02.r)) (wt_some' rfl) (ex_load_one (i := 0) (v := (vI e02.r)) rfl rfl tO3.a rfl) rfl (leB rfl) (OkL.step (v := (Value.bool (decide (e02.r = (-1 : Int))))) (wt_some' rfl) (ex_eql (c := (decide (e02.r = (-1 : Int)))) rfl rfl rfl) rfl (leB rfl) (st' (v := (Value.bool (decide (e02.r = (-1 : Int))))) (ex_pick_true rfl rfl) rfl (OkL.nil (OkQ.mid (sS rfl (sS rfl (sS rfl (sS rfl (sS rfl (sS rfl (sS rfl (sS rfl (sS rfl (sS rfl (sS rfl (sS rfl (sS rfl (sS rfl (sS rfl (sS (by first | rfl | (rw [hg6]; rfl) | rw [hg6]) (sS (by first | rfl | (rw [hg6]; rfl) | rw [hg6]) (sN)))))))))))))))))) (List.Sublist.refl _))))))
          ·skip
           refine OkL.retell (k := 69) (u := Value.bool false) rfl (by rw [hg6]) ?_
           have hg6' := hg6
           replace hg6' := of_decide_eq_false hg6'
           exact OkL.skip (wt_not' rfl) rfl (leB rfl) (OkL.skip (wt_not' rfl) rfl (leB rfl) (OkL.skip (wt_not' rfl) rfl (leB rfl) (st' (v := (Value.bool false)) (ex_pick_false rfl rfl) rfl (OkL.nil (OkQ.mid (sS rfl (sS rfl (sS rfl (sS rfl (sS rfl (sS rfl (sS rfl (sS rfl (sS rfl (sS rfl (sS rfl (sS rfl (sS rfl (sS rfl (sS rfl (sS (by first | rfl | (rw [hg6]; rfl) | rw [hg6]) (sS (by first | rfl | (rw [hg6]; rfl) | rw [hg6]) (sN)))))))))))))))))) (List.Sublist.refl _))))))
         refine asg' rfl (OkL.nil (OkQ.subF (sL [2, 3, 16, 17, 18, 5, 4, 23, 9, 10, 7, 8, 65] rfl) (OkQ.then_ ?_)))
         refine OkC.cond rfl (fun hc4 => ?_) (fun hc4 => ?_)
         ·simp only [Bool.and_eq_true, Bool.or_eq_true, Bool.and_eq_false_iff, Bool.or_eq_false_iff, Bool.not_eq_true', Bool.not_eq_false', decide_eq_true_eq, decide_eq_false_iff_not] at hc4
          refine OkC.region (mv' rfl (st' (v := (pP b8 3)) (ex_fieldAddr rfl Tryz.underlying44 rfl Tryz.sizeOf3 rfl) rfl (stX 0 (off := 3) (vs := [(vN t)]) (cs' := [(vN e02.a), (vN e02.b), (vI e02.l), (vN t)]) (wt_none rfl) rfl Tryz.sizeOf3 rfl (OkL.nil (OkQ.subF (sL [2, 3, 16, 17, 18, 5, 4, 23, 9, 10, 7, 8] rfl) ?_)))))
          exact OkQ.in_normal (OkQ.join1 (⟨e02.a, e02.b, e02.l, ((t : Nat) : Int)⟩ : E4) ((by unfold updE; rw [if_neg (by omega), if_pos (by omega)])) (sF rfl) sr)
         ·simp only [Bool.and_eq_true, Bool.or_eq_true, Bool.and_eq_false_iff, Bool.or_eq_false_iff, Bool.not_eq_true', Bool.not_eq_false', decide_eq_true_eq, decide_eq_false_iff_not] at hc4
          exact OkC.skip (OkQ.in_normal (OkQ.join1 e02 ((by unfold updE; rw [if_neg (by omega), if_neg (by omega)])) (sF rfl) sr))
       ·intro e22 hJ
        have hu2 := hJ
        refine OkQ.then_ (OkC.region (mv' rfl (ldW' 1 tA230 rfl (ldW' 0 tA44 rfl (OkL.mapUpdate keyEnds 7 (kvs := edS ts (3 * t + 2)) (x := ((min T.2.2 T.1, max T.2.2 T.1) : P2)) (y := e22) (wt_none rfl) rfl rfl rfl Tryz.underlying228 rfl (edS_ok hn hN _ (by omega)) (okE_ky (by omega) (by omega)) ?_)))))
        rw [show putM (edS ts (3 * t + 2)) ((min T.2.2 T.1, max T.2.2 T.1) : P2) e22 = edS ts (3 * t + 3) from by rw [hu2, he2, hT]; exact (edS_succ (ts := ts) (t := t) (i := 2) (by omega)).symm]
        refine OkL.nil (OkQ.subF (sL [2, 3, 16, 17, 18, 5, 4, 23, 9, 10] rfl) (OkQ.in_normal (OkQ.then_ (OkC.region (st' (ex_add (c := (3 : Int)) rfl rfl (by decide)) rfl ?_)))))
        refine mv' rfl (OkL.nil (OkQ.subF (sL [2, 3, 16, 17, 18, 5, 4, 23, 9, 10] rfl) (OkQ.again (OkR.step (q4 ?_)))))
        refine st' (ex_lss (c := false) rfl rfl (by decide)) rfl (OkL.nil (q1 (OkC.cond_false rfl (OkC.exit (OkQ.then_exit ?_)))))
        refine OkQ.then_exit (OkQ.in_exit (OkQ.in_normal (OkQ.then_ (OkC.region (st' (ex_add (c := ((t + 1 : Nat) : Int)) rfl rfl (addN_i64 (a := t) (b := 1) (by omega))) rfl ?_)))))
        refine mv' rfl (OkL.nil (OkQ.subF (sL [2, 3, 16, 17, 18, 5, 4, 23, 9, 10] rfl) ?_))
        rw [show 3 * t + 3 = 3 * (t + 1) + 0 by omega]
        exact OkQ.round1 (t + 1) (by omega) (by omega) (sF rfl) (sl (sl (sl (sl (sl (sl (sl sr)))))))
 ·replace hc0 := of_decide_eq_false hc0
  have htl : t = ts.length := by omega
  have hel := edS_len (ts := ts) (3 * ts.length)
  refine OkC.exit (OkQ.then_exit (OkQ.round1_exit (OkQ.in_exit (q2 (mv' rfl ?_)))))
  rw [show edS ts (3 * t + 0) = (edS ts (3 * ts.length)) by rw [htl, Nat.add_zero]]
  refine st (v := (vN ((edS ts (3 * ts.length)).length))) (ex_len_map 0 (kvs := (edS ts (3 * ts.length))) rfl Tryz.underlying228 rfl) (leB rfl) (OkL.make0 tE40 rfl rfl (by omega) rfl rfl fun bo hbo => asg' rfl (q6 (sL [2, 3, 16, 17, 18, 12] rfl) (q4 (mv' rfl ?_))))
  refine OkL.range 1 (kvs := (edS ts (3 * ts.length))) (wt_none rfl) rfl Tryz.underlying228 rfl rfl fun b2 => OkL.nil (OkQ.subF (sL [2, 3, 16, 17, 18, 12, 85] rfl) (OkQ.then_ (OkC.block ?_)))
  refine OkC.lp4 (tg fun (seen : List Nat) (out : List E4) (p1 : Option Addr) (c1 : Nat) => seen.Nodup ∧ (∀ x ∈ seen, x < (edS ts (3 * ts.length)).length) ∧ out = seen.map (valA (edS ts (3 * ts.length))) ∧ OwnOk p1 out.length c1 ∧ p1 ≠ none) (tg fun (seen : List Nat) (out : List E4) (p1 : Option Addr) (c1 : Nat) => [(2, (Value.slice none 0 0)), (85, (Value.pointer (some ⟨b2, 0, none⟩))), (12, (Value.slice p1 out.length c1))]) (tg fun (seen : List Nat) (out : List E4) (p1 : Option Addr) (c1 : Nat) => [itA b2 b1 (edS ts (3 * ts.length)).length seen, rowW p1 44 4 out.length c1 (rowsL e4L out), mapA b1 kEd vEd (edS ts (3 * ts.length)), rowR x.p (rowsL t3L ts)]) (tg fun (seen : List Nat) (out : List E4) (p1 : Option Addr) (c1 : Nat) => (edS ts (3 * ts.length)).length - seen.length) ([] : List Nat) ([] : List E4) (some ⟨bo, 0, none⟩) ((edS ts (3 * ts.length)).length) (⟨List.nodup_nil, (fun x hx => by cases hx), rfl, hbo, by simp⟩) (sF rfl) sr (fun seen out p1 c1 hJ => ?_)
  obtain ⟨hnd, hlt, hou, ho, hpn⟩ := hJ
  refine q4 ?_
  refine OkL.next 2 0 (kvs := (edS ts (3 * ts.length))) (seen := seen) (wt_none rfl) rfl rfl rfl rfl (fun hall => ?_) (fun qn kq ve hq hns => ?_)
  ·skip
   refine st' (ex_extract (v := (Value.bool false)) rfl rfl) rfl (q6 (sL [2, 85, 12, 87] rfl) (OkC.cond_false rfl (OkC.exit (OkQ.then_exit (OkQ.round4_exit ?_)))))
   refine OkQ.in_exit (q2 (mv' rfl ?_))
   have hpm : out.Perm ((edS ts (3 * ts.length)).map (·.2)) := by rw [hou]; exact all_perm hnd hlt hall
   have hol : out.length = (edL ts).length := by rw [edL_len]; simpa using hpm.length_eq
   have hlo : out.length ≤ 3 * ts.length := by rw [hol, edL_len]; exact hel
   refine OkL.callS 1 (xs := out) (ys := edL ts) (v := (Value.tuple #[])) (wt_none rfl) (op_call0 (args := [(Value.slice p1 out.length c1), (Value.func (.func 147) #[] #[])]) rfl rfl Tryz.call146) rfl (fun w hw => sortE_ok out _ _ _ 44 ho hpn rfl (by omega) w (hw.holds (i := 1) rfl)) (fun zs h1 h2 => edL_of hn hN h1 h2 hpm) (fun d hd => by cases hd <;> exact (leB rfl)) (q3 (sL [2, 85, 12] rfl) (mv' rfl (ck' Tryz.call111 (clipE_ok p1 _ c1 ho.le) rfl (asg' rfl (OkL.nil ?_)))))
   exact OkQ.subF (sL [2, 85, 12] rfl) (OkQ.then_ (OkC.ret (ret_one rfl (rd_tmp (v := (Value.slice p1 out.length out.length)) rfl) (fun w hw => (by rw [← hol]; exact retC hw 1 rfl ho (by rw [rowsL_length e4L_len, hol]) rfl)))))
  ·skip
   refine st' (ex_extract (v := (Value.bool true)) rfl rfl) rfl (q6 (sL [2, 85, 12, 87] rfl) (OkC.cond_true rfl (OkC.skip (OkQ.then_ (OkC.block ?_)))))
   refine q4 ?_
   have hlo : out.length ≤ 3 * ts.length := by rw [hou, List.length_map]; exact Nat.le_trans (nodup_le hnd hlt) hel
   refine st' (v := (Value.tuple #[(aG (posL kq)), (aG (e4L ve))])) (ex_entry 2 0 (enc := kEd) (eV := vEd) (kvs := (edS ts (3 * ts.length))) (seen := seen) (q := qn) rfl rfl rfl hq) rfl (st' (ex_extract (v := (aG (e4L ve))) rfl rfl) rfl (al tZ44 rfl fun b3 => stW0' rfl Tryz.sizeOf44 rfl (OkL.nil (OkQ.subF (sL [2, 85, 12, 14] rfl) ?_))))
   refine OkQ.then_ (OkC.region (mv' rfl (ldW' 0 tA44 rfl (OkL.openV (V := fun b4 => (Value.slice (some ⟨b4, 0, none⟩) 1 1)) (T := 44) (cs := e4L ve) (wt_none rfl) (op_buildSlice (z := .agg (e4L (⟨0, 0, 0, 0⟩ : E4)).toArray) (cs := e4L ve) (pv := [(0, (aG (e4L ve)))]) Tryz.underlying40 Tryz.sizeOf44 Tryz.zeroValue44 (by decide) (by decide) rfl (tfs_numto_44_1 ve)) rfl (leB rfl) fun b4 => OkL.appendAt 3 (j := 0) (cs2 := rowsL e4L (out ++ [ve])) tE40 rfl ho (rowsL_length e4L_len _) rfl rfl rfl rfl rfl (by decide) (mxl (by omega)) (by omega) (by rw [rowsL_append]; rfl) rfl fun p_1 c_1 ho_1 hne_1 => ?_))))
   refine asg' rfl (OkL.nil (OkQ.subF (sL [2, 85, 12, 14] rfl) (OkQ.in_normal ?_)))
   have hnext : seen.length < (edS ts (3 * ts.length)).length := by have h9 := nodup_le (l := seen ++ [qn]) (n := (edS ts (3 * ts.length)).length) (List.nodup_append.2 ⟨hnd, List.nodup_cons.2 ⟨List.not_mem_nil, List.nodup_nil⟩, fun a ha b hb e => by rw [List.mem_singleton.1 hb] at e; exact hns (e ▸ ha)⟩) (fun x hx => by rcases List.mem_append.1 hx with h | h; exact hlt x h; rw [List.mem_singleton.1 h]; exact (List.getElem?_eq_some_iff.1 hq).1); rw [List.length_append, List.length_singleton] at h9; omega
   rw [show out.length + 1 = (out ++ [ve]).length by simp]
   exact OkQ.round4 (seen ++ [qn]) (out ++ [ve]) p_1 c_1 (⟨List.nodup_append.2 ⟨hnd, List.nodup_cons.2 ⟨List.not_mem_nil, List.nodup_nil⟩, fun a ha b hb e => by rw [List.mem_singleton.1 hb] at e; exact hns (e ▸ ha)⟩, fun x hx => by rcases List.mem_append.1 hx with h | h; exact hlt x h; rw [List.mem_singleton.1 h]; exact (List.getElem?_eq_some_iff.1 hq).1, by rw [List.map_append, hou]; simp [valA_at hq], (by simpa using ho_1), hne_1⟩) (by have h8 := hnext; rw [List.length_append, List.length_singleton]; omega) (sF rfl) (sl (sl sr))
end
end Go.Proofs.YtgiacpkjnikjdaaGreat
