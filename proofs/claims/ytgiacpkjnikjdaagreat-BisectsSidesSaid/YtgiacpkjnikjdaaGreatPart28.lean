import Derived.Test.YtgiacpkjnikjdaaGreatPart06
import Derived.Test.YtgiacpkjnikjdaaGreatPart08
import Derived.Test.YtgiacpkjnikjdaaGreatPart27
namespace Go.Proofs.YtgiacpkjnikjdaaGreat
open Go Go.RowKit
set_option linter.unusedVariables false
set_option linter.unusedSimpArgs false
section
set_option maxRecDepth 100000
theorem point_ok (p n : Nat) (w : World)  : Calls Tryz.prog 99 #[(vN p), (vN n)] w (Gives w (Value.bool (decide (p < n)))) := by
 refine calls_of (args := [(vN p), (vN n)]) Tryz.func99 rfl rfl (leB rfl) (OkC.subF (sL [0, 1] rfl) (q4 (asg' rfl (OkL.nil (q2 ?_)))))
 refine mv' rfl (st' (ex_geq (c := (decide (0 ≤ p))) rfl rfl (leN (a := 0) (b := p))) rfl (mv' rfl ?_))
 refine OkL.mid (FM := [(0, (vN p)), (1, (vN n)), (4, (Value.bool false)), (5, (vN p)), (6, (Value.bool (decide (0 ≤ p)))), (7, (Value.bool (decide (0 ≤ p)))), (11, (Value.bool ((decide (0 ≤ p)) && (decide (p < n)))))]) (LM := []) 4 ?_ ?_
 ·rcases Bool.eq_false_or_eq_true (decide (0 ≤ p)) with hg1 | hg1
  ·skip
   refine OkL.retell (k := 7) (u := Value.bool true) rfl (by rw [hg1]) ?_
   have hg1' := hg1
   replace hg1' := of_decide_eq_true hg1'
   exact OkL.step (v := (vN p)) (wt_some' rfl) (ex_move rfl) rfl (leB rfl) (OkL.step (v := (vN n)) (wt_some' rfl) (ex_move rfl) rfl (leB rfl) (OkL.step (v := (Value.bool (decide (p < n)))) (wt_some' rfl) (ex_lss (c := (decide (p < n))) rfl rfl (ltN (a := p) (b := n))) rfl (leB rfl) (st' (v := (Value.bool (decide (p < n)))) (ex_pick_true rfl rfl) rfl (OkL.nil (OkQ.mid (sS rfl (sS rfl (sS rfl (sS rfl (sS rfl (sS (by first | rfl | (rw [hg1]; rfl) | rw [hg1]) (sS (by first | rfl | (rw [hg1]; rfl) | rw [hg1]) (sN)))))))) (List.Sublist.refl _))))))
  ·skip
   refine OkL.retell (k := 7) (u := Value.bool false) rfl (by rw [hg1]) ?_
   have hg1' := hg1
   replace hg1' := of_decide_eq_false hg1'
   exact OkL.skip (wt_not' rfl) rfl (leB rfl) (OkL.skip (wt_not' rfl) rfl (leB rfl) (OkL.skip (wt_not' rfl) rfl (leB rfl) (st' (v := (Value.bool false)) (ex_pick_false rfl rfl) rfl (OkL.nil (OkQ.mid (sS rfl (sS rfl (sS rfl (sS rfl (sS rfl (sS (by first | rfl | (rw [hg1]; rfl) | rw [hg1]) (sS (by first | rfl | (rw [hg1]; rfl) | rw [hg1]) (sN)))))))) (List.Sublist.refl _))))))
 exact asg' rfl (OkL.nil (OkQ.subF (sL [4] rfl) (OkQ.then_ (OkC.ret (ret_one rfl (rd_tmp (v := (Value.bool ((decide (0 ≤ p)) && (decide (p < n))))) rfl) (fun w hw => ⟨by simp, hw.out⟩))))))
theorem numd1_ok (t : Nat × Nat × Nat) (n : Nat) (bo : BX [vN n]) (w : World) {S : Nat → Prop} (hbo : Ro S w bo) : Calls Tryz.prog 156 #[(aG (t3L t)), (pP bo.b 0)] w (Gives w (Value.bool (!okT n t))) := by
 have lbo := atA (W := w) hbo
 refine calls_ofR (args := [(aG (t3L t)), (pP bo.b 0)]) (L := [rowR (some ⟨bo.b, 0, none⟩) ([(vN n)])]) Tryz.func156 rfl rfl (leB rfl) (sxA hbo roL_nil) (OkC.subF (sL [0, 1] rfl) (q4 (bx' (cs := t3L t) rfl fun b1 => asg' rfl (q3 (sL [1, 2, 3] rfl) ?_))))
 refine st' (v := (pP b1 0)) (ex_indexAddr_array (j := 0) rfl rfl Tryz.underlying45 Tryz.sizeOf3 rfl (by decide) rfl) rfl (ldO' 0 (vN t.1) tO3 rfl (st' (ex_load_rowR_one (q := some ⟨bo.b, 0, none⟩) (v := (vN n)) (off := 0) (i := 1) rfl rfl (fun e => by cases e) tO3 rfl) rfl (ck' Tryz.call99 (point_ok t.1 n) rfl (st' (ex_not (c := (!(decide (t.1 < n)))) rfl rfl) rfl (mv' rfl ?_)))))
 refine OkL.mid (FM := [(1, (pP bo.b 0)), (2, (pP b1 0)), (3, (Value.bool false)), (4, (pP b1 0)), (5, (vN t.1)), (6, (vN n)), (7, (Value.bool (decide (t.1 < n)))), (8, (Value.bool (!(decide (t.1 < n))))), (9, (Value.bool (!(decide (t.1 < n))))), (15, (Value.bool ((!(decide (t.1 < n))) || (!(decide (t.2.1 < n))))))]) (LM := [blk b1 45 (t3L t), rowR (some ⟨bo.b, 0, none⟩) ([(vN n)])]) 6 ?_ ?_
 ·rcases Bool.eq_false_or_eq_true (!(decide (t.1 < n))) with hg1 | hg1
  ·skip
   refine OkL.retell (k := 9) (u := Value.bool true) rfl (by rw [hg1]) ?_
   have hg1' := hg1
   simp only [Bool.and_eq_true, Bool.or_eq_true, Bool.and_eq_false_iff, Bool.or_eq_false_iff, Bool.not_eq_true', Bool.not_eq_false', decide_eq_true_eq, decide_eq_false_iff_not] at hg1'
   refine OkL.skip (wt_not' rfl) rfl (leB rfl) (OkL.skip (wt_not' rfl) rfl (leB rfl) (OkL.skip (wt_not' rfl) rfl (leB rfl) (OkL.skip (wt_not' rfl) rfl (leB rfl) (OkL.skip (wt_not' rfl) rfl (leB rfl) (st' (v := (Value.bool true)) (ex_pick_true rfl rfl) rfl ?_)))))
   exact OkL.nil (OkQ.mid (sS rfl (sS rfl (sS rfl (sS rfl (sS rfl (sS rfl (sS rfl (sS rfl (sS (by first | rfl | (rw [hg1]; rfl) | rw [hg1]) (sS (by first | rfl | (rw [hg1]; rfl) | rw [hg1]) (sN))))))))))) (List.Sublist.refl _))
  ·skip
   refine OkL.retell (k := 9) (u := Value.bool false) rfl (by rw [hg1]) ?_
   have hg1' := hg1
   simp only [Bool.and_eq_true, Bool.or_eq_true, Bool.and_eq_false_iff, Bool.or_eq_false_iff, Bool.not_eq_true', Bool.not_eq_false', decide_eq_true_eq, decide_eq_false_iff_not] at hg1'
   refine OkL.step (v := (pP b1 1)) (wt_some' rfl) (ex_indexAddr_array (j := 1) rfl rfl Tryz.underlying45 Tryz.sizeOf3 rfl (by decide) rfl) rfl (leB rfl) (OkL.step (v := (vN t.2.1)) (wt_some' rfl) (ex_load_one (i := 0) (v := (vN t.2.1)) rfl rfl tO3.a rfl) rfl (leB rfl) (OkL.step (v := (vN n)) (wt_some' rfl) (ex_load_rowR_one (q := some ⟨bo.b, 0, none⟩) (v := (vN n)) (off := 0) (i := 1) rfl rfl (fun e => by cases e) tO3 rfl) rfl (leB rfl) (OkL.call (v := (Value.bool (decide (t.2.1 < n)))) (wt_some' rfl) (op_call0 (args := [(vN t.2.1), (vN n)]) rfl rfl Tryz.call99) (fun w hw => point_ok t.2.1 n w) rfl (leB rfl) (OkL.step (v := (Value.bool (!(decide (t.2.1 < n))))) (wt_some' rfl) (ex_not (c := (!(decide (t.2.1 < n)))) rfl rfl) rfl (leB rfl) (st' (v := (Value.bool (!(decide (t.2.1 < n))))) (ex_pick_false rfl rfl) rfl ?_)))))
   exact OkL.nil (OkQ.mid (sS rfl (sS rfl (sS rfl (sS rfl (sS rfl (sS rfl (sS rfl (sS rfl (sS (by first | rfl | (rw [hg1]; rfl) | rw [hg1]) (sS (by first | rfl | (rw [hg1]; rfl) | rw [hg1]) (sN))))))))))) (List.Sublist.refl _))
 refine mv' rfl ?_
 refine OkL.mid (FM := [(1, (pP bo.b 0)), (2, (pP b1 0)), (3, (Value.bool false)), (4, (pP b1 0)), (5, (vN t.1)), (6, (vN n)), (7, (Value.bool (decide (t.1 < n)))), (8, (Value.bool (!(decide (t.1 < n))))), (9, (Value.bool (!(decide (t.1 < n))))), (15, (Value.bool ((!(decide (t.1 < n))) || (!(decide (t.2.1 < n)))))), (16, (Value.bool ((!(decide (t.1 < n))) || (!(decide (t.2.1 < n)))))), (22, (Value.bool (((!(decide (t.1 < n))) || (!(decide (t.2.1 < n)))) || (!(decide (t.2.2 < n))))))]) (LM := [blk b1 45 (t3L t), rowR (some ⟨bo.b, 0, none⟩) ([(vN n)])]) 6 ?_ ?_
 ·rcases Bool.eq_false_or_eq_true ((!(decide (t.1 < n))) || (!(decide (t.2.1 < n)))) with hg2 | hg2
  ·skip
   refine OkL.retell (k := 16) (u := Value.bool true) rfl (by rw [hg2]) ?_
   have hg2' := hg2
   simp only [Bool.and_eq_true, Bool.or_eq_true, Bool.and_eq_false_iff, Bool.or_eq_false_iff, Bool.not_eq_true', Bool.not_eq_false', decide_eq_true_eq, decide_eq_false_iff_not] at hg2'
   refine OkL.skip (wt_not' rfl) rfl (leB rfl) (OkL.skip (wt_not' rfl) rfl (leB rfl) (OkL.skip (wt_not' rfl) rfl (leB rfl) (OkL.skip (wt_not' rfl) rfl (leB rfl) (OkL.skip (wt_not' rfl) rfl (leB rfl) (st' (v := (Value.bool true)) (ex_pick_true rfl rfl) rfl ?_)))))
   exact OkL.nil (OkQ.mid (sS rfl (sS rfl (sS rfl (sS rfl (sS rfl (sS rfl (sS rfl (sS rfl (sS rfl (sS rfl (sS (by first | rfl | (rw [hg2]; rfl) | rw [hg2]) (sS (by first | rfl | (rw [hg2]; rfl) | rw [hg2]) (sN))))))))))))) (List.Sublist.refl _))
  ·skip
   refine OkL.retell (k := 16) (u := Value.bool false) rfl (by rw [hg2]) ?_
   have hg2' := hg2
   simp only [Bool.and_eq_true, Bool.or_eq_true, Bool.and_eq_false_iff, Bool.or_eq_false_iff, Bool.not_eq_true', Bool.not_eq_false', decide_eq_true_eq, decide_eq_false_iff_not] at hg2'
   refine OkL.step (v := (pP b1 2)) (wt_some' rfl) (ex_indexAddr_array (j := 2) rfl rfl Tryz.underlying45 Tryz.sizeOf3 rfl (by decide) rfl) rfl (leB rfl) (OkL.step (v := (vN t.2.2)) (wt_some' rfl) (ex_load_one (i := 0) (v := (vN t.2.2)) rfl rfl tO3.a rfl) rfl (leB rfl) (OkL.step (v := (vN n)) (wt_some' rfl) (ex_load_rowR_one (q := some ⟨bo.b, 0, none⟩) (v := (vN n)) (off := 0) (i := 1) rfl rfl (fun e => by cases e) tO3 rfl) rfl (leB rfl) (OkL.call (v := (Value.bool (decide (t.2.2 < n)))) (wt_some' rfl) (op_call0 (args := [(vN t.2.2), (vN n)]) rfl rfl Tryz.call99) (fun w hw => point_ok t.2.2 n w) rfl (leB rfl) (OkL.step (v := (Value.bool (!(decide (t.2.2 < n))))) (wt_some' rfl) (ex_not (c := (!(decide (t.2.2 < n)))) rfl rfl) rfl (leB rfl) (st' (v := (Value.bool (!(decide (t.2.2 < n))))) (ex_pick_false rfl rfl) rfl ?_)))))
   exact OkL.nil (OkQ.mid (sS rfl (sS rfl (sS rfl (sS rfl (sS rfl (sS rfl (sS rfl (sS rfl (sS rfl (sS rfl (sS (by first | rfl | (rw [hg2]; rfl) | rw [hg2]) (sS (by first | rfl | (rw [hg2]; rfl) | rw [hg2]) (sN))))))))))))) (List.Sublist.refl _))
 refine mv' rfl ?_
 refine OkL.mid (FM := [(1, (pP bo.b 0)), (2, (pP b1 0)), (3, (Value.bool false)), (4, (pP b1 0)), (5, (vN t.1)), (6, (vN n)), (7, (Value.bool (decide (t.1 < n)))), (8, (Value.bool (!(decide (t.1 < n))))), (9, (Value.bool (!(decide (t.1 < n))))), (15, (Value.bool ((!(decide (t.1 < n))) || (!(decide (t.2.1 < n)))))), (16, (Value.bool ((!(decide (t.1 < n))) || (!(decide (t.2.1 < n)))))), (22, (Value.bool (((!(decide (t.1 < n))) || (!(decide (t.2.1 < n)))) || (!(decide (t.2.2 < n)))))), (23, (Value.bool (((!(decide (t.1 < n))) || (!(decide (t.2.1 < n)))) || (!(decide (t.2.2 < n)))))), (29, (Value.bool ((((!(decide (t.1 < n))) || (!(decide (t.2.1 < n)))) || (!(decide (t.2.2 < n)))) || (decide (t.1 = t.2.1)))))]) (LM := [blk b1 45 (t3L t), rowR (some ⟨bo.b, 0, none⟩) ([(vN n)])]) 6 ?_ ?_
 ·rcases Bool.eq_false_or_eq_true (((!(decide (t.1 < n))) || (!(decide (t.2.1 < n)))) || (!(decide (t.2.2 < n)))) with hg3 | hg3
  ·skip
   refine OkL.retell (k := 23) (u := Value.bool true) rfl (by rw [hg3]) ?_
   have hg3' := hg3
   simp only [Bool.and_eq_true, Bool.or_eq_true, Bool.and_eq_false_iff, Bool.or_eq_false_iff, Bool.not_eq_true', Bool.not_eq_false', decide_eq_true_eq, decide_eq_false_iff_not] at hg3'
   refine OkL.skip (wt_not' rfl) rfl (leB rfl) (OkL.skip (wt_not' rfl) rfl (leB rfl) (OkL.skip (wt_not' rfl) rfl (leB rfl) (OkL.skip (wt_not' rfl) rfl (leB rfl) (OkL.skip (wt_not' rfl) rfl (leB rfl) (st' (v := (Value.bool true)) (ex_pick_true rfl rfl) rfl ?_)))))
   exact OkL.nil (OkQ.mid (sS rfl (sS rfl (sS rfl (sS rfl (sS rfl (sS rfl (sS rfl (sS rfl (sS rfl (sS rfl (sS rfl (sS rfl (sS (by first | rfl | (rw [hg3]; rfl) | rw [hg3]) (sS (by first | rfl | (rw [hg3]; rfl) | rw [hg3]) (sN))))))))))))))) (List.Sublist.refl _))
  ·skip
   refine OkL.retell (k := 23) (u := Value.bool false) rfl (by rw [hg3]) ?_
   have hg3' := hg3
   simp only [Bool.and_eq_true, Bool.or_eq_true, Bool.and_eq_false_iff, Bool.or_eq_false_iff, Bool.not_eq_true', Bool.not_eq_false', decide_eq_true_eq, decide_eq_false_iff_not] at hg3'
   refine OkL.step (v := (pP b1 0)) (wt_some' rfl) (ex_indexAddr_array (j := 0) rfl rfl Tryz.underlying45 Tryz.sizeOf3 rfl (by decide) rfl) rfl (leB rfl) (OkL.step (v := (vN t.1)) (wt_some' rfl) (ex_load_one (i := 0) (v := (vN t.1)) rfl rfl tO3.a rfl) rfl (leB rfl) (OkL.step (v := (pP b1 1)) (wt_some' rfl) (ex_indexAddr_array (j := 1) rfl rfl Tryz.underlying45 Tryz.sizeOf3 rfl (by decide) rfl) rfl (leB rfl) (OkL.step (v := (vN t.2.1)) (wt_some' rfl) (ex_load_one (i := 0) (v := (vN t.2.1)) rfl rfl tO3.a rfl) rfl (leB rfl) (OkL.step (v := (Value.bool (decide (t.1 = t.2.1)))) (wt_some' rfl) (ex_eql (c := (decide (t.1 = t.2.1))) rfl rfl (eqN (a := t.1) (b := t.2.1))) rfl (leB rfl) (st' (v := (Value.bool (decide (t.1 = t.2.1)))) (ex_pick_false rfl rfl) rfl ?_)))))
   exact OkL.nil (OkQ.mid (sS rfl (sS rfl (sS rfl (sS rfl (sS rfl (sS rfl (sS rfl (sS rfl (sS rfl (sS rfl (sS rfl (sS rfl (sS (by first | rfl | (rw [hg3]; rfl) | rw [hg3]) (sS (by first | rfl | (rw [hg3]; rfl) | rw [hg3]) (sN))))))))))))))) (List.Sublist.refl _))
 refine mv' rfl ?_
 refine OkL.mid (FM := [(1, (pP bo.b 0)), (2, (pP b1 0)), (3, (Value.bool false)), (4, (pP b1 0)), (5, (vN t.1)), (6, (vN n)), (7, (Value.bool (decide (t.1 < n)))), (8, (Value.bool (!(decide (t.1 < n))))), (9, (Value.bool (!(decide (t.1 < n))))), (15, (Value.bool ((!(decide (t.1 < n))) || (!(decide (t.2.1 < n)))))), (16, (Value.bool ((!(decide (t.1 < n))) || (!(decide (t.2.1 < n)))))), (22, (Value.bool (((!(decide (t.1 < n))) || (!(decide (t.2.1 < n)))) || (!(decide (t.2.2 < n)))))), (23, (Value.bool (((!(decide (t.1 < n))) || (!(decide (t.2.1 < n)))) || (!(decide (t.2.2 < n)))))), (29, (Value.bool ((((!(decide (t.1 < n))) || (!(decide (t.2.1 < n)))) || (!(decide (t.2.2 < n)))) || (decide (t.1 = t.2.1))))), (30, (Value.bool ((((!(decide (t.1 < n))) || (!(decide (t.2.1 < n)))) || (!(decide (t.2.2 < n)))) || (decide (t.1 = t.2.1))))), (36, (Value.bool (((((!(decide (t.1 < n))) || (!(decide (t.2.1 < n)))) || (!(decide (t.2.2 < n)))) || (decide (t.1 = t.2.1))) || (decide (t.2.1 = t.2.2)))))]) (LM := [blk b1 45 (t3L t), rowR (some ⟨bo.b, 0, none⟩) ([(vN n)])]) 6 ?_ ?_
 ·rcases Bool.eq_false_or_eq_true ((((!(decide (t.1 < n))) || (!(decide (t.2.1 < n)))) || (!(decide (t.2.2 < n)))) || (decide (t.1 = t.2.1))) with hg4 | hg4
  ·skip
   refine OkL.retell (k := 30) (u := Value.bool true) rfl (by rw [hg4]) ?_
   have hg4' := hg4
   simp only [Bool.and_eq_true, Bool.or_eq_true, Bool.and_eq_false_iff, Bool.or_eq_false_iff, Bool.not_eq_true', Bool.not_eq_false', decide_eq_true_eq, decide_eq_false_iff_not] at hg4'
   refine OkL.skip (wt_not' rfl) rfl (leB rfl) (OkL.skip (wt_not' rfl) rfl (leB rfl) (OkL.skip (wt_not' rfl) rfl (leB rfl) (OkL.skip (wt_not' rfl) rfl (leB rfl) (OkL.skip (wt_not' rfl) rfl (leB rfl) (st' (v := (Value.bool true)) (ex_pick_true rfl rfl) rfl ?_)))))
   exact OkL.nil (OkQ.mid (sS rfl (sS rfl (sS rfl (sS rfl (sS rfl (sS rfl (sS rfl (sS rfl (sS rfl (sS rfl (sS rfl (sS rfl (sS rfl (sS rfl (sS (by first | rfl | (rw [hg4]; rfl) | rw [hg4]) (sS (by first | rfl | (rw [hg4]; rfl) | rw [hg4]) (sN))))))))))))))))) (List.Sublist.refl _))
  ·skip
   refine OkL.retell (k := 30) (u := Value.bool false) rfl (by rw [hg4]) ?_
   have hg4' := hg4
   simp only [Bool.and_eq_true, Bool.or_eq_true, Bool.and_eq_false_iff, Bool.or_eq_false_iff, Bool.not_eq_true', Bool.not_eq_false', decide_eq_true_eq, decide_eq_false_iff_not] at hg4'
   refine OkL.step (v := (pP b1 1)) (wt_some' rfl) (ex_indexAddr_array (j := 1) rfl rfl Tryz.underlying45 Tryz.sizeOf3 rfl (by decide) rfl) rfl (leB rfl) (OkL.step (v := (vN t.2.1)) (wt_some' rfl) (ex_load_one (i := 0) (v := (vN t.2.1)) rfl rfl tO3.a rfl) rfl (leB rfl) (OkL.step (v := (pP b1 2)) (wt_some' rfl) (ex_indexAddr_array (j := 2) rfl rfl Tryz.underlying45 Tryz.sizeOf3 rfl (by decide) rfl) rfl (leB rfl) (OkL.step (v := (vN t.2.2)) (wt_some' rfl) (ex_load_one (i := 0) (v := (vN t.2.2)) rfl rfl tO3.a rfl) rfl (leB rfl) (OkL.step (v := (Value.bool (decide (t.2.1 = t.2.2)))) (wt_some' rfl) (ex_eql (c := (decide (t.2.1 = t.2.2))) rfl rfl (eqN (a := t.2.1) (b := t.2.2))) rfl (leB rfl) (st' (v := (Value.bool (decide (t.2.1 = t.2.2)))) (ex_pick_false rfl rfl) rfl ?_)))))
   exact OkL.nil (OkQ.mid (sS rfl (sS rfl (sS rfl (sS rfl (sS rfl (sS rfl (sS rfl (sS rfl (sS rfl (sS rfl (sS rfl (sS rfl (sS rfl (sS rfl (sS (by first | rfl | (rw [hg4]; rfl) | rw [hg4]) (sS (by first | rfl | (rw [hg4]; rfl) | rw [hg4]) (sN))))))))))))))))) (List.Sublist.refl _))
 refine mv' rfl ?_
 refine OkL.mid (FM := [(1, (pP bo.b 0)), (2, (pP b1 0)), (3, (Value.bool false)), (4, (pP b1 0)), (5, (vN t.1)), (6, (vN n)), (7, (Value.bool (decide (t.1 < n)))), (8, (Value.bool (!(decide (t.1 < n))))), (9, (Value.bool (!(decide (t.1 < n))))), (15, (Value.bool ((!(decide (t.1 < n))) || (!(decide (t.2.1 < n)))))), (16, (Value.bool ((!(decide (t.1 < n))) || (!(decide (t.2.1 < n)))))), (22, (Value.bool (((!(decide (t.1 < n))) || (!(decide (t.2.1 < n)))) || (!(decide (t.2.2 < n)))))), (23, (Value.bool (((!(decide (t.1 < n))) || (!(decide (t.2.1 < n)))) || (!(decide (t.2.2 < n)))))), (29, (Value.bool ((((!(decide (t.1 < n))) || (!(decide (t.2.1 < n)))) || (!(decide (t.2.2 < n)))) || (decide (t.1 = t.2.1))))), (30, (Value.bool ((((!(decide (t.1 < n))) || (!(decide (t.2.1 < n)))) || (!(decide (t.2.2 < n)))) || (decide (t.1 = t.2.1))))), (36, (Value.bool (((((!(decide (t.1 < n))) || (!(decide (t.2.1 < n)))) || (!(decide (t.2.2 < n)))) || (decide (t.1 = t.2.1))) || (decide (t.2.1 = t.2.2))))), (37, (Value.bool (((((!(decide (t.1 < n))) || (!(decide (t.2.1 < n)))) || (!(decide (t.2.2 < n)))) || (decide (t.1 = t.2.1))) || (decide (t.2.1 = t.2.2))))), (43, (Value.bool ((((((!(decide (t.1 < n))) || (!(decide (t.2.1 < n)))) || (!(decide (t.2.2 < n)))) || (decide (t.1 = t.2.1))) || (decide (t.2.1 = t.2.2))) || (decide (t.2.2 = t.1)))))]) (LM := [blk b1 45 (t3L t), rowR (some ⟨bo.b, 0, none⟩) ([(vN n)])]) 6 ?_ ?_
 ·rcases Bool.eq_false_or_eq_true (((((!(decide (t.1 < n))) || (!(decide (t.2.1 < n)))) || (!(decide (t.2.2 < n)))) || (decide (t.1 = t.2.1))) || (decide (t.2.1 = t.2.2))) with hg5 | hg5
  ·skip
   refine OkL.retell (k := 37) (u := Value.bool true) rfl (by rw [hg5]) ?_
   have hg5' := hg5
   simp only [Bool.and_eq_true, Bool.or_eq_true, Bool.and_eq_false_iff, Bool.or_eq_false_iff, Bool.not_eq_true', Bool.not_eq_false', decide_eq_true_eq, decide_eq_false_iff_not] at hg5'
   refine OkL.skip (wt_not' rfl) rfl (leB rfl) (OkL.skip (wt_not' rfl) rfl (leB rfl) (OkL.skip (wt_not' rfl) rfl (leB rfl) (OkL.skip (wt_not' rfl) rfl (leB rfl) (OkL.skip (wt_not' rfl) rfl (leB rfl) (st' (v := (Value.bool true)) (ex_pick_true rfl rfl) rfl ?_)))))
   exact OkL.nil (OkQ.mid (sS rfl (sS rfl (sS rfl (sS rfl (sS rfl (sS rfl (sS rfl (sS rfl (sS rfl (sS rfl (sS rfl (sS rfl (sS rfl (sS rfl (sS rfl (sS rfl (sS (by first | rfl | (rw [hg5]; rfl) | rw [hg5]) (sS (by first | rfl | (rw [hg5]; rfl) | rw [hg5]) (sN))))))))))))))))))) (List.Sublist.refl _))
  ·skip
   refine OkL.retell (k := 37) (u := Value.bool false) rfl (by rw [hg5]) ?_
   have hg5' := hg5
   simp only [Bool.and_eq_true, Bool.or_eq_true, Bool.and_eq_false_iff, Bool.or_eq_false_iff, Bool.not_eq_true', Bool.not_eq_false', decide_eq_true_eq, decide_eq_false_iff_not] at hg5'
   refine OkL.step (v := (pP b1 2)) (wt_some' rfl) (ex_indexAddr_array (j := 2) rfl rfl Tryz.underlying45 Tryz.sizeOf3 rfl (by decide) rfl) rfl (leB rfl) (OkL.step (v := (vN t.2.2)) (wt_some' rfl) (ex_load_one (i := 0) (v := (vN t.2.2)) rfl rfl tO3.a rfl) rfl (leB rfl) (OkL.step (v := (pP b1 0)) (wt_some' rfl) (ex_indexAddr_array (j := 0) rfl rfl Tryz.underlying45 Tryz.sizeOf3 rfl (by decide) rfl) rfl (leB rfl) (OkL.step (v := (vN t.1)) (wt_some' rfl) (ex_load_one (i := 0) (v := (vN t.1)) rfl rfl tO3.a rfl) rfl (leB rfl) (OkL.step (v := (Value.bool (decide (t.2.2 = t.1)))) (wt_some' rfl) (ex_eql (c := (decide (t.2.2 = t.1))) rfl rfl (eqN (a := t.2.2) (b := t.1))) rfl (leB rfl) (st' (v := (Value.bool (decide (t.2.2 = t.1)))) (ex_pick_false rfl rfl) rfl ?_)))))
   exact OkL.nil (OkQ.mid (sS rfl (sS rfl (sS rfl (sS rfl (sS rfl (sS rfl (sS rfl (sS rfl (sS rfl (sS rfl (sS rfl (sS rfl (sS rfl (sS rfl (sS rfl (sS rfl (sS (by first | rfl | (rw [hg5]; rfl) | rw [hg5]) (sS (by first | rfl | (rw [hg5]; rfl) | rw [hg5]) (sN))))))))))))))))))) (List.Sublist.refl _))
 exact asg' rfl (OkL.nil (OkQ.subF (sL [3] rfl) (OkQ.then_ (OkC.ret (ret_one rfl (rd_tmp (v := (Value.bool ((((((!(decide (t.1 < n))) || (!(decide (t.2.1 < n)))) || (!(decide (t.2.2 < n)))) || (decide (t.1 = t.2.1))) || (decide (t.2.1 = t.2.2))) || (decide (t.2.2 = t.1))))) rfl) (fun w hw => ⟨by congr 2; rw [Bool.eq_iff_iff]; simp [okT] <;> omega, hw.out⟩))))))
theorem idx_ok (n : Nat) (bo : BX [vN n]) (ts : List (Nat × Nat × Nat)) (x : RX (rowsL t3L ts) ts.length) (hl : ts.length < 4611686018427387904) (w : World) {S : Nat → Prop} (hbo : Ro S w bo) (hx : Ro S w x) : Calls Tryz.prog 194 #[(Value.slice x.p ts.length x.c), (Value.func (.func 156) #[] #[(pP bo.b 0)])] w (Gives w (vI (idxB n ts 0))) := by
 have lbo := atA (W := w) hbo
 have lx := atA (W := w) hx
 refine calls_ofR (args := [(Value.slice x.p ts.length x.c), (Value.func (.func 156) #[] #[(pP bo.b 0)])]) (L := [rowR (some ⟨bo.b, 0, none⟩) ([(vN n)]), rowR x.p (rowsL t3L ts)]) Tryz.func194 rfl rfl (leB rfl) (sxA hbo (sxA hx roL_nil)) (OkC.subF (sL [0, 1] rfl) (q4 (asg' rfl (OkL.nil (q1 ?_)))))
 refine q4 (mv' rfl (st' (v := (vN ts.length)) (ex_len_slice rfl Tryz.underlying28) rfl (mv' rfl (OkL.nil (OkQ.subF (sL [0, 1, 4, 7, 8] rfl) ?_)))))
 refine OkQ.then_ (OkC.block ?_)
 refine OkC.lp1 (tg fun (j : Nat) => j ≤ ts.length ∧ idxB n ts 0 = idxB n (ts.drop j) j) (tg fun (j : Nat) => [(0, (Value.slice x.p ts.length x.c)), (1, (Value.func (.func 156) #[] #[(pP bo.b 0)])), (7, (vN ts.length)), (8, (vN j))]) (tg fun (j : Nat) => [rowR (some ⟨bo.b, 0, none⟩) ([(vN n)]), rowR x.p (rowsL t3L ts)]) (tg fun (j : Nat) => ts.length - j) 0 (⟨Nat.zero_le _, rfl⟩) (sF rfl) sr (fun j hJ => ?_)
 obtain ⟨hj, he⟩ := hJ
 refine q4 (st' (ex_lss (c := (decide (j < ts.length))) rfl rfl (ltN (a := j) (b := ts.length))) rfl (OkL.nil (q1 ?_)))
 refine OkC.cond rfl (fun hc0 => ?_) (fun hc0 => ?_)
 ·replace hc0 := of_decide_eq_true hc0
  refine OkC.skip (q1 (OkC.block (q4 (mv' rfl (asg' rfl ?_)))))
  refine q3 (sL [0, 1, 7, 8, 5] rfl) (mv' rfl (mv' rfl (mv' rfl (st' (v := (pP (pB x.p) (pO x.p + j * 3))) (ex_index_row (j := j) rfl rfl x.ok Tryz.underlying28 Tryz.sizeOf45 rfl (by omega)) rfl (st' (v := (aG (t3L (ts.getD j ((0, 0, 0) : Nat × Nat × Nat))))) (ex_load_rowR_agg (vs := t3L (ts.getD j ((0, 0, 0) : Nat × Nat × Nat))) (i := 1) rfl rfl (RowOk.ne x.ok (by omega)) tA45 (rowsL_get t3L_len _ _ _ (by omega)) (t3L_len _)) rfl ?_)))))
  refine OkL.call (v := (Value.bool (!okT n (ts.getD j ((0, 0, 0) : Nat × Nat × Nat))))) (wt_none rfl) (op_call (args := [(aG (t3L (ts.getD j ((0, 0, 0) : Nat × Nat × Nat))))]) (caps := [(pP bo.b 0)]) (all := [(aG (t3L (ts.getD j ((0, 0, 0) : Nat × Nat × Nat)))), (pP bo.b 0)]) rfl rfl rfl Tryz.call156) (fun w hw => numd1_ok (ts.getD j ((0, 0, 0) : Nat × Nat × Nat)) n bo w (inS hw 0 rfl lbo)) rfl (leB rfl) (OkL.nil (OkQ.subF (sL [0, 1, 7, 8, 5, 16] rfl) (OkQ.then_ ?_)))
  refine OkC.cond rfl (fun hc1 => ?_) (fun hc1 => ?_)
  ·simp only [Bool.and_eq_true, Bool.or_eq_true, Bool.and_eq_false_iff, Bool.or_eq_false_iff, Bool.not_eq_true', Bool.not_eq_false', decide_eq_true_eq, decide_eq_false_iff_not] at hc1
   have hfin := he.trans (idxB_hit (by omega) (by simpa using hc1))
   refine q4 (mv' rfl (asg' rfl (OkL.nil (OkQ.subF (sL [0, 1, 7, 8, 5, 4] rfl) (OkQ.then_ ?_)))))
   exact OkC.ret (OkQ.in_ret (OkQ.then_ret (OkQ.round1_ret (OkQ.in_ret (OkQ.then_ret (ret_one rfl (rd_tmp (v := (vN j)) rfl) (fun w hw => ⟨by rw [hfin], hw.out⟩)))))))
  ·simp only [Bool.and_eq_true, Bool.or_eq_true, Bool.and_eq_false_iff, Bool.or_eq_false_iff, Bool.not_eq_true', Bool.not_eq_false', decide_eq_true_eq, decide_eq_false_iff_not] at hc1
   refine OkC.skip (OkQ.in_normal (OkQ.then_ (OkC.region (st' (ex_add (c := ((j + 1 : Nat) : Int)) rfl rfl (addN_i64 (a := j) (b := 1) (by omega))) rfl (mv' rfl ?_)))))
   exact OkL.nil (OkQ.subF (sL [0, 1, 7, 8, 5] rfl) (OkQ.round1 (j + 1) (⟨by omega, he.trans (idxB_step (by omega) (by simpa using hc1))⟩) (by omega) (sF rfl) sr))
 ·replace hc0 := of_decide_eq_false hc0
  have hfin := he.trans (idxB_end hc0)
  refine OkC.exit (OkQ.then_exit (OkQ.round1_exit (OkQ.in_exit (q2 (asg' rfl ?_)))))
  exact OkL.nil (OkQ.then_ (OkC.ret (ret_one rfl (rd_tmp (v := (vI (-1 : Int))) rfl) (fun w hw => ⟨by rw [hfin], hw.out⟩))))
theorem cont_ok (n : Nat) (bo : BX [vN n]) (ts : List (Nat × Nat × Nat)) (x : RX (rowsL t3L ts) ts.length) (hl : ts.length < 4611686018427387904) (w : World) {S : Nat → Prop} (hbo : Ro S w bo) (hx : Ro S w x) : Calls Tryz.prog 155 #[(Value.slice x.p ts.length x.c), (Value.func (.func 156) #[] #[(pP bo.b 0)])] w (Gives w (Value.bool (!numB n ts))) := by
 have lbo := atA (W := w) hbo
 have lx := atA (W := w) hx
 refine calls_ofR (args := [(Value.slice x.p ts.length x.c), (Value.func (.func 156) #[] #[(pP bo.b 0)])]) (L := [rowR (some ⟨bo.b, 0, none⟩) ([(vN n)]), rowR x.p (rowsL t3L ts)]) Tryz.func155 rfl rfl (leB rfl) (sxA hbo (sxA hx roL_nil)) (OkC.subF (sL [0, 1] rfl) (q4 (asg' rfl (OkL.nil (q2 ?_)))))
 refine mv' rfl (mv' rfl (cl' Tryz.call194 (fun w hw => idx_ok n bo ts x hl w (inS hw 0 rfl lbo) (inS hw 1 rfl lx)) rfl (st' (ex_geq (c := (!numB n ts)) rfl rfl (idxB_sign n ts 0)) rfl (asg' rfl (OkL.nil ?_)))))
 exact OkQ.subF (sL [4] rfl) (OkQ.then_ (OkC.ret (ret_one rfl (rd_tmp (v := (Value.bool (!numB n ts))) rfl) (fun w hw => ⟨rfl, hw.out⟩))))
theorem numd_ok (n : Nat) (ts : List (Nat × Nat × Nat)) (x : RX (rowsL t3L ts) ts.length) (hl : ts.length < 4611686018427387904) (w : World) {S : Nat → Prop} (hx : Ro S w x) : Calls Tryz.prog 109 #[(Value.slice x.p ts.length x.c), (vN n)] w (Gives w (Value.bool (numB n ts))) := by
 have lx := atA (W := w) hx
 refine calls_ofR (args := [(Value.slice x.p ts.length x.c), (vN n)]) (L := [rowR x.p (rowsL t3L ts)]) Tryz.func109 rfl rfl (leB rfl) (sxA hx roL_nil) (OkC.subF (sL [0, 1] rfl) (q4 (bx' (cs := [(vN n)]) rfl fun b1 => OkL.frzX 0 rfl rfl fun hnb1 => asg' rfl ?_)))
 refine q3 (sL [0, 3, 4] rfl) (mv' rfl (st' (v := (Value.func (.func 156) #[] #[(pP b1 0)])) (ex_makeFunc (vs := []) (us := [(pP b1 0)]) rfl rfl) rfl (cl' Tryz.call155 (fun w hw => cont_ok n ⟨b1⟩ ts x hl w (inB (x := (⟨b1⟩ : BX [vN n])) hw 0 rfl hnb1) (inS hw 1 rfl lx)) rfl (st' (ex_not (c := (!(!numB n ts))) rfl rfl) rfl (asg' rfl ?_)))))
 exact OkL.nil (OkQ.subF (sL [4] rfl) (OkQ.then_ (OkC.ret (ret_one rfl (rd_tmp (v := (Value.bool (!(!numB n ts)))) rfl) (fun w hw => ⟨by simp, hw.out⟩)))))
theorem Numd_ok {ps : List Pt} {ts ss : List (Nat × Nat × Nat)} (x : MX ps ts ss) (hl : ts.length < 4611686018427387904) (w : World) {S : Nat → Prop} (hx : Ro S w x) : Calls Tryz.prog 48 #[(aG (mxL x))] w (Gives w (Value.bool (numB ps.length ts))) := by
 have lx := atA (W := w) hx
 refine calls_ofR (args := [(aG (mxL x))]) (L := [rowR x.a.p (rowsL ptL ps), rowR x.b.p (rowsL t3L ts), rowR x.c.p (rowsL t3L ss)]) Tryz.func48 rfl rfl (leB rfl) (sxA hx roL_nil) (OkC.subF (sL [0] rfl) (q4 (bx' (cs := mxL x) rfl fun b1 => asg' rfl (q3 (sL [1, 2] rfl) ?_))))
 refine st' (v := (pP b1 1)) (ex_fieldAddr rfl Tryz.underlying31 rfl Tryz.sizeOf28 rfl) rfl (ldO' 0 (Value.slice x.b.p ts.length x.b.c) tO28 rfl (st' (v := (pP b1 0)) (ex_fieldAddr rfl Tryz.underlying31 rfl Tryz.sizeOf27 rfl) rfl (ldO' 0 (Value.slice x.a.p ps.length x.a.c) tO27 rfl (st' (v := (vN ps.length)) (ex_len_slice rfl Tryz.underlying27) rfl (cl' Tryz.call109 (fun w hw => numd_ok ps.length ts x.b hl w (roMb (inS hw 1 rfl lx))) rfl ?_)))))
 exact asg' rfl (OkL.nil (OkQ.subF (sL [2] rfl) (OkQ.then_ (OkC.ret (ret_one rfl (rd_tmp (v := (Value.bool (numB ps.length ts))) rfl) (fun w hw => ⟨rfl, hw.out⟩))))))
end
section
set_option maxRecDepth 100000
theorem nan_ok (a : Nat) (w : World)  : Calls Tryz.prog 173 #[(vN a)] w (Gives w (Value.bool false)) := by
 refine calls_of (args := [(vN a)]) Tryz.func173 rfl rfl (leB rfl) (OkC.subF (sL [0] rfl) (q4 (asg' rfl (OkL.nil (q2 ?_)))))
 refine mv' rfl (mv' rfl (st' (ex_neq (c := false) rfl rfl (by simp)) rfl (asg' rfl (OkL.nil (OkQ.subF (sL [2] rfl) ?_)))))
 exact OkQ.then_ (OkC.ret (ret_one rfl (rd_tmp (v := (Value.bool false)) rfl) (fun w hw => ⟨rfl, hw.out⟩)))
theorem cmpI_ok (a b : Nat) (w : World)  : Calls Tryz.prog 131 #[(vN a), (vN b)] w (Gives w (vI (cmpI a b))) := by
 refine calls_of (args := [(vN a), (vN b)]) Tryz.func131 rfl rfl (leB rfl) (OkC.subF (sL [0, 1] rfl) (q4 (asg' rfl (OkL.nil (q2 ?_)))))
 refine mv' rfl (ck' Tryz.call173 (nan_ok a) rfl (asg' rfl (q3 (sL [0, 1, 4, 5] rfl) (mv' rfl (ck' Tryz.call173 (nan_ok b) rfl ?_)))))
 refine asg' rfl (q6 (sL [0, 1, 4, 5, 6] rfl) (q4 (mv' rfl (OkL.nil (OkQ.subF (sL [0, 1, 4, 6, 11] rfl) ?_)))))
 refine OkQ.then_ (OkC.cond_false rfl (OkC.skip (q1 (q4 (mv' rfl ?_)))))
 refine OkL.nil (OkQ.subF (sL [0, 1, 4, 6, 13] rfl) (OkQ.then_ (OkC.cond_false rfl (OkC.skip (q1 ?_)))))
 refine q4 (mv' rfl (mv' rfl (st' (ex_lss (c := (decide (a < b))) rfl rfl (ltN (a := a) (b := b))) rfl (OkL.nil (OkQ.subF (sL [0, 1, 4, 6, 16] rfl) ?_)))))
 refine OkQ.then_ ?_
 refine OkC.cond rfl (fun hc3 => ?_) (fun hc3 => ?_)
 ·replace hc3 := of_decide_eq_true hc3
  have hr := cmpI_lt hc3
  exact q4 (asg' rfl (OkL.nil (OkQ.then_ (OkC.ret (OkQ.then_ret (ret_one rfl (rd_tmp (v := (vI (-1 : Int))) rfl) (fun w hw => ⟨by rw [hr] <;> rfl, hw.out⟩)))))))
 ·replace hc3 := of_decide_eq_false hc3
  refine OkC.skip (q1 (q4 (mv' rfl (mv' rfl (st' (ex_gtr (c := (decide (b < a))) rfl rfl (ltN (a := b) (b := a))) rfl ?_)))))
  refine OkL.nil (OkQ.subF (sL [0, 1, 4, 6, 19] rfl) (OkQ.then_ ?_))
  refine OkC.cond rfl (fun hc4 => ?_) (fun hc4 => ?_)
  ·replace hc4 := of_decide_eq_true hc4
   have hr := cmpI_gt hc3 hc4
   exact q4 (asg' rfl (OkL.nil (OkQ.then_ (OkC.ret (OkQ.then_ret (ret_one rfl (rd_tmp (v := (vI 1)) rfl) (fun w hw => ⟨by rw [hr] <;> rfl, hw.out⟩)))))))
  ·replace hc4 := of_decide_eq_false hc4
   have hr := cmpI_eq hc3 hc4
   exact OkC.skip (q2 (asg' rfl (OkL.nil (OkQ.then_ (OkC.ret (ret_one rfl (rd_tmp (v := (vI 0)) rfl) (fun w hw => ⟨by rw [hr] <;> rfl, hw.out⟩)))))))
theorem cmpOr_ok (a b : Int) (g : Nat) (w : World) (hg : w.heap[g]? = some (.cells ([(vI a), (vI b)]).toArray 3 (0, 0))) : Calls Tryz.prog 148 #[(Value.slice (some ⟨g, 0, none⟩) 2 2)] w (fun e w' => e = .returned (Value.int .i64 (orI a b)) ∧ Grw w w' (some g) ∧ w'.heap[g]? = some (.cells ([(vI a), (vI b)]).toArray 3 (0, 0))) := by
 refine calls_ofM (args := [(Value.slice (some ⟨g, 0, none⟩) 2 2)]) (g := g) (T := 3) (cs := [(vI a), (vI b)]) Tryz.func148 rfl rfl (leB rfl) hg (OkC.subF (sL [0] rfl) (q4 (asg' rfl (OkL.nil (q2 ?_)))))
 refine asg' rfl (OkL.nil (q1 (q4 (mv' rfl (st' (v := (vI 2)) (ex_len_slice rfl Tryz.underlying34) rfl ?_)))))
 refine mv' rfl (OkL.nil (OkQ.subF (sL [2, 3, 6, 7, 8] rfl) (OkQ.then_ (OkC.block (OkC.unroll 4 ?_)))))
 refine OkR.step (q4 (st' (ex_lss (c := true) rfl rfl (by decide)) rfl (OkL.nil (q1 (OkC.cond_true rfl ?_)))))
 refine OkC.skip (q1 (OkC.block (q4 (st' (v := (pP g 0)) (ex_indexAddr_slice (j := 0) rfl rfl Tryz.underlying34 Tryz.sizeOf3 rfl (by omega) rfl) rfl (ldO' 0 (vI a) tO3 rfl ?_)))))
 refine asg' rfl (q3 (sL [2, 3, 6, 7, 8, 5] rfl) (mv' rfl (mv' rfl (st' (ex_neq (c := (decide (a ≠ (0 : Int)))) rfl rfl rfl) rfl (OkL.nil ?_)))))
 refine OkQ.subF (sL [2, 3, 6, 7, 8, 5, 14] rfl) (OkQ.then_ ?_)
 refine OkC.cond rfl (fun hc1 => ?_) (fun hc1 => ?_)
 ·replace hc1 := of_decide_eq_true hc1
  have hr : orI a b = a := if_pos hc1
  refine q4 (mv' rfl (asg' rfl (OkL.nil (OkQ.subF (sL [2, 3, 6, 7, 8, 5] rfl) (OkQ.then_ ?_)))))
  exact OkC.ret (OkQ.in_ret (OkQ.then_ret (OkQ.then_ret (OkQ.in_ret (OkQ.then_ret (ret_one rfl (rd_tmp (v := (vI a)) rfl) (fun w hw => ⟨by rw [hr] <;> rfl, hw.1, hw.get (i := 0) rfl⟩)))))))
 ·replace hc1 := of_decide_eq_false hc1
  have hq := hc1
  refine OkC.skip (OkQ.in_normal (OkQ.then_ (OkC.region (st' (ex_add (c := (1 : Int)) rfl rfl (by decide)) rfl (mv' rfl ?_)))))
  refine OkL.nil (OkQ.subF (sL [2, 3, 6, 7, 8, 5] rfl) (OkQ.again (OkR.step (q4 (st' (ex_lss (c := true) rfl rfl (by decide)) rfl ?_)))))
  refine OkL.nil (q1 (OkC.cond_true rfl (OkC.skip (q1 (OkC.block ?_)))))
  refine q4 (st' (v := (pP g 1)) (ex_indexAddr_slice (j := 1) rfl rfl Tryz.underlying34 Tryz.sizeOf3 rfl (by omega) rfl) rfl (ldO' 0 (vI b) tO3 rfl (asg' rfl (q3 (sL [2, 3, 6, 7, 8, 5] rfl) (mv' rfl ?_)))))
  refine mv' rfl (st' (ex_neq (c := (decide (b ≠ (0 : Int)))) rfl rfl rfl) rfl (OkL.nil (OkQ.subF (sL [2, 3, 6, 7, 8, 5, 14] rfl) (OkQ.then_ ?_))))
  refine OkC.cond rfl (fun hc1 => ?_) (fun hc1 => ?_)
  ·replace hc1 := of_decide_eq_true hc1
   have hr : orI a b = b := by rw [orI, if_neg hq, if_pos hc1]
   refine q4 (mv' rfl (asg' rfl (OkL.nil (OkQ.subF (sL [2, 3, 6, 7, 8, 5] rfl) (OkQ.then_ ?_)))))
   exact OkC.ret (OkQ.in_ret (OkQ.then_ret (OkQ.then_ret (OkQ.in_ret (OkQ.then_ret (ret_one rfl (rd_tmp (v := (vI b)) rfl) (fun w hw => ⟨by rw [hr] <;> rfl, hw.1, hw.get (i := 0) rfl⟩)))))))
  ·replace hc1 := of_decide_eq_false hc1
   have hr : orI a b = 0 := by rw [orI, if_neg hq, if_neg hc1]
   refine OkC.skip (OkQ.in_normal (OkQ.then_ (OkC.region (st' (ex_add (c := (2 : Int)) rfl rfl (by decide)) rfl (mv' rfl ?_)))))
   refine OkL.nil (OkQ.subF (sL [2, 3, 6, 7, 8, 5] rfl) (OkQ.again (OkR.step (q4 (st' (ex_lss (c := false) rfl rfl (by decide)) rfl ?_)))))
   refine OkL.nil (q1 (OkC.cond_false rfl (OkC.exit (OkQ.then_exit (OkQ.then_exit ?_)))))
   refine OkQ.in_exit (q2 (mv' rfl (asg' rfl (OkL.nil (OkQ.subF (sL [2, 3, 6, 7, 8, 5] rfl) ?_)))))
   exact OkQ.then_ (OkC.ret (ret_one rfl (rd_tmp (v := (vI 0)) rfl) (fun w hw => ⟨by rw [hr] <;> rfl, hw.1, hw.get (i := 0) rfl⟩)))
end
end Go.Proofs.YtgiacpkjnikjdaaGreat
