import Derived.Test.YtgiacpkjnikjdaaGreatPart06
import Derived.Test.YtgiacpkjnikjdaaGreatPart15
import Derived.Test.YtgiacpkjnikjdaaGreatPart24
import Derived.Test.YtgiacpkjnikjdaaGreatPart33
import Derived.Test.YtgiacpkjnikjdaaGreatPart34
import Derived.Test.YtgiacpkjnikjdaaGreatPart35
namespace Go.Proofs.YtgiacpkjnikjdaaGreat
open Go Go.RowKit
set_option linter.unusedVariables false
set_option linter.unusedSimpArgs false
section
set_option maxRecDepth 100000
theorem keyOf : KeyE Tryz.prog 172 kEd okE := keyPair laidB (by decide +kernel) (by kernel_rfl) (by kernel_rfl) Tryz.underlying172 Tryz.underlying3 (by kernel_rfl) (by kernel_rfl) (by kernel_rfl)
theorem tfs_numuc_83_1 (x0 : Pt) : Instr.fill (fun i => some (i * 10, 10)) ((Array.range (1 * 10)).map ((Value.agg (ptL (⟨0, 0⟩ : Pt)).toArray).cells[· % (Value.agg (ptL (⟨0, 0⟩ : Pt)).toArray).cells.size]!)) [(0, .agg (ptL x0).toArray)] = some (ptL x0).toArray := by kernel_rfl
set_option maxHeartbeats 8000000 in
theorem Halves_ok {ps : List Pt} {ts ss : List T3} (x : MX ps ts ss) (es : List E4) (o : RX (rowsL e4L es) es.length) (us : List T3) (y : RX (rowsL t3L us) us.length) (hes : ∀ e ∈ es, e.a < ps.length ∧ e.b < ps.length) (hu : numB (ps.length + es.length) us = true) (hz : ∀ i, SzP (cor ps i) ≤ 1000000) (hp : ps.length ≤ 1000000) (hel : es.length ≤ 1000000) (hul : us.length ≤ 1000000) (hsl : ss.length ≤ 1000000) (w : World) {S : Nat → Prop} (hx : Ro S w x) (ho : Ro S w o) (hy : Ro S w y) : Calls Tryz.prog 55 #[(aG (mxL x)), (Value.slice o.p es.length o.c), (Value.slice y.p us.length y.c)] w (GivesR (MX (halP ps es) us (halX ps.length ss es us)) S w) := by
 have lx := atA (W := w) hx
 have lo := atA (W := w) ho
 have ly := atA (W := w) hy
 refine calls_ofR (args := [(aG (mxL x)), (Value.slice o.p es.length o.c), (Value.slice y.p us.length y.c)]) (L := [rowR x.a.p (rowsL ptL ps), rowR x.b.p (rowsL t3L ts), rowR x.c.p (rowsL t3L ss), rowR o.p (rowsL e4L es), rowR y.p (rowsL t3L us)]) Tryz.func55 rfl rfl (leB rfl) (sxA hx (sxA ho (sxA hy roL_nil))) (OkC.subF (sL [0, 1, 2] rfl) (q4 (bx' (cs := mxL x) rfl fun b1 => al tZ31 rfl fun b2 => q3 (sL [1, 2, 3, 6] rfl) ?_)))
 refine OkL.makeMap kEd vN (wt_none rfl) rfl fun b3 => ?_
 rw [show ([] : List (P2 × Nat)) = sidS ps.length ss 0 from rfl]
 refine asg' rfl (q6 (sL [1, 2, 3, 6, 7] rfl) (q4 (st' (v := (pP b1 2)) (ex_fieldAddr rfl Tryz.underlying31 rfl Tryz.sizeOf29 rfl) rfl (ldO' 2 (Value.slice x.c.p ss.length x.c.c) tO29 rfl (st' (v := (vN ss.length)) (ex_len_slice rfl Tryz.underlying29) rfl ?_)))))
 refine st' (ex_sub (c := (((ss.length : Nat) : Int) - 1 - ((0 : Nat) : Int))) rfl rfl (by rw [wrap_i64 (by omega) (by omega)]; omega)) rfl (asg' rfl (OkL.nil (OkQ.subF (sL [1, 2, 3, 6, 7, 8] rfl) (OkQ.then_ (OkC.block ?_)))))
 refine OkC.lp1 (tg fun (k : Nat) => k ≤ ss.length) (tg fun (k : Nat) => [(1, (Value.slice o.p es.length o.c)), (2, (Value.slice y.p us.length y.c)), (3, (pP b1 0)), (6, (pP b2 0)), (7, (Value.map (some b3))), (8, (vI (((ss.length : Nat) : Int) - 1 - ((k : Nat) : Int))))]) (tg fun (k : Nat) => [mapA b3 kEd vN (sidS ps.length ss k), blk b2 31 ([(Value.slice none 0 0), (Value.slice none 0 0), (Value.slice none 0 0)]), blk b1 31 (mxL x), rowR x.a.p (rowsL ptL ps), rowR x.b.p (rowsL t3L ts), rowR x.c.p (rowsL t3L ss), rowR o.p (rowsL e4L es), rowR y.p (rowsL t3L us)]) (tg fun (k : Nat) => ss.length - k) 0 (Nat.zero_le _) (sF rfl) sr (fun k hJ => ?_)
 have hk := hJ
 refine OkC.seq (q4 (mv' rfl (st' (ex_geq (c := (decide ((0 : Int) ≤ (((ss.length : Nat) : Int) - 1 - ((k : Nat) : Int))))) rfl rfl rfl) rfl (OkL.nil (OkQ.subF (sL [1, 2, 3, 6, 7, 8, 23] rfl) ?_)))))
 refine OkQ.then_ ?_
 refine OkC.cond rfl (fun hc0 => ?_) (fun hc0 => ?_)
 ·replace hc0 := of_decide_eq_true hc0
  obtain ⟨sd, hsd⟩ : ∃ q, q = ss.getD (ss.length - 1 - k) (0, 0, 0) := ⟨_, rfl⟩
  refine OkC.skip (q1 (OkC.block (q4 (st' (v := (pP b1 2)) (ex_fieldAddr rfl Tryz.underlying31 rfl Tryz.sizeOf29 rfl) rfl (ldO' 2 (Value.slice x.c.p ss.length x.c.c) tO29 rfl ?_)))))
  refine mv' rfl (OkL.retell (k := 28) (u := (vN (ss.length - 1 - k))) rfl (by show Value.int _ _ = Value.int _ _; congr 1; omega) (st' (v := (pP (pB x.c.p) (pO x.c.p + (ss.length - 1 - k) * 3))) (ex_index_row (j := ss.length - 1 - k) rfl rfl x.c.ok Tryz.underlying29 Tryz.sizeOf66 rfl (by omega)) rfl (st' (v := (aG (t3L (ss.getD (ss.length - 1 - k) ((0, 0, 0) : Nat × Nat × Nat))))) (ex_load_rowR_agg (vs := t3L (ss.getD (ss.length - 1 - k) ((0, 0, 0) : Nat × Nat × Nat))) (i := 5) rfl rfl (RowOk.ne x.c.ok (by omega)) tA66 (rowsL_get t3L_len _ _ _ (by omega)) (t3L_len _)) rfl (OkL.retell (k := 30) (u := (aG (t3L sd))) rfl (by rw [hsd]) (al tZ66 rfl fun b4 => ?_)))))
  refine stW0' rfl Tryz.sizeOf66 rfl (q3 (sL [1, 2, 3, 6, 7, 8, 9] rfl) (ldW' 3 tA31 rfl (st' (v := (pP b4 0)) (ex_fieldAddr rfl Tryz.underlying66 rfl Tryz.sizeOf3 rfl) rfl (ldO' 0 (vN sd.1) tO3 rfl (cl' Tryz.call112 (fun w hw => rpoint_ok x sd.1 w (inS hw 4 rfl lx)) rfl ?_)))))
  refine mv' rfl ?_
  refine OkL.mid (FM := [(1, (Value.slice o.p es.length o.c)), (2, (Value.slice y.p us.length y.c)), (3, (pP b1 0)), (6, (pP b2 0)), (7, (Value.map (some b3))), (8, (vI (((ss.length : Nat) : Int) - 1 - ((k : Nat) : Int)))), (9, (pP b4 0)), (31, (aG (mxL x))), (32, (pP b4 0)), (33, (vN sd.1)), (34, (Value.bool (decide (sd.1 < ps.length)))), (35, (Value.bool (decide (sd.1 < ps.length)))), (40, (Value.bool ((decide (sd.1 < ps.length)) && (decide (sd.2.1 < ps.length)))))]) (LM := [blk b4 66 (t3L sd), mapA b3 kEd vN (sidS ps.length ss k), blk b2 31 ([(Value.slice none 0 0), (Value.slice none 0 0), (Value.slice none 0 0)]), blk b1 31 (mxL x), rowR x.a.p (rowsL ptL ps), rowR x.b.p (rowsL t3L ts), rowR x.c.p (rowsL t3L ss), rowR o.p (rowsL e4L es), rowR y.p (rowsL t3L us)]) 5 ?_ ?_
  ·rcases Bool.eq_false_or_eq_true (decide (sd.1 < ps.length)) with hg1 | hg1
   ·skip
    refine OkL.retell (k := 35) (u := Value.bool true) rfl (by rw [hg1]) ?_
    have hg1' := hg1
    replace hg1' := of_decide_eq_true hg1'
    exact OkL.step (v := (aG (mxL x))) (wt_some' rfl) (ex_load_agg (i := 3) (vs := mxL x) rfl rfl tA31.a tA31.s rfl rfl) rfl (leB rfl) (OkL.step (v := (pP b4 1)) (wt_some' rfl) (ex_fieldAddr rfl Tryz.underlying66 rfl Tryz.sizeOf3 rfl) rfl (leB rfl) (OkL.step (v := (vN sd.2.1)) (wt_some' rfl) (ex_load_one (i := 0) (v := (vN sd.2.1)) rfl rfl tO3.a rfl) rfl (leB rfl) (OkL.call (v := (Value.bool (decide (sd.2.1 < ps.length)))) (wt_some' rfl) (op_call0 (args := [(aG (mxL x)), (vN sd.2.1)]) rfl rfl Tryz.call112) (fun w hw => rpoint_ok x sd.2.1 w (inS hw 4 rfl lx)) rfl (leB rfl) (st' (v := (Value.bool (decide (sd.2.1 < ps.length)))) (ex_pick_true rfl rfl) rfl (OkL.nil (OkQ.mid (sS rfl (sS rfl (sS rfl (sS rfl (sS rfl (sS rfl (sS rfl (sS rfl (sS rfl (sS rfl (sS rfl (sS (by first | rfl | (rw [hg1]; rfl) | rw [hg1]) (sS (by first | rfl | (rw [hg1]; rfl) | rw [hg1]) (sN)))))))))))))) (List.Sublist.refl _)))))))
   ·skip
    refine OkL.retell (k := 35) (u := Value.bool false) rfl (by rw [hg1]) ?_
    have hg1' := hg1
    replace hg1' := of_decide_eq_false hg1'
    exact OkL.skip (wt_not' rfl) rfl (leB rfl) (OkL.skip (wt_not' rfl) rfl (leB rfl) (OkL.skip (wt_not' rfl) rfl (leB rfl) (OkL.skip (wt_not' rfl) rfl (leB rfl) (st' (v := (Value.bool false)) (ex_pick_false rfl rfl) rfl (OkL.nil (OkQ.mid (sS rfl (sS rfl (sS rfl (sS rfl (sS rfl (sS rfl (sS rfl (sS rfl (sS rfl (sS rfl (sS rfl (sS (by first | rfl | (rw [hg1]; rfl) | rw [hg1]) (sS (by first | rfl | (rw [hg1]; rfl) | rw [hg1]) (sN)))))))))))))) (List.Sublist.refl _)))))))
  refine OkL.nil (OkQ.subF (sL [1, 2, 3, 6, 7, 8, 9, 40] rfl) (OkQ.then_ ?_))
  refine OkC.cond rfl (fun hc1 => ?_) (fun hc1 => ?_)
  ·simp only [Bool.and_eq_true, Bool.or_eq_true, Bool.and_eq_false_iff, Bool.or_eq_false_iff, Bool.not_eq_true', Bool.not_eq_false', decide_eq_true_eq, decide_eq_false_iff_not] at hc1
   refine rG' [(0, true), (1, true), (2, true), (3, true), (4, true), (6, true), (7, true), (5, false), (8, false)] (sk (sl sr)) (pM' rfl (pE' (v := (pP b4 0)) rfl (ex_fieldAddr rfl Tryz.underlying66 rfl Tryz.sizeOf3 rfl) (pO'' 0 (vN sd.1) tO3 rfl (pE' (v := (pP b4 1)) rfl (ex_fieldAddr rfl Tryz.underlying66 rfl Tryz.sizeOf3 rfl) (pO'' 0 (vN sd.2.1) tO3 rfl ?_)))))
   refine pE' (v := (pP b4 2)) rfl (ex_fieldAddr rfl Tryz.underlying66 rfl Tryz.sizeOf3 rfl) (pO'' 0 (vN sd.2.2) tO3 rfl (OkE.imp rfl (ck' Tryz.call92 (rOf_ok sd.1 sd.2.1) rfl (OkE.back (sk (sl sr)) (OkE.imp rfl ?_)))))
   refine OkL.mapUpdate keyOf 1 (kvs := sidS ps.length ss k) (x := (min sd.1 sd.2.1, max sd.1 sd.2.1)) (y := sd.2.2) (wt_none rfl) rfl rfl rfl Tryz.underlying171 rfl (sidS_ok (by omega) _) (okE_ky (by omega) (by omega)) ?_
   rw [show putM (sidS ps.length ss k) (min sd.1 sd.2.1, max sd.1 sd.2.1) sd.2.2 = sidS ps.length ss (k + 1) from by rw [hsd]; exact sidS_yes (by rw [← hsd]; exact hc1)]
   refine OkE.back (sk (sl sr)) (OkE.nil (OkQ.subF (sL [1, 2, 3, 6, 7, 8, 9] rfl) (OkQ.in_normal (OkQ.then_ (OkC.region ?_)))))
   exact mv' rfl (st' (ex_sub (c := (((ss.length : Nat) : Int) - 1 - ((k + 1 : Nat) : Int))) rfl rfl (by rw [wrap_i64 (by omega) (by omega)]; omega)) rfl (asg' rfl (OkL.nil (OkQ.subF (sL [1, 2, 3, 6, 7, 8, 9] rfl) (OkQ.round1 (k + 1) (by omega) (by omega) (sF rfl) (sl sr))))))
  ·simp only [Bool.and_eq_true, Bool.or_eq_true, Bool.and_eq_false_iff, Bool.or_eq_false_iff, Bool.not_eq_true', Bool.not_eq_false', decide_eq_true_eq, decide_eq_false_iff_not] at hc1
   refine OkC.skip (OkQ.in_normal (OkQ.then_ (OkC.region (mv' rfl (st' (ex_sub (c := (((ss.length : Nat) : Int) - 1 - ((k + 1 : Nat) : Int))) rfl rfl (by rw [wrap_i64 (by omega) (by omega)]; omega)) rfl ?_)))))
   refine asg' rfl (OkL.nil (OkQ.subF (sL [1, 2, 3, 6, 7, 8, 9] rfl) ?_))
   rw [show sidS ps.length ss k = sidS ps.length ss (k + 1) from sidS_no (by rw [← hsd]; intro hh; rcases hc1 with h9 | h9; exact h9 hh.1; exact h9 hh.2)]
   exact OkQ.round1 (k + 1) (by omega) (by omega) (sF rfl) (sl sr)
 ·replace hc0 := of_decide_eq_false hc0
  have hk2 : k = ss.length := by omega
  rw [show sidS ps.length ss k = halS ps.length ss es 0 by rw [hk2]; rfl]
  refine OkC.exit (OkQ.then_exit (OkQ.round1_exit (OkQ.in_exit (q2 (st' (v := (pP b1 0)) (ex_fieldAddr rfl Tryz.underlying31 rfl Tryz.sizeOf27 rfl) rfl ?_)))))
  refine ldO' 2 (Value.slice x.a.p ps.length x.a.c) tO27 rfl (OkL.callL (S := S) (V := oxV) (LW := oxL (T := 83) (z := 10) (cs := rowsL ptL ps) (n := ps.length)) (args := [(Value.slice x.a.p ps.length x.a.c)]) Tryz.call113 (fun w hw => cloneP_ok ps x.a (by omega) w (roMa (inS hw 3 rfl lx))) rfl fun cl1 hcl1 => mv' rfl (OkL.callL (S := S) (V := oxV) (LW := oxL (T := 45) (z := 3) (cs := rowsL t3L us) (n := us.length)) (args := [(Value.slice y.p us.length y.c)]) Tryz.call115 (fun w hw => cloneT_ok us y (by omega) w (inS hw 8 rfl ly)) rfl fun cl2 hcl2 => ck' Tryz.call114 (clipT_ok cl2.p us.length cl2.c cl2.ok.row.le) rfl (st' (v := (aG ([(Value.slice cl1.p ps.length cl1.c), (Value.slice cl2.p us.length us.length), (Value.slice none 0 0)]))) (ex_build_struct (zs := [(Value.slice none 0 0), (Value.slice none 0 0), (Value.slice none 0 0)]) (vs := [(Value.slice cl1.p ps.length cl1.c), (Value.slice cl2.p us.length us.length), (Value.slice none 0 0)]) (pv := [(0, (Value.slice cl1.p ps.length cl1.c)), (1, (Value.slice cl2.p us.length us.length))]) (places := [(0, 1), (1, 1), (2, 1)]) Tryz.zeroValue31 Tryz.underlying31 (fun w => by simp [Tryz.sizeOf27, Tryz.sizeOf28, Tryz.sizeOf29]) rfl rfl) rfl ?_)))
  refine al tZ31 rfl fun b4 => stW0' rfl Tryz.sizeOf31 rfl (q6 (sL [1, 2, 3, 6, 7, 8, 10] rfl) (q4 (mv' rfl (st' (v := (vN es.length)) (ex_len_slice rfl Tryz.underlying40) rfl ?_))))
  refine mv' rfl (OkL.nil (OkQ.then_ (OkC.block ?_)))
  refine OkC.lp3 (tg fun (i : Nat) (p1 : Option Addr) (c1 : Nat) => i ≤ es.length ∧ OwnOk p1 (ps.length + i) c1) (tg fun (i : Nat) (p1 : Option Addr) (c1 : Nat) => [(3, (pP b1 0)), (6, (pP b2 0)), (7, (Value.map (some b3))), (10, (pP b4 0)), (56, (Value.slice o.p es.length o.c)), (57, (vN es.length)), (58, (vN i))]) (tg fun (i : Nat) (p1 : Option Addr) (c1 : Nat) => [blk b4 31 ([(Value.slice p1 (ps.length + i) c1), (Value.slice cl2.p us.length us.length), (Value.slice none 0 0)]), rowW cl2.p 45 3 us.length cl2.c (rowsL t3L us), rowW p1 83 10 (ps.length + i) c1 (rowsL ptL (halN ps es i)), mapA b3 kEd vN (halS ps.length ss es i), blk b2 31 ([(Value.slice none 0 0), (Value.slice none 0 0), (Value.slice none 0 0)]), blk b1 31 (mxL x), rowR x.a.p (rowsL ptL ps), rowR x.b.p (rowsL t3L ts), rowR x.c.p (rowsL t3L ss), rowR o.p (rowsL e4L es), rowR y.p (rowsL t3L us)]) (tg fun (i : Nat) (p1 : Option Addr) (c1 : Nat) => es.length - i) 0 cl1.p cl1.c (⟨Nat.zero_le _, cl1.ok⟩) (sF rfl) sr (fun i p1 c1 hJ => ?_)
  obtain ⟨hi, ho⟩ := hJ
  refine q4 (st' (ex_lss (c := (decide (i < es.length))) rfl rfl (ltN (a := i) (b := es.length))) rfl (OkL.nil (q1 ?_)))
  refine OkC.cond rfl (fun hc2 => ?_) (fun hc2 => ?_)
  ·replace hc2 := of_decide_eq_true hc2
   obtain ⟨ed, hed⟩ : ∃ q, q = es.getD i (⟨0, 0, 0, 0⟩ : E4) := ⟨_, rfl⟩
   obtain ⟨hea, heb⟩ := hes ed (by rw [hed, List.getD, List.getElem?_eq_getElem hc2]; exact List.getElem_mem hc2)
   refine OkC.skip (q1 (OkC.block (q4 (st' (v := (pP (pB o.p) (pO o.p + i * 4))) (ex_index_row (j := i) rfl rfl o.ok Tryz.underlying40 Tryz.sizeOf44 rfl (by omega)) rfl (st' (v := (aG (e4L (es.getD i (⟨0, 0, 0, 0⟩ : E4))))) (ex_load_rowR_agg (vs := e4L (es.getD i (⟨0, 0, 0, 0⟩ : E4))) (i := 9) rfl rfl (RowOk.ne o.ok (by omega)) tA44 (rowsL_get e4L_len _ _ _ (by omega)) (e4L_len _)) rfl ?_)))))
   refine OkL.retell (k := 61) (u := (aG (e4L ed))) rfl (by rw [hed]) (al tZ44 rfl fun b5 => stW0' rfl Tryz.sizeOf44 rfl (q6 (sL [3, 6, 7, 10, 56, 57, 58, 12] rfl) (q4 (ldW' 6 tA31 rfl ?_))))
   refine st' (v := (pP b5 0)) (ex_fieldAddr rfl Tryz.underlying44 rfl Tryz.sizeOf3 rfl) rfl (ldO' 0 (vN ed.a) tO3 rfl (cl' (args := [(aG (mxL x)), (vN ed.a)]) (v := (Value.bool true)) Tryz.call112 (fun w hw => (by have h9 := rpoint_ok x ed.a w (inS hw 7 rfl lx); rw [decide_eq_true (by omega)] at h9; exact h9)) rfl (st' (ex_not (c := false) rfl rfl) rfl (mv' rfl (OkL.step (v := (aG (mxL x))) (wt_some' rfl) (ex_load_agg (i := 6) (vs := mxL x) rfl rfl tA31.a tA31.s rfl rfl) rfl (leB rfl) ?_)))))
   refine OkL.step (v := (pP b5 1)) (wt_some' rfl) (ex_fieldAddr rfl Tryz.underlying44 rfl Tryz.sizeOf3 rfl) rfl (leB rfl) (OkL.step (v := (vN ed.b)) (wt_some' rfl) (ex_load_one (i := 0) (v := (vN ed.b)) rfl rfl tO3.a rfl) rfl (leB rfl) (OkL.call (v := (Value.bool true)) (wt_some' rfl) (op_call0 (args := [(aG (mxL x)), (vN ed.b)]) rfl rfl Tryz.call112) (fun w hw => (by have h9 := rpoint_ok x ed.b w (inS hw 7 rfl lx); rw [decide_eq_true (by omega)] at h9; exact h9)) rfl (leB rfl) (OkL.step (v := (Value.bool false)) (wt_some' rfl) (ex_not (c := false) rfl rfl) rfl (leB rfl) (st' (v := (Value.bool false)) (ex_pick_false rfl rfl) rfl (OkL.nil ?_)))))
   refine OkQ.subF (sL [3, 6, 7, 10, 56, 57, 58, 12, 73] rfl) (OkQ.then_ (OkC.cond_false rfl (OkC.skip (q2 (st' (v := (pP b4 0)) (ex_fieldAddr rfl Tryz.underlying31 rfl Tryz.sizeOf27 rfl) rfl ?_)))))
   refine ldO' 1 (Value.slice p1 (ps.length + i) c1) tO27 rfl (st' (v := (vN (ps.length + i))) (ex_len_slice rfl Tryz.underlying27) rfl (asg' rfl (q6 (sL [3, 6, 7, 10, 56, 57, 58, 12, 13] rfl) (rC [(0, true), (1, true), (2, true), (3, true), (4, true), (5, true), (6, true), (7, true), (8, true), (9, true), (10, true), (11, true), (12, true), (13, true), (14, false), (15, false), (16, false), (17, true)] 18 [] (sk (sk (sk (sl sr)))) (sk (sl sr)) (by kernel_rfl) (fun _ _ d _ _ h => by cases d <;> exact h) (vE (v := (pP b4 0)) rfl (ex_fieldAddr rfl Tryz.underlying31 rfl Tryz.sizeOf27 rfl) rfl ?_)))))
   refine vE rfl (ex_load_one (i := 1) (v := (Value.slice p1 (ps.length + i) c1)) rfl rfl tO27.a rfl) rfl (vE (v := (pP b1 0)) rfl (ex_fieldAddr rfl Tryz.underlying31 rfl Tryz.sizeOf27 rfl) rfl (vE rfl (ex_load_one (i := 5) (v := (Value.slice x.a.p ps.length x.a.c)) rfl rfl tO27.a rfl) rfl (vE (v := (pP b5 0)) rfl (ex_fieldAddr rfl Tryz.underlying44 rfl Tryz.sizeOf3 rfl) rfl (vE rfl (ex_load_one (i := 0) (v := (vN ed.a)) rfl rfl tO3.a rfl) rfl (vE (v := (pP (pB x.a.p) (pO x.a.p + ed.a * 10))) rfl (ex_index_row (j := ed.a) rfl rfl x.a.ok Tryz.underlying27 Tryz.sizeOf83 rfl (by omega)) rfl ?_)))))
   refine vE (v := (aG (ptL (ps.getD ed.a (⟨0, 0⟩ : Pt))))) rfl (ex_load_rowR_agg (vs := ptL (ps.getD ed.a (⟨0, 0⟩ : Pt))) (i := 6) rfl rfl (RowOk.ne x.a.ok (by omega)) tA83 (rowsL_get ptL_len _ _ _ (by omega)) (ptL_len _)) rfl ?_
   have hz84 : SzP (ps.getD ed.a (⟨0, 0⟩ : Pt)) ≤ 1000000 := hz _
   refine vE (v := (pP b1 0)) rfl (ex_fieldAddr rfl Tryz.underlying31 rfl Tryz.sizeOf27 rfl) rfl (vE rfl (ex_load_one (i := 5) (v := (Value.slice x.a.p ps.length x.a.c)) rfl rfl tO27.a rfl) rfl (vE (v := (pP b5 1)) rfl (ex_fieldAddr rfl Tryz.underlying44 rfl Tryz.sizeOf3 rfl) rfl (vE rfl (ex_load_one (i := 0) (v := (vN ed.b)) rfl rfl tO3.a rfl) rfl (vE (v := (pP (pB x.a.p) (pO x.a.p + ed.b * 10))) rfl (ex_index_row (j := ed.b) rfl rfl x.a.ok Tryz.underlying27 Tryz.sizeOf83 rfl (by omega)) rfl (vE (v := (aG (ptL (ps.getD ed.b (⟨0, 0⟩ : Pt))))) rfl (ex_load_rowR_agg (vs := ptL (ps.getD ed.b (⟨0, 0⟩ : Pt))) (i := 6) rfl rfl (RowOk.ne x.a.ok (by omega)) tA83 (rowsL_get ptL_len _ _ _ (by omega)) (ptL_len _)) rfl ?_)))))
   have hz90 : SzP (ps.getD ed.b (⟨0, 0⟩ : Pt)) ≤ 1000000 := hz _
   refine OkF.imp rfl ?_
   have hz1 := SzP_add (ps.getD ed.a (⟨0, 0⟩ : Pt)) (ps.getD ed.b (⟨0, 0⟩ : Pt))
   have hz2 := SzP_scale ((ps.getD ed.a (⟨0, 0⟩ : Pt)) + (ps.getD ed.b (⟨0, 0⟩ : Pt))) (1 / 2)
   refine ck' Tryz.call116 (pMid_ok (ps.getD ed.a (⟨0, 0⟩ : Pt)) (ps.getD ed.b (⟨0, 0⟩ : Pt)) (by omega)) rfl (OkF.back (sk (sk (sk (sl sr)))) (OkF.imp rfl (OkL.openV (V := fun b6 => (Value.slice (some ⟨b6, 0, none⟩) 1 1)) (T := 83) (cs := ptL (scaleP ((ps.getD ed.a (⟨0, 0⟩ : Pt)) + (ps.getD ed.b (⟨0, 0⟩ : Pt))) (1 / 2))) (wt_none rfl) (op_buildSlice (z := .agg (ptL (⟨0, 0⟩ : Pt)).toArray) (cs := ptL (scaleP ((ps.getD ed.a (⟨0, 0⟩ : Pt)) + (ps.getD ed.b (⟨0, 0⟩ : Pt))) (1 / 2))) (pv := [(0, (aG (ptL (scaleP ((ps.getD ed.a (⟨0, 0⟩ : Pt)) + (ps.getD ed.b (⟨0, 0⟩ : Pt))) (1 / 2)))))]) Tryz.underlying27 Tryz.sizeOf83 Tryz.zeroValue83 (by decide) (by decide) rfl (tfs_numuc_83_1 (scaleP ((ps.getD ed.a (⟨0, 0⟩ : Pt)) + (ps.getD ed.b (⟨0, 0⟩ : Pt))) (1 / 2)))) rfl (leB rfl) fun b6 => OkF.back (sl (sk (sk (sk (sl sr))))) (OkF.imp rfl ?_))))
   refine OkL.appendAt 4 (j := 0) (cs2 := rowsL ptL ((halN ps es i) ++ [scaleP ((ps.getD ed.a (⟨0, 0⟩ : Pt)) + (ps.getD ed.b (⟨0, 0⟩ : Pt))) (1 / 2)])) tE27 rfl ho (by rw [rowsL_length ptL_len, halN_len]) rfl rfl rfl rfl rfl (by decide) (mxl (by omega)) (by omega) (by rw [rowsL_append]; rfl) rfl fun p_1 c_1 ho_1 hne_1 => OkF.back (sl (sk (sk (sk (sl sr))))) (vE (v := (pP b4 0)) rfl (ex_fieldAddr rfl Tryz.underlying31 rfl Tryz.sizeOf27 rfl) rfl (OkF.cut rfl (stX 2 (off := 0) (vs := [(Value.slice p_1 ((ps.length + i) + 1) c_1)]) (cs' := [(Value.slice p_1 ((ps.length + i) + 1) c_1), (Value.slice cl2.p us.length us.length), (Value.slice none 0 0)]) (wt_none rfl) rfl Tryz.sizeOf27 rfl (OkE.back (sl (sk (sl (sk (sl sr))))) ?_))))
   refine OkE.nil (OkQ.subF (sL [3, 6, 7, 10, 56, 57, 58, 12, 13] rfl) (q2 (mv' rfl (st' (v := (pP b5 0)) (ex_fieldAddr rfl Tryz.underlying44 rfl Tryz.sizeOf3 rfl) rfl (ldO' 1 (vN ed.a) tO3 rfl ?_)))))
   refine st' (v := (pP b5 1)) (ex_fieldAddr rfl Tryz.underlying44 rfl Tryz.sizeOf3 rfl) rfl (ldO' 1 (vN ed.b) tO3 rfl (ck' Tryz.call92 (rOf_ok ed.a ed.b) rfl (st' (v := (vN ((getM (halS ps.length ss es i) (min ed.a ed.b, max ed.a ed.b)).getD 0))) (ex_lookup keyOf 5 (eV := vN) (kvs := halS ps.length ss es i) (x := (min ed.a ed.b, max ed.a ed.b)) (z0 := 0) (co := false) rfl rfl Tryz.underlying171 Tryz.zeroValue3 rfl (halS_ok hes (by omega) _ (by omega)) (okE_ky (by omega) (by omega))) rfl (asg' rfl (OkL.nil ?_)))))
   refine OkQ.subF (sL [3, 6, 7, 10, 56, 57, 58, 12, 13, 14] rfl) (OkQ.then_ (rG' [(0, true), (1, true), (2, true), (3, true), (5, true), (6, true), (7, true), (8, true), (10, true), (11, true), (4, false), (9, false), (12, false), (13, true), (14, false), (15, false)] (sk (sk (sk (sk (sk (sl sr)))))) (pM' rfl (pE' (v := (pP b5 0)) rfl (ex_fieldAddr rfl Tryz.underlying44 rfl Tryz.sizeOf3 rfl) (pO'' 1 (vN ed.a) tO3 rfl ?_)))))
   refine pM' rfl (pM' rfl (pE' (v := (pP b5 1)) rfl (ex_fieldAddr rfl Tryz.underlying44 rfl Tryz.sizeOf3 rfl) (pO'' 1 (vN ed.b) tO3 rfl (pM' rfl (pM' rfl ?_)))))
   refine pM' rfl (OkE.imp rfl (ck' Tryz.call92 (rOf_ok ed.a (ps.length + i)) rfl (OkE.back (sk (sk (sk (sk (sk (sl sr)))))) (OkE.imp rfl (ck' Tryz.call92 (rOf_ok ed.b (ps.length + i)) rfl ?_)))))
   refine OkE.back (sk (sk (sk (sk (sk (sl sr)))))) (OkE.imp rfl (OkL.mapEntry keyOf 5 (kvs := halS ps.length ss es i) (x := (min ed.a (ps.length + i), max ed.a (ps.length + i))) (z0 := 0) (v := ((getM (halS ps.length ss es i) (min ed.a (ps.length + i), max ed.a (ps.length + i))).getD 0)) rfl rfl Tryz.underlying171 Tryz.zeroValue3 rfl (halS_ok hes (by omega) _ (by omega)) (okE_ky (by omega) (by omega)) rfl rfl (OkE.back (sk (sk (sk (sk (sk (sl sr)))))) (pE' rfl (ex_extract (v := (vN (findM (halS ps.length ss es i) (min ed.a (ps.length + i), max ed.a (ps.length + i))))) rfl rfl) (OkE.imp rfl ?_)))))
   refine OkL.entryStore 5 (kvs := halS ps.length ss es i) (x := (min ed.a (ps.length + i), max ed.a (ps.length + i))) (u := ((getM (halS ps.length ss es i) (min ed.a (ps.length + i), max ed.a (ps.length + i))).getD 0)) (y := (getM (halS ps.length ss es i) (min ed.a ed.b, max ed.a ed.b)).getD 0) rfl rfl rfl rfl (OkE.back (sk (sk (sk (sk (sk (sl sr)))))) (OkE.imp rfl (OkL.mapUpdate keyOf 5 (kvs := putM (halS ps.length ss es i) (min ed.a (ps.length + i), max ed.a (ps.length + i)) ((getM (halS ps.length ss es i) (min ed.a ed.b, max ed.a ed.b)).getD 0)) (x := (min ed.b (ps.length + i), max ed.b (ps.length + i))) (y := (getM (halS ps.length ss es i) (min ed.a ed.b, max ed.a ed.b)).getD 0) (wt_none rfl) rfl rfl rfl Tryz.underlying171 rfl ((halS_ok hes (by omega) _ (by omega)).put (okE_ky (by omega) (by omega))) (okE_ky (by omega) (by omega)) ?_)))
   rw [show putM (putM (halS ps.length ss es i) (min ed.a (ps.length + i), max ed.a (ps.length + i)) ((getM (halS ps.length ss es i) (min ed.a ed.b, max ed.a ed.b)).getD 0)) (min ed.b (ps.length + i), max ed.b (ps.length + i)) ((getM (halS ps.length ss es i) (min ed.a ed.b, max ed.a ed.b)).getD 0) = halS ps.length ss es (i + 1) from by rw [hed]; rfl]
   refine OkE.back (sk (sk (sk (sk (sk (sl sr)))))) (OkE.nil (OkQ.subF (sL [3, 6, 7, 10, 56, 57, 58, 12] rfl) (OkQ.in_normal (OkQ.then_ (OkC.region ?_)))))
   refine st' (ex_add (c := ((i + 1 : Nat) : Int)) rfl rfl (addN_i64 (a := i) (b := 1) (by omega))) rfl (mv' rfl (OkL.nil (OkQ.subF (sL [3, 6, 7, 10, 56, 57, 58, 12] rfl) ?_)))
   rw [hed, show halN ps es i ++ [scaleP (ps.getD (es.getD i (⟨0, 0, 0, 0⟩ : E4)).a (⟨0, 0⟩ : Pt) + ps.getD (es.getD i (⟨0, 0, 0, 0⟩ : E4)).b (⟨0, 0⟩ : Pt)) (1 / 2)] = halN ps es (i + 1) from rfl]
   exact OkQ.round3 (i + 1) p_1 c_1 (⟨by omega, ho_1⟩) (by omega) (sF rfl) (sl (sl sr))
  ·replace hc2 := of_decide_eq_false hc2
   have hie : i = es.length := by omega
   have hrl : (rimL us).length ≤ 3 * us.length := by have h1 := rimN_len (ts := us) (edL us).length; have h2 := edS_len (ts := us) (3 * us.length); rw [← edL_len] at h2; exact Nat.le_trans h1 h2
   refine OkC.exit (OkQ.then_exit (OkQ.round3_exit (OkQ.in_exit (q2 (st' (v := (pP b4 0)) (ex_fieldAddr rfl Tryz.underlying31 rfl Tryz.sizeOf27 rfl) rfl ?_)))))
   refine ldO' 0 (Value.slice p1 (ps.length + i) c1) tO27 rfl (ck' Tryz.call117 (clipP_ok p1 (ps.length + i) c1 ho.row.le) rfl (st' (v := (pP b4 0)) (ex_fieldAddr rfl Tryz.underlying31 rfl Tryz.sizeOf27 rfl) rfl (stX 0 (off := 0) (vs := [(Value.slice p1 (ps.length + i) (ps.length + i))]) (cs' := [(Value.slice p1 (ps.length + i) (ps.length + i)), (Value.slice cl2.p us.length us.length), (Value.slice none 0 0)]) (wt_none rfl) rfl Tryz.sizeOf27 rfl (q3 (sL [3, 6, 7, 10, 56, 57, 58] rfl) (st' (v := (pP b4 0)) (ex_fieldAddr rfl Tryz.underlying31 rfl Tryz.sizeOf27 rfl) rfl ?_)))))
   refine ldO' 0 (Value.slice p1 (ps.length + i) (ps.length + i)) tO27 rfl (st' (v := (pP b4 1)) (ex_fieldAddr rfl Tryz.underlying31 rfl Tryz.sizeOf28 rfl) rfl (ldO' 0 (Value.slice cl2.p us.length us.length) tO28 rfl (OkL.frzRow 1 rfl cl2.ok (rowsL_length t3L_len _) rfl rfl fun hn_cl2 => OkL.callL (S := S) (V := oxC) (LW := oxL (T := 66) (z := 3) (cs := rowsL t3L (rimL us)) (n := (rimL us).length)) (args := [(Value.slice p1 (ps.length + i) (ps.length + i)), (Value.slice cl2.p us.length us.length)]) Tryz.call118 (fun w hw => Rim_ok us ⟨cl2.p, us.length, cl2.ok.clip⟩ p1 (ps.length + i) (ps.length + i) (by rw [hie]; exact hu) (by omega) (by omega) w (inS hw 1 rfl (At.new hn_cl2))) rfl fun rm hrm => st' (v := (pP b4 2)) (ex_fieldAddr rfl Tryz.underlying31 rfl Tryz.sizeOf29 rfl) rfl ?_)))
   refine stX 1 (off := 2) (vs := [(Value.slice rm.p ((rimL us).length) ((rimL us).length))]) (cs' := [(Value.slice p1 (ps.length + i) (ps.length + i)), (Value.slice cl2.p us.length us.length), (Value.slice rm.p ((rimL us).length) ((rimL us).length))]) (wt_none rfl) rfl Tryz.sizeOf29 rfl (q6 (sL [3, 6, 7, 10, 56, 57, 58] rfl) (q4 (st' (v := (pP b4 2)) (ex_fieldAddr rfl Tryz.underlying31 rfl Tryz.sizeOf29 rfl) rfl (ldO' 1 (Value.slice rm.p ((rimL us).length) ((rimL us).length)) tO29 rfl (st' (v := (vN ((rimL us).length))) (ex_len_slice rfl Tryz.underlying29) rfl ?_)))))
   refine mv' rfl (OkL.nil (OkQ.subF (sL [3, 6, 7, 10, 56, 57, 58, 128, 129, 130] rfl) (OkQ.then_ (OkC.block ?_))))
   refine OkC.lp1 (tg fun (j : Nat) => j ≤ (rimL us).length) (tg fun (j : Nat) => [(6, (pP b2 0)), (7, (Value.map (some b3))), (10, (pP b4 0)), (128, (Value.slice rm.p ((rimL us).length) ((rimL us).length))), (129, (vN ((rimL us).length))), (130, (vN j))]) (tg fun (j : Nat) => [rowW rm.p 66 3 ((rimL us).length) rm.c (rowsL t3L (mrkN ps.length ss es (rimL us) j)), blk b4 31 ([(Value.slice p1 (ps.length + i) (ps.length + i)), (Value.slice cl2.p us.length us.length), (Value.slice rm.p ((rimL us).length) ((rimL us).length))]), rowR cl2.p (rowsL t3L us), rowW p1 83 10 (ps.length + i) c1 (rowsL ptL (halN ps es i)), mapA b3 kEd vN (halS ps.length ss es i), blk b2 31 ([(Value.slice none 0 0), (Value.slice none 0 0), (Value.slice none 0 0)]), blk b1 31 (mxL x), rowR x.a.p (rowsL ptL ps), rowR x.b.p (rowsL t3L ts), rowR x.c.p (rowsL t3L ss), rowR o.p (rowsL e4L es), rowR y.p (rowsL t3L us)]) (tg fun (j : Nat) => (rimL us).length - j) 0 (Nat.zero_le _) (sF rfl) sr (fun j hJ => ?_)
   have hj := hJ
   refine q4 (st' (ex_lss (c := (decide (j < ((rimL us).length)))) rfl rfl (ltN (a := j) (b := (rimL us).length))) rfl (OkL.nil (q1 ?_)))
   refine OkC.cond rfl (fun hc4 => ?_) (fun hc4 => ?_)
   ·replace hc4 := of_decide_eq_true hc4
    obtain ⟨sd2, hsd2⟩ : ∃ q, q = (rimL us).getD j (0, 0, 0) := ⟨_, rfl⟩
    have hml : (mrkN ps.length ss es (rimL us) j).length = (rimL us).length := mrkN_len
    obtain ⟨hs1, hs2⟩ := rimL_lt hu (by omega) (show sd2 ∈ rimL us from by rw [hsd2, List.getD, List.getElem?_eq_getElem hc4]; exact List.getElem_mem hc4)
    refine OkC.skip (q1 (OkC.block (q4 (mv' rfl (st' (v := (pP (pB rm.p) (pO rm.p + j * 3))) (ex_index_row (j := j) rfl rfl rm.ok.clip Tryz.underlying29 Tryz.sizeOf66 rfl (by omega)) rfl ?_)))))
    refine st' (v := (aG (t3L ((mrkN ps.length ss es (rimL us) j).getD j ((0, 0, 0) : Nat × Nat × Nat))))) (ex_load_rowW_agg (vs := t3L ((mrkN ps.length ss es (rimL us) j).getD j ((0, 0, 0) : Nat × Nat × Nat))) (i := 0) rfl rfl rm.ok (by rw [rowsL_length t3L_len, mrkN_len]) (RowOk.ne rm.ok.clip (by omega)) tA66 (rowsL_get t3L_len _ _ _ (by omega)) (t3L_len _)) rfl (OkL.retell (k := 134) (u := (aG (t3L sd2))) rfl (by rw [hsd2, mrkN_get (by omega)]) (al tZ66 rfl fun b5 => asg' rfl (stW0' rfl Tryz.sizeOf66 rfl (OkL.nil ?_))))
    refine OkQ.subF (sL [6, 7, 10, 128, 129, 130, 16, 15] rfl) (OkQ.then_ (rG' [(0, true), (1, true), (2, true), (3, true), (4, true), (5, true), (6, true), (7, true), (8, false), (9, true), (10, true), (11, true), (12, false)] (sk (sl sr)) (pE' (v := (pP b4 2)) rfl (ex_fieldAddr rfl Tryz.underlying31 rfl Tryz.sizeOf29 rfl) (pO'' 1 (Value.slice rm.p ((rimL us).length) ((rimL us).length)) tO29 rfl (pM' rfl ?_)))))
    refine pM' rfl (pE' (v := (pP b5 0)) rfl (ex_fieldAddr rfl Tryz.underlying66 rfl Tryz.sizeOf3 rfl) (pO'' 0 (vN sd2.1) tO3 rfl (pE' (v := (pP b5 1)) rfl (ex_fieldAddr rfl Tryz.underlying66 rfl Tryz.sizeOf3 rfl) (pO'' 0 (vN sd2.2.1) tO3 rfl (OkE.imp rfl ?_)))))
    refine ck' Tryz.call92 (rOf_ok sd2.1 sd2.2.1) rfl (OkE.back (sk (sl sr)) (pE' (v := (vN ((getM (halS ps.length ss es i) (min sd2.1 sd2.2.1, max sd2.1 sd2.2.1)).getD 0))) rfl (ex_lookup keyOf 4 (eV := vN) (kvs := halS ps.length ss es i) (x := (min sd2.1 sd2.2.1, max sd2.1 sd2.2.1)) (z0 := 0) (co := false) rfl rfl Tryz.underlying171 Tryz.zeroValue3 rfl (halS_ok hes (by omega) _ (by omega)) (okE_ky (by omega) (by omega))) (pE' (v := (pP (pB rm.p) (pO rm.p + j * 3))) rfl (ex_index_row (j := j) rfl rfl rm.ok.clip Tryz.underlying29 Tryz.sizeOf66 rfl (by omega)) (pE' (v := (pP (pB rm.p) (pO rm.p + (j * 3 + 2)))) rfl (ex_fieldAddr rfl Tryz.underlying66 rfl Tryz.sizeOf3 (Nat.add_assoc _ _ _)) (OkE.imp rfl ?_)))))
    refine OkL.storeObj 1 (enc := t3L) (j := j) (r := 2) (x' := (((mrkN ps.length ss es (rimL us) j).getD j ((0, 0, 0) : Nat × Nat × Nat)).1, ((mrkN ps.length ss es (rimL us) j).getD j ((0, 0, 0) : Nat × Nat × Nat)).2.1, (getM (halS ps.length ss es i) (min sd2.1 sd2.2.1, max sd2.1 sd2.2.1)).getD 0)) (vs := [(vN ((getM (halS ps.length ss es i) (min sd2.1 sd2.2.1, max sd2.1 sd2.2.1)).getD 0))]) ((0, 0, 0) : Nat × Nat × Nat) t3L_len rm.ok mrkN_len rfl rfl rfl (RowOk.ne rm.ok.clip (by omega)) (by omega) rfl Tryz.sizeOf3 rfl rfl (OkE.back (sk (sl sr)) (OkE.nil (OkQ.subF (sL [6, 7, 10, 128, 129, 130, 16] rfl) (OkQ.in_normal (OkQ.then_ ?_)))))
    refine OkC.region (st' (ex_add (c := ((j + 1 : Nat) : Int)) rfl rfl (addN_i64 (a := j) (b := 1) (by omega))) rfl (mv' rfl (OkL.nil (OkQ.subF (sL [6, 7, 10, 128, 129, 130, 16] rfl) ?_))))
    rw [mrkN_step (by omega) (by rw [hsd2, hie]; rfl)]
    exact OkQ.round1 (j + 1) (by omega) (by omega) (sF rfl) (sl sr)
   ·replace hc4 := of_decide_eq_false hc4
    refine OkC.exit (OkQ.then_exit (OkQ.round1_exit (OkQ.in_exit (q2 (ldW' 1 tA31 rfl ?_)))))
    exact stX 5 (off := 0) (vs := [(Value.slice p1 (ps.length + i) (ps.length + i)), (Value.slice cl2.p us.length us.length), (Value.slice rm.p ((rimL us).length) ((rimL us).length))]) (cs' := [(Value.slice p1 (ps.length + i) (ps.length + i)), (Value.slice cl2.p us.length us.length), (Value.slice rm.p ((rimL us).length) ((rimL us).length))]) (wt_none rfl) rfl Tryz.sizeOf31 rfl (OkL.nil (OkQ.subF (sL [6, 7, 10, 128, 129, 130] rfl) (OkQ.then_ (OkC.ret (ret_one rfl (rd_agg (i := 5) (cs := [(Value.slice p1 (ps.length + i) (ps.length + i)), (Value.slice cl2.p us.length us.length), (Value.slice rm.p ((rimL us).length) ((rimL us).length))]) rfl rfl Tryz.isAgg31 Tryz.sizeOf31 rfl) (fun w hw => (by rw [show halP ps es = halN ps es i from by rw [hie]; rfl, show halX ps.length ss es us = mrkN ps.length ss es (rimL us) j from by rw [show j = (rimL us).length from by omega, mrkN_all]; rfl]; exact retMX hw 3 2 0 rfl rfl rfl ho cl2.ok.clip hn_cl2 rm.ok (by rw [halN_len]) rfl (by rw [mrkN_len]) rfl)))))))
end
section
set_option maxRecDepth 100000
end
section
theorem t3_iff (a b : T3) : (((a.1 : Int) == (b.1 : Int)) && (((a.2.1 : Int) == (b.2.1 : Int)) && (((a.2.2 : Int) == (b.2.2 : Int)) && true))) = decide (a = b) := by
  obtain ⟨a1, a2, a3⟩ := a
  obtain ⟨b1, b2, b3⟩ := b
  rw [Bool.eq_iff_iff]
  simp
  constructor <;> (rintro ⟨h1, h2, h3⟩; refine ⟨?_, ?_, ?_⟩ <;> omega)
theorem eqB_t3 (D : Nat) (a b : T3) : EqB Tryz.prog (D + 2) 45 (.agg (t3L a).toArray) (.agg (t3L b).toArray) (decide (a = b)) := by
  rw [← t3_iff]
  exact EqB.array Tryz.underlying45 info_int cells_int (EqI.one Tryz.isAgg3 rfl rfl (EqB.int Tryz.underlying3) (EqI.one Tryz.isAgg3 rfl rfl (EqB.int Tryz.underlying3) (EqI.one Tryz.isAgg3 rfl rfl (EqB.int Tryz.underlying3) EqI.nil)))
theorem eqB_t3_t (D : Nat) {a b : T3} (h : a = b) : EqB Tryz.prog (D + 2) 45 (.agg (t3L a).toArray) (.agg (t3L b).toArray) true := by
  have := eqB_t3 D a b; rwa [decide_eq_true h] at this
theorem rowOk_lit (b n : Nat) : RowOk (some ⟨b, 0, none⟩) n n := ⟨fun e => (by cases e), fun a e => (by injection e with e; subst e; rfl), Nat.le_refl _⟩
theorem sz_all {ps : List Pt} {k : Nat} (h : (ps.all fun p => decide (SzP p ≤ k)) = true) (h0 : SzP (⟨0, 0⟩ : Pt) ≤ k) (i : Nat) : SzP (cor ps i) ≤ k := by
  unfold cor
  rcases Nat.lt_or_ge i ps.length with hi | hi
  · rw [List.getD, List.getElem?_eq_getElem hi]
    exact of_decide_eq_true (List.all_eq_true.1 h _ (List.getElem_mem hi))
  · rw [List.getD, List.getElem?_eq_none hi]; exact h0
theorem At.mx {w0 : Base} {S : Nat → Prop} {ps : List Pt} {ts ss : List T3} {x : MX ps ts ss} (h1 : At w0 S x.a) (h2 : At w0 S x.b) (h3 : At w0 S x.c) : At w0 S x := fun y hy b e => by
  have hy : y ∈ [x.a.row, x.b.row, x.c.row] := hy
  simp only [List.mem_cons, List.not_mem_nil, or_false] at hy
  rcases hy with rfl | rfl | rfl
  · exact h1 _ List.mem_cons_self b e
  · exact h2 _ List.mem_cons_self b e
  · exact h3 _ List.mem_cons_self b e
section
variable {P : Program} {ops : Array Oper} {rest : List Oper} {Q : Exit → Act → World → Prop} {n : Nat} {F : List (Nat × Value)} {w0 : Base} {S : Nat → Prop} {L : List As} {ps : List Pt} {ts ss : List T3}
theorem new_of {w : World} {i b : Nat} {T : TypeId} {cs : List Value} (hw : Own w0 w L) (hi : L[i]? = some (blk b T cs)) (hex : w0.ex = none) : w0.w.heap.size ≤ b := by
  rcases (hw.2.1 _ (List.mem_of_getElem? hi) b rfl).1 with h1 | h1 | h1
  · cases h1
  · exact h1
  · rw [hex] at h1; cases h1
theorem OkL.litM2 {b1 b2 U1 U2 : Nat} {cs1 cs2 : List Value} (LL : MX ps ts [] → List As) (i j : Nat) (hn : i ≠ j) (h1 : L[i]? = some (blk b1 U1 cs1)) (h2 : L[j]? = some (blk b2 U2 cs2)) (hex : w0.ex = none)
    (e : (cs1, cs2) = (rowsL ptL ps, rowsL t3L ts))
    (hL : rowR none (rowsL t3L []) :: (L.set i (rowR (some ⟨b1, 0, none⟩) cs1)).set j (rowR (some ⟨b2, 0, none⟩) cs2) = LL ⟨⟨some ⟨b1, 0, none⟩, ps.length, rowOk_lit _ _⟩, ⟨some ⟨b2, 0, none⟩, ts.length, rowOk_lit _ _⟩, ⟨none, 0, OwnOk.none.row⟩⟩)
    (next : ∀ mm : MX ps ts [], At w0 S mm → OkL P ops rest Q n F w0 (LL mm)) : OkL P ops rest Q n F w0 L := fun a w ha hw => by
  have n1 := new_of hw h1 hex
  have n2 := new_of hw h2 hex
  have w1 := hw.freeze (x := blk b1 U1 cs1) (y := rowR (some ⟨b1, 0, none⟩) cs1) h1 rfl (fun o hp => lies_blkB hp) (fun e => by cases e)
  have w2 := w1.freeze (i := j) (x := blk b2 U2 cs2) (y := rowR (some ⟨b2, 0, none⟩) cs2) (by rw [List.getElem?_set_ne hn]; exact h2) rfl (fun o hp => lies_blkB hp) (fun e => by cases e)
  have w3 := w2.addRo (a := rowR none (rowsL t3L [])) (Bel.refl _ _) rfl (fun b e => by cases e) (fun b e => by cases e)
  rw [hL] at w3
  refine next _ (fun y hy b eb => ?_) a w ha w3
  have hy : y ∈ [rowR (some ⟨b1, 0, none⟩) (rowsL ptL ps), rowR (some ⟨b2, 0, none⟩) (rowsL t3L ts), rowR none (rowsL t3L [])] := hy
  simp only [List.mem_cons, List.not_mem_nil, or_false] at hy
  rcases hy with rfl | rfl | rfl
  · injection eb with eb; subst eb; exact .inl (by assumption)
  · injection eb with eb; subst eb; exact .inl (by assumption)
  · cases eb
end
theorem inX {α : Type} [Ref α] {w0 : Base} {w : World} {S : Nat → Prop} {L : List As} (hw : Own w0 w L) (is : List Nat) {a : α} (hi : (is.map fun i => L[i]?) = (Ref.rows a).map some) (ha : At w0 S a) : Ro (SL w0 S L) w a := fun y hy => by
  have h1 : some y ∈ (is.map fun i => L[i]?) := by rw [hi]; exact List.mem_map.2 ⟨y, hy, rfl⟩
  obtain ⟨i, _, h2⟩ := List.mem_map.1 h1
  have hm := List.mem_of_getElem? h2
  exact ⟨fun b e => (hw.2.1 y hm b e).2, fun b e => ⟨⟨y, hm, Ref.ro a y hy, e⟩, ha y hy b e⟩⟩
end
section
abbrev M3 := List Pt × List T3 × List T3
def limM (M : M3) : Prop := M.1.length + (edL M.2.1).length ≤ 4096 ∧ 4 * M.2.1.length ≤ 8192
instance (M : M3) : Decidable (limM M) := inferInstanceAs (Decidable (_ ∧ _))
theorem edL_le (ts : List T3) : (edL ts).length ≤ 3 * ts.length := by rw [edL_len]; exact edS_len _
structure TmX (ps : List Pt) (ts ss : List T3) (e : Nat) where
  m : MX ps ts ss
instance {ps : List Pt} {ts ss : List T3} {e : Nat} : Ref (TmX ps ts ss e) := ⟨fun x => .tuple #[aG (mxL x.m), vN e], fun x => Ref.rows x.m, fun x y hy => Ref.ro x.m y hy⟩
section
variable {P : Program} {ops : Array Oper} {rest : List Oper} {Q : Exit → Act → World → Prop} {n d : Nat} {F : List (Nat × Value)} {w0 : Base} {S : Nat → Prop} {L : List As} {t : TypeId} {p : String} {af : Array Edge} {y : Operand} {f : FuncId} {xs : List Operand} {args : List Value} {tys : Array TypeId} {ps : List Pt} {ts ss : List T3} {e : Nat}
end
def badL (ts : List T3) : List Value := vI (-1) :: vN 0 :: vN 1 :: rowsL t3L ts
structure MB (ps : List Pt) (ts ss : List T3) where
  a : RX (rowsL ptL ps) ps.length
  b : RX (badL ts) (1 + ts.length)
  c : RX (rowsL t3L ss) ss.length
def mbL {ps : List Pt} {ts ss : List T3} (x : MB ps ts ss) : List Value := [x.a.val, x.b.val, x.c.val]
theorem mb_ro {ps : List Pt} {ts ss : List T3} {x : MB ps ts ss} {y : As} (hy : y ∈ [x.a.row, x.b.row, x.c.row]) : y.ro = true := by
  simp only [List.mem_cons, List.not_mem_nil, or_false] at hy
  rcases hy with rfl | rfl | rfl <;> rfl
instance {ps : List Pt} {ts ss : List T3} : Ref (MB ps ts ss) := ⟨fun x => aG (mbL x), fun x => [x.a.row, x.b.row, x.c.row], fun x y hy => mb_ro hy⟩
end
end Go.Proofs.YtgiacpkjnikjdaaGreat
