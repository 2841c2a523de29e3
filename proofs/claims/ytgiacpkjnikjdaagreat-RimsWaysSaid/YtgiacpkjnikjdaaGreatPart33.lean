import Derived.Test.YtgiacpkjnikjdaaGreatPart06
import Derived.Test.YtgiacpkjnikjdaaGreatPart15
import Derived.Test.YtgiacpkjnikjdaaGreatPart22
import Derived.Test.YtgiacpkjnikjdaaGreatPart29
import Derived.Test.YtgiacpkjnikjdaaGreatPart31
import Derived.Test.YtgiacpkjnikjdaaGreatPart32
namespace Go.Proofs.YtgiacpkjnikjdaaGreat
open Go Go.RowKit
set_option linter.unusedVariables false
set_option linter.unusedSimpArgs false
section
set_option maxRecDepth 100000
theorem keyRim : KeyE Tryz.prog 244 kEd okE where
 law := .of_law (deep_law_laid laidB (m := 2) (by decide) (by decide +kernel) (by kernel_rfl) (by kernel_rfl))
 key := fun a h => keyOf_two Tryz.underlying244 ⟨rfl, rfl⟩ ⟨rfl, rfl⟩ (by decide +kernel) Tryz.underlying3 (by kernel_rfl) (by kernel_rfl) (by kernel_rfl) (by decide +kernel) (wf_nat h.1) (wf_nat h.2)
 inj := fun a b h => posL_inj h
theorem tfs_numub_66_1 (x0 : Nat × Nat × Nat) : Instr.fill (fun i => some (i * 3, 3)) ((Array.range (1 * 3)).map ((Value.agg (t3L ((0, 0, 0) : Nat × Nat × Nat)).toArray).cells[· % (Value.agg (t3L ((0, 0, 0) : Nat × Nat × Nat)).toArray).cells.size]!)) [(0, .agg (t3L x0).toArray)] = some (t3L x0).toArray := by kernel_rfl
set_option maxHeartbeats 4000000 in
theorem Rim_ok (ts : List T3) (x : RX (rowsL t3L ts) ts.length) (pp : Option Addr) (N pc : Nat) (hn : numB N ts = true) (hN : N ≤ 4611686018427387904) (hl : ts.length ≤ 1000000000) (w : World) {S : Nat → Prop} (hx : Ro S w x) : Calls Tryz.prog 118 #[(Value.slice pp N pc), (Value.slice x.p ts.length x.c)] w (GivesL oxC (oxL (T := 66) (z := 3) (cs := rowsL t3L (rimL ts)) (n := (rimL ts).length)) S w) := by
 have lx := atA (W := w) hx
 refine calls_ofR (args := [(Value.slice pp N pc), (Value.slice x.p ts.length x.c)]) (L := [rowR x.p (rowsL t3L ts)]) Tryz.func118 rfl rfl (leB rfl) (sxA hx roL_nil) (OkC.subF (sL [0, 1] rfl) (q4 (asg' rfl (OkL.nil (q1 ?_)))))
 refine q4 (mv' rfl (mv' rfl (st' (v := (vN N)) (ex_len_slice rfl Tryz.underlying27) rfl (cl' (args := [(Value.slice x.p ts.length x.c), (vN N)]) (v := (Value.bool true)) Tryz.call109 (fun w hw => (by have h9 := numd_ok N ts x (by omega) w (inS hw 0 rfl lx); rw [hn] at h9; exact h9)) rfl (st' (ex_not (c := false) rfl rfl) rfl ?_)))))
 refine OkL.nil (OkQ.subF (sL [1, 4, 18] rfl) (OkQ.then_ (OkC.cond_false rfl (OkC.skip (q2 ?_)))))
 refine OkL.makeMap kEd vN (wt_none rfl) rfl fun b1 => asg' rfl (q6 (sL [1, 4, 5] rfl) (q4 (mv' rfl (st' (v := (vN ts.length)) (ex_len_slice rfl Tryz.underlying28) rfl ?_))))
 refine mv' rfl (OkL.nil (OkQ.then_ (OkC.block ?_)))
 refine OkC.lp1 (tg fun (t : Nat) => t ≤ ts.length) (tg fun (t : Nat) => [(1, (Value.slice x.p ts.length x.c)), (4, (Value.slice none 0 0)), (5, (Value.map (some b1))), (20, (Value.slice x.p ts.length x.c)), (21, (vN ts.length)), (22, (vN t))]) (tg fun (t : Nat) => [mapA b1 kEd vN (manS ts (3 * t + 0)), rowR x.p (rowsL t3L ts)]) (tg fun (t : Nat) => ts.length - t) 0 (Nat.zero_le _) (sF rfl) sr (fun t hJ => ?_)
 have ht := hJ
 refine q4 (st' (ex_lss (c := (decide (t < ts.length))) rfl rfl (ltN (a := t) (b := ts.length))) rfl (OkL.nil (q1 ?_)))
 refine OkC.cond rfl (fun hc1 => ?_) (fun hc1 => ?_)
 ·replace hc1 := of_decide_eq_true hc1
  obtain ⟨T, hT⟩ : ∃ q, q = ts.getD t (0, 0, 0) := ⟨_, rfl⟩
  obtain ⟨g1, g2, g3⟩ := okT_spec (numB_at hn hc1)
  rw [← hT] at g1 g2 g3
  refine OkC.skip (q1 (OkC.block (q4 (st' (v := (pP (pB x.p) (pO x.p + t * 3))) (ex_index_row (j := t) rfl rfl x.ok Tryz.underlying28 Tryz.sizeOf45 rfl (by omega)) rfl (st' (v := (aG (t3L (ts.getD t ((0, 0, 0) : Nat × Nat × Nat))))) (ex_load_rowR_agg (vs := t3L (ts.getD t ((0, 0, 0) : Nat × Nat × Nat))) (i := 1) rfl rfl (RowOk.ne x.ok (by omega)) tA45 (rowsL_get t3L_len _ _ _ (by omega)) (t3L_len _)) rfl ?_)))))
  refine OkL.retell (k := 25) (u := (aG (t3L T))) rfl (by rw [hT]) (al tZ45 rfl fun b2 => stW0' rfl Tryz.sizeOf45 rfl (q3 (sL [1, 4, 5, 20, 21, 22, 7] rfl) (mv' rfl (OkL.nil ?_))))
  refine OkQ.then_ (OkC.block (OkC.unroll 4 (OkR.step (q4 (st' (ex_lss (c := true) rfl rfl (by decide)) rfl ?_)))))
  refine OkL.nil (q1 (OkC.cond_true rfl (OkC.skip (q1 (OkC.block ?_)))))
  refine q4 (mv' rfl (asg' rfl (q6 (sL [1, 4, 5, 20, 21, 22, 7, 26, 8] rfl) (rG' [(0, true), (1, true), (2, true), (3, true), (4, true), (5, true), (6, true), (7, true), (8, true), (9, true)] sr (pM' rfl ?_)))))
  refine pE' (v := (pP b2 0)) rfl (ex_indexAddr_array (j := 0) rfl rfl Tryz.underlying45 Tryz.sizeOf3 rfl (by decide) rfl) (pO'' 0 (vN T.1) tO3 rfl (pM' rfl (pE' rfl (ex_add (c := (1 : Int)) rfl rfl (by decide)) (pE' rfl (ex_rem (c := (1 : Int)) rfl rfl (by decide) (by decide)) (pE' (v := (pP b2 1)) rfl (ex_indexAddr_array (j := 1) rfl rfl Tryz.underlying45 Tryz.sizeOf3 rfl (by decide) rfl) ?_)))))
  refine pO'' 0 (vN T.2.1) tO3 rfl (pS' rfl (pS' rfl (OkE.nil (OkQ.subF (sL [1, 4, 5, 20, 21, 22, 7, 26, 9, 10] rfl) (OkQ.then_ ?_)))))
  obtain ⟨vq1, hvq1⟩ : ∃ q, q = (getM (manS ts (3 * t + 0)) ((min T.1 T.2.1, max T.1 T.2.1) : P2)).getD 0 := ⟨_, rfl⟩
  refine rCW [(0, true), (1, true), (2, true), (3, true), (4, true), (5, true), (6, true), (7, true), (8, true), (9, true), (10, false), (11, true)] 12 [] (wkB 1 (x := ((min T.1 T.2.1, max T.1 T.2.1) : P2)) (v := vq1) rfl rfl) (List.nil_sublist _) (by kernel_rfl) (fun _ _ d _ _ h => by cases d <;> exact h) (vM rfl rfl rfl (vM rfl rfl rfl (vM rfl rfl rfl (vE rfl (ex_min (c := ((min T.1 T.2.1 : Nat) : Int)) rfl rfl (by split <;> omega)) rfl (vM rfl rfl rfl ?_)))))
  refine vM rfl rfl rfl (vE rfl (ex_max (c := ((max T.1 T.2.1 : Nat) : Int)) rfl rfl (by split <;> omega)) rfl (vE (v := (aG ([(vN (min T.1 T.2.1)), (vN (max T.1 T.2.1))]))) rfl (ex_build_struct (zs := posL ((0, 0) : P2)) (vs := [(vN (min T.1 T.2.1)), (vN (max T.1 T.2.1))]) (pv := [(0, (vN (min T.1 T.2.1))), (1, (vN (max T.1 T.2.1)))]) (places := [(0, 1), (1, 1)]) Tryz.zeroValue244 Tryz.underlying244 (fun w => by simp [Tryz.sizeOf3]) rfl rfl) rfl (vE (v := (vN vq1)) rfl (ex_lookupB keyRim 1 (kvs := manS ts (3 * t + 0)) (x := ((min T.1 T.2.1, max T.1 T.2.1) : P2)) (z0 := 0) rfl rfl Tryz.underlying243 Tryz.zeroValue3 rfl (manS_ok hn hN _ (by omega)) (okE_ky (by omega) (by omega)) hvq1) rfl ?_)))
  have hmq := manS_le (ts := ts) (3 * t + 0) ((min T.1 T.2.1, max T.1 T.2.1) : P2)
  refine vE rfl (ex_add (c := ((vq1 + 1 : Nat) : Int)) rfl rfl (addN_i64 (a := vq1) (b := 1) (by omega))) rfl (OkF.imp rfl (OkL.mapEntry keyRim 1 (kvs := manS ts (3 * t + 0)) (x := ((min T.1 T.2.1, max T.1 T.2.1) : P2)) (z0 := 0) (v := vq1) rfl rfl Tryz.underlying243 Tryz.zeroValue3 rfl (manS_ok hn hN _ (by omega)) (okE_ky (by omega) (by omega)) hvq1 rfl (OkF.backW (wkB' 1 rfl rfl) (vE rfl (ex_extract (v := (vN (findM (manS ts (3 * t + 0)) ((min T.1 T.2.1, max T.1 T.2.1) : P2)))) rfl rfl) rfl (OkF.cut rfl ?_)))))
  refine OkL.entryStore 1 (kvs := manS ts (3 * t + 0)) (x := ((min T.1 T.2.1, max T.1 T.2.1) : P2)) (u := vq1) (y := vq1 + 1) rfl rfl rfl rfl ?_
  rw [show putM (manS ts (3 * t + 0)) ((min T.1 T.2.1, max T.1 T.2.1) : P2) (vq1 + 1) = manS ts (3 * t + 1) from by rw [hvq1, hT]; exact (manS_succ (ts := ts) (t := t) (i := 0) (by omega)).symm]
  refine OkE.back (List.nil_sublist _) (OkE.nil (OkQ.subF (sL [1, 4, 5, 20, 21, 22, 7, 26] rfl) (OkQ.in_normal (OkQ.then_ (OkC.region ?_)))))
  refine st' (ex_add (c := (1 : Int)) rfl rfl (by decide)) rfl (mv' rfl (OkL.nil (OkQ.subF (sL [1, 4, 5, 20, 21, 22, 7, 26] rfl) (OkQ.again (OkR.step ?_)))))
  refine q4 (st' (ex_lss (c := true) rfl rfl (by decide)) rfl (OkL.nil (q1 (OkC.cond_true rfl (OkC.skip ?_)))))
  refine q1 (OkC.block (q4 (mv' rfl (asg' rfl (q6 (sL [1, 4, 5, 20, 21, 22, 7, 26, 8] rfl) ?_)))))
  refine rG' [(0, true), (1, true), (2, true), (3, true), (4, true), (5, true), (6, true), (7, true), (8, true), (9, true)] sr (pM' rfl (pE' (v := (pP b2 1)) rfl (ex_indexAddr_array (j := 1) rfl rfl Tryz.underlying45 Tryz.sizeOf3 rfl (by decide) rfl) (pO'' 0 (vN T.2.1) tO3 rfl (pM' rfl (pE' rfl (ex_add (c := (2 : Int)) rfl rfl (by decide)) ?_)))))
  refine pE' rfl (ex_rem (c := (2 : Int)) rfl rfl (by decide) (by decide)) (pE' (v := (pP b2 2)) rfl (ex_indexAddr_array (j := 2) rfl rfl Tryz.underlying45 Tryz.sizeOf3 rfl (by decide) rfl) (pO'' 0 (vN T.2.2) tO3 rfl (pS' rfl (pS' rfl (OkE.nil ?_)))))
  refine OkQ.subF (sL [1, 4, 5, 20, 21, 22, 7, 26, 9, 10] rfl) (OkQ.then_ ?_)
  obtain ⟨vq2, hvq2⟩ : ∃ q, q = (getM (manS ts (3 * t + 1)) ((min T.2.1 T.2.2, max T.2.1 T.2.2) : P2)).getD 0 := ⟨_, rfl⟩
  refine rCW [(0, true), (1, true), (2, true), (3, true), (4, true), (5, true), (6, true), (7, true), (8, true), (9, true), (10, false), (11, true)] 12 [] (wkB 1 (x := ((min T.2.1 T.2.2, max T.2.1 T.2.2) : P2)) (v := vq2) rfl rfl) (List.nil_sublist _) (by kernel_rfl) (fun _ _ d _ _ h => by cases d <;> exact h) (vM rfl rfl rfl (vM rfl rfl rfl (vM rfl rfl rfl (vE rfl (ex_min (c := ((min T.2.1 T.2.2 : Nat) : Int)) rfl rfl (by split <;> omega)) rfl (vM rfl rfl rfl ?_)))))
  refine vM rfl rfl rfl (vE rfl (ex_max (c := ((max T.2.1 T.2.2 : Nat) : Int)) rfl rfl (by split <;> omega)) rfl (vE (v := (aG ([(vN (min T.2.1 T.2.2)), (vN (max T.2.1 T.2.2))]))) rfl (ex_build_struct (zs := posL ((0, 0) : P2)) (vs := [(vN (min T.2.1 T.2.2)), (vN (max T.2.1 T.2.2))]) (pv := [(0, (vN (min T.2.1 T.2.2))), (1, (vN (max T.2.1 T.2.2)))]) (places := [(0, 1), (1, 1)]) Tryz.zeroValue244 Tryz.underlying244 (fun w => by simp [Tryz.sizeOf3]) rfl rfl) rfl (vE (v := (vN vq2)) rfl (ex_lookupB keyRim 1 (kvs := manS ts (3 * t + 1)) (x := ((min T.2.1 T.2.2, max T.2.1 T.2.2) : P2)) (z0 := 0) rfl rfl Tryz.underlying243 Tryz.zeroValue3 rfl (manS_ok hn hN _ (by omega)) (okE_ky (by omega) (by omega)) hvq2) rfl ?_)))
  have hmq := manS_le (ts := ts) (3 * t + 1) ((min T.2.1 T.2.2, max T.2.1 T.2.2) : P2)
  refine vE rfl (ex_add (c := ((vq2 + 1 : Nat) : Int)) rfl rfl (addN_i64 (a := vq2) (b := 1) (by omega))) rfl (OkF.imp rfl (OkL.mapEntry keyRim 1 (kvs := manS ts (3 * t + 1)) (x := ((min T.2.1 T.2.2, max T.2.1 T.2.2) : P2)) (z0 := 0) (v := vq2) rfl rfl Tryz.underlying243 Tryz.zeroValue3 rfl (manS_ok hn hN _ (by omega)) (okE_ky (by omega) (by omega)) hvq2 rfl (OkF.backW (wkB' 1 rfl rfl) (vE rfl (ex_extract (v := (vN (findM (manS ts (3 * t + 1)) ((min T.2.1 T.2.2, max T.2.1 T.2.2) : P2)))) rfl rfl) rfl (OkF.cut rfl ?_)))))
  refine OkL.entryStore 1 (kvs := manS ts (3 * t + 1)) (x := ((min T.2.1 T.2.2, max T.2.1 T.2.2) : P2)) (u := vq2) (y := vq2 + 1) rfl rfl rfl rfl ?_
  rw [show putM (manS ts (3 * t + 1)) ((min T.2.1 T.2.2, max T.2.1 T.2.2) : P2) (vq2 + 1) = manS ts (3 * t + 2) from by rw [hvq2, hT]; exact (manS_succ (ts := ts) (t := t) (i := 1) (by omega)).symm]
  refine OkE.back (List.nil_sublist _) (OkE.nil (OkQ.subF (sL [1, 4, 5, 20, 21, 22, 7, 26] rfl) (OkQ.in_normal (OkQ.then_ (OkC.region ?_)))))
  refine st' (ex_add (c := (2 : Int)) rfl rfl (by decide)) rfl (mv' rfl (OkL.nil (OkQ.subF (sL [1, 4, 5, 20, 21, 22, 7, 26] rfl) (OkQ.again (OkR.step ?_)))))
  refine q4 (st' (ex_lss (c := true) rfl rfl (by decide)) rfl (OkL.nil (q1 (OkC.cond_true rfl (OkC.skip ?_)))))
  refine q1 (OkC.block (q4 (mv' rfl (asg' rfl (q6 (sL [1, 4, 5, 20, 21, 22, 7, 26, 8] rfl) ?_)))))
  refine rG' [(0, true), (1, true), (2, true), (3, true), (4, true), (5, true), (6, true), (7, true), (8, true), (9, true)] sr (pM' rfl (pE' (v := (pP b2 2)) rfl (ex_indexAddr_array (j := 2) rfl rfl Tryz.underlying45 Tryz.sizeOf3 rfl (by decide) rfl) (pO'' 0 (vN T.2.2) tO3 rfl (pM' rfl (pE' rfl (ex_add (c := (3 : Int)) rfl rfl (by decide)) ?_)))))
  refine pE' rfl (ex_rem (c := (0 : Int)) rfl rfl (by decide) (by decide)) (pE' (v := (pP b2 0)) rfl (ex_indexAddr_array (j := 0) rfl rfl Tryz.underlying45 Tryz.sizeOf3 rfl (by decide) rfl) (pO'' 0 (vN T.1) tO3 rfl (pS' rfl (pS' rfl (OkE.nil ?_)))))
  refine OkQ.subF (sL [1, 4, 5, 20, 21, 22, 7, 26, 9, 10] rfl) (OkQ.then_ ?_)
  obtain ⟨vq3, hvq3⟩ : ∃ q, q = (getM (manS ts (3 * t + 2)) ((min T.2.2 T.1, max T.2.2 T.1) : P2)).getD 0 := ⟨_, rfl⟩
  refine rCW [(0, true), (1, true), (2, true), (3, true), (4, true), (5, true), (6, true), (7, true), (8, true), (9, true), (10, false), (11, true)] 12 [] (wkB 1 (x := ((min T.2.2 T.1, max T.2.2 T.1) : P2)) (v := vq3) rfl rfl) (List.nil_sublist _) (by kernel_rfl) (fun _ _ d _ _ h => by cases d <;> exact h) (vM rfl rfl rfl (vM rfl rfl rfl (vM rfl rfl rfl (vE rfl (ex_min (c := ((min T.2.2 T.1 : Nat) : Int)) rfl rfl (by split <;> omega)) rfl (vM rfl rfl rfl ?_)))))
  refine vM rfl rfl rfl (vE rfl (ex_max (c := ((max T.2.2 T.1 : Nat) : Int)) rfl rfl (by split <;> omega)) rfl (vE (v := (aG ([(vN (min T.2.2 T.1)), (vN (max T.2.2 T.1))]))) rfl (ex_build_struct (zs := posL ((0, 0) : P2)) (vs := [(vN (min T.2.2 T.1)), (vN (max T.2.2 T.1))]) (pv := [(0, (vN (min T.2.2 T.1))), (1, (vN (max T.2.2 T.1)))]) (places := [(0, 1), (1, 1)]) Tryz.zeroValue244 Tryz.underlying244 (fun w => by simp [Tryz.sizeOf3]) rfl rfl) rfl (vE (v := (vN vq3)) rfl (ex_lookupB keyRim 1 (kvs := manS ts (3 * t + 2)) (x := ((min T.2.2 T.1, max T.2.2 T.1) : P2)) (z0 := 0) rfl rfl Tryz.underlying243 Tryz.zeroValue3 rfl (manS_ok hn hN _ (by omega)) (okE_ky (by omega) (by omega)) hvq3) rfl ?_)))
  have hmq := manS_le (ts := ts) (3 * t + 2) ((min T.2.2 T.1, max T.2.2 T.1) : P2)
  refine vE rfl (ex_add (c := ((vq3 + 1 : Nat) : Int)) rfl rfl (addN_i64 (a := vq3) (b := 1) (by omega))) rfl (OkF.imp rfl (OkL.mapEntry keyRim 1 (kvs := manS ts (3 * t + 2)) (x := ((min T.2.2 T.1, max T.2.2 T.1) : P2)) (z0 := 0) (v := vq3) rfl rfl Tryz.underlying243 Tryz.zeroValue3 rfl (manS_ok hn hN _ (by omega)) (okE_ky (by omega) (by omega)) hvq3 rfl (OkF.backW (wkB' 1 rfl rfl) (vE rfl (ex_extract (v := (vN (findM (manS ts (3 * t + 2)) ((min T.2.2 T.1, max T.2.2 T.1) : P2)))) rfl rfl) rfl (OkF.cut rfl ?_)))))
  refine OkL.entryStore 1 (kvs := manS ts (3 * t + 2)) (x := ((min T.2.2 T.1, max T.2.2 T.1) : P2)) (u := vq3) (y := vq3 + 1) rfl rfl rfl rfl ?_
  rw [show putM (manS ts (3 * t + 2)) ((min T.2.2 T.1, max T.2.2 T.1) : P2) (vq3 + 1) = manS ts (3 * t + 3) from by rw [hvq3, hT]; exact (manS_succ (ts := ts) (t := t) (i := 2) (by omega)).symm]
  refine OkE.back (List.nil_sublist _) (OkE.nil (OkQ.subF (sL [1, 4, 5, 20, 21, 22, 7, 26] rfl) (OkQ.in_normal (OkQ.then_ (OkC.region ?_)))))
  refine st' (ex_add (c := (3 : Int)) rfl rfl (by decide)) rfl (mv' rfl (OkL.nil (OkQ.subF (sL [1, 4, 5, 20, 21, 22, 7, 26] rfl) (OkQ.again (OkR.step ?_)))))
  refine q4 (st' (ex_lss (c := false) rfl rfl (by decide)) rfl (OkL.nil (q1 (OkC.cond_false rfl (OkC.exit ?_)))))
  refine OkQ.then_exit (OkQ.then_exit (OkQ.in_exit (OkQ.in_normal (OkQ.then_ (OkC.region ?_)))))
  refine st' (ex_add (c := ((t + 1 : Nat) : Int)) rfl rfl (addN_i64 (a := t) (b := 1) (by omega))) rfl (mv' rfl (OkL.nil (OkQ.subF (sL [1, 4, 5, 20, 21, 22, 7, 26] rfl) ?_)))
  rw [show 3 * t + 3 = 3 * (t + 1) + 0 by omega]
  exact OkQ.round1 (t + 1) (by omega) (by omega) (sF rfl) (sl sr)
 ·replace hc1 := of_decide_eq_false hc1
  have htl : t = ts.length := by omega
  refine OkC.exit (OkQ.then_exit (OkQ.round1_exit (OkQ.in_exit (q2 (asg' rfl ?_)))))
  refine OkL.nilRow 66 3 (OkL.nil (q1 (q4 (mv' rfl ?_))))
  rw [show manS ts (3 * t + 0) = (manS ts (3 * ts.length)) by rw [htl, Nat.add_zero]]
  refine cX (S := S) (cs := rowsL e4L (edL ts)) (k := (edL ts).length) (args := [(Value.slice x.p ts.length x.c)]) Tryz.call93 (fun w hw => edges_ok ts x N hn hN hl w (inS hw 2 rfl lx)) rfl rfl rfl fun o lo => st' (v := (vN ((edL ts).length))) (ex_len_slice rfl Tryz.underlying40) rfl (mv' rfl (OkL.nil (OkQ.subF (sL [1, 4, 5, 20, 21, 22, 11, 52, 53, 54] rfl) (OkQ.then_ ?_))))
  refine OkC.block ?_
  refine OkC.lp4 (tg fun (i : Nat) (p1 : Option Addr) (c1 : Nat) (out : List T3) => i ≤ (edL ts).length ∧ OwnOk p1 out.length c1 ∧ out = rimN ts i) (tg fun (i : Nat) (p1 : Option Addr) (c1 : Nat) (out : List T3) => [(4, (Value.slice none 0 0)), (5, (Value.map (some b1))), (52, (Value.slice o.p ((edL ts).length) o.c)), (53, (vN ((edL ts).length))), (54, (vN i)), (11, (Value.slice p1 out.length c1))]) (tg fun (i : Nat) (p1 : Option Addr) (c1 : Nat) (out : List T3) => [rowR o.p (rowsL e4L (edL ts)), rowW p1 66 3 out.length c1 (rowsL t3L out), mapA b1 kEd vN (manS ts (3 * ts.length)), rowR x.p (rowsL t3L ts)]) (tg fun (i : Nat) (p1 : Option Addr) (c1 : Nat) (out : List T3) => (edL ts).length - i) 0 none 0 ([] : List T3) (⟨Nat.zero_le _, OwnOk.none, rfl⟩) (sF rfl) sr (fun i p1 c1 out hJ => ?_)
  obtain ⟨hi, ho, hou⟩ := hJ
  have hol := rimN_len (ts := ts) i
  rw [← hou] at hol
  refine q4 (st' (ex_lss (c := (decide (i < ((edL ts).length)))) rfl rfl (ltN (a := i) (b := (edL ts).length))) rfl (OkL.nil (q1 ?_)))
  refine OkC.cond rfl (fun hc3 => ?_) (fun hc3 => ?_)
  ·replace hc3 := of_decide_eq_true hc3
   have hel := edS_len (ts := ts) (3 * ts.length)
   rw [← edL_len] at hel
   have hmem : ((edL ts).getD i (⟨0, 0, 0, 0⟩ : E4)) ∈ edL ts := by rw [List.getD, List.getElem?_eq_getElem hc3]; exact List.getElem_mem hc3
   obtain ⟨hea, heb⟩ := edge_two hn hN _ hmem
   refine OkC.skip (q1 (OkC.block (q4 (st' (v := (pP (pB o.p) (pO o.p + i * 4))) (ex_index_row (j := i) rfl rfl o.ok Tryz.underlying40 Tryz.sizeOf44 rfl (by omega)) rfl (st' (v := (aG (e4L ((edL ts).getD i (⟨0, 0, 0, 0⟩ : E4))))) (ex_load_rowR_agg (vs := e4L ((edL ts).getD i (⟨0, 0, 0, 0⟩ : E4))) (i := 0) rfl rfl (RowOk.ne o.ok (by omega)) tA44 (rowsL_get e4L_len _ _ _ (by omega)) (e4L_len _)) rfl ?_)))))
   refine al tZ44 rfl fun b2 => stW0' rfl Tryz.sizeOf44 rfl (q3 (sL [4, 5, 52, 53, 54, 11, 13] rfl) (mv' rfl (st' (v := (pP b2 0)) (ex_fieldAddr rfl Tryz.underlying44 rfl Tryz.sizeOf3 rfl) rfl (ldO' 0 (vN (((edL ts).getD i (⟨0, 0, 0, 0⟩ : E4)).a)) tO3 rfl ?_))))
   refine st' (v := (pP b2 1)) (ex_fieldAddr rfl Tryz.underlying44 rfl Tryz.sizeOf3 rfl) rfl (ldO' 0 (vN (((edL ts).getD i (⟨0, 0, 0, 0⟩ : E4)).b)) tO3 rfl (st' (v := (aG ([(vN (((edL ts).getD i (⟨0, 0, 0, 0⟩ : E4)).a)), (vN (((edL ts).getD i (⟨0, 0, 0, 0⟩ : E4)).b))]))) (ex_build_struct (zs := posL ((0, 0) : P2)) (vs := [(vN (((edL ts).getD i (⟨0, 0, 0, 0⟩ : E4)).a)), (vN (((edL ts).getD i (⟨0, 0, 0, 0⟩ : E4)).b))]) (pv := [(0, (vN (((edL ts).getD i (⟨0, 0, 0, 0⟩ : E4)).a))), (1, (vN (((edL ts).getD i (⟨0, 0, 0, 0⟩ : E4)).b)))]) (places := [(0, 1), (1, 1)]) Tryz.zeroValue244 Tryz.underlying244 (fun w => by simp [Tryz.sizeOf3]) rfl rfl) rfl (st' (v := (vN ((getM (manS ts (3 * ts.length)) ((((edL ts).getD i (⟨0, 0, 0, 0⟩ : E4)).a, ((edL ts).getD i (⟨0, 0, 0, 0⟩ : E4)).b) : P2)).getD 0))) (ex_lookup keyRim 3 (eV := vN) (kvs := (manS ts (3 * ts.length))) (x := ((((edL ts).getD i (⟨0, 0, 0, 0⟩ : E4)).a, ((edL ts).getD i (⟨0, 0, 0, 0⟩ : E4)).b) : P2)) (z0 := 0) (co := false) rfl rfl Tryz.underlying243 Tryz.zeroValue3 rfl (manS_ok hn hN _ (by omega)) (okE_mk (by omega) (by omega))) rfl (st' (ex_eql (c := (decide (((getM (manS ts (3 * ts.length)) ((((edL ts).getD i (⟨0, 0, 0, 0⟩ : E4)).a, ((edL ts).getD i (⟨0, 0, 0, 0⟩ : E4)).b) : P2)).getD 0) = 1))) rfl rfl (eqN (a := (getM (manS ts (3 * ts.length)) ((((edL ts).getD i (⟨0, 0, 0, 0⟩ : E4)).a, ((edL ts).getD i (⟨0, 0, 0, 0⟩ : E4)).b) : P2)).getD 0) (b := 1))) rfl (OkL.nil ?_)))))
   refine OkQ.subF (sL [4, 5, 52, 53, 54, 11, 13, 65] rfl) (OkQ.then_ ?_)
   refine OkC.cond rfl (fun hc4 => ?_) (fun hc4 => ?_)
   ·replace hc4 := of_decide_eq_true hc4
    refine OkC.region (mv' rfl (st' (v := (pP b2 0)) (ex_fieldAddr rfl Tryz.underlying44 rfl Tryz.sizeOf3 rfl) rfl (ldO' 0 (vN (((edL ts).getD i (⟨0, 0, 0, 0⟩ : E4)).a)) tO3 rfl (st' (v := (pP b2 1)) (ex_fieldAddr rfl Tryz.underlying44 rfl Tryz.sizeOf3 rfl) rfl (ldO' 0 (vN (((edL ts).getD i (⟨0, 0, 0, 0⟩ : E4)).b)) tO3 rfl ?_)))))
    refine st' (v := (aG ([(vN (((edL ts).getD i (⟨0, 0, 0, 0⟩ : E4)).a)), (vN (((edL ts).getD i (⟨0, 0, 0, 0⟩ : E4)).b)), (vI 0)]))) (ex_build_struct (zs := t3L ((0, 0, 0) : Nat × Nat × Nat)) (vs := [(vN (((edL ts).getD i (⟨0, 0, 0, 0⟩ : E4)).a)), (vN (((edL ts).getD i (⟨0, 0, 0, 0⟩ : E4)).b)), (vI 0)]) (pv := [(0, (vN (((edL ts).getD i (⟨0, 0, 0, 0⟩ : E4)).a))), (1, (vN (((edL ts).getD i (⟨0, 0, 0, 0⟩ : E4)).b)))]) (places := [(0, 1), (1, 1), (2, 1)]) Tryz.zeroValue66 Tryz.underlying66 (fun w => by simp [Tryz.sizeOf3]) rfl rfl) rfl (OkL.openV (V := fun b3 => (Value.slice (some ⟨b3, 0, none⟩) 1 1)) (T := 66) (cs := t3L (((edL ts).getD i (⟨0, 0, 0, 0⟩ : E4)).a, ((edL ts).getD i (⟨0, 0, 0, 0⟩ : E4)).b, 0)) (wt_none rfl) (op_buildSlice (z := .agg (t3L ((0, 0, 0) : Nat × Nat × Nat)).toArray) (cs := t3L (((edL ts).getD i (⟨0, 0, 0, 0⟩ : E4)).a, ((edL ts).getD i (⟨0, 0, 0, 0⟩ : E4)).b, 0)) (pv := [(0, (aG ([(vN (((edL ts).getD i (⟨0, 0, 0, 0⟩ : E4)).a)), (vN (((edL ts).getD i (⟨0, 0, 0, 0⟩ : E4)).b)), (vI 0)])))]) Tryz.underlying29 Tryz.sizeOf66 Tryz.zeroValue66 (by decide) (by decide) rfl (tfs_numub_66_1 (((edL ts).getD i (⟨0, 0, 0, 0⟩ : E4)).a, ((edL ts).getD i (⟨0, 0, 0, 0⟩ : E4)).b, 0))) rfl (leB rfl) fun b3 => OkL.appendAt 3 (j := 0) (cs2 := rowsL t3L (out ++ [(((edL ts).getD i (⟨0, 0, 0, 0⟩ : E4)).a, ((edL ts).getD i (⟨0, 0, 0, 0⟩ : E4)).b, 0)])) tE29 rfl ho (rowsL_length t3L_len _) rfl rfl rfl rfl rfl (by decide) (mxl (by omega)) (by omega) (by rw [rowsL_append]; rfl) rfl fun p_1 c_1 ho_1 hne_1 => asg' rfl (OkL.nil (OkQ.subF (sL [4, 5, 52, 53, 54, 11, 13] rfl) ?_)))
    refine OkQ.in_normal (OkQ.then_ (OkC.region (st' (ex_add (c := ((i + 1 : Nat) : Int)) rfl rfl (addN_i64 (a := i) (b := 1) (by omega))) rfl (mv' rfl (OkL.nil ?_)))))
    refine OkQ.subF (sL [4, 5, 52, 53, 54, 11, 13] rfl) ?_
    rw [show out.length + 1 = (out ++ [(((edL ts).getD i (⟨0, 0, 0, 0⟩ : E4)).a, ((edL ts).getD i (⟨0, 0, 0, 0⟩ : E4)).b, 0)]).length by simp]
    exact OkQ.round4 (i + 1) p_1 c_1 (out ++ [(((edL ts).getD i (⟨0, 0, 0, 0⟩ : E4)).a, ((edL ts).getD i (⟨0, 0, 0, 0⟩ : E4)).b, 0)]) (⟨by omega, (by simpa using ho_1), by rw [hou]; exact (rimN_yes (by omega) hc4).symm⟩) (by omega) (sF rfl) (sl (sl sr))
   ·replace hc4 := of_decide_eq_false hc4
    refine OkC.skip (OkQ.in_normal (OkQ.then_ (OkC.region (st' (ex_add (c := ((i + 1 : Nat) : Int)) rfl rfl (addN_i64 (a := i) (b := 1) (by omega))) rfl (mv' rfl ?_)))))
    exact OkL.nil (OkQ.subF (sL [4, 5, 52, 53, 54, 11, 13] rfl) (OkQ.round4 (i + 1) p1 c1 out (⟨by omega, ho, by rw [hou]; exact (rimN_no (by omega) hc4).symm⟩) (by omega) (sF rfl) (sl sr)))
  ·replace hc3 := of_decide_eq_false hc3
   refine OkC.exit (OkQ.then_exit (OkQ.round4_exit (OkQ.in_exit (q2 (mv' rfl ?_)))))
   exact ck' Tryz.call94 (clipS_ok p1 out.length c1 ho.row.le) rfl (asg' rfl (OkL.nil (OkQ.subF (sL [4, 5, 52, 53, 54, 11] rfl) (OkQ.then_ (OkC.ret (ret_one rfl (rd_tmp (v := (Value.slice p1 out.length out.length)) rfl) (fun w hw => (by rw [show rimL ts = out by rw [hou, show i = (edL ts).length by omega]; rfl]; exact retL hw (OX.mk p1 c1 ho) (sl (sk (sl (sl sr)))) (AtL.own rfl AtL.nil) rfl))))))))
end
section
set_option maxRecDepth 100000
theorem keyOf : KeyE Tryz.prog 172 kEd okE := keyPair laidB (by decide +kernel) (by kernel_rfl) (by kernel_rfl) Tryz.underlying172 Tryz.underlying3 (by kernel_rfl) (by kernel_rfl) (by kernel_rfl)
end
section
set_option maxRecDepth 100000
end
section
theorem t3_iff (a b : T3) : (((a.1 : Int) == (b.1 : Int)) && (((a.2.1 : Int) == (b.2.1 : Int)) && (((a.2.2 : Int) == (b.2.2 : Int)) && true))) = decide (a = b) := by
  obtain ⟨a1, a2, a3⟩ := a
  obtain ⟨b1, b2, b3⟩ := b
  rw [Bool.eq_iff_iff]
  simp
  constructor <;> (rintro ⟨h1, h2, h3⟩; refine ⟨?_, ?_, ?_⟩ <;> omega)
theorem rowOk_lit (b n : Nat) : RowOk (some ⟨b, 0, none⟩) n n := ⟨fun e => (by cases e), fun a e => (by injection e with e; subst e; rfl), Nat.le_refl _⟩
theorem t3_at {T : T3} {r : Nat} (h : r < 3) : (t3L T)[r]? = some (vN (crT T r)) := by
  have e : r = 0 ∨ r = 1 ∨ r = 2 := by omega
  rcases e with rfl | rfl | rfl <;> rfl
theorem t3_atv {T : T3} {r : Nat} (h : r < 3) : (t3L T)[0 + r * 1]? = some (vN (crT T r)) := by rw [Nat.zero_add, Nat.mul_one]; exact t3_at h
theorem At.mx {w0 : Base} {S : Nat → Prop} {ps : List Pt} {ts ss : List T3} {x : MX ps ts ss} (h1 : At w0 S x.a) (h2 : At w0 S x.b) (h3 : At w0 S x.c) : At w0 S x := fun y hy b e => by
  have hy : y ∈ [x.a.row, x.b.row, x.c.row] := hy
  simp only [List.mem_cons, List.not_mem_nil, or_false] at hy
  rcases hy with rfl | rfl | rfl
  · exact h1 _ List.mem_cons_self b e
  · exact h2 _ List.mem_cons_self b e
  · exact h3 _ List.mem_cons_self b e
section
variable {P : Program} {ops : Array Oper} {rest : List Oper} {Q : Exit → Act → World → Prop} {n : Nat} {F : List (Nat × Value)} {w0 : Base} {S : Nat → Prop} {L : List As} {ps : List Pt} {ts ss : List T3}
theorem new_of {w : World} {i b : Nat} {T : TypeId} {cs : List Value} (hw : Own w0 w L) (hi : L[i]? = some (blk b T cs)) (hex : w0.ex = none) : w0.w.heap.size ≤ b := by
  rcases (hw.2.1 _ (List.mem_of_getElem? hi) b rfl).1 with h1 | h1 | h1
  · cases h1
  · exact h1
  · rw [hex] at h1; cases h1
theorem OkL.litM2 {b1 b2 U1 U2 : Nat} {cs1 cs2 : List Value} (LL : MX ps ts [] → List As) (i j : Nat) (hn : i ≠ j) (h1 : L[i]? = some (blk b1 U1 cs1)) (h2 : L[j]? = some (blk b2 U2 cs2)) (hex : w0.ex = none)
    (e : (cs1, cs2) = (rowsL ptL ps, rowsL t3L ts))
    (hL : rowR none (rowsL t3L []) :: (L.set i (rowR (some ⟨b1, 0, none⟩) cs1)).set j (rowR (some ⟨b2, 0, none⟩) cs2) = LL ⟨⟨some ⟨b1, 0, none⟩, ps.length, rowOk_lit _ _⟩, ⟨some ⟨b2, 0, none⟩, ts.length, rowOk_lit _ _⟩, ⟨none, 0, OwnOk.none.row⟩⟩)
    (next : ∀ mm : MX ps ts [], At w0 S mm → OkL P ops rest Q n F w0 (LL mm)) : OkL P ops rest Q n F w0 L := fun a w ha hw => by
  have n1 := new_of hw h1 hex
  have n2 := new_of hw h2 hex
  have w1 := hw.freeze (x := blk b1 U1 cs1) (y := rowR (some ⟨b1, 0, none⟩) cs1) h1 rfl (fun o hp => lies_blkB hp) (fun e => by cases e)
  have w2 := w1.freeze (i := j) (x := blk b2 U2 cs2) (y := rowR (some ⟨b2, 0, none⟩) cs2) (by rw [List.getElem?_set_ne hn]; exact h2) rfl (fun o hp => lies_blkB hp) (fun e => by cases e)
  have w3 := w2.addRo (a := rowR none (rowsL t3L [])) (Bel.refl _ _) rfl (fun b e => by cases e) (fun b e => by cases e)
  rw [hL] at w3
  refine next _ (fun y hy b eb => ?_) a w ha w3
  have hy : y ∈ [rowR (some ⟨b1, 0, none⟩) (rowsL ptL ps), rowR (some ⟨b2, 0, none⟩) (rowsL t3L ts), rowR none (rowsL t3L [])] := hy
  simp only [List.mem_cons, List.not_mem_nil, or_false] at hy
  rcases hy with rfl | rfl | rfl
  · injection eb with eb; subst eb; exact .inl (by assumption)
  · injection eb with eb; subst eb; exact .inl (by assumption)
  · cases eb
end
theorem inX {α : Type} [Ref α] {w0 : Base} {w : World} {S : Nat → Prop} {L : List As} (hw : Own w0 w L) (is : List Nat) {a : α} (hi : (is.map fun i => L[i]?) = (Ref.rows a).map some) (ha : At w0 S a) : Ro (SL w0 S L) w a := fun y hy => by
  have h1 : some y ∈ (is.map fun i => L[i]?) := by rw [hi]; exact List.mem_map.2 ⟨y, hy, rfl⟩
  obtain ⟨i, _, h2⟩ := List.mem_map.1 h1
  have hm := List.mem_of_getElem? h2
  exact ⟨fun b e => (hw.2.1 y hm b e).2, fun b e => ⟨⟨y, hm, Ref.ro a y hy, e⟩, ha y hy b e⟩⟩
end
section
abbrev M3 := List Pt × List T3 × List T3
def limM (M : M3) : Prop := M.1.length + (edL M.2.1).length ≤ 4096 ∧ 4 * M.2.1.length ≤ 8192
instance (M : M3) : Decidable (limM M) := inferInstanceAs (Decidable (_ ∧ _))
theorem edL_le (ts : List T3) : (edL ts).length ≤ 3 * ts.length := by rw [edL_len]; exact edS_len _
structure TmX (ps : List Pt) (ts ss : List T3) (e : Nat) where
  m : MX ps ts ss
instance {ps : List Pt} {ts ss : List T3} {e : Nat} : Ref (TmX ps ts ss e) := ⟨fun x => .tuple #[aG (mxL x.m), vN e], fun x => Ref.rows x.m, fun x y hy => Ref.ro x.m y hy⟩
section
variable {P : Program} {ops : Array Oper} {rest : List Oper} {Q : Exit → Act → World → Prop} {n d : Nat} {F : List (Nat × Value)} {w0 : Base} {S : Nat → Prop} {L : List As} {t : TypeId} {p : String} {af : Array Edge} {y : Operand} {f : FuncId} {xs : List Operand} {args : List Value} {tys : Array TypeId} {ps : List Pt} {ts ss : List T3} {e : Nat}
end
def badL (ts : List T3) : List Value := vI (-1) :: vN 0 :: vN 1 :: rowsL t3L ts
structure MB (ps : List Pt) (ts ss : List T3) where
  a : RX (rowsL ptL ps) ps.length
  b : RX (badL ts) (1 + ts.length)
  c : RX (rowsL t3L ss) ss.length
def mbL {ps : List Pt} {ts ss : List T3} (x : MB ps ts ss) : List Value := [x.a.val, x.b.val, x.c.val]
theorem mb_ro {ps : List Pt} {ts ss : List T3} {x : MB ps ts ss} {y : As} (hy : y ∈ [x.a.row, x.b.row, x.c.row]) : y.ro = true := by
  simp only [List.mem_cons, List.not_mem_nil, or_false] at hy
  rcases hy with rfl | rfl | rfl <;> rfl
instance {ps : List Pt} {ts ss : List T3} : Ref (MB ps ts ss) := ⟨fun x => aG (mbL x), fun x => [x.a.row, x.b.row, x.c.row], fun x y hy => mb_ro hy⟩
end
section
def zL (l : List Int) : List Value := l.map fun (d : Int) => .int .i64 d
theorem zL_length (l : List Int) : (zL l).length = l.length := by simp [zL]
theorem zL_get {l : List Int} {j : Nat} (h : j < l.length) : (zL l)[j * 1]? = some (.int .i64 (l.getD j 0)) := by simp [zL, h]
def mapR {α β : Type} (b : Nat) (enc : α → Value) (eV : β → Value) (kvs : List (α × β)) : As := ⟨some b, fun o => o = .map (entsM enc eV kvs 0).toArray kvs.length, true⟩
section
variable {α β : Type} [DecidableEq α] {enc : α → Value} {eV : β → Value} {ok : α → Prop} {P : Program} {kt : TypeId} {n : Nat} {F : List (Nat × Value)} {w0 : Base} {L : List As} {d : Option Tmp} {tx et t b : Nat} {pp : String} {af : Array Edge} {g : Option (Nat × Bool)} {mp kp : Operand}
theorem ex_lookupR (K : KeyE P kt enc ok) (i : Nat) {kvs : List (α × β)} {x : α} {z0 : β} {co : Bool} (hx : evF F mp = some (.map (some b))) (hk : evF F kp = some (enc x)) (ht : P.underlying tx = some (.map kt et)) (hz : ∀ w, (zeroValue et).run P w = .ok (eV z0) w) (hi : L[i]? = some (mapR b enc eV kvs)) (hm : OkM ok kvs) (hok : ok x) :
    Ex P n F w0 L ⟨d, .lookup tx mp kp co, t, pp, af, g⟩ (if co then .tuple #[eV ((getM kvs x).getD z0), .bool (getM kvs x).isSome] else eV ((getM kvs x).getD z0)) := fun A w ha hw => by
  obtain ⟨_, o, ho, hp⟩ := hw.2.1 _ (List.mem_of_getElem? hi) b rfl
  have ho : w.heap[b]? = some (.map (entsM enc eV kvs 0).toArray kvs.length) := by rw [ho, hp]
  obtain ⟨lx, hlx⟩ := K.key x hok
  have hc := fun em => K.law.check w em hlx
  rcases run_findM (eV := eV) K hm hok w with ⟨h1, _, h2⟩ | ⟨j, v, _, h1, h2⟩
  · simp only [execOp, ha.ev hx, ha.ev hk, Instr.lookup, Sem.run_bind, run_underlying ht, getObj_map ho, Result.andThen_ok, Sem.run_pure, hc, List.toList_toArray, h2, hz, h1, Option.getD_none, Option.isSome_none]
  · simp only [execOp, ha.ev hx, ha.ev hk, Instr.lookup, Sem.run_bind, run_underlying ht, getObj_map ho, Result.andThen_ok, Sem.run_pure, hc, List.toList_toArray, h2, h1, Option.getD_some, Option.isSome_some]
end
def baseK (t : T3) : P2 := kyE t.2.1 t.2.2
def MkK (ts : List T3) (ms : List Int) (k : P2) : Prop := ∃ z ∈ ms, 0 ≤ z ∧ z < (ts.length : Int) ∧ k = baseK (ts.getD z.toNat (0, 0, 0))
inductive Clo (ts : List T3) (S : P2 → Prop) : P2 → Prop
  | start {k : P2} : S k → Clo ts S k
  | up {t : T3} {k : P2} : t ∈ ts → Clo ts S k → (k = kyE t.1 t.2.1 ∨ k = kyE t.2.2 t.1) → Clo ts S (baseK t)
theorem Clo.mono {ts : List T3} {S S' : P2 → Prop} (h : ∀ k, S k → S' k) {k : P2} (c : Clo ts S k) : Clo ts S' k := by
  induction c with
  | start hs => exact .start (h _ hs)
  | up ht _ he ih => exact .up ht ih he
theorem Clo.or {ts : List T3} {S S' : P2 → Prop} {k : P2} (c : Clo ts (fun k => S k ∨ S' k) k) : Clo ts S k ∨ Clo ts S' k := by
  induction c with
  | start hs => exact hs.elim (fun h => .inl (.start h)) (fun h => .inr (.start h))
  | up ht _ he ih => exact ih.elim (fun h => .inl (.up ht h he)) (fun h => .inr (.up ht h he))
structure CloI (ts : List T3) (ms : List Int) (i : Nat) (kvs : List (P2 × Nat)) : Prop where
  ok : OkM okE kvs
  one : ∀ k, getM kvs k = none ∨ getM kvs k = some 1
  sub : ∀ k, getM kvs k = some 1 → Clo ts (MkK ts ms) k
  mrk : ∀ k, MkK ts (ms.take i) k → getM kvs k = some 1
section
variable {ts : List T3} {ms : List Int} {i : Nat} {kvs : List (P2 × Nat)}
theorem CloI.zero (ts : List T3) (ms : List Int) : CloI ts ms 0 [] := ⟨⟨fun p hp => (by cases hp), List.Pairwise.nil⟩, fun k => .inl rfl, fun k h => (by cases h), fun k ⟨z, hz, _⟩ => by rw [List.take_zero] at hz; cases hz⟩
theorem CloI.put (h : CloI ts ms i kvs) {k : P2} (hk : okE k) (hc : Clo ts (MkK ts ms) k) : CloI ts ms i (putM kvs k 1) := ⟨h.ok.put hk, fun x => by
    rw [getM_put]; split
    · exact .inr rfl
    · exact h.one x, fun x hx => by
    rw [getM_put] at hx; split at hx
    · rename_i e; rw [e]; exact hc
    · exact h.sub x hx, fun x hx => by
    rw [getM_put]; split
    · rfl
    · exact h.mrk x hx⟩
theorem take_snocZ {l : List Int} {j : Nat} (h : j < l.length) : l.take (j + 1) = l.take j ++ [l.getD j 0] := by
  rw [List.take_add_one, List.getD, List.getElem?_eq_getElem h]; rfl
theorem CloI.skip (h : CloI ts ms i kvs) (hi : i < ms.length) (hn : ¬ (0 ≤ ms.getD i 0 ∧ ms.getD i 0 < (ts.length : Int))) : CloI ts ms (i + 1) kvs := by
  refine ⟨h.ok, h.one, h.sub, fun x hx => ?_⟩
  rw [take_snocZ hi] at hx
  obtain ⟨z, hz, a, b, rfl⟩ := hx
  rcases List.mem_append.1 hz with hz | hz
  · exact h.mrk _ ⟨z, hz, a, b, rfl⟩
  · exact absurd (by rw [← List.mem_singleton.1 hz]; exact ⟨a, b⟩) hn
def Calm (ts : List T3) (kvs : List (P2 × Nat)) (j : Nat) : Prop := ∀ q, q < j → getM kvs (baseK (ts.getD q (0, 0, 0))) = none → getM kvs (kyE (ts.getD q (0, 0, 0)).1 (ts.getD q (0, 0, 0)).2.1) = none ∧ getM kvs (kyE (ts.getD q (0, 0, 0)).2.2 (ts.getD q (0, 0, 0)).1) = none
theorem CloI.no (h : CloI ts ms i kvs) {k : P2} (e : (getM kvs k).getD 0 = 0) : getM kvs k = none := (h.one k).elim id fun h1 => by rw [h1] at e; cases e
theorem CloI.all (h : CloI ts ms ms.length kvs) (hc : Calm ts kvs ts.length) (k : P2) : getM kvs k = some 1 ↔ Clo ts (MkK ts ms) k := by
  refine ⟨h.sub k, fun c => ?_⟩
  induction c with
  | start hs => exact h.mrk _ (by rw [List.take_length]; exact hs)
  | up ht _ he ih =>
    rename_i t k' _
    obtain ⟨q, hq, rfl⟩ := List.getElem_of_mem ht
    rcases h.one (baseK ts[q]) with h1 | h1
    · have h2 := hc q hq (by rw [List.getD, List.getElem?_eq_getElem hq]; exact h1)
      rw [List.getD, List.getElem?_eq_getElem hq] at h2
      rcases he with e | e
      · rw [e] at ih; rw [show getM kvs (kyE ts[q].1 ts[q].2.1) = none from h2.1] at ih; cases ih
      · rw [e] at ih; rw [show getM kvs (kyE ts[q].2.2 ts[q].1) = none from h2.2] at ih; cases ih
    · exact h1
end
structure HC (ts : List T3) (ms : List Int) where
  b : Nat
  kvs : List (P2 × Nat)
  ok : OkM okE kvs
  one : ∀ k, getM kvs k = none ∨ getM kvs k = some 1
  all : ∀ k, getM kvs k = some 1 ↔ Clo ts (MkK ts ms) k
instance {ts : List T3} {ms : List Int} : Ref (HC ts ms) := ⟨fun x => .map (some x.b), fun x => [mapR x.b kEd vN x.kvs], fun x y hy => by rcases List.mem_singleton.1 hy with rfl; rfl⟩
structure DX (ts : List T3) (ms : List Int) where
  l : List E4
  r : RX (rowsL e4L l) l.length
  p : E4 → Bool
  el : l = (edL ts).filter p
  all : ∀ e, p e = true ↔ Clo ts (MkK ts ms) (e.a, e.b)
instance {ts : List T3} {ms : List Int} : Ref (DX ts ms) := ⟨fun x => x.r.val, fun x => [x.r.row], fun x y hy => by rcases List.mem_singleton.1 hy with rfl; rfl⟩
end
end Go.Proofs.YtgiacpkjnikjdaaGreat
