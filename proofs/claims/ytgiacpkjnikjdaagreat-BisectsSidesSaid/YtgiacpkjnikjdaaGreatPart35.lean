import Derived.Test.YtgiacpkjnikjdaaGreatPart06
import Derived.Test.YtgiacpkjnikjdaaGreatPart33
import Derived.Test.YtgiacpkjnikjdaaGreatPart34
namespace Go.Proofs.YtgiacpkjnikjdaaGreat
open Go Go.RowKit
set_option linter.unusedVariables false
set_option linter.unusedSimpArgs false
section
set_option maxRecDepth 100000
theorem clipP_ok (p : Option Addr) (n cp : Nat) (h : n ≤ cp) (w : World)  : Calls Tryz.prog 117 #[(Value.slice p n cp)] w (Gives w (Value.slice p n n)) := by
 refine calls_of (args := [(Value.slice p n cp)]) Tryz.func117 rfl rfl (leB rfl) (OkC.subF (sL [0] rfl) (q4 (asg' rfl (OkL.nil (q2 ?_)))))
 refine mv' rfl (mv' rfl (st' (v := (vN n)) (ex_len_slice rfl Tryz.underlying27) rfl (mv' rfl (st' (v := (vN n)) (ex_len_slice rfl Tryz.underlying27) rfl (st' (v := (Value.slice p n n)) (ex_slice_clip (m := n) rfl rfl rfl Tryz.underlying27 Tryz.sizeOf83 (by omega)) rfl ?_)))))
 exact asg' rfl (OkL.nil (OkQ.subF (sL [2] rfl) (OkQ.then_ (OkC.ret (ret_one rfl (rd_tmp (v := (Value.slice p n n)) rfl) (fun w hw => ⟨rfl, hw.out⟩))))))
theorem cloneP_ok (ts : List Pt) (x : RX (rowsL ptL ts) ts.length) (hl : ts.length ≤ 1000000000) (w : World) {S : Nat → Prop} (hx : Ro S w x) : Calls Tryz.prog 113 #[(Value.slice x.p ts.length x.c)] w (GivesL oxV (oxL (T := 83) (z := 10) (cs := rowsL ptL ts) (n := ts.length)) S w) := by
 have lx := atA (W := w) hx
 refine calls_ofR (args := [(Value.slice x.p ts.length x.c)]) (L := [rowR x.p (rowsL ptL ts)]) Tryz.func113 rfl rfl (leB rfl) (sxA hx roL_nil) (OkC.subF (sL [0] rfl) (q4 (asg' rfl (OkL.nilRow 83 10 (OkL.nil ?_)))))
 refine q1 (q4 (mv' rfl (st' (v := (Value.bool x.p.isNone)) (ex_eql_nil rfl rfl Tryz.underlying27) rfl (OkL.nil (OkQ.subF (sL [0, 2, 4] rfl) ?_)))))
 refine OkQ.then_ ?_
 refine OkC.cond rfl (fun hc0 => ?_) (fun hc0 => ?_)
 ·skip
  have hts : ts = [] := List.eq_nil_of_length_eq_zero (x.ok.nil (Option.isNone_iff_eq_none.1 hc0)).1
  refine q4 (asg' rfl (OkL.nilRow 83 10 (OkL.nil (OkQ.then_ (OkC.ret ?_)))))
  exact OkQ.then_ret (ret_one rfl (rd_tmp (v := (Value.slice none 0 0)) rfl) (fun w hw => (by subst hts; exact retL hw (OX.mk none 0 OwnOk.none) (by exact (sk (sl (sl sr)))) (AtL.own rfl AtL.nil) (by show Value.slice none 0 0 = _; rfl))))
 ·skip
  refine OkC.skip (q2 (OkL.openV (V := fun b1 => (Value.slice (some ⟨b1, 0, none⟩) 0 0)) (T := 83) (cs := []) (wt_none rfl) (op_build0 Tryz.underlying27 Tryz.sizeOf83) rfl (leB rfl) fun b1 => OkL.asRow0 (z := 10) 0 rfl (by omega) fun ho_b1 => mv' rfl (OkL.appendE0 tE27 rfl ho_b1 rfl (srcR (k := 2) rfl x.ok) (rowsL_length ptL_len _) (rowsL_one ptL_one _) (mxl (by omega)) (by omega) rfl fun p_1 c_1 ho_1 => ?_)))
  exact asg' rfl (OkL.nil (OkQ.subF (sL [0, 2] rfl) (OkQ.then_ (OkC.ret (ret_one rfl (rd_tmp (v := (Value.slice p_1 ts.length c_1)) rfl) (fun w hw => (retL hw (OX.mk p_1 c_1 ho_1) (sk (sl (sl sr))) (AtL.own rfl AtL.nil) rfl)))))))
theorem clipT_ok (p : Option Addr) (n cp : Nat) (h : n ≤ cp) (w : World)  : Calls Tryz.prog 114 #[(Value.slice p n cp)] w (Gives w (Value.slice p n n)) := by
 refine calls_of (args := [(Value.slice p n cp)]) Tryz.func114 rfl rfl (leB rfl) (OkC.subF (sL [0] rfl) (q4 (asg' rfl (OkL.nil (q2 ?_)))))
 refine mv' rfl (mv' rfl (st' (v := (vN n)) (ex_len_slice rfl Tryz.underlying28) rfl (mv' rfl (st' (v := (vN n)) (ex_len_slice rfl Tryz.underlying28) rfl (st' (v := (Value.slice p n n)) (ex_slice_clip (m := n) rfl rfl rfl Tryz.underlying28 Tryz.sizeOf45 (by omega)) rfl ?_)))))
 exact asg' rfl (OkL.nil (OkQ.subF (sL [2] rfl) (OkQ.then_ (OkC.ret (ret_one rfl (rd_tmp (v := (Value.slice p n n)) rfl) (fun w hw => ⟨rfl, hw.out⟩))))))
theorem cloneT_ok (ts : List T3) (x : RX (rowsL t3L ts) ts.length) (hl : ts.length ≤ 1000000000) (w : World) {S : Nat → Prop} (hx : Ro S w x) : Calls Tryz.prog 115 #[(Value.slice x.p ts.length x.c)] w (GivesL oxV (oxL (T := 45) (z := 3) (cs := rowsL t3L ts) (n := ts.length)) S w) := by
 have lx := atA (W := w) hx
 refine calls_ofR (args := [(Value.slice x.p ts.length x.c)]) (L := [rowR x.p (rowsL t3L ts)]) Tryz.func115 rfl rfl (leB rfl) (sxA hx roL_nil) (OkC.subF (sL [0] rfl) (q4 (asg' rfl (OkL.nilRow 45 3 (OkL.nil ?_)))))
 refine q1 (q4 (mv' rfl (st' (v := (Value.bool x.p.isNone)) (ex_eql_nil rfl rfl Tryz.underlying28) rfl (OkL.nil (OkQ.subF (sL [0, 2, 4] rfl) ?_)))))
 refine OkQ.then_ ?_
 refine OkC.cond rfl (fun hc0 => ?_) (fun hc0 => ?_)
 ·skip
  have hts : ts = [] := List.eq_nil_of_length_eq_zero (x.ok.nil (Option.isNone_iff_eq_none.1 hc0)).1
  refine q4 (asg' rfl (OkL.nilRow 45 3 (OkL.nil (OkQ.then_ (OkC.ret ?_)))))
  exact OkQ.then_ret (ret_one rfl (rd_tmp (v := (Value.slice none 0 0)) rfl) (fun w hw => (by subst hts; exact retL hw (OX.mk none 0 OwnOk.none) (by exact (sk (sl (sl sr)))) (AtL.own rfl AtL.nil) (by show Value.slice none 0 0 = _; rfl))))
 ·skip
  refine OkC.skip (q2 (OkL.openV (V := fun b1 => (Value.slice (some ⟨b1, 0, none⟩) 0 0)) (T := 45) (cs := []) (wt_none rfl) (op_build0 Tryz.underlying28 Tryz.sizeOf45) rfl (leB rfl) fun b1 => OkL.asRow0 (z := 3) 0 rfl (by omega) fun ho_b1 => mv' rfl (OkL.appendE0 tE28 rfl ho_b1 rfl (srcR (k := 2) rfl x.ok) (rowsL_length t3L_len _) (rowsL_one t3L_one _) (mxl (by omega)) (by omega) rfl fun p_1 c_1 ho_1 => ?_)))
  exact asg' rfl (OkL.nil (OkQ.subF (sL [0, 2] rfl) (OkQ.then_ (OkC.ret (ret_one rfl (rd_tmp (v := (Value.slice p_1 ts.length c_1)) rfl) (fun w hw => (retL hw (OX.mk p_1 c_1 ho_1) (sk (sl (sl sr))) (AtL.own rfl AtL.nil) rfl)))))))
theorem clipS_ok (p : Option Addr) (n cp : Nat) (h : n ≤ cp) (w : World)  : Calls Tryz.prog 94 #[(Value.slice p n cp)] w (Gives w (Value.slice p n n)) := by
 refine calls_of (args := [(Value.slice p n cp)]) Tryz.func94 rfl rfl (leB rfl) (OkC.subF (sL [0] rfl) (q4 (asg' rfl (OkL.nil (q2 ?_)))))
 refine mv' rfl (mv' rfl (st' (v := (vN n)) (ex_len_slice rfl Tryz.underlying29) rfl (mv' rfl (st' (v := (vN n)) (ex_len_slice rfl Tryz.underlying29) rfl (st' (v := (Value.slice p n n)) (ex_slice_clip (m := n) rfl rfl rfl Tryz.underlying29 Tryz.sizeOf66 (by omega)) rfl ?_)))))
 exact asg' rfl (OkL.nil (OkQ.subF (sL [2] rfl) (OkQ.then_ (OkC.ret (ret_one rfl (rd_tmp (v := (Value.slice p n n)) rfl) (fun w hw => ⟨rfl, hw.out⟩))))))
theorem tfill_numua_172 (x0 x1 : Nat) : Instr.fill (fun i => some (i * 1, 1)) (posL ((0, 0) : P2)).toArray [(0, vN x0), (1, vN x1)] = some (posL (x0, x1)).toArray := by kernel_rfl
theorem rOf_ok (a b : Nat) (w : World)  : Calls Tryz.prog 92 #[(vN a), (vN b)] w (Gives w (aG (posL (min a b, max a b)))) := by
 refine calls_of (args := [(vN a), (vN b)]) Tryz.func92 rfl rfl (leB rfl) (OkC.subF (sL [0, 1] rfl) (q4 (al tZ172 rfl fun b1 => OkL.nil (q2 ?_))))
 refine mv' rfl (mv' rfl (st' (ex_min (c := ((min a b : Nat) : Int)) rfl rfl (by split <;> omega)) rfl (mv' rfl (mv' rfl (st' (ex_max (c := ((max a b : Nat) : Int)) rfl rfl (by split <;> omega)) rfl ?_)))))
 exact st' (v := (aG (posL (min a b, max a b)))) (ex_build_array (zs := posL ((0, 0) : P2)) (vs := posL (min a b, max a b)) (pv := [(0, (vN (min a b))), (1, (vN (max a b)))]) Tryz.zeroValue172 Tryz.underlying172 Tryz.sizeOf3 rfl (tfill_numua_172 (min a b) (max a b))) rfl (stW0' rfl Tryz.sizeOf172 rfl (OkL.nil (OkQ.subF (sL [4] rfl) (OkQ.then_ (OkC.ret (ret_one rfl (rd_agg (i := 0) (cs := posL (min a b, max a b)) rfl rfl Tryz.isAgg172 Tryz.sizeOf172 rfl) (fun w hw => ⟨rfl, hw.out⟩)))))))
theorem tfill_numua_119 (x0 x1 : Nat) : Instr.fill (fun i => some (i * 1, 1)) (posL ((0, 0) : P2)).toArray [(0, vN x0), (1, vN x1)] = some (posL (x0, x1)).toArray := by kernel_rfl
theorem bOf_ok (a b : Nat) (w : World)  : Calls Tryz.prog 54 #[(vN a), (vN b)] w (Gives w (aG (posL (min a b, max a b)))) := by
 refine calls_of (args := [(vN a), (vN b)]) Tryz.func54 rfl rfl (leB rfl) (OkC.subF (sL [0, 1] rfl) (q4 (al tZ119 rfl fun b1 => OkL.nil (q2 ?_))))
 refine mv' rfl (mv' rfl (st' (ex_min (c := ((min a b : Nat) : Int)) rfl rfl (by split <;> omega)) rfl (mv' rfl (mv' rfl (st' (ex_max (c := ((max a b : Nat) : Int)) rfl rfl (by split <;> omega)) rfl ?_)))))
 exact st' (v := (aG (posL (min a b, max a b)))) (ex_build_array (zs := posL ((0, 0) : P2)) (vs := posL (min a b, max a b)) (pv := [(0, (vN (min a b))), (1, (vN (max a b)))]) Tryz.zeroValue119 Tryz.underlying119 Tryz.sizeOf3 rfl (tfill_numua_119 (min a b) (max a b))) rfl (stW0' rfl Tryz.sizeOf119 rfl (OkL.nil (OkQ.subF (sL [4] rfl) (OkQ.then_ (OkC.ret (ret_one rfl (rd_agg (i := 0) (cs := posL (min a b, max a b)) rfl rfl Tryz.isAgg119 Tryz.sizeOf119 rfl) (fun w hw => ⟨rfl, hw.out⟩)))))))
end
section
set_option maxRecDepth 100000
theorem rpoint_ok {ps : List Pt} {ts ss : List T3} (x : MX ps ts ss) (p : Nat) (w : World) {S : Nat → Prop} (hx : Ro S w x) : Calls Tryz.prog 112 #[(aG (mxL x)), (vN p)] w (Gives w (Value.bool (decide (p < ps.length)))) := by
 have lx := atA (W := w) hx
 refine calls_ofR (args := [(aG (mxL x)), (vN p)]) (L := [rowR x.a.p (rowsL ptL ps), rowR x.b.p (rowsL t3L ts), rowR x.c.p (rowsL t3L ss)]) Tryz.func112 rfl rfl (leB rfl) (sxA hx roL_nil) (OkC.subF (sL [0, 1] rfl) (q4 (bx' (cs := mxL x) rfl fun b1 => asg' rfl (q3 (sL [1, 2, 4] rfl) ?_))))
 refine mv' rfl (st' (ex_geq (c := true) rfl rfl (by simp)) rfl (mv' rfl (OkL.step (v := (vN p)) (wt_some' rfl) (ex_move rfl) rfl (leB rfl) (OkL.step (v := (pP b1 0)) (wt_some' rfl) (ex_fieldAddr rfl Tryz.underlying31 rfl Tryz.sizeOf27 rfl) rfl (leB rfl) (OkL.step (v := (Value.slice x.a.p ps.length x.a.c)) (wt_some' rfl) (ex_load_one (i := 0) (v := (Value.slice x.a.p ps.length x.a.c)) rfl rfl tO27.a rfl) rfl (leB rfl) ?_)))))
 refine OkL.step (v := (vN ps.length)) (wt_some' rfl) (ex_len_slice rfl Tryz.underlying27) rfl (leB rfl) (OkL.step (v := (Value.bool (decide (p < ps.length)))) (wt_some' rfl) (ex_lss (c := (decide (p < ps.length))) rfl rfl (ltN (a := p) (b := ps.length))) rfl (leB rfl) (st' (v := (Value.bool (decide (p < ps.length)))) (ex_pick_true rfl rfl) rfl (asg' rfl (OkL.nil (OkQ.subF (sL [4] rfl) ?_)))))
 exact OkQ.then_ (OkC.ret (ret_one rfl (rd_tmp (v := (Value.bool (decide (p < ps.length)))) rfl) (fun w hw => ⟨rfl, hw.out⟩)))
theorem keyRim : KeyE Tryz.prog 244 kEd okE where
 law := .of_law (deep_law_laid laidB (m := 2) (by decide) (by decide +kernel) (by kernel_rfl) (by kernel_rfl))
 key := fun a h => keyOf_two Tryz.underlying244 ⟨rfl, rfl⟩ ⟨rfl, rfl⟩ (by decide +kernel) Tryz.underlying3 (by kernel_rfl) (by kernel_rfl) (by kernel_rfl) (by decide +kernel) (wf_nat h.1) (wf_nat h.2)
 inj := fun a b h => posL_inj h
theorem tfs_numub_66_1 (x0 : Nat × Nat × Nat) : Instr.fill (fun i => some (i * 3, 3)) ((Array.range (1 * 3)).map ((Value.agg (t3L ((0, 0, 0) : Nat × Nat × Nat)).toArray).cells[· % (Value.agg (t3L ((0, 0, 0) : Nat × Nat × Nat)).toArray).cells.size]!)) [(0, .agg (t3L x0).toArray)] = some (t3L x0).toArray := by kernel_rfl
set_option maxHeartbeats 4000000 in
theorem Rim_ok (ts : List T3) (x : RX (rowsL t3L ts) ts.length) (pp : Option Addr) (N pc : Nat) (hn : numB N ts = true) (hN : N ≤ 4611686018427387904) (hl : ts.length ≤ 1000000000) (w : World) {S : Nat → Prop} (hx : Ro S w x) : Calls Tryz.prog 118 #[(Value.slice pp N pc), (Value.slice x.p ts.length x.c)] w (GivesL oxC (oxL (T := 66) (z := 3) (cs := rowsL t3L (rimL ts)) (n := (rimL ts).length)) S w) := by
 have lx := atA (W := w) hx
 refine calls_ofR (args := [(Value.slice pp N pc), (Value.slice x.p ts.length x.c)]) (L := [rowR x.p (rowsL t3L ts)]) Tryz.func118 rfl rfl (leB rfl) (sxA hx roL_nil) (OkC.subF (sL [0, 1] rfl) (q4 (asg' rfl (OkL.nil (q1 ?_)))))
 refine q4 (mv' rfl (mv' rfl (st' (v := (vN N)) (ex_len_slice rfl Tryz.underlying27) rfl (cl' (args := [(Value.slice x.p ts.length x.c), (vN N)]) (v := (Value.bool true)) Tryz.call109 (fun w hw => (by have h9 := numd_ok N ts x (by omega) w (inS hw 0 rfl lx); rw [hn] at h9; exact h9)) rfl (st' (ex_not (c := false) rfl rfl) rfl ?_)))))
 refine OkL.nil (OkQ.subF (sL [1, 4, 18] rfl) (OkQ.then_ (OkC.cond_false rfl (OkC.skip (q2 ?_)))))
 refine OkL.makeMap kEd vN (wt_none rfl) rfl fun b1 => asg' rfl (q6 (sL [1, 4, 5] rfl) (q4 (mv' rfl (st' (v := (vN ts.length)) (ex_len_slice rfl Tryz.underlying28) rfl ?_))))
 refine mv' rfl (OkL.nil (OkQ.then_ (OkC.block ?_)))
 refine OkC.lp1 (tg fun (t : Nat) => t ≤ ts.length) (tg fun (t : Nat) => [(1, (Value.slice x.p ts.length x.c)), (4, (Value.slice none 0 0)), (5, (Value.map (some b1))), (20, (Value.slice x.p ts.length x.c)), (21, (vN ts.length)), (22, (vN t))]) (tg fun (t : Nat) => [mapA b1 kEd vN (manS ts (3 * t + 0)), rowR x.p (rowsL t3L ts)]) (tg fun (t : Nat) => ts.length - t) 0 (Nat.zero_le _) (sF rfl) sr (fun t hJ => ?_)
 have ht := hJ
 refine q4 (st' (ex_lss (c := (decide (t < ts.length))) rfl rfl (ltN (a := t) (b := ts.length))) rfl (OkL.nil (q1 ?_)))
 refine OkC.cond rfl (fun hc1 => ?_) (fun hc1 => ?_)
 ·replace hc1 := of_decide_eq_true hc1
  obtain ⟨T, hT⟩ : ∃ q, q = ts.getD t (0, 0, 0) := ⟨_, rfl⟩
  obtain ⟨g1, g2, g3⟩ := okT_spec (numB_at hn hc1)
  rw [← hT] at g1 g2 g3
  refine OkC.skip (q1 (OkC.block (q4 (st' (v := (pP (pB x.p) (pO x.p + t * 3))) (ex_index_row (j := t) rfl rfl x.ok Tryz.underlying28 Tryz.sizeOf45 rfl (by omega)) rfl (st' (v := (aG (t3L (ts.getD t ((0, 0, 0) : Nat × Nat × Nat))))) (ex_load_rowR_agg (vs := t3L (ts.getD t ((0, 0, 0) : Nat × Nat × Nat))) (i := 1) rfl rfl (RowOk.ne x.ok (by omega)) tA45 (rowsL_get t3L_len _ _ _ (by omega)) (t3L_len _)) rfl ?_)))))
  refine OkL.retell (k := 25) (u := (aG (t3L T))) rfl (by rw [hT]) (al tZ45 rfl fun b2 => stW0' rfl Tryz.sizeOf45 rfl (q3 (sL [1, 4, 5, 20, 21, 22, 7] rfl) (mv' rfl (OkL.nil ?_))))
  refine OkQ.then_ (OkC.block (OkC.unroll 4 (OkR.step (q4 (st' (ex_lss (c := true) rfl rfl (by decide)) rfl ?_)))))
  refine OkL.nil (q1 (OkC.cond_true rfl (OkC.skip (q1 (OkC.block ?_)))))
  refine q4 (mv' rfl (asg' rfl (q6 (sL [1, 4, 5, 20, 21, 22, 7, 26, 8] rfl) (rG' [(0, true), (1, true), (2, true), (3, true), (4, true), (5, true), (6, true), (7, true), (8, true), (9, true)] sr (pM' rfl ?_)))))
  refine pE' (v := (pP b2 0)) rfl (ex_indexAddr_array (j := 0) rfl rfl Tryz.underlying45 Tryz.sizeOf3 rfl (by decide) rfl) (pO'' 0 (vN T.1) tO3 rfl (pM' rfl (pE' rfl (ex_add (c := (1 : Int)) rfl rfl (by decide)) (pE' rfl (ex_rem (c := (1 : Int)) rfl rfl (by decide) (by decide)) (pE' (v := (pP b2 1)) rfl (ex_indexAddr_array (j := 1) rfl rfl Tryz.underlying45 Tryz.sizeOf3 rfl (by decide) rfl) ?_)))))
  refine pO'' 0 (vN T.2.1) tO3 rfl (pS' rfl (pS' rfl (OkE.nil (OkQ.subF (sL [1, 4, 5, 20, 21, 22, 7, 26, 9, 10] rfl) (OkQ.then_ ?_)))))
  obtain ⟨vq1, hvq1⟩ : ∃ q, q = (getM (manS ts (3 * t + 0)) ((min T.1 T.2.1, max T.1 T.2.1) : P2)).getD 0 := ⟨_, rfl⟩
  refine rCW [(0, true), (1, true), (2, true), (3, true), (4, true), (5, true), (6, true), (7, true), (8, true), (9, true), (10, false), (11, true)] 12 [] (wkB 1 (x := ((min T.1 T.2.1, max T.1 T.2.1) : P2)) (v := vq1) rfl rfl) (List.nil_sublist _) (by kernel_rfl) (fun _ _ d _ _ h => by cases d <;> exact h) (vM rfl rfl rfl (vM rfl rfl rfl (vM rfl rfl rfl (vE rfl (ex_min (c := ((min T.1 T.2.1 : Nat) : Int)) rfl rfl (by split <;> omega)) rfl (vM rfl rfl rfl ?_)))))
  refine vM rfl rfl rfl (vE rfl (ex_max (c := ((max T.1 T.2.1 : Nat) : Int)) rfl rfl (by split <;> omega)) rfl (vE (v := (aG ([(vN (min T.1 T.2.1)), (vN (max T.1 T.2.1))]))) rfl (ex_build_struct (zs := posL ((0, 0) : P2)) (vs := [(vN (min T.1 T.2.1)), (vN (max T.1 T.2.1))]) (pv := [(0, (vN (min T.1 T.2.1))), (1, (vN (max T.1 T.2.1)))]) (places := [(0, 1), (1, 1)]) Tryz.zeroValue244 Tryz.underlying244 (fun w => by simp [Tryz.sizeOf3]) rfl rfl) rfl (vE (v := (vN vq1)) rfl (ex_lookupB keyRim 1 (kvs := manS ts (3 * t + 0)) (x := ((min T.1 T.2.1, max T.1 T.2.1) : P2)) (z0 := 0) rfl rfl Tryz.underlying243 Tryz.zeroValue3 rfl (manS_ok hn hN _ (by omega)) (okE_ky (by omega) (by omega)) hvq1) rfl ?_)))
  have hmq := manS_le (ts := ts) (3 * t + 0) ((min T.1 T.2.1, max T.1 T.2.1) : P2)
  refine vE rfl (ex_add (c := ((vq1 + 1 : Nat) : Int)) rfl rfl (addN_i64 (a := vq1) (b := 1) (by omega))) rfl (OkF.imp rfl (OkL.mapEntry keyRim 1 (kvs := manS ts (3 * t + 0)) (x := ((min T.1 T.2.1, max T.1 T.2.1) : P2)) (z0 := 0) (v := vq1) rfl rfl Tryz.underlying243 Tryz.zeroValue3 rfl (manS_ok hn hN _ (by omega)) (okE_ky (by omega) (by omega)) hvq1 rfl (OkF.backW (wkB' 1 rfl rfl) (vE rfl (ex_extract (v := (vN (findM (manS ts (3 * t + 0)) ((min T.1 T.2.1, max T.1 T.2.1) : P2)))) rfl rfl) rfl (OkF.cut rfl ?_)))))
  refine OkL.entryStore 1 (kvs := manS ts (3 * t + 0)) (x := ((min T.1 T.2.1, max T.1 T.2.1) : P2)) (u := vq1) (y := vq1 + 1) rfl rfl rfl rfl ?_
  rw [show putM (manS ts (3 * t + 0)) ((min T.1 T.2.1, max T.1 T.2.1) : P2) (vq1 + 1) = manS ts (3 * t + 1) from by rw [hvq1, hT]; exact (manS_succ (ts := ts) (t := t) (i := 0) (by omega)).symm]
  refine OkE.back (List.nil_sublist _) (OkE.nil (OkQ.subF (sL [1, 4, 5, 20, 21, 22, 7, 26] rfl) (OkQ.in_normal (OkQ.then_ (OkC.region ?_)))))
  refine st' (ex_add (c := (1 : Int)) rfl rfl (by decide)) rfl (mv' rfl (OkL.nil (OkQ.subF (sL [1, 4, 5, 20, 21, 22, 7, 26] rfl) (OkQ.again (OkR.step ?_)))))
  refine q4 (st' (ex_lss (c := true) rfl rfl (by decide)) rfl (OkL.nil (q1 (OkC.cond_true rfl (OkC.skip ?_)))))
  refine q1 (OkC.block (q4 (mv' rfl (asg' rfl (q6 (sL [1, 4, 5, 20, 21, 22, 7, 26, 8] rfl) ?_)))))
  refine rG' [(0, true), (1, true), (2, true), (3, true), (4, true), (5, true), (6, true), (7, true), (8, true), (9, true)] sr (pM' rfl (pE' (v := (pP b2 1)) rfl (ex_indexAddr_array (j := 1) rfl rfl Tryz.underlying45 Tryz.sizeOf3 rfl (by decide) rfl) (pO'' 0 (vN T.2.1) tO3 rfl (pM' rfl (pE' rfl (ex_add (c := (2 : Int)) rfl rfl (by decide)) ?_)))))
  refine pE' rfl (ex_rem (c := (2 : Int)) rfl rfl (by decide) (by decide)) (pE' (v := (pP b2 2)) rfl (ex_indexAddr_array (j := 2) rfl rfl Tryz.underlying45 Tryz.sizeOf3 rfl (by decide) rfl) (pO'' 0 (vN T.2.2) tO3 rfl (pS' rfl (pS' rfl (OkE.nil ?_)))))
  refine OkQ.subF (sL [1, 4, 5, 20, 21, 22, 7, 26, 9, 10] rfl) (OkQ.then_ ?_)
  obtain ⟨vq2, hvq2⟩ : ∃ q, q = (getM (manS ts (3 * t + 1)) ((min T.2.1 T.2.2, max T.2.1 T.2.2) : P2)).getD 0 := ⟨_, rfl⟩
  refine rCW [(0, true), (1, true), (2, true), (3, true), (4, true), (5, true), (6, true), (7, true), (8, true), (9, true), (10, false), (11, true)] 12 [] (wkB 1 (x := ((min T.2.1 T.2.2, max T.2.1 T.2.2) : P2)) (v := vq2) rfl rfl) (List.nil_sublist _) (by kernel_rfl) (fun _ _ d _ _ h => by cases d <;> exact h) (vM rfl rfl rfl (vM rfl rfl rfl (vM rfl rfl rfl (vE rfl (ex_min (c := ((min T.2.1 T.2.2 : Nat) : Int)) rfl rfl (by split <;> omega)) rfl (vM rfl rfl rfl ?_)))))
  refine vM rfl rfl rfl (vE rfl (ex_max (c := ((max T.2.1 T.2.2 : Nat) : Int)) rfl rfl (by split <;> omega)) rfl (vE (v := (aG ([(vN (min T.2.1 T.2.2)), (vN (max T.2.1 T.2.2))]))) rfl (ex_build_struct (zs := posL ((0, 0) : P2)) (vs := [(vN (min T.2.1 T.2.2)), (vN (max T.2.1 T.2.2))]) (pv := [(0, (vN (min T.2.1 T.2.2))), (1, (vN (max T.2.1 T.2.2)))]) (places := [(0, 1), (1, 1)]) Tryz.zeroValue244 Tryz.underlying244 (fun w => by simp [Tryz.sizeOf3]) rfl rfl) rfl (vE (v := (vN vq2)) rfl (ex_lookupB keyRim 1 (kvs := manS ts (3 * t + 1)) (x := ((min T.2.1 T.2.2, max T.2.1 T.2.2) : P2)) (z0 := 0) rfl rfl Tryz.underlying243 Tryz.zeroValue3 rfl (manS_ok hn hN _ (by omega)) (okE_ky (by omega) (by omega)) hvq2) rfl ?_)))
  have hmq := manS_le (ts := ts) (3 * t + 1) ((min T.2.1 T.2.2, max T.2.1 T.2.2) : P2)
  refine vE rfl (ex_add (c := ((vq2 + 1 : Nat) : Int)) rfl rfl (addN_i64 (a := vq2) (b := 1) (by omega))) rfl (OkF.imp rfl (OkL.mapEntry keyRim 1 (kvs := manS ts (3 * t + 1)) (x := ((min T.2.1 T.2.2, max T.2.1 T.2.2) : P2)) (z0 := 0) (v := vq2) rfl rfl Tryz.underlying243 Tryz.zeroValue3 rfl (manS_ok hn hN _ (by omega)) (okE_ky (by omega) (by omega)) hvq2 rfl (OkF.backW (wkB' 1 rfl rfl) (vE rfl (ex_extract (v := (vN (findM (manS ts (3 * t + 1)) ((min T.2.1 T.2.2, max T.2.1 T.2.2) : P2)))) rfl rfl) rfl (OkF.cut rfl ?_)))))
  refine OkL.entryStore 1 (kvs := manS ts (3 * t + 1)) (x := ((min T.2.1 T.2.2, max T.2.1 T.2.2) : P2)) (u := vq2) (y := vq2 + 1) rfl rfl rfl rfl ?_
  rw [show putM (manS ts (3 * t + 1)) ((min T.2.1 T.2.2, max T.2.1 T.2.2) : P2) (vq2 + 1) = manS ts (3 * t + 2) from by rw [hvq2, hT]; exact (manS_succ (ts := ts) (t := t) (i := 1) (by omega)).symm]
  refine OkE.back (List.nil_sublist _) (OkE.nil (OkQ.subF (sL [1, 4, 5, 20, 21, 22, 7, 26] rfl) (OkQ.in_normal (OkQ.then_ (OkC.region ?_)))))
  refine st' (ex_add (c := (2 : Int)) rfl rfl (by decide)) rfl (mv' rfl (OkL.nil (OkQ.subF (sL [1, 4, 5, 20, 21, 22, 7, 26] rfl) (OkQ.again (OkR.step ?_)))))
  refine q4 (st' (ex_lss (c := true) rfl rfl (by decide)) rfl (OkL.nil (q1 (OkC.cond_true rfl (OkC.skip ?_)))))
  refine q1 (OkC.block (q4 (mv' rfl (asg' rfl (q6 (sL [1, 4, 5, 20, 21, 22, 7, 26, 8] rfl) ?_)))))
  refine rG' [(0, true), (1, true), (2, true), (3, true), (4, true), (5, true), (6, true), (7, true), (8, true), (9, true)] sr (pM' rfl (pE' (v := (pP b2 2)) rfl (ex_indexAddr_array (j := 2) rfl rfl Tryz.underlying45 Tryz.sizeOf3 rfl (by decide) rfl) (pO'' 0 (vN T.2.2) tO3 rfl (pM' rfl (pE' rfl (ex_add (c := (3 : Int)) rfl rfl (by decide)) ?_)))))
  refine pE' rfl (ex_rem (c := (0 : Int)) rfl rfl (by decide) (by decide)) (pE' (v := (pP b2 0)) rfl (ex_indexAddr_array (j := 0) rfl rfl Tryz.underlying45 Tryz.sizeOf3 rfl (by decide) rfl) (pO'' 0 (vN T.1) tO3 rfl (pS' rfl (pS' rfl (OkE.nil ?_)))))
  refine OkQ.subF (sL [1, 4, 5, 20, 21, 22, 7, 26, 9, 10] rfl) (OkQ.then_ ?_)
  obtain ⟨vq3, hvq3⟩ : ∃ q, q = (getM (manS ts (3 * t + 2)) ((min T.2.2 T.1, max T.2.2 T.1) : P2)).getD 0 := ⟨_, rfl⟩
  refine rCW [(0, true), (1, true), (2, true), (3, true), (4, true), (5, true), (6, true), (7, true), (8, true), (9, true), (10, false), (11, true)] 12 [] (wkB 1 (x := ((min T.2.2 T.1, max T.2.2 T.1) : P2)) (v := vq3) rfl rfl) (List.nil_sublist _) (by kernel_rfl) (fun _ _ d _ _ h => by cases d <;> exact h) (vM rfl rfl rfl (vM rfl rfl rfl (vM rfl rfl rfl (vE rfl (ex_min (c := ((min T.2.2 T.1 : Nat) : Int)) rfl rfl (by split <;> omega)) rfl (vM rfl rfl rfl ?_)))))
  refine vM rfl rfl rfl (vE rfl (ex_max (c := ((max T.2.2 T.1 : Nat) : Int)) rfl rfl (by split <;> omega)) rfl (vE (v := (aG ([(vN (min T.2.2 T.1)), (vN (max T.2.2 T.1))]))) rfl (ex_build_struct (zs := posL ((0, 0) : P2)) (vs := [(vN (min T.2.2 T.1)), (vN (max T.2.2 T.1))]) (pv := [(0, (vN (min T.2.2 T.1))), (1, (vN (max T.2.2 T.1)))]) (places := [(0, 1), (1, 1)]) Tryz.zeroValue244 Tryz.underlying244 (fun w => by simp [Tryz.sizeOf3]) rfl rfl) rfl (vE (v := (vN vq3)) rfl (ex_lookupB keyRim 1 (kvs := manS ts (3 * t + 2)) (x := ((min T.2.2 T.1, max T.2.2 T.1) : P2)) (z0 := 0) rfl rfl Tryz.underlying243 Tryz.zeroValue3 rfl (manS_ok hn hN _ (by omega)) (okE_ky (by omega) (by omega)) hvq3) rfl ?_)))
  have hmq := manS_le (ts := ts) (3 * t + 2) ((min T.2.2 T.1, max T.2.2 T.1) : P2)
  refine vE rfl (ex_add (c := ((vq3 + 1 : Nat) : Int)) rfl rfl (addN_i64 (a := vq3) (b := 1) (by omega))) rfl (OkF.imp rfl (OkL.mapEntry keyRim 1 (kvs := manS ts (3 * t + 2)) (x := ((min T.2.2 T.1, max T.2.2 T.1) : P2)) (z0 := 0) (v := vq3) rfl rfl Tryz.underlying243 Tryz.zeroValue3 rfl (manS_ok hn hN _ (by omega)) (okE_ky (by omega) (by omega)) hvq3 rfl (OkF.backW (wkB' 1 rfl rfl) (vE rfl (ex_extract (v := (vN (findM (manS ts (3 * t + 2)) ((min T.2.2 T.1, max T.2.2 T.1) : P2)))) rfl rfl) rfl (OkF.cut rfl ?_)))))
  refine OkL.entryStore 1 (kvs := manS ts (3 * t + 2)) (x := ((min T.2.2 T.1, max T.2.2 T.1) : P2)) (u := vq3) (y := vq3 + 1) rfl rfl rfl rfl ?_
  rw [show putM (manS ts (3 * t + 2)) ((min T.2.2 T.1, max T.2.2 T.1) : P2) (vq3 + 1) = manS ts (3 * t + 3) from by rw [hvq3, hT]; exact (manS_succ (ts := ts) (t := t) (i := 2) (by omega)).symm]
  refine OkE.back (List.nil_sublist _) (OkE.nil (OkQ.subF (sL [1, 4, 5, 20, 21, 22, 7, 26] rfl) (OkQ.in_normal (OkQ.then_ (OkC.region ?_)))))
  refine st' (ex_add (c := (3 : Int)) rfl rfl (by decide)) rfl (mv' rfl (OkL.nil (OkQ.subF (sL [1, 4, 5, 20, 21, 22, 7, 26] rfl) (OkQ.again (OkR.step ?_)))))
  refine q4 (st' (ex_lss (c := false) rfl rfl (by decide)) rfl (OkL.nil (q1 (OkC.cond_false rfl (OkC.exit ?_)))))
  refine OkQ.then_exit (OkQ.then_exit (OkQ.in_exit (OkQ.in_normal (OkQ.then_ (OkC.region ?_)))))
  refine st' (ex_add (c := ((t + 1 : Nat) : Int)) rfl rfl (addN_i64 (a := t) (b := 1) (by omega))) rfl (mv' rfl (OkL.nil (OkQ.subF (sL [1, 4, 5, 20, 21, 22, 7, 26] rfl) ?_)))
  rw [show 3 * t + 3 = 3 * (t + 1) + 0 by omega]
  exact OkQ.round1 (t + 1) (by omega) (by omega) (sF rfl) (sl sr)
 ·replace hc1 := of_decide_eq_false hc1
  have htl : t = ts.length := by omega
  refine OkC.exit (OkQ.then_exit (OkQ.round1_exit (OkQ.in_exit (q2 (asg' rfl ?_)))))
  refine OkL.nilRow 66 3 (OkL.nil (q1 (q4 (mv' rfl ?_))))
  rw [show manS ts (3 * t + 0) = (manS ts (3 * ts.length)) by rw [htl, Nat.add_zero]]
  refine cX (S := S) (cs := rowsL e4L (edL ts)) (k := (edL ts).length) (args := [(Value.slice x.p ts.length x.c)]) Tryz.call93 (fun w hw => edges_ok ts x N hn hN hl w (inS hw 2 rfl lx)) rfl rfl rfl fun o lo => st' (v := (vN ((edL ts).length))) (ex_len_slice rfl Tryz.underlying40) rfl (mv' rfl (OkL.nil (OkQ.subF (sL [1, 4, 5, 20, 21, 22, 11, 52, 53, 54] rfl) (OkQ.then_ ?_))))
  refine OkC.block ?_
  refine OkC.lp4 (tg fun (i : Nat) (p1 : Option Addr) (c1 : Nat) (out : List T3) => i ≤ (edL ts).length ∧ OwnOk p1 out.length c1 ∧ out = rimN ts i) (tg fun (i : Nat) (p1 : Option Addr) (c1 : Nat) (out : List T3) => [(4, (Value.slice none 0 0)), (5, (Value.map (some b1))), (52, (Value.slice o.p ((edL ts).length) o.c)), (53, (vN ((edL ts).length))), (54, (vN i)), (11, (Value.slice p1 out.length c1))]) (tg fun (i : Nat) (p1 : Option Addr) (c1 : Nat) (out : List T3) => [rowR o.p (rowsL e4L (edL ts)), rowW p1 66 3 out.length c1 (rowsL t3L out), mapA b1 kEd vN (manS ts (3 * ts.length)), rowR x.p (rowsL t3L ts)]) (tg fun (i : Nat) (p1 : Option Addr) (c1 : Nat) (out : List T3) => (edL ts).length - i) 0 none 0 ([] : List T3) (⟨Nat.zero_le _, OwnOk.none, rfl⟩) (sF rfl) sr (fun i p1 c1 out hJ => ?_)
  obtain ⟨hi, ho, hou⟩ := hJ
  have hol := rimN_len (ts := ts) i
  rw [← hou] at hol
  refine q4 (st' (ex_lss (c := (decide (i < ((edL ts).length)))) rfl rfl (ltN (a := i) (b := (edL ts).length))) rfl (OkL.nil (q1 ?_)))
  refine OkC.cond rfl (fun hc3 => ?_) (fun hc3 => ?_)
  ·replace hc3 := of_decide_eq_true hc3
   have hel := edS_len (ts := ts) (3 * ts.length)
   rw [← edL_len] at hel
   have hmem : ((edL ts).getD i (⟨0, 0, 0, 0⟩ : E4)) ∈ edL ts := by rw [List.getD, List.getElem?_eq_getElem hc3]; exact List.getElem_mem hc3
   obtain ⟨hea, heb⟩ := edge_two hn hN _ hmem
   refine OkC.skip (q1 (OkC.block (q4 (st' (v := (pP (pB o.p) (pO o.p + i * 4))) (ex_index_row (j := i) rfl rfl o.ok Tryz.underlying40 Tryz.sizeOf44 rfl (by omega)) rfl (st' (v := (aG (e4L ((edL ts).getD i (⟨0, 0, 0, 0⟩ : E4))))) (ex_load_rowR_agg (vs := e4L ((edL ts).getD i (⟨0, 0, 0, 0⟩ : E4))) (i := 0) rfl rfl (RowOk.ne o.ok (by omega)) tA44 (rowsL_get e4L_len _ _ _ (by omega)) (e4L_len _)) rfl ?_)))))
   refine al tZ44 rfl fun b2 => stW0' rfl Tryz.sizeOf44 rfl (q3 (sL [4, 5, 52, 53, 54, 11, 13] rfl) (mv' rfl (st' (v := (pP b2 0)) (ex_fieldAddr rfl Tryz.underlying44 rfl Tryz.sizeOf3 rfl) rfl (ldO' 0 (vN (((edL ts).getD i (⟨0, 0, 0, 0⟩ : E4)).a)) tO3 rfl ?_))))
   refine st' (v := (pP b2 1)) (ex_fieldAddr rfl Tryz.underlying44 rfl Tryz.sizeOf3 rfl) rfl (ldO' 0 (vN (((edL ts).getD i (⟨0, 0, 0, 0⟩ : E4)).b)) tO3 rfl (st' (v := (aG ([(vN (((edL ts).getD i (⟨0, 0, 0, 0⟩ : E4)).a)), (vN (((edL ts).getD i (⟨0, 0, 0, 0⟩ : E4)).b))]))) (ex_build_struct (zs := posL ((0, 0) : P2)) (vs := [(vN (((edL ts).getD i (⟨0, 0, 0, 0⟩ : E4)).a)), (vN (((edL ts).getD i (⟨0, 0, 0, 0⟩ : E4)).b))]) (pv := [(0, (vN (((edL ts).getD i (⟨0, 0, 0, 0⟩ : E4)).a))), (1, (vN (((edL ts).getD i (⟨0, 0, 0, 0⟩ : E4)).b)))]) (places := [(0, 1), (1, 1)]) Tryz.zeroValue244 Tryz.underlying244 (fun w => by simp [Tryz.sizeOf3]) rfl rfl) rfl (st' (v := (vN ((getM (manS ts (3 * ts.length)) ((((edL ts).getD i (⟨0, 0, 0, 0⟩ : E4)).a, ((edL ts).getD i (⟨0, 0, 0, 0⟩ : E4)).b) : P2)).getD 0))) (ex_lookup keyRim 3 (eV := vN) (kvs := (manS ts (3 * ts.length))) (x := ((((edL ts).getD i (⟨0, 0, 0, 0⟩ : E4)).a, ((edL ts).getD i (⟨0, 0, 0, 0⟩ : E4)).b) : P2)) (z0 := 0) (co := false) rfl rfl Tryz.underlying243 Tryz.zeroValue3 rfl (manS_ok hn hN _ (by omega)) (okE_mk (by omega) (by omega))) rfl (st' (ex_eql (c := (decide (((getM (manS ts (3 * ts.length)) ((((edL ts).getD i (⟨0, 0, 0, 0⟩ : E4)).a, ((edL ts).getD i (⟨0, 0, 0, 0⟩ : E4)).b) : P2)).getD 0) = 1))) rfl rfl (eqN (a := (getM (manS ts (3 * ts.length)) ((((edL ts).getD i (⟨0, 0, 0, 0⟩ : E4)).a, ((edL ts).getD i (⟨0, 0, 0, 0⟩ : E4)).b) : P2)).getD 0) (b := 1))) rfl (OkL.nil ?_)))))
   refine OkQ.subF (sL [4, 5, 52, 53, 54, 11, 13, 65] rfl) (OkQ.then_ ?_)
   refine OkC.cond rfl (fun hc4 => ?_) (fun hc4 => ?_)
   ·replace hc4 := of_decide_eq_true hc4
    refine OkC.region (mv' rfl (st' (v := (pP b2 0)) (ex_fieldAddr rfl Tryz.underlying44 rfl Tryz.sizeOf3 rfl) rfl (ldO' 0 (vN (((edL ts).getD i (⟨0, 0, 0, 0⟩ : E4)).a)) tO3 rfl (st' (v := (pP b2 1)) (ex_fieldAddr rfl Tryz.underlying44 rfl Tryz.sizeOf3 rfl) rfl (ldO' 0 (vN (((edL ts).getD i (⟨0, 0, 0, 0⟩ : E4)).b)) tO3 rfl ?_)))))
    refine st' (v := (aG ([(vN (((edL ts).getD i (⟨0, 0, 0, 0⟩ : E4)).a)), (vN (((edL ts).getD i (⟨0, 0, 0, 0⟩ : E4)).b)), (vI 0)]))) (ex_build_struct (zs := t3L ((0, 0, 0) : Nat × Nat × Nat)) (vs := [(vN (((edL ts).getD i (⟨0, 0, 0, 0⟩ : E4)).a)), (vN (((edL ts).getD i (⟨0, 0, 0, 0⟩ : E4)).b)), (vI 0)]) (pv := [(0, (vN (((edL ts).getD i (⟨0, 0, 0, 0⟩ : E4)).a))), (1, (vN (((edL ts).getD i (⟨0, 0, 0, 0⟩ : E4)).b)))]) (places := [(0, 1), (1, 1), (2, 1)]) Tryz.zeroValue66 Tryz.underlying66 (fun w => by simp [Tryz.sizeOf3]) rfl rfl) rfl (OkL.openV (V := fun b3 => (Value.slice (some ⟨b3, 0, none⟩) 1 1)) (T := 66) (cs := t3L (((edL ts).getD i (⟨0, 0, 0, 0⟩ : E4)).a, ((edL ts).getD i (⟨0, 0, 0, 0⟩ : E4)).b, 0)) (wt_none rfl) (op_buildSlice (z := .agg (t3L ((0, 0, 0) : Nat × Nat × Nat)).toArray) (cs := t3L (((edL ts).getD i (⟨0, 0, 0, 0⟩ : E4)).a, ((edL ts).getD i (⟨0, 0, 0, 0⟩ : E4)).b, 0)) (pv := [(0, (aG ([(vN (((edL ts).getD i (⟨0, 0, 0, 0⟩ : E4)).a)), (vN (((edL ts).getD i (⟨0, 0, 0, 0⟩ : E4)).b)), (vI 0)])))]) Tryz.underlying29 Tryz.sizeOf66 Tryz.zeroValue66 (by decide) (by decide) rfl (tfs_numub_66_1 (((edL ts).getD i (⟨0, 0, 0, 0⟩ : E4)).a, ((edL ts).getD i (⟨0, 0, 0, 0⟩ : E4)).b, 0))) rfl (leB rfl) fun b3 => OkL.appendAt 3 (j := 0) (cs2 := rowsL t3L (out ++ [(((edL ts).getD i (⟨0, 0, 0, 0⟩ : E4)).a, ((edL ts).getD i (⟨0, 0, 0, 0⟩ : E4)).b, 0)])) tE29 rfl ho (rowsL_length t3L_len _) rfl rfl rfl rfl rfl (by decide) (mxl (by omega)) (by omega) (by rw [rowsL_append]; rfl) rfl fun p_1 c_1 ho_1 hne_1 => asg' rfl (OkL.nil (OkQ.subF (sL [4, 5, 52, 53, 54, 11, 13] rfl) ?_)))
    refine OkQ.in_normal (OkQ.then_ (OkC.region (st' (ex_add (c := ((i + 1 : Nat) : Int)) rfl rfl (addN_i64 (a := i) (b := 1) (by omega))) rfl (mv' rfl (OkL.nil ?_)))))
    refine OkQ.subF (sL [4, 5, 52, 53, 54, 11, 13] rfl) ?_
    rw [show out.length + 1 = (out ++ [(((edL ts).getD i (⟨0, 0, 0, 0⟩ : E4)).a, ((edL ts).getD i (⟨0, 0, 0, 0⟩ : E4)).b, 0)]).length by simp]
    exact OkQ.round4 (i + 1) p_1 c_1 (out ++ [(((edL ts).getD i (⟨0, 0, 0, 0⟩ : E4)).a, ((edL ts).getD i (⟨0, 0, 0, 0⟩ : E4)).b, 0)]) (⟨by omega, (by simpa using ho_1), by rw [hou]; exact (rimN_yes (by omega) hc4).symm⟩) (by omega) (sF rfl) (sl (sl sr))
   ·replace hc4 := of_decide_eq_false hc4
    refine OkC.skip (OkQ.in_normal (OkQ.then_ (OkC.region (st' (ex_add (c := ((i + 1 : Nat) : Int)) rfl rfl (addN_i64 (a := i) (b := 1) (by omega))) rfl (mv' rfl ?_)))))
    exact OkL.nil (OkQ.subF (sL [4, 5, 52, 53, 54, 11, 13] rfl) (OkQ.round4 (i + 1) p1 c1 out (⟨by omega, ho, by rw [hou]; exact (rimN_no (by omega) hc4).symm⟩) (by omega) (sF rfl) (sl sr)))
  ·replace hc3 := of_decide_eq_false hc3
   refine OkC.exit (OkQ.then_exit (OkQ.round4_exit (OkQ.in_exit (q2 (mv' rfl ?_)))))
   exact ck' Tryz.call94 (clipS_ok p1 out.length c1 ho.row.le) rfl (asg' rfl (OkL.nil (OkQ.subF (sL [4, 5, 52, 53, 54, 11] rfl) (OkQ.then_ (OkC.ret (ret_one rfl (rd_tmp (v := (Value.slice p1 out.length out.length)) rfl) (fun w hw => (by rw [show rimL ts = out by rw [hou, show i = (edL ts).length by omega]; rfl]; exact retL hw (OX.mk p1 c1 ho) (sl (sk (sl (sl sr)))) (AtL.own rfl AtL.nil) rfl))))))))
end
end Go.Proofs.YtgiacpkjnikjdaaGreat
