import Derived.Test.YtaahheddmfddhaaGreatPart06
import Derived.Test.YtaahheddmfddhaaGreatPart23
import Derived.Test.YtaahheddmfddhaaGreatPart32
import Derived.Test.YtaahheddmfddhaaGreatPart33
import Derived.Test.YtaahheddmfddhaaGreatPart35
namespace Go.Proofs.YtaahheddmfddhaaGreat
open Go Go.RowKit
set_option linter.unusedVariables false
set_option linter.unusedSimpArgs false
section
set_option maxRecDepth 100000
theorem tfill_numud_34 (x0 x1 x2 : Nat) : Instr.fill (fun i => some (i * 1, 1)) (t3L ((0, 0, 0) : Nat × Nat × Nat)).toArray [(0, vN x0), (1, vN x1), (2, vN x2)] = some (t3L (x0, x1, x2)).toArray := by kernel_rfl
theorem tfs_numud_34_4 (x0 x1 x2 x3 : Nat × Nat × Nat) : Instr.fill (fun i => some (i * 3, 3)) ((Array.range (4 * 3)).map ((Value.agg (t3L ((0, 0, 0) : Nat × Nat × Nat)).toArray).cells[· % (Value.agg (t3L ((0, 0, 0) : Nat × Nat × Nat)).toArray).cells.size]!)) [(0, .agg (t3L x0).toArray), (1, .agg (t3L x1).toArray), (2, .agg (t3L x2).toArray), (3, .agg (t3L x3).toArray)] = some (t3L x0 ++ t3L x1 ++ t3L x2 ++ t3L x3).toArray := by kernel_rfl
set_option maxHeartbeats 1000000 in
theorem Red_ok {ps : List Pt} {ts ss : List T3} (x : MX ps ts ss) (hnb : numB ps.length ts = true) (hz : ∀ i, SzP (cor ps i) ≤ 1000000) (hp : ps.length ≤ 1000000) (htl0 : ts.length ≤ 1000000) (hsl : ss.length ≤ 1000000) (hlim : ps.length + (edL ts).length ≤ 4096 ∧ 4 * ts.length ≤ 8192) (w : World) {S : Nat → Prop} (hx : Ro S w x) : Calls Tryz.prog 15 #[(aG (mxL x))] w (GivesR (RdX (halP ps (edL ts)) (redT ps.length (edL ts) ts) (halX ps.length ss (edL ts) (redT ps.length (edL ts) ts)) (parN ts.length) 0) S w) := by
 obtain ⟨hl1, hl2⟩ := hlim
 have lx := atA (W := w) hx
 refine calls_ofR (args := [(aG (mxL x))]) (L := [rowR x.a.p (rowsL ptL ps), rowR x.b.p (rowsL t3L ts), rowR x.c.p (rowsL t3L ss)]) Tryz.func15 rfl rfl (leB rfl) (sxA hx roL_nil) (OkC.subF (sL [0] rfl) (q4 (bx' (cs := mxL x) rfl fun b1 => al tZ31 rfl fun b2 => asg' rfl ?_)))
 refine asg' rfl (q6 (sL [1, 2, 3, 4] rfl) (q4 (ldW' 1 tA31 rfl (cl' (args := [(aG (mxL x))]) (v := (Value.bool true)) Tryz.call54 (fun w hw => (by have h9 := Numd_ok x (by omega) w (inS hw 2 rfl lx); rw [hnb] at h9; exact h9)) rfl (st' (ex_not (c := false) rfl rfl) rfl ?_)))))
 refine OkL.nil (OkQ.subF (sL [1, 2, 3, 4, 17] rfl) (OkQ.then_ (OkC.cond_false rfl (OkC.skip (q2 ?_)))))
 refine ldW' 1 tA31 rfl (cX (S := S) (cs := rowsL e4L (edL ts)) (k := (edL ts).length) (args := [(aG (mxL x))]) Tryz.call40 (fun w hw => Edges_ok x (by omega) (by omega) hnb w (inS hw 2 rfl lx)) rfl rfl rfl fun o lo => asg' rfl (q6 (sL [1, 2, 3, 4, 5] rfl) (q4 (st' (v := (pP b1 0)) (ex_fieldAddr rfl Tryz.underlying31 rfl Tryz.sizeOf27 rfl) rfl ?_))))
 refine ldO' 2 (Value.slice x.a.p ps.length x.a.c) tO27 rfl (st' (v := (vN ps.length)) (ex_len_slice rfl Tryz.underlying27) rfl (mv' rfl (st' (v := (vN ((edL ts).length))) (ex_len_slice rfl Tryz.underlying59) rfl (st' (ex_add (c := ((ps.length + ((edL ts).length) : Nat) : Int)) rfl rfl (addN_i64 (a := ps.length) (b := (edL ts).length) (by omega))) rfl (st' (ex_gtr (c := false) rfl rfl (decide_eq_false (by omega))) rfl ?_)))))
 refine mv' rfl (OkL.step (v := (pP b1 1)) (wt_some' rfl) (ex_fieldAddr rfl Tryz.underlying31 rfl Tryz.sizeOf28 rfl) rfl (leB rfl) (OkL.step (v := (Value.slice x.b.p ts.length x.b.c)) (wt_some' rfl) (ex_load_one (i := 2) (v := (Value.slice x.b.p ts.length x.b.c)) rfl rfl tO28.a rfl) rfl (leB rfl) (OkL.step (v := (vN ts.length)) (wt_some' rfl) (ex_len_slice rfl Tryz.underlying28) rfl (leB rfl) (OkL.step (v := (vN (4 * ts.length))) (wt_some' rfl) (ex_mul (c := ((4 * ts.length : Nat) : Int)) rfl rfl (mulN_i64 (a := 4) (b := ts.length) (by omega))) rfl (leB rfl) (OkL.step (v := (Value.bool false)) (wt_some' rfl) (ex_gtr (c := false) rfl rfl (decide_eq_false (by omega))) rfl (leB rfl) ?_)))))
 refine st' (v := (Value.bool false)) (ex_pick_false rfl rfl) rfl (OkL.nil (OkQ.subF (sL [1, 2, 3, 4, 5, 34] rfl) (OkQ.then_ (OkC.cond_false rfl (OkC.skip ?_)))))
 refine q2 (OkL.makeMap kEd vN (wt_none rfl) rfl fun b3 => ?_)
 rw [show ([] : List (P2 × Nat)) = midS ps.length (edL ts) 0 from rfl]
 refine asg' rfl (q6 (sL [1, 2, 3, 4, 5, 6] rfl) (q4 (mv' rfl (st' (v := (vN ((edL ts).length))) (ex_len_slice rfl Tryz.underlying59) rfl (mv' rfl ?_)))))
 refine OkL.nil (OkQ.then_ (OkC.block ?_))
 refine OkC.lp1 (tg fun (i : Nat) => i ≤ (edL ts).length) (tg fun (i : Nat) => [(1, (pP b1 0)), (2, (pP b2 0)), (3, (Value.slice none 0 0)), (4, (vI 0)), (5, (Value.slice o.p ((edL ts).length) o.c)), (6, (Value.map (some b3))), (37, (Value.slice o.p ((edL ts).length) o.c)), (38, (vN ((edL ts).length))), (39, (vN i))]) (tg fun (i : Nat) => [mapA b3 kEd vN (midS ps.length (edL ts) i), rowR o.p (rowsL e4L (edL ts)), blk b2 31 ([(Value.slice none 0 0), (Value.slice none 0 0), (Value.slice none 0 0)]), blk b1 31 (mxL x), rowR x.a.p (rowsL ptL ps), rowR x.b.p (rowsL t3L ts), rowR x.c.p (rowsL t3L ss)]) (tg fun (i : Nat) => (edL ts).length - i) 0 (Nat.zero_le _) (sF rfl) sr (fun i hJ => ?_)
 have hi := hJ
 refine q4 (st' (ex_lss (c := (decide (i < ((edL ts).length)))) rfl rfl (ltN (a := i) (b := (edL ts).length))) rfl (OkL.nil (q1 ?_)))
 refine OkC.cond rfl (fun hc2 => ?_) (fun hc2 => ?_)
 ·replace hc2 := of_decide_eq_true hc2
  obtain ⟨ed, hed⟩ : ∃ q, q = (edL ts).getD i (⟨0, 0, 0, 0⟩ : E4) := ⟨_, rfl⟩
  obtain ⟨hea, heb⟩ := edge_two hnb (by omega) ed (by rw [hed, List.getD, List.getElem?_eq_getElem hc2]; exact List.getElem_mem hc2)
  refine OkC.skip (q1 (OkC.block (q4 (mv' rfl (st' (v := (pP (pB o.p) (pO o.p + i * 4))) (ex_index_row (j := i) rfl rfl o.ok Tryz.underlying59 Tryz.sizeOf63 rfl (by omega)) rfl ?_)))))
  refine st' (v := (aG (e4L ((edL ts).getD i (⟨0, 0, 0, 0⟩ : E4))))) (ex_load_rowR_agg (vs := e4L ((edL ts).getD i (⟨0, 0, 0, 0⟩ : E4))) (i := 1) rfl rfl (RowOk.ne o.ok (by omega)) tA63 (rowsL_get e4L_len _ _ _ (by omega)) (e4L_len _)) rfl (OkL.retell (k := 43) (u := (aG (e4L ed))) rfl (by rw [hed]) (al tZ63 rfl fun b4 => asg' rfl (stW0' rfl Tryz.sizeOf63 rfl (OkL.nil ?_))))
  refine OkQ.subF (sL [1, 2, 3, 4, 5, 6, 37, 38, 39, 8, 7] rfl) (OkQ.then_ (rG' [(0, true), (1, true), (2, true), (3, true), (4, true), (6, true), (7, true), (8, true), (9, true), (10, true), (5, false), (11, false)] (sk (sl sr)) (pM' rfl (pE' (v := (pP b4 0)) rfl (ex_fieldAddr rfl Tryz.underlying63 rfl Tryz.sizeOf3 rfl) (pO'' 0 (vN ed.a) tO3 rfl ?_)))))
  refine pE' (v := (pP b4 1)) rfl (ex_fieldAddr rfl Tryz.underlying63 rfl Tryz.sizeOf3 rfl) (pO'' 0 (vN ed.b) tO3 rfl (pE' (v := (pP b1 0)) rfl (ex_fieldAddr rfl Tryz.underlying31 rfl Tryz.sizeOf27 rfl) (pO'' 3 (Value.slice x.a.p ps.length x.a.c) tO27 rfl (pE' (v := (vN ps.length)) rfl (ex_len_slice rfl Tryz.underlying27) (pM' rfl ?_)))))
  refine pE' rfl (ex_add (c := ((ps.length + i : Nat) : Int)) rfl rfl (addN_i64 (a := ps.length) (b := i) (by omega))) (OkE.imp rfl (ck' Tryz.call55 (rOf_ok ed.a ed.b) rfl (OkE.back (sk (sl sr)) (OkE.imp rfl (OkL.mapUpdate keyOf 1 (kvs := midS ps.length (edL ts) i) (x := (min ed.a ed.b, max ed.a ed.b)) (y := ps.length + i) (wt_none rfl) rfl rfl rfl Tryz.underlying111 rfl (midS_ok (edge_two hnb (by omega)) (by omega) _ (by omega)) (okE_ky (by omega) (by omega)) ?_)))))
  rw [show putM (midS ps.length (edL ts) i) (min ed.a ed.b, max ed.a ed.b) (ps.length + i) = midS ps.length (edL ts) (i + 1) from by rw [hed]; rfl]
  refine OkE.back (sk (sl sr)) (OkE.nil (OkQ.subF (sL [1, 2, 3, 4, 5, 6, 37, 38, 39, 8] rfl) (OkQ.in_normal (OkQ.then_ (OkC.region ?_)))))
  exact st' (ex_add (c := ((i + 1 : Nat) : Int)) rfl rfl (addN_i64 (a := i) (b := 1) (by omega))) rfl (mv' rfl (OkL.nil (OkQ.subF (sL [1, 2, 3, 4, 5, 6, 37, 38, 39, 8] rfl) (OkQ.round1 (i + 1) (by omega) (by omega) (sF rfl) (sl sr)))))
 ·replace hc2 := of_decide_eq_false hc2
  have hie : i = (edL ts).length := by omega
  rw [show midS ps.length (edL ts) i = midS ps.length (edL ts) (edL ts).length by rw [hie]]
  refine OkC.exit (OkQ.then_exit (OkQ.round1_exit (OkQ.in_exit (q2 (st' (v := (pP b1 1)) (ex_fieldAddr rfl Tryz.underlying31 rfl Tryz.sizeOf28 rfl) rfl ?_)))))
  refine ldO' 3 (Value.slice x.b.p ts.length x.b.c) tO28 rfl (st' (v := (vN ts.length)) (ex_len_slice rfl Tryz.underlying28) rfl (st' (ex_mul (c := ((4 * ts.length : Nat) : Int)) rfl rfl (mulN_i64 (a := 4) (b := ts.length) (by omega))) rfl (OkL.make0 tE28 rfl rfl (by omega) rfl rfl fun bm_AL hbm_AL => asg' rfl (q3 (sL [1, 2, 3, 4, 5, 6, 37, 38, 39, 9] rfl) ?_))))
  refine st' (v := (pP b1 1)) (ex_fieldAddr rfl Tryz.underlying31 rfl Tryz.sizeOf28 rfl) rfl (ldO' 4 (Value.slice x.b.p ts.length x.b.c) tO28 rfl (st' (v := (vN ts.length)) (ex_len_slice rfl Tryz.underlying28) rfl (st' (ex_mul (c := ((4 * ts.length : Nat) : Int)) rfl rfl (mulN_i64 (a := 4) (b := ts.length) (by omega))) rfl (OkL.make0 tE35 rfl rfl (by omega) rfl rfl fun bm_PR hbm_PR => asg' rfl ?_))))
  refine q6 (sL [1, 2, 3, 4, 5, 6, 37, 38, 39, 9] rfl) (q4 (st' (v := (pP b1 1)) (ex_fieldAddr rfl Tryz.underlying31 rfl Tryz.sizeOf28 rfl) rfl (ldO' 5 (Value.slice x.b.p ts.length x.b.c) tO28 rfl (st' (v := (vN ts.length)) (ex_len_slice rfl Tryz.underlying28) rfl (mv' rfl ?_)))))
  refine OkL.nil (OkQ.subF (sL [1, 2, 3, 4, 5, 6, 37, 38, 39, 9, 67, 68, 69] rfl) (OkQ.then_ (OkC.block ?_)))
  refine OkC.lp5 (tg fun (t : Nat) (p1 : Option Addr) (c1 : Nat) (p2 : Option Addr) (c2 : Nat) => t ≤ ts.length ∧ OwnOk p1 (4 * t) c1 ∧ OwnOk p2 (4 * t) c2) (tg fun (t : Nat) (p1 : Option Addr) (c1 : Nat) (p2 : Option Addr) (c2 : Nat) => [(1, (pP b1 0)), (2, (pP b2 0)), (4, (vI 0)), (5, (Value.slice o.p ((edL ts).length) o.c)), (6, (Value.map (some b3))), (67, (Value.slice x.b.p ts.length x.b.c)), (68, (vN ts.length)), (69, (vN t)), (9, (Value.slice p1 (4 * t) c1)), (3, (Value.slice p2 (4 * t) c2))]) (tg fun (t : Nat) (p1 : Option Addr) (c1 : Nat) (p2 : Option Addr) (c2 : Nat) => [rowW p2 3 1 (4 * t) c2 (inL (parN t)), rowW p1 34 3 (4 * t) c1 (rowsL t3L (redN ps.length (edL ts) ts t)), mapA b3 kEd vN (midS ps.length (edL ts) (edL ts).length), rowR o.p (rowsL e4L (edL ts)), blk b2 31 ([(Value.slice none 0 0), (Value.slice none 0 0), (Value.slice none 0 0)]), blk b1 31 (mxL x), rowR x.a.p (rowsL ptL ps), rowR x.b.p (rowsL t3L ts), rowR x.c.p (rowsL t3L ss)]) (tg fun (t : Nat) (p1 : Option Addr) (c1 : Nat) (p2 : Option Addr) (c2 : Nat) => ts.length - t) 0 (some ⟨bm_AL, 0, none⟩) (4 * ts.length) (some ⟨bm_PR, 0, none⟩) (4 * ts.length) (⟨Nat.zero_le _, hbm_AL, hbm_PR⟩) (sF rfl) sr (fun t p1 c1 p2 c2 hJ => ?_)
  obtain ⟨ht, ho1, ho2⟩ := hJ
  refine q4 (st' (ex_lss (c := (decide (t < ts.length))) rfl rfl (ltN (a := t) (b := ts.length))) rfl (OkL.nil (q1 ?_)))
  refine OkC.cond rfl (fun hc3 => ?_) (fun hc3 => ?_)
  ·replace hc3 := of_decide_eq_true hc3
   obtain ⟨T, hT⟩ : ∃ q, q = ts.getD t (0, 0, 0) := ⟨_, rfl⟩
   obtain ⟨g1, g2, g3⟩ := okT_spec (numB_at hnb hc3)
   rw [← hT] at g1 g2 g3
   obtain ⟨X, hX⟩ : ∃ q, q = midV ps.length (edL ts) T.1 T.2.1 := ⟨_, rfl⟩
   obtain ⟨Y, hY⟩ : ∃ q, q = midV ps.length (edL ts) T.2.1 T.2.2 := ⟨_, rfl⟩
   obtain ⟨Z, hZ⟩ : ∃ q, q = midV ps.length (edL ts) T.2.2 T.1 := ⟨_, rfl⟩
   refine OkC.skip (q1 (OkC.block (q4 (mv' rfl (st' (v := (pP (pB x.b.p) (pO x.b.p + t * 3))) (ex_index_row (j := t) rfl rfl x.b.ok Tryz.underlying28 Tryz.sizeOf34 rfl (by omega)) rfl ?_)))))
   refine st' (v := (aG (t3L (ts.getD t ((0, 0, 0) : Nat × Nat × Nat))))) (ex_load_rowR_agg (vs := t3L (ts.getD t ((0, 0, 0) : Nat × Nat × Nat))) (i := 7) rfl rfl (RowOk.ne x.b.ok (by omega)) tA34 (rowsL_get t3L_len _ _ _ (by omega)) (t3L_len _)) rfl (OkL.retell (k := 73) (u := (aG (t3L T))) rfl (by rw [hT]) (al tZ34 rfl fun b4 => asg' rfl (stW0' rfl Tryz.sizeOf34 rfl (q6 (sL [1, 2, 4, 5, 6, 67, 68, 69, 9, 3, 11, 10] rfl) ?_))))
   refine rG' [(0, true), (1, true), (2, true), (3, true), (4, true), (7, true), (8, true), (9, true), (10, true), (11, true), (14, true), (15, true), (16, true), (17, true), (18, true), (5, false), (6, true), (12, false), (13, true), (19, false), (20, true), (21, true), (22, true), (23, true)] sr (pM' rfl (pE' (v := (pP b4 0)) rfl (ex_indexAddr_array (j := 0) rfl rfl Tryz.underlying34 Tryz.sizeOf3 rfl (by decide) rfl) (pO'' 0 (vN T.1) tO3 rfl (pE' (v := (pP b4 1)) rfl (ex_indexAddr_array (j := 1) rfl rfl Tryz.underlying34 Tryz.sizeOf3 rfl (by decide) rfl) (pO'' 0 (vN T.2.1) tO3 rfl ?_)))))
   refine pM' rfl (pE' (v := (pP b4 1)) rfl (ex_indexAddr_array (j := 1) rfl rfl Tryz.underlying34 Tryz.sizeOf3 rfl (by decide) rfl) (pO'' 0 (vN T.2.1) tO3 rfl (pE' (v := (pP b4 2)) rfl (ex_indexAddr_array (j := 2) rfl rfl Tryz.underlying34 Tryz.sizeOf3 rfl (by decide) rfl) (pO'' 0 (vN T.2.2) tO3 rfl (pM' rfl ?_)))))
   refine pE' (v := (pP b4 2)) rfl (ex_indexAddr_array (j := 2) rfl rfl Tryz.underlying34 Tryz.sizeOf3 rfl (by decide) rfl) (pO'' 0 (vN T.2.2) tO3 rfl (pE' (v := (pP b4 0)) rfl (ex_indexAddr_array (j := 0) rfl rfl Tryz.underlying34 Tryz.sizeOf3 rfl (by decide) rfl) (pO'' 0 (vN T.1) tO3 rfl (OkE.imp rfl (ck' Tryz.call55 (rOf_ok T.1 T.2.1) rfl ?_)))))
   refine OkE.back sr (pE' (v := (vN X)) rfl ((by rw [hX]; exact ex_lookup keyOf 3 (eV := vN) (kvs := midS ps.length (edL ts) (edL ts).length) (x := (min T.1 T.2.1, max T.1 T.2.1)) (z0 := 0) (co := false) rfl rfl Tryz.underlying111 Tryz.zeroValue3 rfl (midS_ok (edge_two hnb (by omega)) (by omega) _ (by omega)) (okE_ky (by omega) (by omega)))) (OkE.imp rfl (ck' Tryz.call55 (rOf_ok T.2.1 T.2.2) rfl (OkE.back sr (pE' (v := (vN Y)) rfl ((by rw [hY]; exact ex_lookup keyOf 3 (eV := vN) (kvs := midS ps.length (edL ts) (edL ts).length) (x := (min T.2.1 T.2.2, max T.2.1 T.2.2)) (z0 := 0) (co := false) rfl rfl Tryz.underlying111 Tryz.zeroValue3 rfl (midS_ok (edge_two hnb (by omega)) (by omega) _ (by omega)) (okE_ky (by omega) (by omega)))) ?_)))))
   refine OkE.imp rfl (ck' Tryz.call55 (rOf_ok T.2.2 T.1) rfl (OkE.back sr (pE' (v := (vN Z)) rfl ((by rw [hZ]; exact ex_lookup keyOf 3 (eV := vN) (kvs := midS ps.length (edL ts) (edL ts).length) (x := (min T.2.2 T.1, max T.2.2 T.1)) (z0 := 0) (co := false) rfl rfl Tryz.underlying111 Tryz.zeroValue3 rfl (midS_ok (edge_two hnb (by omega)) (by omega) _ (by omega)) (okE_ky (by omega) (by omega)))) (pS' rfl (pS' rfl ?_)))))
   refine pS' rfl (OkE.nil (OkQ.subF (sL [1, 2, 4, 5, 6, 67, 68, 69, 9, 3, 11, 10, 12, 13, 14] rfl) (q2 (mv' rfl (st' (v := (pP b4 0)) (ex_indexAddr_array (j := 0) rfl rfl Tryz.underlying34 Tryz.sizeOf3 rfl (by decide) rfl) rfl ?_)))))
   refine ldO' 0 (vN T.1) tO3 rfl (mv' rfl (mv' rfl (st' (v := (aG (t3L (T.1, X, Z)))) (ex_build_array (zs := t3L ((0, 0, 0) : Nat × Nat × Nat)) (vs := t3L (T.1, X, Z)) (pv := [(0, (vN T.1)), (1, (vN X)), (2, (vN Z))]) Tryz.zeroValue34 Tryz.underlying34 Tryz.sizeOf3 rfl (tfill_numud_34 T.1 X Z)) rfl (mv' rfl (st' (v := (pP b4 1)) (ex_indexAddr_array (j := 1) rfl rfl Tryz.underlying34 Tryz.sizeOf3 rfl (by decide) rfl) rfl ?_)))))
   refine ldO' 0 (vN T.2.1) tO3 rfl (mv' rfl (st' (v := (aG (t3L (X, T.2.1, Y)))) (ex_build_array (zs := t3L ((0, 0, 0) : Nat × Nat × Nat)) (vs := t3L (X, T.2.1, Y)) (pv := [(0, (vN X)), (1, (vN T.2.1)), (2, (vN Y))]) Tryz.zeroValue34 Tryz.underlying34 Tryz.sizeOf3 rfl (tfill_numud_34 X T.2.1 Y)) rfl (mv' rfl (mv' rfl (st' (v := (pP b4 2)) (ex_indexAddr_array (j := 2) rfl rfl Tryz.underlying34 Tryz.sizeOf3 rfl (by decide) rfl) rfl ?_)))))
   refine ldO' 0 (vN T.2.2) tO3 rfl (st' (v := (aG (t3L (Z, Y, T.2.2)))) (ex_build_array (zs := t3L ((0, 0, 0) : Nat × Nat × Nat)) (vs := t3L (Z, Y, T.2.2)) (pv := [(0, (vN Z)), (1, (vN Y)), (2, (vN T.2.2))]) Tryz.zeroValue34 Tryz.underlying34 Tryz.sizeOf3 rfl (tfill_numud_34 Z Y T.2.2)) rfl (mv' rfl (mv' rfl (mv' rfl (st' (v := (aG (t3L (X, Y, Z)))) (ex_build_array (zs := t3L ((0, 0, 0) : Nat × Nat × Nat)) (vs := t3L (X, Y, Z)) (pv := [(0, (vN X)), (1, (vN Y)), (2, (vN Z))]) Tryz.zeroValue34 Tryz.underlying34 Tryz.sizeOf3 rfl (tfill_numud_34 X Y Z)) rfl ?_)))))
   refine OkL.openV (V := fun b5 => (Value.slice (some ⟨b5, 0, none⟩) 4 4)) (T := 34) (cs := t3L (T.1, X, Z) ++ t3L (X, T.2.1, Y) ++ t3L (Z, Y, T.2.2) ++ t3L (X, Y, Z)) (wt_none rfl) (op_buildSlice (z := .agg (t3L ((0, 0, 0) : Nat × Nat × Nat)).toArray) (cs := t3L (T.1, X, Z) ++ t3L (X, T.2.1, Y) ++ t3L (Z, Y, T.2.2) ++ t3L (X, Y, Z)) (pv := [(0, (aG (t3L (T.1, X, Z)))), (1, (aG (t3L (X, T.2.1, Y)))), (2, (aG (t3L (Z, Y, T.2.2)))), (3, (aG (t3L (X, Y, Z))))]) Tryz.underlying28 Tryz.sizeOf34 Tryz.zeroValue34 (by decide) (by decide) rfl (tfs_numud_34_4 (T.1, X, Z) (X, T.2.1, Y) (Z, Y, T.2.2) (X, Y, Z))) rfl (leB rfl) fun b5 => OkL.appendAt 3 (j := 0) (cs2 := rowsL t3L ((redN ps.length (edL ts) ts t) ++ [(T.1, X, Z), (X, T.2.1, Y), (Z, Y, T.2.2), (X, Y, Z)])) tE28 rfl ho1 (by rw [rowsL_length t3L_len, redN_len, Nat.min_eq_left (by omega)]) rfl rfl rfl rfl rfl (by decide) (mxl (by omega)) (by omega) (by rw [rowsL_append]; rfl) rfl fun p_1 c_1 ho_1 hne_1 => asg' rfl (OkL.nil (OkQ.subF (sL [1, 2, 4, 5, 6, 67, 68, 69, 9, 3, 11, 10] rfl) (OkQ.then_ ?_)))
   refine OkC.region (mv' rfl (mv' rfl (mv' rfl (mv' rfl (mv' rfl ?_)))))
   refine OkL.openV (V := fun b6 => (Value.slice (some ⟨b6, 0, none⟩) 4 4)) (T := 3) (cs := [(vN t), (vN t), (vN t), (vN t)]) (wt_none rfl) (op_buildSlice (cs := [(vN t), (vN t), (vN t), (vN t)]) (pv := [(0, (vN t)), (1, (vN t)), (2, (vN t)), (3, (vN t))]) Tryz.underlying35 Tryz.sizeOf3 Tryz.zeroValue3 (by decide) (by decide) rfl (by kernel_rfl)) rfl (leB rfl) fun b6 => OkL.appendAt 3 (j := 0) (cs2 := inL ((parN t) ++ [t, t, t, t])) tE35 rfl ho2 (by rw [inL_length, parN_len, Nat.mul_one]) rfl rfl rfl rfl rfl (by decide) (mxl (by omega)) (by omega) (by rw [inL_append]; rfl) rfl fun p_2 c_2 ho_2 hne_2 => asg' rfl (OkL.nil (OkQ.subF (sL [1, 2, 4, 5, 6, 67, 68, 69, 9, 3, 11] rfl) (OkQ.in_normal ?_)))
   refine OkQ.then_ (OkC.region (st' (ex_add (c := ((t + 1 : Nat) : Int)) rfl rfl (addN_i64 (a := t) (b := 1) (by omega))) rfl (mv' rfl (OkL.nil (OkQ.subF (sL [1, 2, 4, 5, 6, 67, 68, 69, 9, 3, 11] rfl) ?_)))))
   rw [show 4 * t + 4 = 4 * (t + 1) by omega]
   rw [show (redN ps.length (edL ts) ts t) ++ [(T.1, X, Z), (X, T.2.1, Y), (Z, Y, T.2.2), (X, Y, Z)] = redN ps.length (edL ts) ts (t + 1) from by rw [hX, hY, hZ, hT]; exact (redN_succ (by omega)).symm, show (parN t) ++ [t, t, t, t] = parN (t + 1) from parN_succ.symm]
   exact OkQ.round5 (t + 1) p_1 c_1 p_2 c_2 (⟨by omega, (by rw [show 4 * (t + 1) = 4 * t + 4 by omega]; exact ho_1), (by rw [show 4 * (t + 1) = 4 * t + 4 by omega]; exact ho_2)⟩) (by omega) (sF rfl) (sl (sl (sl sr)))
  ·replace hc3 := of_decide_eq_false hc3
   have htl : t = ts.length := by omega
   rw [show redN ps.length (edL ts) ts t = redT ps.length (edL ts) ts by rw [htl, redN_all], show parN t = parN ts.length by rw [htl]]
   refine OkC.exit (OkQ.then_exit (OkQ.round5_exit (OkQ.in_exit (q2 (ldW' 5 tA31 rfl ?_)))))
   refine mv' rfl (mv' rfl (OkL.frzRow 1 rfl ho1 (by rw [rowsL_length t3L_len, redT_len, htl]) rfl rfl fun hn_AL => OkL.retell (k := 127) (u := (Value.slice p1 ((redT ps.length (edL ts) ts).length) c1)) rfl (by rw [redT_len, ← htl]) (cM (S := S) (args := [(aG (mxL x)), (Value.slice o.p ((edL ts).length) o.c), (Value.slice p1 ((redT ps.length (edL ts) ts).length) c1)]) Tryz.call56 (fun w hw => Halves_ok x (edL ts) o (redT ps.length (edL ts) ts) ⟨p1, c1, by rw [redT_len, ← htl]; exact ho1.row⟩ (edge_two hnb (by omega)) (redT_num hnb (by omega)) hz (by omega) (by omega) (by rw [redT_len]; omega) (by omega) w (inS hw 6 rfl lx) (inS hw 3 rfl lo) (inS hw 1 rfl (At.new hn_AL))) rfl fun f hf => mv' rfl ?_)))
   refine stX 7 (off := 0) (vs := mxL f) (cs' := mxL f) (wt_none rfl) rfl Tryz.sizeOf31 rfl (asg' rfl (asg' rfl (OkL.nil (OkQ.subF (sL [1, 2, 4, 5, 6, 67, 68, 69, 9, 3] rfl) (OkQ.then_ ?_)))))
   exact OkC.ret (ret_three rfl (rd_agg (i := 7) (cs := mxL f) rfl rfl Tryz.isAgg31 Tryz.sizeOf31 rfl) (rd_tmp (v := (Value.slice p2 (4 * t) c2)) rfl) (rd_tmp (v := (vI 0)) rfl) (fun w hw => (retRd hw (inS hw 0 rfl hf) 3 rfl ho2 (by rw [parN_len, htl]) rfl)))
theorem fill_numud_31_  : Instr.fill ([(0, 1), (1, 1), (2, 1)].toArray[·]?) ([(Value.slice none 0 0), (Value.slice none 0 0), (Value.slice none 0 0)]).toArray [] = some ([(Value.slice none 0 0), (Value.slice none 0 0), (Value.slice none 0 0)]).toArray := by kernel_rfl
theorem Red_lim {ps : List Pt} {ts ss : List T3} (x : MX ps ts ss) (hnb : numB ps.length ts = true) (hz : ∀ i, SzP (cor ps i) ≤ 1000000) (hp : ps.length ≤ 1000000) (htl0 : ts.length ≤ 1000000) (hsl : ss.length ≤ 1000000) (hlim : ¬ (ps.length + (edL ts).length ≤ 4096 ∧ 4 * ts.length ≤ 8192)) (w : World) {S : Nat → Prop} (hx : Ro S w x) : Calls Tryz.prog 15 #[(aG (mxL x))] w (GivesR (RdX [] [] [] [] 3) S w) := by
 have hel0 : (edL ts).length ≤ 3 * ts.length := by rw [edL_len]; exact edS_len _
 have lx := atA (W := w) hx
 refine calls_ofR (args := [(aG (mxL x))]) (L := [rowR x.a.p (rowsL ptL ps), rowR x.b.p (rowsL t3L ts), rowR x.c.p (rowsL t3L ss)]) Tryz.func15 rfl rfl (leB rfl) (sxA hx roL_nil) (OkC.subF (sL [0] rfl) (q4 (bx' (cs := mxL x) rfl fun b1 => al tZ31 rfl fun b2 => asg' rfl ?_)))
 refine asg' rfl (q6 (sL [1, 2, 3, 4] rfl) (q4 (ldW' 1 tA31 rfl (cl' (args := [(aG (mxL x))]) (v := (Value.bool true)) Tryz.call54 (fun w hw => (by have h9 := Numd_ok x (by omega) w (inS hw 2 rfl lx); rw [hnb] at h9; exact h9)) rfl (st' (ex_not (c := false) rfl rfl) rfl ?_)))))
 refine OkL.nil (OkQ.subF (sL [1, 2, 3, 4, 17] rfl) (OkQ.then_ (OkC.cond_false rfl (OkC.skip (q2 ?_)))))
 refine ldW' 1 tA31 rfl (cX (S := S) (cs := rowsL e4L (edL ts)) (k := (edL ts).length) (args := [(aG (mxL x))]) Tryz.call40 (fun w hw => Edges_ok x (by omega) (by omega) hnb w (inS hw 2 rfl lx)) rfl rfl rfl fun o lo => asg' rfl (q6 (sL [1, 2, 3, 4, 5] rfl) (q4 (st' (v := (pP b1 0)) (ex_fieldAddr rfl Tryz.underlying31 rfl Tryz.sizeOf27 rfl) rfl ?_))))
 refine ldO' 2 (Value.slice x.a.p ps.length x.a.c) tO27 rfl (st' (v := (vN ps.length)) (ex_len_slice rfl Tryz.underlying27) rfl (mv' rfl (st' (v := (vN ((edL ts).length))) (ex_len_slice rfl Tryz.underlying59) rfl (st' (ex_add (c := ((ps.length + ((edL ts).length) : Nat) : Int)) rfl rfl (addN_i64 (a := ps.length) (b := (edL ts).length) (by omega))) rfl (st' (ex_gtr (c := (decide (4096 < (ps.length + ((edL ts).length))))) rfl rfl (ltN (a := 4096) (b := ps.length + ((edL ts).length)))) rfl ?_)))))
 refine mv' rfl ?_
 refine OkL.mid (FM := [(1, (pP b1 0)), (2, (pP b2 0)), (3, (Value.slice none 0 0)), (4, (vI 0)), (5, (Value.slice o.p ((edL ts).length) o.c)), (21, (pP b1 0)), (22, (Value.slice x.a.p ps.length x.a.c)), (23, (vN ps.length)), (24, (Value.slice o.p ((edL ts).length) o.c)), (25, (vN ((edL ts).length))), (26, (vN (ps.length + ((edL ts).length)))), (27, (Value.bool (decide (4096 < (ps.length + ((edL ts).length)))))), (28, (Value.bool (decide (4096 < (ps.length + ((edL ts).length)))))), (34, (Value.bool ((decide (4096 < (ps.length + ((edL ts).length)))) || (decide (8192 < (4 * ts.length))))))]) (LM := [rowR o.p (rowsL e4L (edL ts)), blk b2 31 ([(Value.slice none 0 0), (Value.slice none 0 0), (Value.slice none 0 0)]), blk b1 31 (mxL x), rowR x.a.p (rowsL ptL ps), rowR x.b.p (rowsL t3L ts), rowR x.c.p (rowsL t3L ss)]) 6 ?_ ?_
 ·rcases Bool.eq_false_or_eq_true (decide (4096 < (ps.length + ((edL ts).length)))) with hg1 | hg1
  ·skip
   refine OkL.retell (k := 28) (u := Value.bool true) rfl (by rw [hg1]) ?_
   have hg1' := hg1
   replace hg1' := of_decide_eq_true hg1'
   refine OkL.skip (wt_not' rfl) rfl (leB rfl) (OkL.skip (wt_not' rfl) rfl (leB rfl) (OkL.skip (wt_not' rfl) rfl (leB rfl) (OkL.skip (wt_not' rfl) rfl (leB rfl) (OkL.skip (wt_not' rfl) rfl (leB rfl) (st' (v := (Value.bool true)) (ex_pick_true rfl rfl) rfl ?_)))))
   exact OkL.nil (OkQ.mid (sS rfl (sS rfl (sS rfl (sS rfl (sS rfl (sS rfl (sS rfl (sS rfl (sS rfl (sS rfl (sS rfl (sS rfl (sS (by first | rfl | (rw [hg1]; rfl) | rw [hg1]) (sS (by first | rfl | (rw [hg1]; rfl) | rw [hg1]) (sN))))))))))))))) (List.Sublist.refl _))
  ·skip
   refine OkL.retell (k := 28) (u := Value.bool false) rfl (by rw [hg1]) ?_
   have hg1' := hg1
   replace hg1' := of_decide_eq_false hg1'
   refine OkL.step (v := (pP b1 1)) (wt_some' rfl) (ex_fieldAddr rfl Tryz.underlying31 rfl Tryz.sizeOf28 rfl) rfl (leB rfl) (OkL.step (v := (Value.slice x.b.p ts.length x.b.c)) (wt_some' rfl) (ex_load_one (i := 2) (v := (Value.slice x.b.p ts.length x.b.c)) rfl rfl tO28.a rfl) rfl (leB rfl) (OkL.step (v := (vN ts.length)) (wt_some' rfl) (ex_len_slice rfl Tryz.underlying28) rfl (leB rfl) (OkL.step (v := (vN (4 * ts.length))) (wt_some' rfl) (ex_mul (c := ((4 * ts.length : Nat) : Int)) rfl rfl (mulN_i64 (a := 4) (b := ts.length) (by omega))) rfl (leB rfl) (OkL.step (v := (Value.bool (decide (8192 < (4 * ts.length))))) (wt_some' rfl) (ex_gtr (c := (decide (8192 < (4 * ts.length)))) rfl rfl (ltN (a := 8192) (b := 4 * ts.length))) rfl (leB rfl) (st' (v := (Value.bool (decide (8192 < (4 * ts.length))))) (ex_pick_false rfl rfl) rfl ?_)))))
   exact OkL.nil (OkQ.mid (sS rfl (sS rfl (sS rfl (sS rfl (sS rfl (sS rfl (sS rfl (sS rfl (sS rfl (sS rfl (sS rfl (sS rfl (sS (by first | rfl | (rw [hg1]; rfl) | rw [hg1]) (sS (by first | rfl | (rw [hg1]; rfl) | rw [hg1]) (sN))))))))))))))) (List.Sublist.refl _))
 refine OkL.nil (OkQ.subF (sL [1, 2, 3, 4, 5, 34] rfl) (OkQ.then_ ?_))
 refine OkC.cond rfl (fun hc1 => ?_) (fun hc1 => ?_)
 ·simp only [Bool.and_eq_true, Bool.or_eq_true, Bool.and_eq_false_iff, Bool.or_eq_false_iff, Bool.not_eq_true', Bool.not_eq_false', decide_eq_true_eq, decide_eq_false_iff_not] at hc1
  refine q4 (st' (v := (aG ([(Value.slice none 0 0), (Value.slice none 0 0), (Value.slice none 0 0)]))) (ex_build_struct (zs := [(Value.slice none 0 0), (Value.slice none 0 0), (Value.slice none 0 0)]) (vs := [(Value.slice none 0 0), (Value.slice none 0 0), (Value.slice none 0 0)]) (pv := []) (places := [(0, 1), (1, 1), (2, 1)]) Tryz.zeroValue31 Tryz.underlying31 (fun w => by simp [Tryz.sizeOf27, Tryz.sizeOf28, Tryz.sizeOf29]) rfl (fill_numud_31_ )) rfl (stW1' rfl Tryz.sizeOf31 rfl (asg' rfl (asg' rfl (OkL.nil ?_)))))
  exact OkQ.subF (sL [1, 2, 3, 4, 5] rfl) (OkQ.then_ (OkC.ret (OkQ.then_ret (ret_three rfl (rd_agg (i := 1) (cs := [(Value.slice none 0 0), (Value.slice none 0 0), (Value.slice none 0 0)]) rfl rfl Tryz.isAgg31 Tryz.sizeOf31 rfl) (rd_tmp (v := (Value.slice none 0 0)) rfl) (rd_tmp (v := (vI 3)) rfl) (fun w hw => (retRd0 hw 3 rfl))))))
 ·simp only [Bool.and_eq_true, Bool.or_eq_true, Bool.and_eq_false_iff, Bool.or_eq_false_iff, Bool.not_eq_true', Bool.not_eq_false', decide_eq_true_eq, decide_eq_false_iff_not] at hc1
  exfalso; omega
end
section
theorem t3_iff (a b : T3) : (((a.1 : Int) == (b.1 : Int)) && (((a.2.1 : Int) == (b.2.1 : Int)) && (((a.2.2 : Int) == (b.2.2 : Int)) && true))) = decide (a = b) := by
  obtain ⟨a1, a2, a3⟩ := a
  obtain ⟨b1, b2, b3⟩ := b
  rw [Bool.eq_iff_iff]
  simp
  constructor <;> (rintro ⟨h1, h2, h3⟩; refine ⟨?_, ?_, ?_⟩ <;> omega)
theorem eqB_t3 (D : Nat) (a b : T3) : EqB Tryz.prog (D + 2) 34 (.agg (t3L a).toArray) (.agg (t3L b).toArray) (decide (a = b)) := by
  rw [← t3_iff]
  exact EqB.array Tryz.underlying34 info_int cells_int (EqI.one Tryz.isAgg3 rfl rfl (EqB.int Tryz.underlying3) (EqI.one Tryz.isAgg3 rfl rfl (EqB.int Tryz.underlying3) (EqI.one Tryz.isAgg3 rfl rfl (EqB.int Tryz.underlying3) EqI.nil)))
theorem eqB_side (D : Nat) (a b : T3) : EqB Tryz.prog (D + 2) 51 (.agg (t3L a).toArray) (.agg (t3L b).toArray) (decide (a = b)) := by
  rw [← t3_iff]
  exact EqB.struct Tryz.underlying51 Tryz.stoodInHeld51 (EqF.one (by decide) Tryz.isAgg3 rfl rfl (EqB.int Tryz.underlying3) (EqF.one (by decide) Tryz.isAgg3 rfl rfl (EqB.int Tryz.underlying3) (EqF.one (by decide) Tryz.isAgg3 rfl rfl (EqB.int Tryz.underlying3) EqF.nil)))
theorem eqB_t3_t (D : Nat) {a b : T3} (h : a = b) : EqB Tryz.prog (D + 2) 34 (.agg (t3L a).toArray) (.agg (t3L b).toArray) true := by
  have := eqB_t3 D a b; rwa [decide_eq_true h] at this
theorem eqB_side_t (D : Nat) {a b : T3} (h : a = b) : EqB Tryz.prog (D + 2) 51 (.agg (t3L a).toArray) (.agg (t3L b).toArray) true := by
  have := eqB_side D a b; rwa [decide_eq_true h] at this
theorem rowOk_lit (b n : Nat) : RowOk (some ⟨b, 0, none⟩) n n := ⟨fun e => (by cases e), fun a e => (by injection e with e; subst e; rfl), Nat.le_refl _⟩
theorem sz_all {ps : List Pt} {k : Nat} (h : (ps.all fun p => decide (SzP p ≤ k)) = true) (h0 : SzP (⟨0, 0⟩ : Pt) ≤ k) (i : Nat) : SzP (cor ps i) ≤ k := by
  unfold cor
  rcases Nat.lt_or_ge i ps.length with hi | hi
  · rw [List.getD, List.getElem?_eq_getElem hi]
    exact of_decide_eq_true (List.all_eq_true.1 h _ (List.getElem_mem hi))
  · rw [List.getD, List.getElem?_eq_none hi]; exact h0
theorem At.mx {w0 : Base} {S : Nat → Prop} {ps : List Pt} {ts ss : List T3} {x : MX ps ts ss} (h1 : At w0 S x.a) (h2 : At w0 S x.b) (h3 : At w0 S x.c) : At w0 S x := fun y hy b e => by
  have hy : y ∈ [x.a.row, x.b.row, x.c.row] := hy
  simp only [List.mem_cons, List.not_mem_nil, or_false] at hy
  rcases hy with rfl | rfl | rfl
  · exact h1 _ List.mem_cons_self b e
  · exact h2 _ List.mem_cons_self b e
  · exact h3 _ List.mem_cons_self b e
theorem halX_len {N : Nat} {ss ts : List T3} {es : List E4} : (halX N ss es ts).length ≤ 3 * ts.length := by
  unfold halX
  rw [List.length_map]
  have h1 := rimN_len (ts := ts) (edL ts).length
  have h2 := edS_len (ts := ts) (3 * ts.length)
  rw [← edL_len] at h2
  show (rimN ts (edL ts).length).length ≤ _
  omega
section
variable {P : Program} {ops : Array Oper} {rest : List Oper} {Q : Exit → Act → World → Prop} {n : Nat} {F : List (Nat × Value)} {w0 : Base} {S : Nat → Prop} {L : List As} {ps : List Pt} {ts ss : List T3}
theorem new_of {w : World} {i b : Nat} {T : TypeId} {cs : List Value} (hw : Own w0 w L) (hi : L[i]? = some (blk b T cs)) (hex : w0.ex = none) : w0.w.heap.size ≤ b := by
  rcases (hw.2.1 _ (List.mem_of_getElem? hi) b rfl).1 with h1 | h1 | h1
  · cases h1
  · exact h1
  · rw [hex] at h1; cases h1
theorem OkL.litM {b1 b2 b3 U1 U2 U3 : Nat} {cs1 cs2 cs3 : List Value} (LL : MX ps ts ss → List As) (i j k : Nat) (hn : i ≠ j ∧ i ≠ k ∧ j ≠ k) (h1 : L[i]? = some (blk b1 U1 cs1)) (h2 : L[j]? = some (blk b2 U2 cs2)) (h3 : L[k]? = some (blk b3 U3 cs3)) (hex : w0.ex = none)
    (e : (cs1, cs2, cs3) = (rowsL ptL ps, rowsL t3L ts, rowsL t3L ss))
    (hL : ((L.set i (rowR (some ⟨b1, 0, none⟩) cs1)).set j (rowR (some ⟨b2, 0, none⟩) cs2)).set k (rowR (some ⟨b3, 0, none⟩) cs3) = LL ⟨⟨some ⟨b1, 0, none⟩, ps.length, rowOk_lit _ _⟩, ⟨some ⟨b2, 0, none⟩, ts.length, rowOk_lit _ _⟩, ⟨some ⟨b3, 0, none⟩, ss.length, rowOk_lit _ _⟩⟩)
    (next : ∀ mm : MX ps ts ss, At w0 S mm → OkL P ops rest Q n F w0 (LL mm)) : OkL P ops rest Q n F w0 L := fun a w ha hw => by
  have n1 := new_of hw h1 hex
  have n2 := new_of hw h2 hex
  have n3 := new_of hw h3 hex
  have w1 := hw.freeze (x := blk b1 U1 cs1) (y := rowR (some ⟨b1, 0, none⟩) cs1) h1 rfl (fun o hp => lies_blkB hp) (fun e => by cases e)
  have w2 := w1.freeze (i := j) (x := blk b2 U2 cs2) (y := rowR (some ⟨b2, 0, none⟩) cs2) (by rw [List.getElem?_set_ne hn.1]; exact h2) rfl (fun o hp => lies_blkB hp) (fun e => by cases e)
  have w3 := w2.freeze (i := k) (x := blk b3 U3 cs3) (y := rowR (some ⟨b3, 0, none⟩) cs3) (by rw [List.getElem?_set_ne hn.2.2, List.getElem?_set_ne hn.2.1]; exact h3) rfl (fun o hp => lies_blkB hp) (fun e => by cases e)
  rw [hL] at w3
  refine next _ (fun y hy b eb => ?_) a w ha w3
  have hy : y ∈ [rowR (some ⟨b1, 0, none⟩) (rowsL ptL ps), rowR (some ⟨b2, 0, none⟩) (rowsL t3L ts), rowR (some ⟨b3, 0, none⟩) (rowsL t3L ss)] := hy
  simp only [List.mem_cons, List.not_mem_nil, or_false] at hy
  rcases hy with rfl | rfl | rfl <;> (injection eb with eb; subst eb; exact .inl (by assumption))
end
theorem inX {α : Type} [Ref α] {w0 : Base} {w : World} {S : Nat → Prop} {L : List As} (hw : Own w0 w L) (is : List Nat) {a : α} (hi : (is.map fun i => L[i]?) = (Ref.rows a).map some) (ha : At w0 S a) : Ro (SL w0 S L) w a := fun y hy => by
  have h1 : some y ∈ (is.map fun i => L[i]?) := by rw [hi]; exact List.mem_map.2 ⟨y, hy, rfl⟩
  obtain ⟨i, _, h2⟩ := List.mem_map.1 h1
  have hm := List.mem_of_getElem? h2
  exact ⟨fun b e => (hw.2.1 y hm b e).2, fun b e => ⟨⟨y, hm, Ref.ro a y hy, e⟩, ha y hy b e⟩⟩
end
end Go.Proofs.YtaahheddmfddhaaGreat
