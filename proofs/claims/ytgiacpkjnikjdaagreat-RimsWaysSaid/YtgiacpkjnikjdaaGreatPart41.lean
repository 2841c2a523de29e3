import Derived.Test.YtgiacpkjnikjdaaGreatPart39
import Derived.Test.YtgiacpkjnikjdaaGreatPart40
namespace Go.Proofs.YtgiacpkjnikjdaaGreat
open Go Go.RowKit
set_option linter.unusedVariables false
set_option linter.unusedSimpArgs false
section
set_option maxRecDepth 100000
theorem tMp34 : MakeT Tryz.prog 34 3 (vN 0) 8 := ⟨Tryz.underlying34, _, _, rfl, rfl, rfl, rfl, rfl⟩
set_option maxHeartbeats 8000000 in
theorem Parts_ok {ps : List Pt} {ts ss : List T3} (x : MX ps ts ss) (hnb : numB ps.length ts = true) (hne : 0 < ts.length) (hp : ps.length ≤ 1000000) (htl : ts.length ≤ 1000000) (w : World) {S : Nat → Prop} (hx : Ro S w x) : Calls Tryz.prog 20 #[(aG (mxL x))] w (GivesR (PaX ts) S w) := by
 have lx := atA (W := w) hx
 refine calls_ofR (args := [(aG (mxL x))]) (L := [rowR x.a.p (rowsL ptL ps), rowR x.b.p (rowsL t3L ts), rowR x.c.p (rowsL t3L ss)]) Tryz.func20 rfl rfl (leB rfl) (sxA hx roL_nil) (OkC.subF (sL [0] rfl) (q4 (bx' (cs := mxL x) rfl fun b1 => asg' rfl (asg' rfl ?_))))
 refine OkL.nil (OkQ.subF (sL [1, 2, 3] rfl) (OkQ.then_ (OkC.scope (OkC.seq (q4 ?_)))))
 refine ldW' 0 tA31 rfl (cl' (args := [(aG (mxL x))]) (v := (Value.bool true)) Tryz.call48 (fun w hw => (by have h9 := Numd_ok x (by omega) w (inS hw 1 rfl lx); rw [hnb] at h9; exact h9)) rfl (st' (ex_not (c := false) rfl rfl) rfl (mv' rfl (OkL.step (v := (pP b1 1)) (wt_some' rfl) (ex_fieldAddr rfl Tryz.underlying31 rfl Tryz.sizeOf28 rfl) rfl (leB rfl) (OkL.step (v := (Value.slice x.b.p ts.length x.b.c)) (wt_some' rfl) (ex_load_one (i := 0) (v := (Value.slice x.b.p ts.length x.b.c)) rfl rfl tO28.a rfl) rfl (leB rfl) ?_)))))
 refine OkL.step (v := (vN ts.length)) (wt_some' rfl) (ex_len_slice rfl Tryz.underlying28) rfl (leB rfl) (OkL.step (v := (Value.bool false)) (wt_some' rfl) (ex_eql (c := false) rfl rfl (decide_eq_false (by omega))) rfl (leB rfl) (st' (v := (Value.bool false)) (ex_pick_false rfl rfl) rfl (OkL.nil (OkQ.subF (sL [1, 2, 3, 25] rfl) (OkQ.then_ ?_)))))
 refine OkC.cond_false rfl (OkC.skip (q2 (OkL.makeMap vN roV (wt_none rfl) rfl fun b2 => asg' rfl (q6 (sL [1, 2, 3, 4] rfl) ?_))))
 refine q4 (st' (v := (pP b1 1)) (ex_fieldAddr rfl Tryz.underlying31 rfl Tryz.sizeOf28 rfl) rfl (ldO' 1 (Value.slice x.b.p ts.length x.b.c) tO28 rfl (st' (v := (vN ts.length)) (ex_len_slice rfl Tryz.underlying28) rfl (mv' rfl (OkL.nil ?_)))))
 refine OkQ.subF (sL [1, 2, 3, 4, 28, 29, 30] rfl) (OkQ.then_ (OkC.block ?_))
 refine OkC.lp2 (tg fun (t : Nat) (kv : List (Nat × RO)) => t ≤ ts.length ∧ OkM okI kv ∧ roL kv = atN ts (3 * t + 0)) (tg fun (t : Nat) (kv : List (Nat × RO)) => [(1, (pP b1 0)), (2, (Value.slice none 0 0)), (3, (vI 0)), (4, (Value.map (some b2))), (28, (Value.slice x.b.p ts.length x.b.c)), (29, (vN ts.length)), (30, (vN t))]) (tg fun (t : Nat) (kv : List (Nat × RO)) => (mapA b2 vN roV kv :: blk b1 31 (mxL x) :: rowR x.a.p (rowsL ptL ps) :: rowR x.b.p (rowsL t3L ts) :: rowR x.c.p (rowsL t3L ss) :: roT 3 kv)) (tg fun (t : Nat) (kv : List (Nat × RO)) => ts.length - t) 0 ([] : List (Nat × RO)) (⟨Nat.zero_le _, OkM.nil, rfl⟩) (sF rfl) sr (fun t kv hJ => ?_)
 obtain ⟨ht, hok, hat⟩ := hJ
 refine q4 (st' (ex_lss (c := (decide (t < ts.length))) rfl rfl (ltN (a := t) (b := ts.length))) rfl (OkL.nil (q1 ?_)))
 refine OkC.cond rfl (fun hc1 => ?_) (fun hc1 => ?_)
 ·replace hc1 := of_decide_eq_true hc1
  obtain ⟨T, hT⟩ : ∃ q, q = ts.getD t (0, 0, 0) := ⟨_, rfl⟩
  obtain ⟨g1, g2, g3⟩ := okT_spec (numB_at hnb hc1)
  rw [← hT] at g1 g2 g3
  refine OkC.skip (q1 (OkC.block (q4 (mv' rfl (st' (v := (pP (pB x.b.p) (pO x.b.p + t * 3))) (ex_index_row (j := t) rfl rfl x.b.ok Tryz.underlying28 Tryz.sizeOf45 rfl (by omega)) rfl ?_)))))
  refine st' (v := (aG (t3L (ts.getD t ((0, 0, 0) : Nat × Nat × Nat))))) (ex_load_rowR_agg (vs := t3L (ts.getD t ((0, 0, 0) : Nat × Nat × Nat))) (i := 3) rfl rfl (RowOk.ne x.b.ok (by omega)) tA45 (rowsL_get t3L_len _ _ _ (by omega)) (t3L_len _)) rfl (OkL.retell (k := 34) (u := (aG (t3L T))) rfl (by rw [hT]) (al tZ45 rfl fun b3 => asg' rfl (stW0' rfl Tryz.sizeOf45 rfl (q3 (sL [1, 2, 3, 4, 28, 29, 30, 6, 5] rfl) ?_))))
  refine ldW' 0 tA45 rfl (mv' rfl (OkL.nil (OkQ.then_ (OkC.block (OkC.unroll 4 ?_)))))
  refine OkR.step (q4 (st' (ex_lss (c := true) rfl rfl (by decide)) rfl (OkL.nil (q1 (OkC.cond_true rfl ?_)))))
  refine OkC.skip (q1 (OkC.block (q4 (st' (v := (vN T.1)) (ex_index_arr (j := 0) rfl rfl Tryz.underlying45 Tryz.sizeOf3 Tryz.isAgg3 (by decide) rfl) rfl (asg' rfl ?_)))))
  refine OkL.nil (OkQ.subF (sL [1, 2, 3, 4, 28, 29, 30, 6, 5, 35, 36, 8] rfl) (OkQ.then_ (OkC.region (mv' rfl (mv' rfl ?_)))))
  refine mv' rfl (mv' rfl ?_)
  obtain ⟨sq0, hsq0⟩ : ∃ q, q = (getM kv T.1).getD ro0 := ⟨_, rfl⟩
  have hsn0 : sq0.l.length ≤ 3 * t + 0 := by rw [hsq0, ← roL_l, hat]; exact atN_len _
  refine st' (v := (Value.slice sq0.p sq0.l.length sq0.c)) ((by rw [hsq0]; exact ex_lookup keyCn 1 (eV := roV) (kvs := kv) (x := T.1) (z0 := ro0) (co := false) rfl rfl Tryz.underlying131 Tryz.zeroValue34 rfl (hok) (by show (_ : Nat) < _; omega))) rfl (OkL.pullRO (A := [blk b3 45 (t3L T), mapA b2 vN roV kv, blk b1 31 (mxL x), rowR x.a.p (rowsL ptL ps), rowR x.b.p (rowsL t3L ts), rowR x.c.p (rowsL t3L ss)]) (kvs := kv) (k := T.1) hok hsq0 (mv' rfl (OkL.openV (V := fun b4 => (Value.slice (some ⟨b4, 0, none⟩) 1 1)) (T := 3) (cs := [(vN t)]) (wt_none rfl) (op_buildSlice (cs := [(vN t)]) (pv := [(0, (vN t))]) Tryz.underlying34 Tryz.sizeOf3 Tryz.zeroValue3 (by decide) (by decide) rfl (by kernel_rfl)) rfl (leB rfl) fun b4 => OkL.append1 (j := 0) (cs2 := inL (sq0.l ++ [t])) tE34 rfl sq0.ok (by rw [inL_length, Nat.mul_one]) rfl rfl rfl rfl (by decide) (mxl (by omega)) (by omega) (by rw [inL_append]; rfl) rfl fun p_1 c_1 ho_1 hne_1 => ?_)))
  have hro0 : OwnOk p_1 (sq0.l ++ [t]).length c_1 := by simpa using ho_1
  rw [show sq0.l.length + 1 = (sq0.l ++ [t]).length by simp]
  refine OkL.mapUpdate keyCn 3 (kvs := kv) (x := T.1) (y := (⟨p_1, c_1, sq0.l ++ [t], hro0⟩ : RO)) (wt_none rfl) rfl rfl rfl Tryz.underlying131 rfl (hok) (by show (_ : Nat) < _; omega) (OkL.permL (show List.Perm _ (blk b4 3 ([(vN t)]) :: blk b3 45 (t3L T) :: mapA b2 vN roV (putM kv T.1 (⟨p_1, c_1, sq0.l ++ [t], hro0⟩ : RO)) :: blk b1 31 (mxL x) :: rowR x.a.p (rowsL ptL ps) :: rowR x.b.p (rowsL t3L ts) :: rowR x.c.p (rowsL t3L ss) :: roT 3 (putM kv T.1 (⟨p_1, c_1, sq0.l ++ [t], hro0⟩ : RO))) from push_ro (A1 := [blk b4 3 ([(vN t)])]) (A2 := [blk b3 45 (t3L T), mapA b2 vN roV (putM kv T.1 (⟨p_1, c_1, sq0.l ++ [t], hro0⟩ : RO)), blk b1 31 (mxL x), rowR x.a.p (rowsL ptL ps), rowR x.b.p (rowsL t3L ts), rowR x.c.p (rowsL t3L ss)]) (kvs := kv) (k := T.1) (s := (⟨p_1, c_1, sq0.l ++ [t], hro0⟩ : RO)) (T := 3) hok) ?_)
  obtain ⟨kv0, hkv0⟩ : ∃ q, q = putM kv T.1 (⟨p_1, c_1, sq0.l ++ [t], hro0⟩ : RO) := ⟨_, rfl⟩
  rw [← hkv0]
  have hok0 : OkM okI kv0 := hkv0 ▸ hok.put (by show (_ : Nat) < _; omega)
  have hat0 : roL kv0 = atN ts (3 * t + 0 + 1) := by rw [hkv0, putM_roL, atN_succ (show 0 < 3 by decide), ← hT, ← hat, roL_l]; show putM _ T.1 (sq0.l ++ [t]) = putM _ (crT T 0) (((getM kv (crT T 0)).getD ro0).l ++ [t]); rw [show crT T 0 = T.1 from rfl, ← hsq0]
  refine OkL.nil (OkQ.subF (sL [1, 2, 3, 4, 28, 29, 30, 6, 5, 35, 36] rfl) (OkQ.in_normal (OkQ.then_ (OkC.region (st' (ex_add (c := (1 : Int)) rfl rfl (by decide)) rfl ?_)))))
  refine mv' rfl (OkL.nil (OkQ.subF (sL [1, 2, 3, 4, 28, 29, 30, 6, 5, 35, 36] rfl) (OkQ.again (OkR.step (q4 ?_)))))
  refine st' (ex_lss (c := true) rfl rfl (by decide)) rfl (OkL.nil (q1 (OkC.cond_true rfl (OkC.skip (q1 ?_)))))
  refine OkC.block (q4 (st' (v := (vN T.2.1)) (ex_index_arr (j := 1) rfl rfl Tryz.underlying45 Tryz.sizeOf3 Tryz.isAgg3 (by decide) rfl) rfl (asg' rfl (OkL.nil (OkQ.subF (sL [1, 2, 3, 4, 28, 29, 30, 6, 5, 35, 36, 8] rfl) ?_)))))
  refine OkQ.then_ (OkC.region (mv' rfl (mv' rfl (mv' rfl (mv' rfl ?_)))))
  obtain ⟨sq1, hsq1⟩ : ∃ q, q = (getM kv0 T.2.1).getD ro0 := ⟨_, rfl⟩
  have hsn1 : sq1.l.length ≤ 3 * t + 1 := by rw [hsq1, ← roL_l, hat0]; exact atN_len _
  refine st' (v := (Value.slice sq1.p sq1.l.length sq1.c)) ((by rw [hsq1]; exact ex_lookup keyCn 2 (eV := roV) (kvs := kv0) (x := T.2.1) (z0 := ro0) (co := false) rfl rfl Tryz.underlying131 Tryz.zeroValue34 rfl (hok0) (by show (_ : Nat) < _; omega))) rfl (OkL.pullRO (A := [blk b4 3 ([(vN t)]), blk b3 45 (t3L T), mapA b2 vN roV kv0, blk b1 31 (mxL x), rowR x.a.p (rowsL ptL ps), rowR x.b.p (rowsL t3L ts), rowR x.c.p (rowsL t3L ss)]) (kvs := kv0) (k := T.2.1) hok0 hsq1 (mv' rfl (OkL.openV (V := fun b5 => (Value.slice (some ⟨b5, 0, none⟩) 1 1)) (T := 3) (cs := [(vN t)]) (wt_none rfl) (op_buildSlice (cs := [(vN t)]) (pv := [(0, (vN t))]) Tryz.underlying34 Tryz.sizeOf3 Tryz.zeroValue3 (by decide) (by decide) rfl (by kernel_rfl)) rfl (leB rfl) fun b5 => OkL.append1 (j := 0) (cs2 := inL (sq1.l ++ [t])) tE34 rfl sq1.ok (by rw [inL_length, Nat.mul_one]) rfl rfl rfl rfl (by decide) (mxl (by omega)) (by omega) (by rw [inL_append]; rfl) rfl fun p_2 c_2 ho_2 hne_2 => ?_)))
  have hro1 : OwnOk p_2 (sq1.l ++ [t]).length c_2 := by simpa using ho_2
  rw [show sq1.l.length + 1 = (sq1.l ++ [t]).length by simp]
  refine OkL.mapUpdate keyCn 4 (kvs := kv0) (x := T.2.1) (y := (⟨p_2, c_2, sq1.l ++ [t], hro1⟩ : RO)) (wt_none rfl) rfl rfl rfl Tryz.underlying131 rfl (hok0) (by show (_ : Nat) < _; omega) (OkL.permL (show List.Perm _ (blk b5 3 ([(vN t)]) :: blk b4 3 ([(vN t)]) :: blk b3 45 (t3L T) :: mapA b2 vN roV (putM kv0 T.2.1 (⟨p_2, c_2, sq1.l ++ [t], hro1⟩ : RO)) :: blk b1 31 (mxL x) :: rowR x.a.p (rowsL ptL ps) :: rowR x.b.p (rowsL t3L ts) :: rowR x.c.p (rowsL t3L ss) :: roT 3 (putM kv0 T.2.1 (⟨p_2, c_2, sq1.l ++ [t], hro1⟩ : RO))) from push_ro (A1 := [blk b5 3 ([(vN t)])]) (A2 := [blk b4 3 ([(vN t)]), blk b3 45 (t3L T), mapA b2 vN roV (putM kv0 T.2.1 (⟨p_2, c_2, sq1.l ++ [t], hro1⟩ : RO)), blk b1 31 (mxL x), rowR x.a.p (rowsL ptL ps), rowR x.b.p (rowsL t3L ts), rowR x.c.p (rowsL t3L ss)]) (kvs := kv0) (k := T.2.1) (s := (⟨p_2, c_2, sq1.l ++ [t], hro1⟩ : RO)) (T := 3) hok0) ?_)
  obtain ⟨kv1, hkv1⟩ : ∃ q, q = putM kv0 T.2.1 (⟨p_2, c_2, sq1.l ++ [t], hro1⟩ : RO) := ⟨_, rfl⟩
  rw [← hkv1]
  have hok1 : OkM okI kv1 := hkv1 ▸ hok0.put (by show (_ : Nat) < _; omega)
  have hat1 : roL kv1 = atN ts (3 * t + 1 + 1) := by rw [hkv1, putM_roL, atN_succ (show 1 < 3 by decide), ← hT, ← hat0, roL_l]; show putM _ T.2.1 (sq1.l ++ [t]) = putM _ (crT T 1) (((getM kv0 (crT T 1)).getD ro0).l ++ [t]); rw [show crT T 1 = T.2.1 from rfl, ← hsq1]
  refine OkL.nil (OkQ.subF (sL [1, 2, 3, 4, 28, 29, 30, 6, 5, 35, 36] rfl) (OkQ.in_normal (OkQ.then_ (OkC.region (st' (ex_add (c := (2 : Int)) rfl rfl (by decide)) rfl ?_)))))
  refine mv' rfl (OkL.nil (OkQ.subF (sL [1, 2, 3, 4, 28, 29, 30, 6, 5, 35, 36] rfl) (OkQ.again (OkR.step (q4 ?_)))))
  refine st' (ex_lss (c := true) rfl rfl (by decide)) rfl (OkL.nil (q1 (OkC.cond_true rfl (OkC.skip (q1 ?_)))))
  refine OkC.block (q4 (st' (v := (vN T.2.2)) (ex_index_arr (j := 2) rfl rfl Tryz.underlying45 Tryz.sizeOf3 Tryz.isAgg3 (by decide) rfl) rfl (asg' rfl (OkL.nil (OkQ.subF (sL [1, 2, 3, 4, 28, 29, 30, 6, 5, 35, 36, 8] rfl) ?_)))))
  refine OkQ.then_ (OkC.region (mv' rfl (mv' rfl (mv' rfl (mv' rfl ?_)))))
  obtain ⟨sq2, hsq2⟩ : ∃ q, q = (getM kv1 T.2.2).getD ro0 := ⟨_, rfl⟩
  have hsn2 : sq2.l.length ≤ 3 * t + 2 := by rw [hsq2, ← roL_l, hat1]; exact atN_len _
  refine st' (v := (Value.slice sq2.p sq2.l.length sq2.c)) ((by rw [hsq2]; exact ex_lookup keyCn 3 (eV := roV) (kvs := kv1) (x := T.2.2) (z0 := ro0) (co := false) rfl rfl Tryz.underlying131 Tryz.zeroValue34 rfl (hok1) (by show (_ : Nat) < _; omega))) rfl (OkL.pullRO (A := [blk b5 3 ([(vN t)]), blk b4 3 ([(vN t)]), blk b3 45 (t3L T), mapA b2 vN roV kv1, blk b1 31 (mxL x), rowR x.a.p (rowsL ptL ps), rowR x.b.p (rowsL t3L ts), rowR x.c.p (rowsL t3L ss)]) (kvs := kv1) (k := T.2.2) hok1 hsq2 (mv' rfl (OkL.openV (V := fun b6 => (Value.slice (some ⟨b6, 0, none⟩) 1 1)) (T := 3) (cs := [(vN t)]) (wt_none rfl) (op_buildSlice (cs := [(vN t)]) (pv := [(0, (vN t))]) Tryz.underlying34 Tryz.sizeOf3 Tryz.zeroValue3 (by decide) (by decide) rfl (by kernel_rfl)) rfl (leB rfl) fun b6 => OkL.append1 (j := 0) (cs2 := inL (sq2.l ++ [t])) tE34 rfl sq2.ok (by rw [inL_length, Nat.mul_one]) rfl rfl rfl rfl (by decide) (mxl (by omega)) (by omega) (by rw [inL_append]; rfl) rfl fun p_3 c_3 ho_3 hne_3 => ?_)))
  have hro2 : OwnOk p_3 (sq2.l ++ [t]).length c_3 := by simpa using ho_3
  rw [show sq2.l.length + 1 = (sq2.l ++ [t]).length by simp]
  refine OkL.mapUpdate keyCn 5 (kvs := kv1) (x := T.2.2) (y := (⟨p_3, c_3, sq2.l ++ [t], hro2⟩ : RO)) (wt_none rfl) rfl rfl rfl Tryz.underlying131 rfl (hok1) (by show (_ : Nat) < _; omega) (OkL.permL (show List.Perm _ (blk b6 3 ([(vN t)]) :: blk b5 3 ([(vN t)]) :: blk b4 3 ([(vN t)]) :: blk b3 45 (t3L T) :: mapA b2 vN roV (putM kv1 T.2.2 (⟨p_3, c_3, sq2.l ++ [t], hro2⟩ : RO)) :: blk b1 31 (mxL x) :: rowR x.a.p (rowsL ptL ps) :: rowR x.b.p (rowsL t3L ts) :: rowR x.c.p (rowsL t3L ss) :: roT 3 (putM kv1 T.2.2 (⟨p_3, c_3, sq2.l ++ [t], hro2⟩ : RO))) from push_ro (A1 := [blk b6 3 ([(vN t)])]) (A2 := [blk b5 3 ([(vN t)]), blk b4 3 ([(vN t)]), blk b3 45 (t3L T), mapA b2 vN roV (putM kv1 T.2.2 (⟨p_3, c_3, sq2.l ++ [t], hro2⟩ : RO)), blk b1 31 (mxL x), rowR x.a.p (rowsL ptL ps), rowR x.b.p (rowsL t3L ts), rowR x.c.p (rowsL t3L ss)]) (kvs := kv1) (k := T.2.2) (s := (⟨p_3, c_3, sq2.l ++ [t], hro2⟩ : RO)) (T := 3) hok1) ?_)
  obtain ⟨kv2, hkv2⟩ : ∃ q, q = putM kv1 T.2.2 (⟨p_3, c_3, sq2.l ++ [t], hro2⟩ : RO) := ⟨_, rfl⟩
  rw [← hkv2]
  have hok2 : OkM okI kv2 := hkv2 ▸ hok1.put (by show (_ : Nat) < _; omega)
  have hat2 : roL kv2 = atN ts (3 * t + 2 + 1) := by rw [hkv2, putM_roL, atN_succ (show 2 < 3 by decide), ← hT, ← hat1, roL_l]; show putM _ T.2.2 (sq2.l ++ [t]) = putM _ (crT T 2) (((getM kv1 (crT T 2)).getD ro0).l ++ [t]); rw [show crT T 2 = T.2.2 from rfl, ← hsq2]
  refine OkL.nil (OkQ.subF (sL [1, 2, 3, 4, 28, 29, 30, 6, 5, 35, 36] rfl) (OkQ.in_normal (OkQ.then_ (OkC.region (st' (ex_add (c := (3 : Int)) rfl rfl (by decide)) rfl ?_)))))
  refine mv' rfl (OkL.nil (OkQ.subF (sL [1, 2, 3, 4, 28, 29, 30, 6, 5, 35, 36] rfl) (OkQ.again (OkR.step (q4 ?_)))))
  refine st' (ex_lss (c := false) rfl rfl (by decide)) rfl (OkL.nil (q1 (OkC.cond_false rfl (OkC.exit (OkQ.then_exit ?_)))))
  refine OkQ.then_exit (OkQ.in_exit (OkQ.in_normal (OkQ.then_ (OkC.region (st' (ex_add (c := ((t + 1 : Nat) : Int)) rfl rfl (addN_i64 (a := t) (b := 1) (by omega))) rfl ?_)))))
  exact mv' rfl (OkL.nil (OkQ.subF (sL [1, 2, 3, 4, 28, 29, 30, 6, 5, 35, 36] rfl) (OkQ.round2 (t + 1) kv2 (⟨by omega, hok2, hat2⟩) (by omega) (sF rfl) (sl (sl (sl (sl sr)))))))
 ·replace hc1 := of_decide_eq_false hc1
  have hatl : ∀ p, ((getM kv p).getD ro0).l = atL ts p := fun p => by unfold atL; rw [← roL_l, hat, show 3 * t + 0 = 3 * ts.length by omega]
  refine OkC.exit (OkQ.then_exit (OkQ.round2_exit (OkQ.in_exit (q2 (st' (v := (pP b1 1)) (ex_fieldAddr rfl Tryz.underlying31 rfl Tryz.sizeOf28 rfl) rfl ?_)))))
  refine OkL.frzRO (A := [mapA b2 vN roV kv, blk b1 31 (mxL x), rowR x.a.p (rowsL ptL ps), rowR x.b.p (rowsL t3L ts), rowR x.c.p (rowsL t3L ss)]) (kvs := kv) (ldO' 1 (Value.slice x.b.p ts.length x.b.c) tO28 rfl (st' (v := (vN ts.length)) (ex_len_slice rfl Tryz.underlying28) rfl ?_))
  refine OkL.makeInt (m := ts.length) tMp34 rfl rfl (by omega) rfl rfl ?_; intro bm hbm; rw [show List.replicate ts.length 0 = mnN ts.length 0 from rfl]
  refine asg' rfl (q6 (sL [1, 2, 3, 4, 28, 29, 30] rfl) (q4 (mv' rfl (st' (v := (vN ts.length)) (ex_len_slice rfl Tryz.underlying34) rfl (mv' rfl ?_)))))
  refine OkL.nil (OkQ.subF (sL [1, 2, 3, 4, 28, 29, 30, 54, 55] rfl) (OkQ.then_ (OkC.block ?_)))
  refine OkC.lp1 (tg fun (q : Nat) => q ≤ ts.length) (tg fun (q : Nat) => [(1, (pP b1 0)), (2, (Value.slice (some ⟨bm, 0, none⟩) ts.length ts.length)), (3, (vI 0)), (4, (Value.map (some b2))), (54, (vN ts.length)), (55, (vN q))]) (tg fun (q : Nat) => (rowW (some ⟨bm, 0, none⟩) 3 1 ts.length ts.length (zL (mnN ts.length q)) :: mapA b2 vN roV kv :: blk b1 31 (mxL x) :: rowR x.a.p (rowsL ptL ps) :: rowR x.b.p (rowsL t3L ts) :: rowR x.c.p (rowsL t3L ss) :: rdT kv)) (tg fun (q : Nat) => ts.length - q) 0 (Nat.zero_le _) (sF rfl) sr (fun q hJ => ?_)
  have hq := hJ
  refine q4 (st' (ex_lss (c := (decide (q < ts.length))) rfl rfl (ltN (a := q) (b := ts.length))) rfl (OkL.nil (q1 ?_)))
  refine OkC.cond rfl (fun hc3 => ?_) (fun hc3 => ?_)
  ·replace hc3 := of_decide_eq_true hc3
   refine OkC.skip (q1 (OkC.block (q4 (mv' rfl (asg' rfl ?_)))))
   refine OkL.nil (OkQ.subF (sL [1, 2, 3, 4, 54, 55, 9] rfl) (OkQ.then_ (OkC.region (mv' rfl (mv' rfl ?_)))))
   refine st' (v := (pP (pB (some ⟨bm, 0, none⟩)) (pO (some ⟨bm, 0, none⟩) + q * 1))) (ex_index_row (j := q) rfl rfl hbm.row Tryz.underlying34 Tryz.sizeOf3 rfl (by omega)) rfl (OkL.storeRow0 (j := q) (v := (vI (-1 : Int))) rfl rfl hbm (by rw [zL_length, Nat.mul_one]; exact (mnN_len (by omega))) (by omega) rfl Tryz.sizeOf3 rfl (zL_set _ _ _) (OkL.nil (OkQ.subF (sL [1, 2, 3, 4, 54, 55] rfl) (OkQ.in_normal (OkQ.then_ ?_)))))
   refine OkC.region (st' (ex_add (c := ((q + 1 : Nat) : Int)) rfl rfl (addN_i64 (a := q) (b := 1) (by omega))) rfl (mv' rfl (OkL.nil (OkQ.subF (sL [1, 2, 3, 4, 54, 55] rfl) ?_))))
   rw [mnN_set (by omega)]
   exact OkQ.round1 (q + 1) (by omega) (by omega) (sF rfl) sr
  ·replace hc3 := of_decide_eq_false hc3
   rw [show mnN ts.length q = mnN ts.length ts.length by rw [show q = ts.length by omega]]
   refine OkC.exit (OkQ.then_exit (OkQ.round1_exit (OkQ.in_exit (q1 (OkC.label ?_)))))
   refine q1 (q4 (mv' rfl (st' (v := (vN ts.length)) (ex_len_slice rfl Tryz.underlying34) rfl (mv' rfl (OkL.nil ?_)))))
   refine OkQ.subF (sL [1, 2, 3, 4, 54, 55, 63, 64] rfl) (OkQ.then_ (OkC.block ?_))
   refine OkC.lp3 (tg fun (v : Nat) (n : Nat) (l : List Int) => v ≤ ts.length ∧ PtO ts v n l) (tg fun (v : Nat) (n : Nat) (l : List Int) => [(1, (pP b1 0)), (2, (Value.slice (some ⟨bm, 0, none⟩) ts.length ts.length)), (4, (Value.map (some b2))), (63, (vN ts.length)), (64, (vN v)), (3, (vN n))]) (tg fun (v : Nat) (n : Nat) (l : List Int) => (rowW (some ⟨bm, 0, none⟩) 3 1 ts.length ts.length (zL l) :: mapA b2 vN roV kv :: blk b1 31 (mxL x) :: rowR x.a.p (rowsL ptL ps) :: rowR x.b.p (rowsL t3L ts) :: rowR x.c.p (rowsL t3L ss) :: rdT kv)) (tg fun (v : Nat) (n : Nat) (l : List Int) => ts.length - v) 0 0 (mnN ts.length ts.length) (⟨Nat.zero_le _, PtO.start (mnN_len (Nat.le_refl _)) (fun s hs => mnN_all hs)⟩) (sF rfl) sr (fun v n l hJ => ?_)
   obtain ⟨hv, hP⟩ := hJ
   have hnle := hP.nle
   have hPl := hP.len
   refine q4 (st' (ex_lss (c := (decide (v < ts.length))) rfl rfl (ltN (a := v) (b := ts.length))) rfl (OkL.nil (q1 ?_)))
   refine OkC.cond rfl (fun hc4 => ?_) (fun hc4 => ?_)
   ·replace hc4 := of_decide_eq_true hc4
    refine OkC.skip (q1 (OkC.block (q4 (mv' rfl (asg' rfl ?_)))))
    refine q6 (sL [1, 2, 4, 63, 64, 3, 10] rfl) (q4 (mv' rfl (mv' rfl (st' (v := (pP (pB (some ⟨bm, 0, none⟩)) (pO (some ⟨bm, 0, none⟩) + v * 1))) (ex_index_row (j := v) rfl rfl hbm.row Tryz.underlying34 Tryz.sizeOf3 rfl (by omega)) rfl (st' (ex_load_rowW_one (v := (vI (l.getD v 0))) (i := 0) rfl rfl hbm (by rw [zL_length, Nat.mul_one]; exact hP.len) (hbm.row.ne (by omega)) tO3 (zL_get (l := l) (j := v) (by omega))) rfl ?_)))))
    refine st' (ex_geq (c := (decide ((0 : Int) ≤ (l.getD v 0)))) rfl rfl rfl) rfl (OkL.nil (OkQ.subF (sL [1, 2, 4, 63, 64, 3, 10, 71] rfl) (OkQ.then_ ?_)))
    refine OkC.cond rfl (fun hc5 => ?_) (fun hc5 => ?_)
    ·replace hc5 := of_decide_eq_true hc5
     refine OkC.exit (OkQ.then_exit (OkQ.in_exit (OkQ.then_ (OkC.region (st' (ex_add (c := ((v + 1 : Nat) : Int)) rfl rfl (addN_i64 (a := v) (b := 1) (by omega))) rfl ?_)))))
     exact mv' rfl (OkL.nil (OkQ.subF (sL [1, 2, 4, 63, 64, 3, 10] rfl) (OkQ.round3 (v + 1) n l (⟨by omega, hP.next hc5⟩) (by omega) (sF rfl) sr)))
    ·replace hc5 := of_decide_eq_false hc5
     have hng : gZ l v < 0 := by show l.getD v 0 < 0; omega
     refine OkC.skip (q2 (mv' rfl (OkL.openV (V := fun bt => (Value.slice (some ⟨bt, 0, none⟩) 1 1)) (T := 3) (cs := inL [v]) (wt_none rfl) (op_buildSlice (cs := inL [v]) (pv := [(0, (vN v))]) Tryz.underlying34 Tryz.sizeOf3 Tryz.zeroValue3 (by decide) (by decide) rfl (by kernel_rfl)) rfl (leB rfl) fun bt => OkL.asRow0 (z := 1) 1 rfl (by omega) fun hbt => asg' rfl ?_)))
     refine q3 (sL [1, 2, 4, 63, 64, 3, 10, 11] rfl) (mv' rfl (mv' rfl (mv' rfl (st' (v := (pP (pB (some ⟨bm, 0, none⟩)) (pO (some ⟨bm, 0, none⟩) + v * 1))) (ex_index_row (j := v) rfl rfl hbm.row Tryz.underlying34 Tryz.sizeOf3 rfl (by omega)) rfl (OkL.storeRow1 (j := v) (v := (vN n)) rfl rfl hbm (by rw [zL_length, Nat.mul_one]; exact hP.len) (by omega) rfl Tryz.sizeOf3 rfl (zL_set _ _ _) ?_)))))
     refine q6 (sL [1, 2, 4, 63, 64, 3, 10, 11] rfl) (OkC.block ?_)
     refine OkC.lp4 (tg fun (l2 : List Int) (td : List Nat) (p2 : Option Addr) (c2 : Nat) => Fl0 ts v n l l2 td ∧ OwnOk p2 td.length c2) (tg fun (l2 : List Int) (td : List Nat) (p2 : Option Addr) (c2 : Nat) => [(1, (pP b1 0)), (2, (Value.slice (some ⟨bm, 0, none⟩) ts.length ts.length)), (4, (Value.map (some b2))), (63, (vN ts.length)), (64, (vN v)), (3, (vN n)), (11, (Value.slice p2 td.length c2))]) (tg fun (l2 : List Int) (td : List Nat) (p2 : Option Addr) (c2 : Nat) => (rowW p2 3 1 td.length c2 (inL td) :: rowW (some ⟨bm, 0, none⟩) 3 1 ts.length ts.length (zL l2) :: mapA b2 vN roV kv :: blk b1 31 (mxL x) :: rowR x.a.p (rowsL ptL ps) :: rowR x.b.p (rowsL t3L ts) :: rowR x.c.p (rowsL t3L ss) :: rdT kv)) (tg fun (l2 : List Int) (td : List Nat) (p2 : Option Addr) (c2 : Nat) => muP l2 td) (l.set v ((n : Nat) : Int)) ([v]) (some ⟨bt, 0, none⟩) 1 (⟨Fl0.start hP (by omega) hng, hbt⟩) (sF rfl) sr (fun l2 td p2 c2 hJ => ?_)
     obtain ⟨hF, ho2⟩ := hJ
     have htl2 := hF.tl
     refine OkC.seq (q4 (mv' rfl (st' (v := (vN td.length)) (ex_len_slice rfl Tryz.underlying34) rfl (st' (ex_gtr (c := (decide (0 < td.length))) rfl rfl (ltN (a := 0) (b := td.length))) rfl (OkL.nil ?_)))))
     refine OkQ.subF (sL [1, 2, 4, 63, 64, 3, 11, 80] rfl) (OkQ.then_ ?_)
     refine OkC.cond rfl (fun hc6 => ?_) (fun hc6 => ?_)
     ·replace hc6 := of_decide_eq_true hc6
      have hcl2 := ho2.le
      obtain ⟨k, hk⟩ : ∃ q, q = td.getD (td.length - 1) 0 := ⟨_, rfl⟩
      have hfd := hF.pop hc6
      rw [← hk] at hfd
      have hkt := hfd.kk.1
      obtain ⟨T, hT⟩ : ∃ q, q = ts.getD k (0, 0, 0) := ⟨_, rfl⟩
      obtain ⟨g1, g2, g3⟩ := okT_spec (numB_at hnb hkt)
      rw [← hT] at g1 g2 g3
      refine OkC.skip (OkQ.then_ (OkC.block (q4 (mv' rfl (mv' rfl ?_)))))
      refine st' (v := (vN td.length)) (ex_len_slice rfl Tryz.underlying34) rfl (st' (ex_sub (c := ((td.length - 1 : Nat) : Int)) rfl rfl (subN_i64 (a := td.length) (b := 1) (by omega) (by omega))) rfl (st' (v := (pP (pB p2) (pO p2 + (td.length - 1) * 1))) (ex_index_row (j := td.length - 1) rfl rfl ho2.row Tryz.underlying34 Tryz.sizeOf3 rfl (by omega)) rfl (st' (ex_load_rowW_one (v := (vN (td.getD (td.length - 1) 0))) (i := 0) rfl rfl ho2 (by rw [inL_length, Nat.mul_one]) (ho2.row.ne (by omega)) tO3 (inL_get (l := td) (j := td.length - 1) (by omega))) rfl (OkL.retell (k := 86) (u := (vN k)) rfl (by rw [hk]) (asg' rfl ?_)))))
      refine q3 (sL [1, 2, 4, 63, 64, 3, 11, 12] rfl) (mv' rfl (mv' rfl (st' (v := (vN td.length)) (ex_len_slice rfl Tryz.underlying34) rfl (st' (ex_sub (c := ((td.length - 1 : Nat) : Int)) rfl rfl (subN_i64 (a := td.length) (b := 1) (by omega) (by omega))) rfl (st' (v := (Value.slice p2 (td.length - 1) c2)) (ex_slice_hi (m := td.length - 1) rfl rfl Tryz.underlying34 Tryz.sizeOf3 (by omega)) rfl ?_)))))
      refine OkL.shrink 0 rfl (show td.length - 1 ≤ td.length by omega) rfl ?_
      rw [show (inL td).take ((td.length - 1) * 1) = inL (td.take (td.length - 1)) by rw [Nat.mul_one, inL_take]]
      obtain ⟨t2, ht2⟩ : ∃ q, q = td.take (td.length - 1) := ⟨_, rfl⟩
      have hl2 : td.length - 1 = t2.length := by rw [ht2, List.length_take]; omega
      rw [← ht2, hl2]
      have ho3 : OwnOk p2 t2.length c2 := ho2.less (by omega)
      rw [← ht2] at hfd
      have hmu := mu_pop (l := l2) hc6
      rw [← ht2] at hmu
      refine asg' rfl (q3 (sL [1, 2, 4, 63, 64, 3, 11, 12] rfl) (st' (v := (pP b1 1)) (ex_fieldAddr rfl Tryz.underlying31 rfl Tryz.sizeOf28 rfl) rfl (ldO' 3 (Value.slice x.b.p ts.length x.b.c) tO28 rfl (mv' rfl (st' (v := (pP (pB x.b.p) (pO x.b.p + k * 3))) (ex_index_row (j := k) rfl rfl x.b.ok Tryz.underlying28 Tryz.sizeOf45 rfl (by omega)) rfl ?_)))))
      refine st' (v := (aG (t3L (ts.getD k ((0, 0, 0) : Nat × Nat × Nat))))) (ex_load_rowR_agg (vs := t3L (ts.getD k ((0, 0, 0) : Nat × Nat × Nat))) (i := 5) rfl rfl (RowOk.ne x.b.ok (by omega)) tA45 (rowsL_get t3L_len _ _ _ (by omega)) (t3L_len _)) rfl (OkL.retell (k := 96) (u := (aG (t3L T))) rfl (by rw [hT]) (mv' rfl (OkL.nil (OkQ.subF (sL [1, 2, 4, 63, 64, 3, 11, 96, 97] rfl) (OkQ.then_ ?_)))))
      refine OkC.block (OkC.unroll 4 (OkR.step (q4 (st' (ex_lss (c := true) rfl rfl (by decide)) rfl (OkL.nil ?_)))))
      refine q1 (OkC.cond_true rfl (OkC.skip (q1 (OkC.block (q4 ?_)))))
      refine st' (v := (vN T.1)) (ex_index_arr (j := 0) rfl rfl Tryz.underlying45 Tryz.sizeOf3 Tryz.isAgg3 (by decide) rfl) rfl (asg' rfl (q3 (sL [1, 2, 4, 63, 64, 3, 11, 96, 97, 14] rfl) (mv' rfl (mv' rfl ?_))))
      obtain ⟨sr0, hsr0⟩ : ∃ q, q = (getM kv T.1).getD ro0 := ⟨_, rfl⟩
      refine st' (v := (Value.slice sr0.p sr0.l.length sr0.c)) ((by rw [hsr0]; exact ex_lookup keyCn 2 (eV := roV) (kvs := kv) (x := T.1) (z0 := ro0) (co := false) rfl rfl Tryz.underlying131 Tryz.zeroValue34 rfl (hok) (by show (_ : Nat) < _; omega))) rfl (OkL.dupRO (A := [rowW p2 3 1 t2.length c2 (inL t2), rowW (some ⟨bm, 0, none⟩) 3 1 ts.length ts.length (zL l2), mapA b2 vN roV kv, blk b1 31 (mxL x), rowR x.a.p (rowsL ptL ps), rowR x.b.p (rowsL t3L ts), rowR x.c.p (rowsL t3L ss)]) (kvs := kv) (k := T.1) hsr0 ?_)
      have hsl0 : sr0.l = atL ts (crT (ts.getD k (0, 0, 0)) 0) := by rw [← hT, hsr0]; exact hatl _
      have hsn0 : sr0.l.length ≤ 3 * ts.length := by rw [hsl0]; exact atL_len _
      refine st' (v := (vN sr0.l.length)) (ex_len_slice rfl Tryz.underlying34) rfl (mv' rfl (OkL.nil (OkQ.subF (sL [1, 2, 4, 63, 64, 3, 11, 96, 97, 102, 103, 104] rfl) (OkQ.then_ (OkC.block ?_)))))
      refine OkC.lp5 (tg fun (j0 : Nat) (la0 : List Int) (ta0 : List Nat) (pa0 : Option Addr) (ca0 : Nat) => Fld ts v n l la0 ta0 k 0 j0 ∧ OwnOk pa0 ta0.length ca0 ∧ muP la0 ta0 < muP l2 td ∧ j0 ≤ sr0.l.length) (tg fun (j0 : Nat) (la0 : List Int) (ta0 : List Nat) (pa0 : Option Addr) (ca0 : Nat) => [(1, (pP b1 0)), (2, (Value.slice (some ⟨bm, 0, none⟩) ts.length ts.length)), (4, (Value.map (some b2))), (63, (vN ts.length)), (64, (vN v)), (3, (vN n)), (96, (aG (t3L T))), (97, (vI 0)), (102, (Value.slice sr0.p sr0.l.length sr0.c)), (103, (vN sr0.l.length)), (104, (vN j0)), (11, (Value.slice pa0 ta0.length ca0))]) (tg fun (j0 : Nat) (la0 : List Int) (ta0 : List Nat) (pa0 : Option Addr) (ca0 : Nat) => (rowR sr0.p (inL sr0.l) :: rowW pa0 3 1 ta0.length ca0 (inL ta0) :: rowW (some ⟨bm, 0, none⟩) 3 1 ts.length ts.length (zL la0) :: mapA b2 vN roV kv :: blk b1 31 (mxL x) :: rowR x.a.p (rowsL ptL ps) :: rowR x.b.p (rowsL t3L ts) :: rowR x.c.p (rowsL t3L ss) :: rdT kv)) (tg fun (j0 : Nat) (la0 : List Int) (ta0 : List Nat) (pa0 : Option Addr) (ca0 : Nat) => sr0.l.length - j0) 0 l2 t2 p2 c2 (⟨hfd, ho3, hmu, Nat.zero_le _⟩) (sF rfl) sr (fun j0 la0 ta0 pa0 ca0 hJ => ?_)
      obtain ⟨hf0, hoa0, hm0, hjs0⟩ := hJ
      have htt0 := hf0.tl
      have hLl0 := hf0.len
      refine q4 (st' (ex_lss (c := (decide (j0 < sr0.l.length))) rfl rfl (ltN (a := j0) (b := sr0.l.length))) rfl (OkL.nil (q1 ?_)))
      refine OkC.cond rfl (fun hc8 => ?_) (fun hc8 => ?_)
      ·replace hc8 := of_decide_eq_true hc8
       obtain ⟨o, ho⟩ : ∃ q, q = sr0.l.getD j0 0 := ⟨_, rfl⟩
       have ho9 : o = (atL ts (crT (ts.getD k (0, 0, 0)) 0)).getD j0 0 := by rw [← hsl0]; exact ho
       have hjl : j0 < (atL ts (crT (ts.getD k (0, 0, 0)) 0)).length := by rw [← hsl0]; exact hc8
       have hol : o < ts.length := (atL_mem.1 (by rw [ho9]; exact getD_memN hjl)).1
       refine OkC.skip (q1 (OkC.block (q4 (st' (v := (pP (pB sr0.p) (pO sr0.p + j0 * 1))) (ex_index_row (j := j0) rfl rfl sr0.ok.row Tryz.underlying34 Tryz.sizeOf3 rfl (by omega)) rfl (st' (ex_load_rowR_one (v := (vN (sr0.l.getD j0 0))) (i := 0) rfl rfl (sr0.ok.row.ne (by omega)) tO3 (inL_get (l := sr0.l) (j := j0) (by omega))) rfl ?_)))))
       refine OkL.retell (k := 107) (u := (vN o)) rfl (by rw [ho]) (asg' rfl (q3 (sL [1, 2, 4, 63, 64, 3, 96, 97, 102, 103, 104, 11, 16] rfl) (mv' rfl (mv' rfl (st' (v := (pP (pB (some ⟨bm, 0, none⟩)) (pO (some ⟨bm, 0, none⟩) + o * 1))) (ex_index_row (j := o) rfl rfl hbm.row Tryz.underlying34 Tryz.sizeOf3 rfl (by omega)) rfl ?_)))))
       refine st' (ex_load_rowW_one (v := (vI (la0.getD o 0))) (i := 2) rfl rfl hbm (by rw [zL_length, Nat.mul_one]; exact hf0.len) (hbm.row.ne (by omega)) tO3 (zL_get (l := la0) (j := o) (by omega))) rfl (st' (ex_lss (c := (decide ((la0.getD o 0) < (0 : Int)))) rfl rfl rfl) rfl (OkL.nil (OkQ.subF (sL [1, 2, 4, 63, 64, 3, 96, 97, 102, 103, 104, 11, 16, 112] rfl) (OkQ.then_ ?_))))
       refine OkC.cond rfl (fun hc9 => ?_) (fun hc9 => ?_)
       ·replace hc9 := of_decide_eq_true hc9
        refine q4 (mv' rfl (mv' rfl (mv' rfl (st' (v := (pP (pB (some ⟨bm, 0, none⟩)) (pO (some ⟨bm, 0, none⟩) + o * 1))) (ex_index_row (j := o) rfl rfl hbm.row Tryz.underlying34 Tryz.sizeOf3 rfl (by omega)) rfl (OkL.storeRow2 (j := o) (v := (vN n)) rfl rfl hbm (by rw [zL_length, Nat.mul_one]; exact hf0.len) (by omega) rfl Tryz.sizeOf3 rfl (zL_set _ _ _) ?_)))))
        refine OkL.nil (OkQ.subF (sL [1, 2, 4, 63, 64, 3, 96, 97, 102, 103, 104, 11, 16] rfl) (OkQ.then_ (OkC.region (mv' rfl (mv' rfl ?_)))))
        refine OkL.openV (V := fun b3 => (Value.slice (some ⟨b3, 0, none⟩) 1 1)) (T := 3) (cs := [(vN o)]) (wt_none rfl) (op_buildSlice (cs := [(vN o)]) (pv := [(0, (vN o))]) Tryz.underlying34 Tryz.sizeOf3 Tryz.zeroValue3 (by decide) (by decide) rfl (by kernel_rfl)) rfl (leB rfl) fun b3 => OkL.append2 (j := 0) (cs2 := inL (ta0 ++ [o])) tE34 rfl hoa0 (by rw [inL_length, Nat.mul_one]) rfl rfl rfl rfl (by decide) (mxl (by omega)) (by omega) (by rw [inL_append]; rfl) rfl fun p_4 c_4 ho_4 hne_4 => asg' rfl (OkL.nil (OkQ.subF (sL [1, 2, 4, 63, 64, 3, 96, 97, 102, 103, 104, 11, 16] rfl) (OkQ.in_normal ?_)))
        refine OkQ.then_ (OkC.region (st' (ex_add (c := ((j0 + 1 : Nat) : Int)) rfl rfl (addN_i64 (a := j0) (b := 1) (by omega))) rfl (mv' rfl (OkL.nil (OkQ.subF (sL [1, 2, 4, 63, 64, 3, 96, 97, 102, 103, 104, 11, 16] rfl) ?_)))))
        rw [show ta0.length + 1 = (ta0 ++ [o]).length by simp]
        exact OkQ.round5 (j0 + 1) (la0.set o ((n : Nat) : Int)) (ta0 ++ [o]) p_4 c_4 (⟨hf0.push hP (by omega) ho9 hjl (by decide) hc9, by simpa using ho_4, Nat.lt_trans (mu_push (by rw [hf0.len]; exact hol) (hf0.isneg hol hc9)) hm0, by omega⟩) (by omega) (sF rfl) (sl sr)
       ·replace hc9 := of_decide_eq_false hc9
        refine OkC.skip (OkQ.in_normal (OkQ.then_ (OkC.region (st' (ex_add (c := ((j0 + 1 : Nat) : Int)) rfl rfl (addN_i64 (a := j0) (b := 1) (by omega))) rfl (mv' rfl ?_)))))
        exact OkL.nil (OkQ.subF (sL [1, 2, 4, 63, 64, 3, 96, 97, 102, 103, 104, 11, 16] rfl) (OkQ.round5 (j0 + 1) la0 ta0 pa0 ca0 (⟨hf0.keep hP ho9 hjl (by decide) (by show 0 ≤ la0.getD o 0; omega), hoa0, hm0, by omega⟩) (by omega) (sF rfl) sr))
      ·replace hc8 := of_decide_eq_false hc8
       have hfe0 := hf0.corner (by rw [← hsl0]; omega)
       refine OkC.exit (OkQ.then_exit (OkQ.round5_exit (OkQ.in_exit (OkQ.in_normal (OkQ.then_ ?_)))))
       refine OkC.region (st' (ex_add (c := (1 : Int)) rfl rfl (by decide)) rfl (mv' rfl (OkL.nil (OkQ.subF (sL [1, 2, 4, 63, 64, 3, 96, 97, 102, 103, 104, 11] rfl) (OkQ.again ?_)))))
       refine OkR.step (q4 (st' (ex_lss (c := true) rfl rfl (by decide)) rfl (OkL.nil (q1 (OkC.cond_true rfl ?_)))))
       refine OkC.skip (q1 (OkC.block (q4 (st' (v := (vN T.2.1)) (ex_index_arr (j := 1) rfl rfl Tryz.underlying45 Tryz.sizeOf3 Tryz.isAgg3 (by decide) rfl) rfl (asg' rfl ?_)))))
       refine q3 (sL [1, 2, 4, 63, 64, 3, 96, 97, 102, 103, 104, 11, 14] rfl) (mv' rfl (mv' rfl ?_))
       obtain ⟨sr1, hsr1⟩ : ∃ q, q = (getM kv T.2.1).getD ro0 := ⟨_, rfl⟩
       refine st' (v := (Value.slice sr1.p sr1.l.length sr1.c)) ((by rw [hsr1]; exact ex_lookup keyCn 3 (eV := roV) (kvs := kv) (x := T.2.1) (z0 := ro0) (co := false) rfl rfl Tryz.underlying131 Tryz.zeroValue34 rfl (hok) (by show (_ : Nat) < _; omega))) rfl (OkL.dupRO (A := [rowR sr0.p (inL sr0.l), rowW pa0 3 1 ta0.length ca0 (inL ta0), rowW (some ⟨bm, 0, none⟩) 3 1 ts.length ts.length (zL la0), mapA b2 vN roV kv, blk b1 31 (mxL x), rowR x.a.p (rowsL ptL ps), rowR x.b.p (rowsL t3L ts), rowR x.c.p (rowsL t3L ss)]) (kvs := kv) (k := T.2.1) hsr1 ?_)
       have hsl1 : sr1.l = atL ts (crT (ts.getD k (0, 0, 0)) 1) := by rw [← hT, hsr1]; exact hatl _
       have hsn1 : sr1.l.length ≤ 3 * ts.length := by rw [hsl1]; exact atL_len _
       refine st' (v := (vN sr1.l.length)) (ex_len_slice rfl Tryz.underlying34) rfl (mv' rfl (OkL.nil (OkQ.subF (sL [1, 2, 4, 63, 64, 3, 96, 97, 102, 103, 104, 11] rfl) (OkQ.then_ (OkC.block ?_)))))
       refine OkC.lp5 (tg fun (j1 : Nat) (la1 : List Int) (ta1 : List Nat) (pa1 : Option Addr) (ca1 : Nat) => Fld ts v n l la1 ta1 k 1 j1 ∧ OwnOk pa1 ta1.length ca1 ∧ muP la1 ta1 < muP l2 td ∧ j1 ≤ sr1.l.length) (tg fun (j1 : Nat) (la1 : List Int) (ta1 : List Nat) (pa1 : Option Addr) (ca1 : Nat) => [(1, (pP b1 0)), (2, (Value.slice (some ⟨bm, 0, none⟩) ts.length ts.length)), (4, (Value.map (some b2))), (63, (vN ts.length)), (64, (vN v)), (3, (vN n)), (96, (aG (t3L T))), (97, (vI 1)), (102, (Value.slice sr1.p sr1.l.length sr1.c)), (103, (vN sr1.l.length)), (104, (vN j1)), (11, (Value.slice pa1 ta1.length ca1))]) (tg fun (j1 : Nat) (la1 : List Int) (ta1 : List Nat) (pa1 : Option Addr) (ca1 : Nat) => (rowR sr1.p (inL sr1.l) :: rowR sr0.p (inL sr0.l) :: rowW pa1 3 1 ta1.length ca1 (inL ta1) :: rowW (some ⟨bm, 0, none⟩) 3 1 ts.length ts.length (zL la1) :: mapA b2 vN roV kv :: blk b1 31 (mxL x) :: rowR x.a.p (rowsL ptL ps) :: rowR x.b.p (rowsL t3L ts) :: rowR x.c.p (rowsL t3L ss) :: rdT kv)) (tg fun (j1 : Nat) (la1 : List Int) (ta1 : List Nat) (pa1 : Option Addr) (ca1 : Nat) => sr1.l.length - j1) 0 la0 ta0 pa0 ca0 (⟨hfe0, hoa0, hm0, Nat.zero_le _⟩) (sF rfl) sr (fun j1 la1 ta1 pa1 ca1 hJ => ?_)
       obtain ⟨hf1, hoa1, hm1, hjs1⟩ := hJ
       have htt1 := hf1.tl
       have hLl1 := hf1.len
       refine q4 (st' (ex_lss (c := (decide (j1 < sr1.l.length))) rfl rfl (ltN (a := j1) (b := sr1.l.length))) rfl (OkL.nil (q1 ?_)))
       refine OkC.cond rfl (fun hc8 => ?_) (fun hc8 => ?_)
       ·replace hc8 := of_decide_eq_true hc8
        obtain ⟨o, ho⟩ : ∃ q, q = sr1.l.getD j1 0 := ⟨_, rfl⟩
        have ho9 : o = (atL ts (crT (ts.getD k (0, 0, 0)) 1)).getD j1 0 := by rw [← hsl1]; exact ho
        have hjl : j1 < (atL ts (crT (ts.getD k (0, 0, 0)) 1)).length := by rw [← hsl1]; exact hc8
        have hol : o < ts.length := (atL_mem.1 (by rw [ho9]; exact getD_memN hjl)).1
        refine OkC.skip (q1 (OkC.block (q4 (st' (v := (pP (pB sr1.p) (pO sr1.p + j1 * 1))) (ex_index_row (j := j1) rfl rfl sr1.ok.row Tryz.underlying34 Tryz.sizeOf3 rfl (by omega)) rfl (st' (ex_load_rowR_one (v := (vN (sr1.l.getD j1 0))) (i := 0) rfl rfl (sr1.ok.row.ne (by omega)) tO3 (inL_get (l := sr1.l) (j := j1) (by omega))) rfl ?_)))))
        refine OkL.retell (k := 107) (u := (vN o)) rfl (by rw [ho]) (asg' rfl (q3 (sL [1, 2, 4, 63, 64, 3, 96, 97, 102, 103, 104, 11, 16] rfl) (mv' rfl (mv' rfl (st' (v := (pP (pB (some ⟨bm, 0, none⟩)) (pO (some ⟨bm, 0, none⟩) + o * 1))) (ex_index_row (j := o) rfl rfl hbm.row Tryz.underlying34 Tryz.sizeOf3 rfl (by omega)) rfl ?_)))))
        refine st' (ex_load_rowW_one (v := (vI (la1.getD o 0))) (i := 3) rfl rfl hbm (by rw [zL_length, Nat.mul_one]; exact hf1.len) (hbm.row.ne (by omega)) tO3 (zL_get (l := la1) (j := o) (by omega))) rfl (st' (ex_lss (c := (decide ((la1.getD o 0) < (0 : Int)))) rfl rfl rfl) rfl (OkL.nil (OkQ.subF (sL [1, 2, 4, 63, 64, 3, 96, 97, 102, 103, 104, 11, 16, 112] rfl) (OkQ.then_ ?_))))
        refine OkC.cond rfl (fun hc9 => ?_) (fun hc9 => ?_)
        ·replace hc9 := of_decide_eq_true hc9
         refine q4 (mv' rfl (mv' rfl (mv' rfl (st' (v := (pP (pB (some ⟨bm, 0, none⟩)) (pO (some ⟨bm, 0, none⟩) + o * 1))) (ex_index_row (j := o) rfl rfl hbm.row Tryz.underlying34 Tryz.sizeOf3 rfl (by omega)) rfl (OkL.storeRow3 (j := o) (v := (vN n)) rfl rfl hbm (by rw [zL_length, Nat.mul_one]; exact hf1.len) (by omega) rfl Tryz.sizeOf3 rfl (zL_set _ _ _) ?_)))))
         refine OkL.nil (OkQ.subF (sL [1, 2, 4, 63, 64, 3, 96, 97, 102, 103, 104, 11, 16] rfl) (OkQ.then_ (OkC.region (mv' rfl (mv' rfl ?_)))))
         refine OkL.openV (V := fun b3 => (Value.slice (some ⟨b3, 0, none⟩) 1 1)) (T := 3) (cs := [(vN o)]) (wt_none rfl) (op_buildSlice (cs := [(vN o)]) (pv := [(0, (vN o))]) Tryz.underlying34 Tryz.sizeOf3 Tryz.zeroValue3 (by decide) (by decide) rfl (by kernel_rfl)) rfl (leB rfl) fun b3 => OkL.appendAt 3 (j := 0) (cs2 := inL (ta1 ++ [o])) tE34 rfl hoa1 (by rw [inL_length, Nat.mul_one]) rfl rfl rfl rfl rfl (by decide) (mxl (by omega)) (by omega) (by rw [inL_append]; rfl) rfl fun p_5 c_5 ho_5 hne_5 => asg' rfl (OkL.nil (OkQ.subF (sL [1, 2, 4, 63, 64, 3, 96, 97, 102, 103, 104, 11, 16] rfl) (OkQ.in_normal ?_)))
         refine OkQ.then_ (OkC.region (st' (ex_add (c := ((j1 + 1 : Nat) : Int)) rfl rfl (addN_i64 (a := j1) (b := 1) (by omega))) rfl (mv' rfl (OkL.nil (OkQ.subF (sL [1, 2, 4, 63, 64, 3, 96, 97, 102, 103, 104, 11, 16] rfl) ?_)))))
         rw [show ta1.length + 1 = (ta1 ++ [o]).length by simp]
         exact OkQ.round5 (j1 + 1) (la1.set o ((n : Nat) : Int)) (ta1 ++ [o]) p_5 c_5 (⟨hf1.push hP (by omega) ho9 hjl (by decide) hc9, by simpa using ho_5, Nat.lt_trans (mu_push (by rw [hf1.len]; exact hol) (hf1.isneg hol hc9)) hm1, by omega⟩) (by omega) (sF rfl) (sl sr)
        ·replace hc9 := of_decide_eq_false hc9
         refine OkC.skip (OkQ.in_normal (OkQ.then_ (OkC.region (st' (ex_add (c := ((j1 + 1 : Nat) : Int)) rfl rfl (addN_i64 (a := j1) (b := 1) (by omega))) rfl (mv' rfl ?_)))))
         exact OkL.nil (OkQ.subF (sL [1, 2, 4, 63, 64, 3, 96, 97, 102, 103, 104, 11, 16] rfl) (OkQ.round5 (j1 + 1) la1 ta1 pa1 ca1 (⟨hf1.keep hP ho9 hjl (by decide) (by show 0 ≤ la1.getD o 0; omega), hoa1, hm1, by omega⟩) (by omega) (sF rfl) sr))
       ·replace hc8 := of_decide_eq_false hc8
        have hfe1 := hf1.corner (by rw [← hsl1]; omega)
        refine OkC.exit (OkQ.then_exit (OkQ.round5_exit (OkQ.in_exit (OkQ.in_normal (OkQ.then_ ?_)))))
        refine OkC.region (st' (ex_add (c := (2 : Int)) rfl rfl (by decide)) rfl (mv' rfl (OkL.nil (OkQ.subF (sL [1, 2, 4, 63, 64, 3, 96, 97, 102, 103, 104, 11] rfl) (OkQ.again ?_)))))
        refine OkR.step (q4 (st' (ex_lss (c := true) rfl rfl (by decide)) rfl (OkL.nil (q1 (OkC.cond_true rfl ?_)))))
        refine OkC.skip (q1 (OkC.block (q4 (st' (v := (vN T.2.2)) (ex_index_arr (j := 2) rfl rfl Tryz.underlying45 Tryz.sizeOf3 Tryz.isAgg3 (by decide) rfl) rfl (asg' rfl ?_)))))
        refine q3 (sL [1, 2, 4, 63, 64, 3, 96, 97, 102, 103, 104, 11, 14] rfl) (mv' rfl (mv' rfl ?_))
        obtain ⟨sr2, hsr2⟩ : ∃ q, q = (getM kv T.2.2).getD ro0 := ⟨_, rfl⟩
        refine st' (v := (Value.slice sr2.p sr2.l.length sr2.c)) ((by rw [hsr2]; exact ex_lookup keyCn 4 (eV := roV) (kvs := kv) (x := T.2.2) (z0 := ro0) (co := false) rfl rfl Tryz.underlying131 Tryz.zeroValue34 rfl (hok) (by show (_ : Nat) < _; omega))) rfl (OkL.dupRO (A := [rowR sr1.p (inL sr1.l), rowR sr0.p (inL sr0.l), rowW pa1 3 1 ta1.length ca1 (inL ta1), rowW (some ⟨bm, 0, none⟩) 3 1 ts.length ts.length (zL la1), mapA b2 vN roV kv, blk b1 31 (mxL x), rowR x.a.p (rowsL ptL ps), rowR x.b.p (rowsL t3L ts), rowR x.c.p (rowsL t3L ss)]) (kvs := kv) (k := T.2.2) hsr2 ?_)
        have hsl2 : sr2.l = atL ts (crT (ts.getD k (0, 0, 0)) 2) := by rw [← hT, hsr2]; exact hatl _
        have hsn2 : sr2.l.length ≤ 3 * ts.length := by rw [hsl2]; exact atL_len _
        refine st' (v := (vN sr2.l.length)) (ex_len_slice rfl Tryz.underlying34) rfl (mv' rfl (OkL.nil (OkQ.subF (sL [1, 2, 4, 63, 64, 3, 96, 97, 102, 103, 104, 11] rfl) (OkQ.then_ (OkC.block ?_)))))
        refine OkC.lp5 (tg fun (j2 : Nat) (la2 : List Int) (ta2 : List Nat) (pa2 : Option Addr) (ca2 : Nat) => Fld ts v n l la2 ta2 k 2 j2 ∧ OwnOk pa2 ta2.length ca2 ∧ muP la2 ta2 < muP l2 td ∧ j2 ≤ sr2.l.length) (tg fun (j2 : Nat) (la2 : List Int) (ta2 : List Nat) (pa2 : Option Addr) (ca2 : Nat) => [(1, (pP b1 0)), (2, (Value.slice (some ⟨bm, 0, none⟩) ts.length ts.length)), (4, (Value.map (some b2))), (63, (vN ts.length)), (64, (vN v)), (3, (vN n)), (96, (aG (t3L T))), (97, (vI 2)), (102, (Value.slice sr2.p sr2.l.length sr2.c)), (103, (vN sr2.l.length)), (104, (vN j2)), (11, (Value.slice pa2 ta2.length ca2))]) (tg fun (j2 : Nat) (la2 : List Int) (ta2 : List Nat) (pa2 : Option Addr) (ca2 : Nat) => (rowR sr2.p (inL sr2.l) :: rowR sr1.p (inL sr1.l) :: rowR sr0.p (inL sr0.l) :: rowW pa2 3 1 ta2.length ca2 (inL ta2) :: rowW (some ⟨bm, 0, none⟩) 3 1 ts.length ts.length (zL la2) :: mapA b2 vN roV kv :: blk b1 31 (mxL x) :: rowR x.a.p (rowsL ptL ps) :: rowR x.b.p (rowsL t3L ts) :: rowR x.c.p (rowsL t3L ss) :: rdT kv)) (tg fun (j2 : Nat) (la2 : List Int) (ta2 : List Nat) (pa2 : Option Addr) (ca2 : Nat) => sr2.l.length - j2) 0 la1 ta1 pa1 ca1 (⟨hfe1, hoa1, hm1, Nat.zero_le _⟩) (sF rfl) sr (fun j2 la2 ta2 pa2 ca2 hJ => ?_)
        obtain ⟨hf2, hoa2, hm2, hjs2⟩ := hJ
        have htt2 := hf2.tl
        have hLl2 := hf2.len
        refine q4 (st' (ex_lss (c := (decide (j2 < sr2.l.length))) rfl rfl (ltN (a := j2) (b := sr2.l.length))) rfl (OkL.nil (q1 ?_)))
        refine OkC.cond rfl (fun hc8 => ?_) (fun hc8 => ?_)
        ·replace hc8 := of_decide_eq_true hc8
         obtain ⟨o, ho⟩ : ∃ q, q = sr2.l.getD j2 0 := ⟨_, rfl⟩
         have ho9 : o = (atL ts (crT (ts.getD k (0, 0, 0)) 2)).getD j2 0 := by rw [← hsl2]; exact ho
         have hjl : j2 < (atL ts (crT (ts.getD k (0, 0, 0)) 2)).length := by rw [← hsl2]; exact hc8
         have hol : o < ts.length := (atL_mem.1 (by rw [ho9]; exact getD_memN hjl)).1
         refine OkC.skip (q1 (OkC.block (q4 (st' (v := (pP (pB sr2.p) (pO sr2.p + j2 * 1))) (ex_index_row (j := j2) rfl rfl sr2.ok.row Tryz.underlying34 Tryz.sizeOf3 rfl (by omega)) rfl (st' (ex_load_rowR_one (v := (vN (sr2.l.getD j2 0))) (i := 0) rfl rfl (sr2.ok.row.ne (by omega)) tO3 (inL_get (l := sr2.l) (j := j2) (by omega))) rfl ?_)))))
         refine OkL.retell (k := 107) (u := (vN o)) rfl (by rw [ho]) (asg' rfl (q3 (sL [1, 2, 4, 63, 64, 3, 96, 97, 102, 103, 104, 11, 16] rfl) (mv' rfl (mv' rfl (st' (v := (pP (pB (some ⟨bm, 0, none⟩)) (pO (some ⟨bm, 0, none⟩) + o * 1))) (ex_index_row (j := o) rfl rfl hbm.row Tryz.underlying34 Tryz.sizeOf3 rfl (by omega)) rfl ?_)))))
         refine st' (ex_load_rowW_one (v := (vI (la2.getD o 0))) (i := 4) rfl rfl hbm (by rw [zL_length, Nat.mul_one]; exact hf2.len) (hbm.row.ne (by omega)) tO3 (zL_get (l := la2) (j := o) (by omega))) rfl (st' (ex_lss (c := (decide ((la2.getD o 0) < (0 : Int)))) rfl rfl rfl) rfl (OkL.nil (OkQ.subF (sL [1, 2, 4, 63, 64, 3, 96, 97, 102, 103, 104, 11, 16, 112] rfl) (OkQ.then_ ?_))))
         refine OkC.cond rfl (fun hc9 => ?_) (fun hc9 => ?_)
         ·replace hc9 := of_decide_eq_true hc9
          refine q4 (mv' rfl (mv' rfl (mv' rfl (st' (v := (pP (pB (some ⟨bm, 0, none⟩)) (pO (some ⟨bm, 0, none⟩) + o * 1))) (ex_index_row (j := o) rfl rfl hbm.row Tryz.underlying34 Tryz.sizeOf3 rfl (by omega)) rfl (OkL.storeRow4 (j := o) (v := (vN n)) rfl rfl hbm (by rw [zL_length, Nat.mul_one]; exact hf2.len) (by omega) rfl Tryz.sizeOf3 rfl (zL_set _ _ _) ?_)))))
          refine OkL.nil (OkQ.subF (sL [1, 2, 4, 63, 64, 3, 96, 97, 102, 103, 104, 11, 16] rfl) (OkQ.then_ (OkC.region (mv' rfl (mv' rfl ?_)))))
          refine OkL.openV (V := fun b3 => (Value.slice (some ⟨b3, 0, none⟩) 1 1)) (T := 3) (cs := [(vN o)]) (wt_none rfl) (op_buildSlice (cs := [(vN o)]) (pv := [(0, (vN o))]) Tryz.underlying34 Tryz.sizeOf3 Tryz.zeroValue3 (by decide) (by decide) rfl (by kernel_rfl)) rfl (leB rfl) fun b3 => OkL.appendAt 4 (j := 0) (cs2 := inL (ta2 ++ [o])) tE34 rfl hoa2 (by rw [inL_length, Nat.mul_one]) rfl rfl rfl rfl rfl (by decide) (mxl (by omega)) (by omega) (by rw [inL_append]; rfl) rfl fun p_6 c_6 ho_6 hne_6 => asg' rfl (OkL.nil (OkQ.subF (sL [1, 2, 4, 63, 64, 3, 96, 97, 102, 103, 104, 11, 16] rfl) (OkQ.in_normal ?_)))
          refine OkQ.then_ (OkC.region (st' (ex_add (c := ((j2 + 1 : Nat) : Int)) rfl rfl (addN_i64 (a := j2) (b := 1) (by omega))) rfl (mv' rfl (OkL.nil (OkQ.subF (sL [1, 2, 4, 63, 64, 3, 96, 97, 102, 103, 104, 11, 16] rfl) ?_)))))
          rw [show ta2.length + 1 = (ta2 ++ [o]).length by simp]
          exact OkQ.round5 (j2 + 1) (la2.set o ((n : Nat) : Int)) (ta2 ++ [o]) p_6 c_6 (⟨hf2.push hP (by omega) ho9 hjl (by decide) hc9, by simpa using ho_6, Nat.lt_trans (mu_push (by rw [hf2.len]; exact hol) (hf2.isneg hol hc9)) hm2, by omega⟩) (by omega) (sF rfl) (sl sr)
         ·replace hc9 := of_decide_eq_false hc9
          refine OkC.skip (OkQ.in_normal (OkQ.then_ (OkC.region (st' (ex_add (c := ((j2 + 1 : Nat) : Int)) rfl rfl (addN_i64 (a := j2) (b := 1) (by omega))) rfl (mv' rfl ?_)))))
          exact OkL.nil (OkQ.subF (sL [1, 2, 4, 63, 64, 3, 96, 97, 102, 103, 104, 11, 16] rfl) (OkQ.round5 (j2 + 1) la2 ta2 pa2 ca2 (⟨hf2.keep hP ho9 hjl (by decide) (by show 0 ≤ la2.getD o 0; omega), hoa2, hm2, by omega⟩) (by omega) (sF rfl) sr))
        ·replace hc8 := of_decide_eq_false hc8
         have hfe2 := hf2.corner (by rw [← hsl2]; omega)
         refine OkC.exit (OkQ.then_exit (OkQ.round5_exit (OkQ.in_exit (OkQ.in_normal (OkQ.then_ ?_)))))
         refine OkC.region (st' (ex_add (c := (3 : Int)) rfl rfl (by decide)) rfl (mv' rfl (OkL.nil (OkQ.subF (sL [1, 2, 4, 63, 64, 3, 96, 97, 102, 103, 104, 11] rfl) (OkQ.again ?_)))))
         refine OkR.step (q4 (st' (ex_lss (c := false) rfl rfl (by decide)) rfl (OkL.nil (q1 (OkC.cond_false rfl ?_)))))
         exact OkC.exit (OkQ.then_exit (OkQ.then_exit (OkQ.in_exit (OkQ.in_normal (OkQ.round4 la2 ta2 pa2 ca2 (⟨hfe2.close, hoa2⟩) (hm2) (sF rfl) (sl (sl (sl sr))))))))
     ·replace hc6 := of_decide_eq_false hc6
      have hfin := hF.finish hP (by omega) (by omega) hng
      refine OkC.exit (OkQ.then_exit (OkQ.round4_exit (OkQ.in_exit (OkQ.then_ (OkC.region ?_)))))
      refine mv' rfl (st' (ex_add (c := ((n + 1 : Nat) : Int)) rfl rfl (addN_i64 (a := n) (b := 1) (by omega))) rfl (asg' rfl (OkL.nil (OkQ.subF (sL [1, 2, 4, 63, 64, 3, 11] rfl) (OkQ.in_normal ?_)))))
      exact OkQ.then_ (OkC.region (st' (ex_add (c := ((v + 1 : Nat) : Int)) rfl rfl (addN_i64 (a := v) (b := 1) (by omega))) rfl (mv' rfl (OkL.nil (OkQ.subF (sL [1, 2, 4, 63, 64, 3, 11] rfl) (OkQ.round3 (v + 1) (n + 1) l2 (⟨by omega, hfin⟩) (by omega) (sF rfl) (sl sr)))))))
   ·replace hc4 := of_decide_eq_false hc4
    refine OkC.exit (OkQ.then_exit (OkQ.round3_exit (OkQ.in_exit (q2 (mv' rfl ?_)))))
    refine mv' rfl (asg' rfl (asg' rfl (OkL.nil (OkQ.subF (sL [1, 2, 4, 63, 64, 3] rfl) (OkQ.then_ ?_)))))
    exact OkC.ret (OkQ.scope_ret (ret_two rfl (rd_tmp (v := (Value.slice (some ⟨bm, 0, none⟩) ts.length ts.length)) rfl) (rd_tmp (v := (vN n)) rfl) (fun w hw => (retPa hw 0 rfl hbm hPl.symm (by have h9 := hP; rw [show v = ts.length by omega] at h9; exact h9.fin) rfl))))
end
end Go.Proofs.YtgiacpkjnikjdaaGreat
