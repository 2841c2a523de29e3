import Derived.Test.YtgiacpkjnikjdaaGreatPart06
import Derived.Test.YtgiacpkjnikjdaaGreatPart35
import Derived.Test.YtgiacpkjnikjdaaGreatPart37
namespace Go.Proofs.YtgiacpkjnikjdaaGreat
open Go Go.RowKit
set_option linter.unusedVariables false
set_option linter.unusedSimpArgs false
section
set_option maxRecDepth 100000
theorem third_ok (T : T3) (k : P2) (hT : T.1 < 1099511627776 ∧ T.2.1 < 1099511627776 ∧ T.2.2 < 1099511627776) (hk : k.1 + k.2 ≤ T.1 + T.2.1 + T.2.2) (w : World)  : Calls Tryz.prog 127 #[(aG (t3L T)), (aG (posL k))] w (Gives w (vN (thd T k))) := by
 refine calls_of (args := [(aG (t3L T)), (aG (posL k))]) Tryz.func127 rfl rfl (leB rfl) (OkC.subF (sL [0, 1] rfl) (q4 (bx' (cs := t3L T) rfl fun b1 => bx' (cs := posL k) rfl fun b2 => asg' rfl ?_)))
 refine q3 (sL [2, 3, 4] rfl) (st' (v := (pP b1 0)) (ex_indexAddr_array (j := 0) rfl rfl Tryz.underlying45 Tryz.sizeOf3 rfl (by decide) rfl) rfl (ldO' 1 (vN T.1) tO3 rfl (st' (v := (pP b1 1)) (ex_indexAddr_array (j := 1) rfl rfl Tryz.underlying45 Tryz.sizeOf3 rfl (by decide) rfl) rfl (ldO' 1 (vN T.2.1) tO3 rfl (st' (ex_add (c := ((T.1 + T.2.1 : Nat) : Int)) rfl rfl (addN_i64 (a := T.1) (b := T.2.1) (by omega))) rfl ?_)))))
 refine st' (v := (pP b1 2)) (ex_indexAddr_array (j := 2) rfl rfl Tryz.underlying45 Tryz.sizeOf3 rfl (by decide) rfl) rfl (ldO' 1 (vN T.2.2) tO3 rfl (st' (ex_add (c := (((T.1 + T.2.1) + T.2.2 : Nat) : Int)) rfl rfl (addN_i64 (a := T.1 + T.2.1) (b := T.2.2) (by omega))) rfl (st' (v := (pP b2 0)) (ex_indexAddr_array (j := 0) rfl rfl Tryz.underlying156 Tryz.sizeOf3 rfl (by decide) rfl) rfl (ldO' 0 (vN k.1) tO3 rfl (st' (ex_sub (c := ((((T.1 + T.2.1) + T.2.2) - k.1 : Nat) : Int)) rfl rfl (subN_i64 (a := (T.1 + T.2.1) + T.2.2) (b := k.1) (by omega) (by omega))) rfl ?_)))))
 refine st' (v := (pP b2 1)) (ex_indexAddr_array (j := 1) rfl rfl Tryz.underlying156 Tryz.sizeOf3 rfl (by decide) rfl) rfl (ldO' 0 (vN k.2) tO3 rfl (st' (ex_sub (c := (((((T.1 + T.2.1) + T.2.2) - k.1) - k.2 : Nat) : Int)) rfl rfl (subN_i64 (a := ((T.1 + T.2.1) + T.2.2) - k.1) (b := k.2) (by omega) (by omega))) rfl (asg' rfl (OkL.nil (OkQ.subF (sL [4] rfl) ?_)))))
 exact OkQ.then_ (OkC.ret (ret_one rfl (rd_tmp (v := (vN ((((T.1 + T.2.1) + T.2.2) - k.1) - k.2))) rfl) (fun w hw => ⟨rfl, hw.out⟩)))
theorem tfill_numuy_156 (x0 x1 : Nat) : Instr.fill (fun i => some (i * 1, 1)) (posL ((0, 0) : P2)).toArray [(0, vN x0), (1, vN x1)] = some (posL (x0, x1)).toArray := by kernel_rfl
set_option maxHeartbeats 1000000 in
theorem behind_ok {ps : List Pt} {ts ss : List T3} (x : MX ps ts ss) (sx : SX ts true) (k0 : P2) (hnb : numB ps.length ts = true) (ho : ornB ts (3 * ts.length) = true) (h0 : bdS ts k0) (hp : ps.length ≤ 1000000) (htl : ts.length ≤ 1000000) (w : World) {S : Nat → Prop} (hx : Ro S w x) (hsx : Ro S w sx) : Calls Tryz.prog 74 #[(aG (mxL x)), (Value.map (some sx.b)), (aG (posL k0))] w (Gives w (aG (posL (behK ts k0)))) := by
 have hkv : sx.kvs = mdS ts := sx.fin rfl
 obtain ⟨hs0, hs1, hs2, hs3⟩ := stepQ hnb ho h0.1
 have lx := atA (W := w) hx
 have lsx := atA (W := w) hsx
 refine calls_ofR (args := [(aG (mxL x)), (Value.map (some sx.b)), (aG (posL k0))]) (L := [rowR x.a.p (rowsL ptL ps), rowR x.b.p (rowsL t3L ts), rowR x.c.p (rowsL t3L ss), mapR sx.b kEd vN sx.kvs]) Tryz.func74 rfl rfl (leB rfl) (sxA hx (sxA hsx roL_nil)) (OkC.subF (sL [0, 1, 2] rfl) (q4 (bx' (cs := mxL x) rfl fun b1 => bx' (cs := posL k0) rfl fun b2 => al tZ156 rfl fun b3 => ?_)))
 refine q3 (sL [1, 3, 5, 6] rfl) (mv' rfl (ldW' 1 tA156 rfl (st' (v := (vN ((getM sx.kvs k0).getD 0))) (ex_lookupR keySt 6 (eV := vN) (kvs := sx.kvs) (x := k0) (z0 := 0) (co := false) rfl rfl Tryz.underlying152 Tryz.zeroValue3 rfl (sx.ok) (isS_ok hnb (by omega) h0.1)) rfl (asg' rfl (OkL.nil ?_)))))
 refine OkQ.subF (sL [1, 3, 5, 6, 7] rfl) (OkQ.then_ (OkC.block ?_))
 refine OkC.lp3 (tg fun (i : Nat) (k : P2) (tq : Nat) => BehI ts k0 i k ∧ tq = (getM (mdS ts) k).getD 0) (tg fun (i : Nat) (k : P2) (tq : Nat) => [(1, (Value.map (some sx.b))), (3, (pP b1 0)), (5, (pP b2 0)), (6, (pP b3 0)), (7, (vN tq))]) (tg fun (i : Nat) (k : P2) (tq : Nat) => [blk b3 156 (posL ((0, 0) : P2)), blk b2 156 (posL k), blk b1 31 (mxL x), rowR x.a.p (rowsL ptL ps), rowR x.b.p (rowsL t3L ts), rowR x.c.p (rowsL t3L ss), mapR sx.b kEd vN sx.kvs]) (tg fun (i : Nat) (k : P2) (tq : Nat) => 3 * ts.length - i) 0 k0 ((getM sx.kvs k0).getD 0) (⟨BehI.zero h0.1, by rw [hkv]⟩) (sF rfl) sr (fun i k tq hJ => ?_)
 obtain ⟨hb, htq⟩ := hJ
 obtain ⟨hk0, hk1, hk2, hk3⟩ := stepQ hnb ho hb.isS
 rw [← htq] at hk0 hk3
 have hil := hb.lt ho h0
 obtain ⟨g1, g2, g3⟩ := okT_spec (numB_at hnb hk0)
 have hth : thd (ts.getD tq (0, 0, 0)) k ≤ 3000000 := by unfold thd; omega
 have hnx : nxP ts k = (k.2, thd (ts.getD tq (0, 0, 0)) k) := by unfold nxP; rw [← htq]
 refine OkC.block (OkC.seq (rN [(0, true), (1, true), (2, true), (3, true), (4, true), (5, true), (6, true), (7, true), (8, false), (9, true)] [⟨10, 8, 156, posL ((0, 0) : P2)⟩] [(11, false)] sr (by kernel_rfl) (fun _ _ d _ _ h => by cases d <;> exact h) (newC rfl rfl tZ156 rfl (newN)) rfl (uE' (v := (pP b2 1)) rfl (ex_indexAddr_array (j := 1) rfl rfl Tryz.underlying156 Tryz.sizeOf3 rfl (by decide) rfl) rfl (uO'' 1 (vN k.2) tO3 rfl (uE' (v := (pP b1 1)) rfl (ex_fieldAddr rfl Tryz.underlying31 rfl Tryz.sizeOf28 rfl) rfl ?_)))))
 refine uO'' 2 (Value.slice x.b.p ts.length x.b.c) tO28 rfl (uM' rfl (uE' (v := (pP (pB x.b.p) (pO x.b.p + tq * 3))) rfl (ex_index_row (j := tq) rfl rfl x.b.ok Tryz.underlying28 Tryz.sizeOf45 rfl (by omega)) rfl (uE' (v := (aG (t3L (ts.getD tq ((0, 0, 0) : Nat × Nat × Nat))))) rfl (ex_load_rowR_agg (vs := t3L (ts.getD tq ((0, 0, 0) : Nat × Nat × Nat))) (i := 4) rfl rfl (RowOk.ne x.b.ok (by omega)) tA45 (rowsL_get t3L_len _ _ _ (by omega)) (t3L_len _)) rfl (uW' 1 tA156 rfl (OkN.imp rfl fun EF EL => ?_)))))
 refine ck' Tryz.call127 (third_ok (ts.getD tq (0, 0, 0)) k ⟨by omega, by omega, by omega⟩ hk3) rfl (OkN.back0 sr rfl (uE' (v := (aG (posL (k.2, thd (ts.getD tq (0, 0, 0)) k)))) rfl (ex_build_array (zs := posL ((0, 0) : P2)) (vs := posL (k.2, thd (ts.getD tq (0, 0, 0)) k)) (pv := [(0, (vN k.2)), (1, (vN (thd (ts.getD tq (0, 0, 0)) k)))]) Tryz.zeroValue156 Tryz.underlying156 Tryz.sizeOf3 rfl (tfill_numuy_156 k.2 (thd (ts.getD tq (0, 0, 0)) k))) rfl (OkN.news1 fun b4 => OkE.imp rfl (stW0' rfl Tryz.sizeOf156 rfl ?_))))
 refine OkE.back (sl sr) (OkE.nil (OkQ.subF (sL [1, 3, 5, 6, 7, 8] rfl) (q2 (mv' rfl (st' (v := (pP b4 1)) (ex_indexAddr_array (j := 1) rfl rfl Tryz.underlying156 Tryz.sizeOf3 rfl (by decide) rfl) rfl ?_)))))
 refine ldO' 0 (vN (thd (ts.getD tq (0, 0, 0)) k)) tO3 rfl (st' (v := (pP b4 0)) (ex_indexAddr_array (j := 0) rfl rfl Tryz.underlying156 Tryz.sizeOf3 rfl (by decide) rfl) rfl (ldO' 0 (vN k.2) tO3 rfl (st' (v := (aG (posL (thd (ts.getD tq (0, 0, 0)) k, k.2)))) (ex_build_array (zs := posL ((0, 0) : P2)) (vs := posL (thd (ts.getD tq (0, 0, 0)) k, k.2)) (pv := [(0, (vN (thd (ts.getD tq (0, 0, 0)) k))), (1, (vN k.2))]) Tryz.zeroValue156 Tryz.underlying156 Tryz.sizeOf3 rfl (tfill_numuy_156 (thd (ts.getD tq (0, 0, 0)) k) k.2)) rfl (st' (v := (Value.tuple #[(vN ((getM sx.kvs (thd (ts.getD tq (0, 0, 0)) k, k.2)).getD 0)), (Value.bool ((getM sx.kvs (thd (ts.getD tq (0, 0, 0)) k, k.2)).isSome))])) (ex_lookupR keySt 7 (eV := vN) (kvs := sx.kvs) (x := (thd (ts.getD tq (0, 0, 0)) k, k.2)) (z0 := 0) (co := true) rfl rfl Tryz.underlying152 Tryz.zeroValue3 rfl (sx.ok) (okE_mk (by show (_ : Nat) < _; omega) (by show (_ : Nat) < _; omega))) rfl (mv' rfl ?_)))))
 refine st' (ex_extract (v := (vN ((getM sx.kvs (thd (ts.getD tq (0, 0, 0)) k, k.2)).getD 0))) rfl rfl) rfl (st' (ex_extract (v := (Value.bool ((getM sx.kvs (thd (ts.getD tq (0, 0, 0)) k, k.2)).isSome))) rfl rfl) rfl (asg' rfl (asg' rfl (q6 (sL [1, 3, 5, 6, 7, 8, 9, 10] rfl) (q4 ?_)))))
 refine mv' rfl (st' (ex_not (c := (!((getM sx.kvs (thd (ts.getD tq (0, 0, 0)) k, k.2)).isSome))) rfl rfl) rfl (OkL.nil (OkQ.subF (sL [1, 3, 5, 6, 7, 8, 9, 35] rfl) (OkQ.then_ ?_))))
 refine OkC.cond rfl (fun hc0 => ?_) (fun hc0 => ?_)
 ·simp only [Bool.and_eq_true, Bool.or_eq_true, Bool.and_eq_false_iff, Bool.or_eq_false_iff, Bool.not_eq_true', Bool.not_eq_false', decide_eq_true_eq, decide_eq_false_iff_not] at hc0
  refine q4 (ldW' 0 tA156 rfl (stW1' rfl Tryz.sizeOf156 rfl (OkL.nil (OkQ.subF (sL [1, 3, 5, 6, 7, 8, 9] rfl) (OkQ.then_ ?_)))))
  exact OkC.ret (OkQ.then_ret (OkQ.in_ret (OkQ.round3_ret (OkQ.in_ret (ret_one rfl (rd_agg (i := 1) (cs := posL (k.2, thd (ts.getD tq (0, 0, 0)) k)) rfl rfl Tryz.isAgg156 Tryz.sizeOf156 rfl) (fun w hw => ⟨by rw [(hb.stop ho h0 (by rw [hnx, ← hkv]; intro h9; rw [show (getM sx.kvs (swP (k.2, thd (ts.getD tq (0, 0, 0)) k))).isSome = false from hc0] at h9; cases h9)).1, hnx], hw.out⟩))))))
 ·simp only [Bool.and_eq_true, Bool.or_eq_true, Bool.and_eq_false_iff, Bool.or_eq_false_iff, Bool.not_eq_true', Bool.not_eq_false', decide_eq_true_eq, decide_eq_false_iff_not] at hc0
  refine OkC.skip (OkQ.then_ (OkC.region (st' (v := (pP b4 1)) (ex_indexAddr_array (j := 1) rfl rfl Tryz.underlying156 Tryz.sizeOf3 rfl (by decide) rfl) rfl (ldO' 0 (vN (thd (ts.getD tq (0, 0, 0)) k)) tO3 rfl (st' (v := (pP b4 0)) (ex_indexAddr_array (j := 0) rfl rfl Tryz.underlying156 Tryz.sizeOf3 rfl (by decide) rfl) rfl ?_)))))
  refine ldO' 0 (vN k.2) tO3 rfl (st' (v := (aG (posL (thd (ts.getD tq (0, 0, 0)) k, k.2)))) (ex_build_array (zs := posL ((0, 0) : P2)) (vs := posL (thd (ts.getD tq (0, 0, 0)) k, k.2)) (pv := [(0, (vN (thd (ts.getD tq (0, 0, 0)) k))), (1, (vN k.2))]) Tryz.zeroValue156 Tryz.underlying156 Tryz.sizeOf3 rfl (tfill_numuy_156 (thd (ts.getD tq (0, 0, 0)) k) k.2)) rfl (mv' rfl (stW2' rfl Tryz.sizeOf156 rfl (asg' rfl (OkL.nil ?_)))))
  exact OkQ.subF (sL [1, 3, 5, 6, 7, 8] rfl) (OkQ.in_normal (OkQ.round3 (i + 1) (thd (ts.getD tq (0, 0, 0)) k, k.2) ((getM sx.kvs (thd (ts.getD tq (0, 0, 0)) k, k.2)).getD 0) (⟨by have h9 := hb.succ (by rw [hnx, ← hkv]; exact hc0); rw [hnx] at h9; exact h9, by rw [hkv]⟩) (by omega) (sF rfl) (sl sr)))
theorem cloneI_ok (l : List Nat) (n : Nat) (y : RX (inL l) n) (hn : l.length = n) (hl : n ≤ 1000000000) (w : World) {S : Nat → Prop} (hy : Ro S w y) : Calls Tryz.prog 128 #[(Value.slice y.p n y.c)] w (GivesL oxV (oxL (T := 3) (z := 1) (cs := inL l) (n := n)) S w) := by
 have ly := atA (W := w) hy
 refine calls_ofR (args := [(Value.slice y.p n y.c)]) (L := [rowR y.p (inL l)]) Tryz.func128 rfl rfl (leB rfl) (sxA hy roL_nil) (OkC.subF (sL [0] rfl) (q4 (asg' rfl (OkL.nilRow 3 1 (OkL.nil ?_)))))
 refine q1 (q4 (mv' rfl (st' (v := (Value.bool y.p.isNone)) (ex_eql_nil rfl rfl Tryz.underlying34) rfl (OkL.nil (OkQ.subF (sL [0, 2, 4] rfl) ?_)))))
 refine OkQ.then_ ?_
 refine OkC.cond rfl (fun hc0 => ?_) (fun hc0 => ?_)
 ·skip
  have h00 := (y.ok.nil (Option.isNone_iff_eq_none.1 hc0)).1
  have hts : l = [] := List.eq_nil_of_length_eq_zero (by omega)
  refine q4 (asg' rfl (OkL.nilRow 3 1 (OkL.nil (OkQ.then_ (OkC.ret ?_)))))
  exact OkQ.then_ret (ret_one rfl (rd_tmp (v := (Value.slice none 0 0)) rfl) (fun w hw => (by subst hts; subst h00; exact retL hw (OX.mk none 0 OwnOk.none) (by exact (sk (sl (sl sr)))) (AtL.own rfl AtL.nil) (by show Value.slice none 0 0 = _; rfl))))
 ·skip
  refine OkC.skip (q2 (OkL.openV (V := fun b1 => (Value.slice (some ⟨b1, 0, none⟩) 0 0)) (T := 3) (cs := []) (wt_none rfl) (op_build0 Tryz.underlying34 Tryz.sizeOf3) rfl (leB rfl) fun b1 => OkL.asRow0 (z := 1) 0 rfl (by omega) fun ho_b1 => mv' rfl (OkL.appendE0 tE34 rfl ho_b1 rfl (srcR (k := 2) rfl y.ok) (by rw [inL_length, hn, Nat.mul_one]) (inL_one _) (mxl (by omega)) (by omega) rfl fun pq cq hq => ?_)))
  exact asg' rfl (OkL.nil (OkQ.subF (sL [0, 2] rfl) (OkQ.then_ (OkC.ret (ret_one rfl (rd_tmp (v := (Value.slice pq n cq)) rfl) (fun w hw => (retL hw (OX.mk pq cq hq) (sk (sl (sl sr))) (AtL.own rfl AtL.nil) rfl)))))))
set_option maxHeartbeats 1000000 in
theorem turned_ok (l : List Nat) (y : RX (inL l) l.length) (hl0 : 0 < l.length) (hl : l.length ≤ 10000000) (w : World) {S : Nat → Prop} (hy : Ro S w y) : Calls Tryz.prog 75 #[(Value.slice y.p l.length y.c)] w (GivesR (RX (inL (turF l)) (turF l).length) S w) := by
 have hyc := y.ok.le
 have ly := atA (W := w) hy
 refine calls_ofR (args := [(Value.slice y.p l.length y.c)]) (L := [rowR y.p (inL l)]) Tryz.func75 rfl rfl (leB rfl) (sxA hy roL_nil) (OkC.subF (sL [0] rfl) (q4 (asg' rfl (OkL.nil (q2 ?_)))))
 refine asg' rfl (OkL.nil (q1 (q4 (mv' rfl (st' (v := (vN l.length)) (ex_len_slice rfl Tryz.underlying34) rfl ?_)))))
 refine mv' rfl (OkL.nil (OkQ.subF (sL [0, 2, 3, 8, 9] rfl) (OkQ.then_ (OkC.block ?_))))
 refine OkC.lp2 (tg fun (i : Nat) (bq : Nat) => i ≤ l.length ∧ bq = bstN l i) (tg fun (i : Nat) (bq : Nat) => [(0, (Value.slice y.p l.length y.c)), (2, (Value.slice none 0 0)), (8, (vN l.length)), (9, (vN i)), (3, (vN bq))]) (tg fun (i : Nat) (bq : Nat) => [rowR y.p (inL l)]) (tg fun (i : Nat) (bq : Nat) => l.length - i) 0 0 (⟨Nat.zero_le _, rfl⟩) (sF rfl) sr (fun i bq hJ => ?_)
 obtain ⟨hi, hb⟩ := hJ
 have hbl : bq < l.length := by rw [hb]; exact bstN_lt i hi hl0
 refine q4 (st' (ex_lss (c := (decide (i < l.length))) rfl rfl (ltN (a := i) (b := l.length))) rfl (OkL.nil (q1 ?_)))
 refine OkC.cond rfl (fun hc0 => ?_) (fun hc0 => ?_)
 ·replace hc0 := of_decide_eq_true hc0
  refine OkC.skip (q1 (OkC.block (q4 (mv' rfl (asg' rfl ?_)))))
  refine q6 (sL [0, 2, 8, 9, 3, 4] rfl) (rG' [(0, true), (1, true), (2, true), (3, true), (4, true), (5, true), (6, true), (7, true), (8, true), (9, true)] sr (pM' rfl (pM' rfl (pE' (v := (pP (pB y.p) (pO y.p + i * 1))) rfl (ex_index_row (j := i) rfl rfl y.ok Tryz.underlying34 Tryz.sizeOf3 rfl (by omega)) (pE' rfl (ex_load_rowR_one (v := (vN (l.getD i 0))) (i := 0) rfl rfl (y.ok.ne (by omega)) tO3 (inL_get (l := l) (j := i) (by omega))) ?_)))))
  refine pM' rfl (pM' rfl (pE' (v := (pP (pB y.p) (pO y.p + bq * 1))) rfl (ex_index_row (j := bq) rfl rfl y.ok Tryz.underlying34 Tryz.sizeOf3 rfl (by omega)) (pE' rfl (ex_load_rowR_one (v := (vN (l.getD bq 0))) (i := 0) rfl rfl (y.ok.ne (by omega)) tO3 (inL_get (l := l) (j := bq) (by omega))) (pS' rfl (pS' rfl ?_)))))
  refine OkE.nil (OkQ.subF (sL [0, 2, 8, 9, 3, 4, 5, 6] rfl) (q1 ?_))
  by_cases hs1 : l.getD i 0 < l.getD bq 0
  ·skip
   refine rG' [(0, true), (1, true), (2, true), (3, true), (4, true), (5, true), (6, true), (7, true), (8, true), (9, true), (10, true), (11, true), (12, true), (13, true), (14, true), (15, true), (16, true), (17, true), (18, true), (19, true), (20, true), (21, true), (22, true), (23, true), (24, true), (25, true), (26, true)] sr (pM' rfl (pM' rfl (pE' rfl (ex_lss (c := true) rfl rfl (decide_eq_true (by omega))) (pM' rfl (OkE.skp rfl (wt_not' rfl) rfl rfl ?_)))))
   refine OkE.skp rfl (wt_not' rfl) rfl rfl (OkE.skp rfl (wt_not' rfl) rfl rfl (OkE.skp rfl (wt_not' rfl) rfl rfl (OkE.skp rfl (wt_undef rfl rfl rfl) rfl rfl (OkE.skp rfl (wt_undef rfl rfl rfl) rfl rfl (OkE.skp rfl (wt_undef rfl rfl rfl) rfl rfl ?_)))))
   refine OkE.skp rfl (wt_undef rfl rfl rfl) rfl rfl (OkE.skp rfl (wt_undef rfl rfl rfl) rfl rfl (OkE.skp rfl (wt_undef rfl rfl rfl) rfl rfl (OkE.skp rfl (wt_undef rfl rfl rfl) rfl rfl (OkE.skp rfl (wt_undef rfl rfl rfl) rfl rfl (OkE.skp rfl (wt_undef rfl rfl rfl) rfl rfl ?_)))))
   refine OkE.skp rfl (wt_undef rfl rfl rfl) rfl rfl (OkE.skp rfl (wt_undef rfl rfl rfl) rfl rfl (OkE.skp rfl (wt_undef rfl rfl rfl) rfl rfl (OkE.skp rfl (wt_undef rfl rfl rfl) rfl rfl (OkE.skp rfl (wt_undef rfl rfl rfl) rfl rfl (OkE.skp rfl (wt_undef rfl rfl rfl) rfl rfl ?_)))))
   refine OkE.skp rfl (wt_undef rfl rfl rfl) rfl rfl (OkE.skp rfl (wt_undef rfl rfl rfl) rfl rfl (OkE.skp rfl (wt_not' rfl) rfl rfl (pE' (v := (Value.bool true)) rfl (ex_pick_true rfl rfl) (OkE.nil (OkQ.subF (sL [0, 2, 8, 9, 3, 4, 46] rfl) ?_)))))
   refine OkQ.then_ (OkC.cond_true rfl (OkC.region (mv' rfl (asg' rfl (OkL.nil ?_)))))
   refine OkQ.subF (sL [0, 2, 8, 9, 3, 4] rfl) (OkQ.in_normal (OkQ.then_ (OkC.region (st' (ex_add (c := ((i + 1 : Nat) : Int)) rfl rfl (addN_i64 (a := i) (b := 1) (by omega))) rfl (mv' rfl ?_)))))
   exact OkL.nil (OkQ.subF (sL [0, 2, 8, 9, 3, 4] rfl) (OkQ.round2 (i + 1) i (⟨by omega, by first | exact bst_yes1 hb hs1 | exact bst_yes2 hb hs2 hc1 | exact bst_no1 hb hs1 hs2 | exact bst_no2 hb hs1 hc1⟩) (by omega) (sF rfl) sr))
  ·skip
   by_cases hs2 : l.getD i 0 = l.getD bq 0
   ·skip
    refine rG' [(0, true), (1, true), (2, true), (3, true), (4, true), (5, true), (6, true), (7, true), (8, true), (9, true), (10, true), (11, true), (12, true), (13, true), (14, true), (15, true), (16, true), (17, true), (18, true), (19, true), (20, true), (21, true), (22, true), (23, true), (24, true), (25, true), (26, true)] sr (pM' rfl (pM' rfl (pE' rfl (ex_lss (c := false) rfl rfl (decide_eq_false (by omega))) (pM' rfl (OkE.pas (v := (vN (l.getD i 0))) rfl (wt_some' rfl) (ex_move rfl) rfl rfl ?_)))))
    refine OkE.pas (v := (vN (l.getD bq 0))) rfl (wt_some' rfl) (ex_move rfl) rfl rfl (OkE.pas (v := (Value.bool true)) rfl (wt_some' rfl) (ex_eql (c := true) rfl rfl (decide_eq_true (by omega))) rfl rfl (OkE.pas (v := (Value.bool true)) rfl (wt_some' rfl) (ex_move rfl) rfl rfl (OkE.pas (v := (Value.slice y.p l.length y.c)) rfl (wt_some' rfl) (ex_move rfl) rfl rfl (OkE.pas (v := (vN i)) rfl (wt_some' rfl) (ex_move rfl) rfl rfl (OkE.pas (v := (vN (i + 1))) rfl (wt_some' rfl) (ex_add (c := ((i + 1 : Nat) : Int)) rfl rfl (addN_i64 (a := i) (b := 1) (by omega))) rfl rfl ?_)))))
    refine OkE.pas (v := (Value.slice y.p l.length y.c)) rfl (wt_some' rfl) (ex_move rfl) rfl rfl (OkE.pas (v := (vN l.length)) rfl (wt_some' rfl) (ex_len_slice rfl Tryz.underlying34) rfl rfl (OkE.pas (v := (vN ((i + 1) % l.length))) rfl (wt_some' rfl) (ex_rem (c := (((i + 1) % l.length : Nat) : Int)) rfl rfl (by omega) (remN (a := i + 1) (b := l.length))) rfl rfl (OkE.pas (v := (pP (pB y.p) (pO y.p + ((i + 1) % l.length) * 1))) rfl (wt_some' rfl) (ex_index_row (j := (i + 1) % l.length) rfl rfl y.ok Tryz.underlying34 Tryz.sizeOf3 rfl (by first | exact Nat.mod_lt _ hl0 | omega)) rfl rfl (OkE.pas (v := (vN (l.getD ((i + 1) % l.length) 0))) rfl (wt_some' rfl) (ex_load_rowR_one (v := (vN (l.getD ((i + 1) % l.length) 0))) (i := 0) rfl rfl (y.ok.ne (by first | exact Nat.mod_lt _ hl0 | omega)) tO3 (inL_get (l := l) (j := (i + 1) % l.length) (by first | exact Nat.mod_lt _ hl0 | omega))) rfl rfl (OkE.pas (v := (Value.slice y.p l.length y.c)) rfl (wt_some' rfl) (ex_move rfl) rfl rfl ?_)))))
    refine OkE.pas (v := (vN bq)) rfl (wt_some' rfl) (ex_move rfl) rfl rfl (OkE.pas (v := (vN (bq + 1))) rfl (wt_some' rfl) (ex_add (c := ((bq + 1 : Nat) : Int)) rfl rfl (addN_i64 (a := bq) (b := 1) (by omega))) rfl rfl (OkE.pas (v := (Value.slice y.p l.length y.c)) rfl (wt_some' rfl) (ex_move rfl) rfl rfl (OkE.pas (v := (vN l.length)) rfl (wt_some' rfl) (ex_len_slice rfl Tryz.underlying34) rfl rfl (OkE.pas (v := (vN ((bq + 1) % l.length))) rfl (wt_some' rfl) (ex_rem (c := (((bq + 1) % l.length : Nat) : Int)) rfl rfl (by omega) (remN (a := bq + 1) (b := l.length))) rfl rfl (OkE.pas (v := (pP (pB y.p) (pO y.p + ((bq + 1) % l.length) * 1))) rfl (wt_some' rfl) (ex_index_row (j := (bq + 1) % l.length) rfl rfl y.ok Tryz.underlying34 Tryz.sizeOf3 rfl (by first | exact Nat.mod_lt _ hl0 | omega)) rfl rfl ?_)))))
    refine OkE.pas (v := (vN (l.getD ((bq + 1) % l.length) 0))) rfl (wt_some' rfl) (ex_load_rowR_one (v := (vN (l.getD ((bq + 1) % l.length) 0))) (i := 0) rfl rfl (y.ok.ne (by first | exact Nat.mod_lt _ hl0 | omega)) tO3 (inL_get (l := l) (j := (bq + 1) % l.length) (by first | exact Nat.mod_lt _ hl0 | omega))) rfl rfl (OkE.pas (v := (Value.bool (decide ((l.getD ((i + 1) % l.length) 0) < (l.getD ((bq + 1) % l.length) 0))))) rfl (wt_some' rfl) (ex_lss (c := (decide ((l.getD ((i + 1) % l.length) 0) < (l.getD ((bq + 1) % l.length) 0)))) rfl rfl (ltN (a := l.getD ((i + 1) % l.length) 0) (b := l.getD ((bq + 1) % l.length) 0))) rfl rfl (OkE.pas (v := (Value.bool (decide ((l.getD ((i + 1) % l.length) 0) < (l.getD ((bq + 1) % l.length) 0))))) rfl (wt_some' rfl) (ex_pick_true rfl rfl) rfl rfl (pE' (v := (Value.bool (decide ((l.getD ((i + 1) % l.length) 0) < (l.getD ((bq + 1) % l.length) 0))))) rfl (ex_pick_false rfl rfl) (OkE.nil (OkQ.subF (sL [0, 2, 8, 9, 3, 4, 46] rfl) ?_)))))
    refine OkQ.then_ ?_
    refine OkC.cond rfl (fun hc1 => ?_) (fun hc1 => ?_)
    ·replace hc1 := of_decide_eq_true hc1
     refine OkC.region (mv' rfl (asg' rfl (OkL.nil (OkQ.subF (sL [0, 2, 8, 9, 3, 4] rfl) (OkQ.in_normal ?_)))))
     exact OkQ.then_ (OkC.region (st' (ex_add (c := ((i + 1 : Nat) : Int)) rfl rfl (addN_i64 (a := i) (b := 1) (by omega))) rfl (mv' rfl (OkL.nil (OkQ.subF (sL [0, 2, 8, 9, 3, 4] rfl) (OkQ.round2 (i + 1) i (⟨by omega, by first | exact bst_yes1 hb hs1 | exact bst_yes2 hb hs2 hc1 | exact bst_no1 hb hs1 hs2 | exact bst_no2 hb hs1 hc1⟩) (by omega) (sF rfl) sr))))))
    ·replace hc1 := of_decide_eq_false hc1
     refine OkC.skip (OkQ.in_normal (OkQ.then_ (OkC.region (st' (ex_add (c := ((i + 1 : Nat) : Int)) rfl rfl (addN_i64 (a := i) (b := 1) (by omega))) rfl (mv' rfl ?_)))))
     exact OkL.nil (OkQ.subF (sL [0, 2, 8, 9, 3, 4] rfl) (OkQ.round2 (i + 1) bq (⟨by omega, by first | exact bst_yes1 hb hs1 | exact bst_yes2 hb hs2 hc1 | exact bst_no1 hb hs1 hs2 | exact bst_no2 hb hs1 hc1⟩) (by omega) (sF rfl) sr))
   ·skip
    refine rG' [(0, true), (1, true), (2, true), (3, true), (4, true), (5, true), (6, true), (7, true), (8, true), (9, true), (10, true), (11, true), (12, true), (13, true), (14, true), (15, true), (16, true), (17, true), (18, true), (19, true), (20, true), (21, true), (22, true), (23, true), (24, true), (25, true), (26, true)] sr (pM' rfl (pM' rfl (pE' rfl (ex_lss (c := false) rfl rfl (decide_eq_false (by omega))) (pM' rfl (OkE.pas (v := (vN (l.getD i 0))) rfl (wt_some' rfl) (ex_move rfl) rfl rfl ?_)))))
    refine OkE.pas (v := (vN (l.getD bq 0))) rfl (wt_some' rfl) (ex_move rfl) rfl rfl (OkE.pas (v := (Value.bool false)) rfl (wt_some' rfl) (ex_eql (c := false) rfl rfl (decide_eq_false (by omega))) rfl rfl (OkE.pas (v := (Value.bool false)) rfl (wt_some' rfl) (ex_move rfl) rfl rfl (OkE.skp rfl (wt_not' rfl) rfl rfl (OkE.skp rfl (wt_not' rfl) rfl rfl (OkE.skp rfl (wt_not' rfl) rfl rfl ?_)))))
    refine OkE.skp rfl (wt_not' rfl) rfl rfl (OkE.skp rfl (wt_not' rfl) rfl rfl (OkE.skp rfl (wt_not' rfl) rfl rfl (OkE.skp rfl (wt_not' rfl) rfl rfl (OkE.skp rfl (wt_not' rfl) rfl rfl (OkE.skp rfl (wt_not' rfl) rfl rfl ?_)))))
    refine OkE.skp rfl (wt_not' rfl) rfl rfl (OkE.skp rfl (wt_not' rfl) rfl rfl (OkE.skp rfl (wt_not' rfl) rfl rfl (OkE.skp rfl (wt_not' rfl) rfl rfl (OkE.skp rfl (wt_not' rfl) rfl rfl (OkE.skp rfl (wt_not' rfl) rfl rfl ?_)))))
    refine OkE.skp rfl (wt_not' rfl) rfl rfl (OkE.skp rfl (wt_not' rfl) rfl rfl (OkE.pas (v := (Value.bool false)) rfl (wt_some' rfl) (ex_pick_false rfl rfl) rfl rfl (pE' (v := (Value.bool false)) rfl (ex_pick_false rfl rfl) (OkE.nil (OkQ.subF (sL [0, 2, 8, 9, 3, 4, 46] rfl) ?_)))))
    refine OkQ.then_ (OkC.cond_false rfl (OkC.skip (OkQ.in_normal (OkQ.then_ (OkC.region ?_)))))
    exact st' (ex_add (c := ((i + 1 : Nat) : Int)) rfl rfl (addN_i64 (a := i) (b := 1) (by omega))) rfl (mv' rfl (OkL.nil (OkQ.subF (sL [0, 2, 8, 9, 3, 4] rfl) (OkQ.round2 (i + 1) bq (⟨by omega, by first | exact bst_yes1 hb hs1 | exact bst_yes2 hb hs2 hc1 | exact bst_no1 hb hs1 hs2 | exact bst_no2 hb hs1 hc1⟩) (by omega) (sF rfl) sr))))
 ·replace hc0 := of_decide_eq_false hc0
  have hb2 : bq = bstN l l.length := by rw [hb, show i = l.length by omega]
  refine OkC.exit (OkQ.then_exit (OkQ.round2_exit (OkQ.in_exit (q1 (rG' [(0, true), (1, true), (2, true), (4, true), (5, true), (6, true), (3, false), (7, false), (8, false), (9, true)] sr ?_)))))
  refine pM' rfl (pM' rfl (pE' (v := (Value.slice (slP y.p bq y.c 1) (l.length - bq) (y.c - bq))) rfl (ex_slice_lo (i := bq) rfl rfl Tryz.underlying34 Tryz.sizeOf3 (by omega) y.ok.le) (pM' rfl (pM' rfl (pE' (v := (Value.slice y.p bq y.c)) rfl (ex_slice_hi (m := bq) rfl rfl Tryz.underlying34 Tryz.sizeOf3 (by omega)) ?_)))))
  refine OkE.imp rfl (OkL.callL (S := S) (V := oxV) (LW := oxL (T := 3) (z := 1) (cs := inL (l.drop bq)) (n := l.length - bq)) (args := [(Value.slice (slP y.p bq y.c 1) (l.length - bq) (y.c - bq))]) Tryz.call128 (fun w hw => cloneI_ok (l.drop bq) (l.length - bq) ⟨slP y.p bq y.c 1, y.c - bq, rowOkLo y.ok hbl⟩ (List.length_drop ..) (by omega) w (roLo (inS hw 0 rfl ly) hbl)) rfl fun cl hcl => OkE.back (sl sr) (OkE.imp rfl (OkL.appendS0 (cs2 := inL (l.drop bq ++ l.take bq)) (news := inL (l.take bq)) tE34 rfl cl.ok (by rw [inL_length, List.length_drop, Nat.mul_one]) rfl (srcTk (k := 1) rfl y.ok (by omega)) (by rw [inL_length, List.length_take, Nat.mul_one]; omega) (inL_one _) (mxl (by omega)) (by omega) (inL_append _ _).symm rfl fun pt ct ht => OkE.back (sl sr) ?_)))
  refine OkE.imp rfl (ck' Tryz.call56 (clipI_ok pt ((l.length - bq) + bq) ct ht.row.le) rfl (OkE.back (sl sr) (pS' rfl (OkE.nil (OkQ.subF (sL [0, 2, 8, 9, 3] rfl) ?_)))))
  exact OkQ.then_ (OkC.ret (ret_one rfl (rd_tmp (v := (Value.slice pt ((l.length - bq) + bq) ((l.length - bq) + bq))) rfl) (fun w hw => (by rw [show (turF l).length = (l.length - bq) + bq by rw [turF_len]; omega, show turF l = l.drop bq ++ l.take bq by rw [turF, hb2]]; exact retC hw 0 rfl ht (by rw [inL_length, List.length_append, List.length_drop, List.length_take, Nat.mul_one]; omega) rfl))))
theorem compare_ok (a b : List Nat) (x : RX (inL a) a.length) (y : RX (inL b) b.length) (hal : a.length ≤ 10000000) (w : World) {S : Nat → Prop} (hx : Ro S w x) (hy : Ro S w y) : Calls Tryz.prog 77 #[(Value.slice x.p a.length x.c), (Value.slice y.p b.length y.c)] w (Gives w (vI (cmpL a b))) := by
 have lx := atA (W := w) hx
 have ly := atA (W := w) hy
 refine calls_ofR (args := [(Value.slice x.p a.length x.c), (Value.slice y.p b.length y.c)]) (L := [rowR x.p (inL a), rowR y.p (inL b)]) Tryz.func77 rfl rfl (leB rfl) (sxA hx (sxA hy roL_nil)) (OkC.subF (sL [0, 1] rfl) (q4 (asg' rfl (OkL.nil (q1 ?_)))))
 refine q4 (mv' rfl (st' (v := (vN a.length)) (ex_len_slice rfl Tryz.underlying34) rfl (mv' rfl (OkL.nil (OkQ.then_ ?_)))))
 refine OkC.block ?_
 refine OkC.lp1 (tg fun (i : Nat) => i ≤ a.length ∧ i ≤ b.length ∧ cmpL a b = cmpL (a.drop i) (b.drop i)) (tg fun (i : Nat) => [(0, (Value.slice x.p a.length x.c)), (1, (Value.slice y.p b.length y.c)), (9, (Value.slice x.p a.length x.c)), (10, (vN a.length)), (11, (vN i))]) (tg fun (i : Nat) => [rowR x.p (inL a), rowR y.p (inL b)]) (tg fun (i : Nat) => a.length - i) 0 (⟨Nat.zero_le _, Nat.zero_le _, rfl⟩) (sF rfl) sr (fun i hJ => ?_)
 obtain ⟨hi1, hi2, he⟩ := hJ
 refine q4 (st' (ex_lss (c := (decide (i < a.length))) rfl rfl (ltN (a := i) (b := a.length))) rfl (OkL.nil (q1 ?_)))
 refine OkC.cond rfl (fun hc0 => ?_) (fun hc0 => ?_)
 ·replace hc0 := of_decide_eq_true hc0
  refine OkC.skip (q1 (OkC.block (q4 (mv' rfl (st' (v := (pP (pB x.p) (pO x.p + i * 1))) (ex_index_row (j := i) rfl rfl x.ok Tryz.underlying34 Tryz.sizeOf3 rfl (by omega)) rfl ?_)))))
  refine st' (ex_load_rowR_one (v := (vN (a.getD i 0))) (i := 0) rfl rfl (x.ok.ne (by omega)) tO3 (inL_get (l := a) (j := i) (by omega))) rfl (asg' rfl (asg' rfl (q6 (sL [0, 1, 9, 10, 11, 5, 6] rfl) (q4 (mv' rfl ?_)))))
  refine mv' rfl (st' (v := (vN b.length)) (ex_len_slice rfl Tryz.underlying34) rfl (st' (ex_geq (c := (decide (b.length ≤ i))) rfl rfl (leN (a := b.length) (b := i))) rfl (OkL.nil (OkQ.subF (sL [0, 1, 9, 10, 11, 5, 6, 19] rfl) (OkQ.then_ ?_)))))
  refine OkC.cond rfl (fun hc1 => ?_) (fun hc1 => ?_)
  ·replace hc1 := of_decide_eq_true hc1
   refine q4 (asg' rfl (OkL.nil (OkQ.then_ (OkC.ret (OkQ.then_ret ?_)))))
   exact OkQ.in_ret (OkQ.then_ret (OkQ.round1_ret (OkQ.in_ret (OkQ.then_ret (ret_one rfl (rd_tmp (v := (vI 1)) rfl) (fun w hw => ⟨by rw [he, cmpL_long hc0 (by omega)] <;> rfl, hw.out⟩))))))
  ·replace hc1 := of_decide_eq_false hc1
   obtain ⟨cc, hcc⟩ : ∃ q, q = cmpI (a.getD i 0) (b.getD i 0) := ⟨_, rfl⟩
   have h3 := cmpI_three (a.getD i 0) (b.getD i 0)
   rw [← hcc] at h3
   refine OkC.skip (q2 (mv' rfl (mv' rfl (st' (v := (pP (pB y.p) (pO y.p + i * 1))) (ex_index_row (j := i) rfl rfl y.ok Tryz.underlying34 Tryz.sizeOf3 rfl (by omega)) rfl (st' (ex_load_rowR_one (v := (vN (b.getD i 0))) (i := 1) rfl rfl (y.ok.ne (by omega)) tO3 (inL_get (l := b) (j := i) (by omega))) rfl ?_)))))
   refine asg' rfl (q3 (sL [0, 1, 9, 10, 11, 5, 6, 7] rfl) (mv' rfl (mv' rfl (ck' Tryz.call131 (cmpI_ok (a.getD i 0) (b.getD i 0)) rfl (OkL.retell (k := 26) (u := (vI cc)) rfl (by rw [hcc]) ?_)))))
   refine asg' rfl (q3 (sL [0, 1, 9, 10, 11, 5, 8] rfl) (mv' rfl (st' (ex_neq (c := (decide (cc ≠ (0 : Int)))) rfl rfl rfl) rfl (OkL.nil (OkQ.subF (sL [0, 1, 9, 10, 11, 5, 8, 28] rfl) ?_)))))
   refine OkQ.then_ ?_
   refine OkC.cond rfl (fun hc2 => ?_) (fun hc2 => ?_)
   ·replace hc2 := of_decide_eq_true hc2
    refine q4 (mv' rfl (asg' rfl (OkL.nil (OkQ.subF (sL [0, 1, 9, 10, 11, 5, 8, 4] rfl) (OkQ.then_ ?_)))))
    exact OkC.ret (OkQ.in_ret (OkQ.then_ret (OkQ.round1_ret (OkQ.in_ret (OkQ.then_ret (ret_one rfl (rd_tmp (v := (vI cc)) rfl) (fun w hw => ⟨by rw [he, cmpL_step hc0 (by omega)]; rcases h3 with ⟨h4, h5⟩ | ⟨h4, h5⟩ | ⟨h4, h5⟩; rw [if_pos h4, h5]; rw [if_neg (by omega), if_pos h4, h5]; exact absurd h5 hc2, hw.out⟩)))))))
   ·replace hc2 := of_decide_eq_false hc2
    refine OkC.skip (OkQ.in_normal (OkQ.then_ (OkC.region (st' (ex_add (c := ((i + 1 : Nat) : Int)) rfl rfl (addN_i64 (a := i) (b := 1) (by omega))) rfl (mv' rfl ?_)))))
    exact OkL.nil (OkQ.subF (sL [0, 1, 9, 10, 11, 5, 8] rfl) (OkQ.round1 (i + 1) (⟨by omega, by omega, by rw [he, cmpL_step hc0 (by omega)]; rcases h3 with ⟨h4, h5⟩ | ⟨h4, h5⟩ | ⟨h4, h5⟩; (exfalso; omega); (exfalso; omega); rw [if_neg (by omega), if_neg (by omega)]⟩) (by omega) (sF rfl) sr))
 ·replace hc0 := of_decide_eq_false hc0
  refine OkC.exit (OkQ.then_exit (OkQ.round1_exit (OkQ.in_exit (q1 (q4 ?_)))))
  refine mv' rfl (st' (v := (vN a.length)) (ex_len_slice rfl Tryz.underlying34) rfl (mv' rfl (st' (v := (vN b.length)) (ex_len_slice rfl Tryz.underlying34) rfl (st' (ex_lss (c := (decide (a.length < b.length))) rfl rfl (ltN (a := a.length) (b := b.length))) rfl (OkL.nil ?_)))))
  refine OkQ.subF (sL [0, 1, 9, 10, 11, 35] rfl) (OkQ.then_ ?_)
  refine OkC.cond rfl (fun hc3 => ?_) (fun hc3 => ?_)
  ·replace hc3 := of_decide_eq_true hc3
   exact q4 (asg' rfl (OkL.nil (OkQ.then_ (OkC.ret (OkQ.then_ret (ret_one rfl (rd_tmp (v := (vI (-1 : Int))) rfl) (fun w hw => ⟨by rw [he, cmpL_end (by omega) hi1 hi2, if_pos hc3] <;> rfl, hw.out⟩)))))))
  ·replace hc3 := of_decide_eq_false hc3
   exact OkC.skip (q2 (asg' rfl (OkL.nil (OkQ.then_ (OkC.ret (ret_one rfl (rd_tmp (v := (vI 0)) rfl) (fun w hw => ⟨by rw [he, cmpL_end (by omega) hi1 hi2, if_neg hc3] <;> rfl, hw.out⟩)))))))
end
end Go.Proofs.YtgiacpkjnikjdaaGreat
