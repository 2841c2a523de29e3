import Derived.WideLaws
import Derived.Test.YtgiacpkjnikjdaaGreatPart06
import Derived.Test.YtgiacpkjnikjdaaGreatPart34
import Derived.Test.YtgiacpkjnikjdaaGreatPart35
namespace Go.Proofs.YtgiacpkjnikjdaaGreat
open Go Go.RowKit
set_option linter.unusedVariables false
set_option linter.unusedSimpArgs false
section
section
variable {P : Program} {n : Nat} {F : List (Nat × Value)} {w0 : Base} {L : List As} {x y : Operand} {d : Option Tmp} {t : TypeId} {p : String} {af : Array Edge} {g : Option (Nat × Bool)}
theorem ex_index_arr {cs : List Value} {s e nn : Nat} {ki : IntKind} {j : Nat} {v : Value} (hx : evF F x = some (aG cs)) (hy : evF F y = some (.int ki ((j : Nat) : Int))) (hu : P.underlying s = some (.array nn e)) (hsz : ∀ w, (sizeOf e).run P w = .ok 1 w) (hg : ∀ w, (isAgg e).run P w = .ok false w) (hj : j < nn) (hv : cs[j]? = some v) :
    Ex P n F w0 L ⟨d, .index s x y, t, p, af, g⟩ v := fun A w ha _ => by
  simp [execOp, ha.ev hx, ha.ev hy, Instr.index, asIntOf, run_underlying hu, hsz, hg, hj, hv, part]
end
def cnrN (ts : List T3) : Nat → List (Nat × Nat)
  | 0 => []
  | s + 1 => putM (cnrN ts s) (crT (ts.getD (s / 3) (0, 0, 0)) (s % 3)) ((getM (cnrN ts s) (crT (ts.getD (s / 3) (0, 0, 0)) (s % 3))).getD 0 + 1)
theorem cnrN_succ {ts : List T3} {t r : Nat} (hr : r < 3) : putM (cnrN ts (3 * t + r)) (crT (ts.getD t (0, 0, 0)) r) ((getM (cnrN ts (3 * t + r)) (crT (ts.getD t (0, 0, 0)) r)).getD 0 + 1) = cnrN ts (3 * t + r + 1) := by
  show _ = putM (cnrN ts (3 * t + r)) (crT (ts.getD ((3 * t + r) / 3) (0, 0, 0)) ((3 * t + r) % 3)) ((getM (cnrN ts (3 * t + r)) (crT (ts.getD ((3 * t + r) / 3) (0, 0, 0)) ((3 * t + r) % 3))).getD 0 + 1)
  rw [show (3 * t + r) / 3 = t by omega, show (3 * t + r) % 3 = r by omega]
theorem cnrN_le {ts : List T3} : ∀ s k, (getM (cnrN ts s) k).getD 0 ≤ s
  | 0, k => Nat.zero_le _
  | s + 1, k => by
    show (getM (putM _ _ _) k).getD 0 ≤ _
    rw [getM_put]; split
    · have := cnrN_le (ts := ts) s (crT (ts.getD (s / 3) (0, 0, 0)) (s % 3)); show _ + 1 ≤ _; omega
    · exact Nat.le_trans (cnrN_le s k) (by omega)
theorem putM_lenN {kvs : List (Nat × Nat)} {x y : Nat} : (putM kvs x y).length ≤ kvs.length + 1 := by
  induction kvs with
  | nil => exact Nat.le_refl _
  | cons p r ih => obtain ⟨k, v⟩ := p; unfold putM; split <;> simp only [List.length_cons] <;> omega
theorem cnrN_len {ts : List T3} : ∀ s, (cnrN ts s).length ≤ s
  | 0 => Nat.le_refl _
  | s + 1 => Nat.le_trans putM_lenN (by have := cnrN_len (ts := ts) s; omega)
theorem cnrN_ok {ts : List T3} {N : Nat} (hn : numB N ts = true) (hN : N ≤ 4611686018427387904) : ∀ s, s ≤ 3 * ts.length → OkM okI (cnrN ts s)
  | 0, _ => ⟨fun p hp => (by cases hp), List.Pairwise.nil⟩
  | s + 1, h => (cnrN_ok hn hN s (by omega)).put (by
    obtain ⟨g1, g2, g3⟩ := okT_spec (numB_at hn (show s / 3 < ts.length by omega))
    show crT _ _ < _
    unfold crT; split
    · omega
    · split <;> omega)
def eulZ (ts : List T3) : Int := ((cnrN ts (3 * ts.length)).length : Int) - (edL ts).length + ts.length
end
section
set_option maxRecDepth 100000
theorem keyCn : KeyE Tryz.prog 3 vN okI := keyInt Tryz.underlying3
set_option maxHeartbeats 1000000 in
theorem Euler_ok {ps : List Pt} {ts ss : List T3} (x : MX ps ts ss) (hnb : numB ps.length ts = true) (hp : ps.length ≤ 1000000) (htl : ts.length ≤ 1000000) (w : World) {S : Nat → Prop} (hx : Ro S w x) : Calls Tryz.prog 21 #[(aG (mxL x))] w (Gives w (vI (eulZ ts))) := by
 have hel0 := edL_le ts
 have hcl0 := cnrN_len (ts := ts) (3 * ts.length)
 have lx := atA (W := w) hx
 refine calls_ofR (args := [(aG (mxL x))]) (L := [rowR x.a.p (rowsL ptL ps), rowR x.b.p (rowsL t3L ts), rowR x.c.p (rowsL t3L ss)]) Tryz.func21 rfl rfl (leB rfl) (sxA hx roL_nil) (OkC.subF (sL [0] rfl) (q4 (bx' (cs := mxL x) rfl fun b1 => asg' rfl (q6 (sL [1, 2] rfl) ?_))))
 refine q4 (ldW' 0 tA31 rfl (cl' (args := [(aG (mxL x))]) (v := (Value.bool true)) Tryz.call48 (fun w hw => (by have h9 := Numd_ok x (by omega) w (inS hw 1 rfl lx); rw [hnb] at h9; exact h9)) rfl (st' (ex_not (c := false) rfl rfl) rfl (OkL.nil (OkQ.subF (sL [1, 2, 10] rfl) ?_)))))
 refine OkQ.then_ (OkC.cond_false rfl (OkC.skip (q2 (OkL.makeMap vN vN (wt_none rfl) rfl fun b2 => asg' rfl ?_))))
 refine q6 (sL [1, 2, 3] rfl) (q4 (st' (v := (pP b1 1)) (ex_fieldAddr rfl Tryz.underlying31 rfl Tryz.sizeOf28 rfl) rfl (ldO' 1 (Value.slice x.b.p ts.length x.b.c) tO28 rfl (st' (v := (vN ts.length)) (ex_len_slice rfl Tryz.underlying28) rfl (mv' rfl ?_)))))
 refine OkL.nil (OkQ.subF (sL [1, 2, 3, 13, 14, 15] rfl) (OkQ.then_ (OkC.block ?_)))
 refine OkC.lp1 (tg fun (t : Nat) => t ≤ ts.length) (tg fun (t : Nat) => [(1, (pP b1 0)), (2, (vI 0)), (3, (Value.map (some b2))), (13, (Value.slice x.b.p ts.length x.b.c)), (14, (vN ts.length)), (15, (vN t))]) (tg fun (t : Nat) => [mapA b2 vN vN (cnrN ts (3 * t + 0)), blk b1 31 (mxL x), rowR x.a.p (rowsL ptL ps), rowR x.b.p (rowsL t3L ts), rowR x.c.p (rowsL t3L ss)]) (tg fun (t : Nat) => ts.length - t) 0 (Nat.zero_le _) (sF rfl) sr (fun t hJ => ?_)
 have ht := hJ
 refine q4 (st' (ex_lss (c := (decide (t < ts.length))) rfl rfl (ltN (a := t) (b := ts.length))) rfl (OkL.nil (q1 ?_)))
 refine OkC.cond rfl (fun hc1 => ?_) (fun hc1 => ?_)
 ·replace hc1 := of_decide_eq_true hc1
  obtain ⟨T, hT⟩ : ∃ q, q = ts.getD t (0, 0, 0) := ⟨_, rfl⟩
  obtain ⟨g1, g2, g3⟩ := okT_spec (numB_at hnb hc1)
  rw [← hT] at g1 g2 g3
  refine OkC.skip (q1 (OkC.block (q4 (st' (v := (pP (pB x.b.p) (pO x.b.p + t * 3))) (ex_index_row (j := t) rfl rfl x.b.ok Tryz.underlying28 Tryz.sizeOf45 rfl (by omega)) rfl (st' (v := (aG (t3L (ts.getD t ((0, 0, 0) : Nat × Nat × Nat))))) (ex_load_rowR_agg (vs := t3L (ts.getD t ((0, 0, 0) : Nat × Nat × Nat))) (i := 3) rfl rfl (RowOk.ne x.b.ok (by omega)) tA45 (rowsL_get t3L_len _ _ _ (by omega)) (t3L_len _)) rfl ?_)))))
  refine OkL.retell (k := 18) (u := (aG (t3L T))) rfl (by rw [hT]) (al tZ45 rfl fun b3 => stW0' rfl Tryz.sizeOf45 rfl (q3 (sL [1, 2, 3, 13, 14, 15, 5] rfl) (ldW' 0 tA45 rfl (mv' rfl ?_))))
  refine OkL.nil (OkQ.then_ (OkC.block (OkC.unroll 4 (OkR.step (q4 ?_)))))
  refine st' (ex_lss (c := true) rfl rfl (by decide)) rfl (OkL.nil (q1 (OkC.cond_true rfl (OkC.skip (q1 ?_)))))
  refine OkC.block (q4 (st' (v := (vN T.1)) (ex_index_arr (j := 0) rfl rfl Tryz.underlying45 Tryz.sizeOf3 Tryz.isAgg3 (by decide) rfl) rfl (asg' rfl (OkL.nil (OkQ.subF (sL [1, 2, 3, 13, 14, 15, 5, 19, 20, 7] rfl) ?_)))))
  refine OkQ.then_ (OkC.region (mv' rfl (mv' rfl (st' (v := (vN ((getM (cnrN ts (3 * t + 0)) T.1).getD 0))) (ex_lookup keyCn 1 (eV := vN) (kvs := cnrN ts (3 * t + 0)) (x := T.1) (z0 := 0) (co := false) rfl rfl Tryz.underlying132 Tryz.zeroValue3 rfl (cnrN_ok hnb (by omega) _ (by omega)) (by show (_ : Nat) < _; omega)) rfl ?_))))
  have hle0 := cnrN_le (ts := ts) (3 * t + 0) T.1
  refine st' (ex_add (c := ((((getM (cnrN ts (3 * t + 0)) T.1).getD 0) + 1 : Nat) : Int)) rfl rfl (addN_i64 (a := (getM (cnrN ts (3 * t + 0)) T.1).getD 0) (b := 1) (by omega))) rfl (OkL.mapUpdate keyCn 1 (kvs := cnrN ts (3 * t + 0)) (x := T.1) (y := ((getM (cnrN ts (3 * t + 0)) T.1).getD 0) + 1) (wt_none rfl) rfl rfl rfl Tryz.underlying132 rfl (cnrN_ok hnb (by omega) _ (by omega)) (by show (_ : Nat) < _; omega) ?_)
  rw [show putM (cnrN ts (3 * t + 0)) T.1 (((getM (cnrN ts (3 * t + 0)) T.1).getD 0) + 1) = cnrN ts (3 * t + 1) from by rw [hT]; exact cnrN_succ (by omega)]
  refine OkL.nil (OkQ.subF (sL [1, 2, 3, 13, 14, 15, 5, 19, 20] rfl) (OkQ.in_normal (OkQ.then_ (OkC.region (st' (ex_add (c := (1 : Int)) rfl rfl (by decide)) rfl ?_)))))
  refine mv' rfl (OkL.nil (OkQ.subF (sL [1, 2, 3, 13, 14, 15, 5, 19, 20] rfl) (OkQ.again (OkR.step (q4 ?_)))))
  refine st' (ex_lss (c := true) rfl rfl (by decide)) rfl (OkL.nil (q1 (OkC.cond_true rfl (OkC.skip (q1 ?_)))))
  refine OkC.block (q4 (st' (v := (vN T.2.1)) (ex_index_arr (j := 1) rfl rfl Tryz.underlying45 Tryz.sizeOf3 Tryz.isAgg3 (by decide) rfl) rfl (asg' rfl (OkL.nil (OkQ.subF (sL [1, 2, 3, 13, 14, 15, 5, 19, 20, 7] rfl) ?_)))))
  refine OkQ.then_ (OkC.region (mv' rfl (mv' rfl (st' (v := (vN ((getM (cnrN ts (3 * t + 1)) T.2.1).getD 0))) (ex_lookup keyCn 1 (eV := vN) (kvs := cnrN ts (3 * t + 1)) (x := T.2.1) (z0 := 0) (co := false) rfl rfl Tryz.underlying132 Tryz.zeroValue3 rfl (cnrN_ok hnb (by omega) _ (by omega)) (by show (_ : Nat) < _; omega)) rfl ?_))))
  have hle1 := cnrN_le (ts := ts) (3 * t + 1) T.2.1
  refine st' (ex_add (c := ((((getM (cnrN ts (3 * t + 1)) T.2.1).getD 0) + 1 : Nat) : Int)) rfl rfl (addN_i64 (a := (getM (cnrN ts (3 * t + 1)) T.2.1).getD 0) (b := 1) (by omega))) rfl (OkL.mapUpdate keyCn 1 (kvs := cnrN ts (3 * t + 1)) (x := T.2.1) (y := ((getM (cnrN ts (3 * t + 1)) T.2.1).getD 0) + 1) (wt_none rfl) rfl rfl rfl Tryz.underlying132 rfl (cnrN_ok hnb (by omega) _ (by omega)) (by show (_ : Nat) < _; omega) ?_)
  rw [show putM (cnrN ts (3 * t + 1)) T.2.1 (((getM (cnrN ts (3 * t + 1)) T.2.1).getD 0) + 1) = cnrN ts (3 * t + 2) from by rw [hT]; exact cnrN_succ (by omega)]
  refine OkL.nil (OkQ.subF (sL [1, 2, 3, 13, 14, 15, 5, 19, 20] rfl) (OkQ.in_normal (OkQ.then_ (OkC.region (st' (ex_add (c := (2 : Int)) rfl rfl (by decide)) rfl ?_)))))
  refine mv' rfl (OkL.nil (OkQ.subF (sL [1, 2, 3, 13, 14, 15, 5, 19, 20] rfl) (OkQ.again (OkR.step (q4 ?_)))))
  refine st' (ex_lss (c := true) rfl rfl (by decide)) rfl (OkL.nil (q1 (OkC.cond_true rfl (OkC.skip (q1 ?_)))))
  refine OkC.block (q4 (st' (v := (vN T.2.2)) (ex_index_arr (j := 2) rfl rfl Tryz.underlying45 Tryz.sizeOf3 Tryz.isAgg3 (by decide) rfl) rfl (asg' rfl (OkL.nil (OkQ.subF (sL [1, 2, 3, 13, 14, 15, 5, 19, 20, 7] rfl) ?_)))))
  refine OkQ.then_ (OkC.region (mv' rfl (mv' rfl (st' (v := (vN ((getM (cnrN ts (3 * t + 2)) T.2.2).getD 0))) (ex_lookup keyCn 1 (eV := vN) (kvs := cnrN ts (3 * t + 2)) (x := T.2.2) (z0 := 0) (co := false) rfl rfl Tryz.underlying132 Tryz.zeroValue3 rfl (cnrN_ok hnb (by omega) _ (by omega)) (by show (_ : Nat) < _; omega)) rfl ?_))))
  have hle2 := cnrN_le (ts := ts) (3 * t + 2) T.2.2
  refine st' (ex_add (c := ((((getM (cnrN ts (3 * t + 2)) T.2.2).getD 0) + 1 : Nat) : Int)) rfl rfl (addN_i64 (a := (getM (cnrN ts (3 * t + 2)) T.2.2).getD 0) (b := 1) (by omega))) rfl (OkL.mapUpdate keyCn 1 (kvs := cnrN ts (3 * t + 2)) (x := T.2.2) (y := ((getM (cnrN ts (3 * t + 2)) T.2.2).getD 0) + 1) (wt_none rfl) rfl rfl rfl Tryz.underlying132 rfl (cnrN_ok hnb (by omega) _ (by omega)) (by show (_ : Nat) < _; omega) ?_)
  rw [show putM (cnrN ts (3 * t + 2)) T.2.2 (((getM (cnrN ts (3 * t + 2)) T.2.2).getD 0) + 1) = cnrN ts (3 * t + 3) from by rw [hT]; exact cnrN_succ (by omega)]
  refine OkL.nil (OkQ.subF (sL [1, 2, 3, 13, 14, 15, 5, 19, 20] rfl) (OkQ.in_normal (OkQ.then_ (OkC.region (st' (ex_add (c := (3 : Int)) rfl rfl (by decide)) rfl ?_)))))
  refine mv' rfl (OkL.nil (OkQ.subF (sL [1, 2, 3, 13, 14, 15, 5, 19, 20] rfl) (OkQ.again (OkR.step (q4 ?_)))))
  refine st' (ex_lss (c := false) rfl rfl (by decide)) rfl (OkL.nil (q1 (OkC.cond_false rfl (OkC.exit (OkQ.then_exit ?_)))))
  refine OkQ.then_exit (OkQ.in_exit (OkQ.in_normal (OkQ.then_ (OkC.region (st' (ex_add (c := ((t + 1 : Nat) : Int)) rfl rfl (addN_i64 (a := t) (b := 1) (by omega))) rfl ?_)))))
  refine mv' rfl (OkL.nil (OkQ.subF (sL [1, 2, 3, 13, 14, 15, 5, 19, 20] rfl) ?_))
  rw [show 3 * t + 3 = 3 * (t + 1) + 0 by omega]
  exact OkQ.round1 (t + 1) (by omega) (by omega) (sF rfl) (sl sr)
 ·replace hc1 := of_decide_eq_false hc1
  rw [show cnrN ts (3 * t + 0) = cnrN ts (3 * ts.length) by rw [show 3 * t + 0 = 3 * ts.length by omega]]
  refine OkC.exit (OkQ.then_exit (OkQ.round1_exit (OkQ.in_exit (q1 (rG' [(0, true), (1, true), (2, true), (6, true), (7, true), (8, true), (3, false), (4, true), (5, true), (9, true), (10, true)] sr ?_)))))
  refine pM' rfl (pE' (v := (vN ((cnrN ts (3 * ts.length)).length))) rfl (ex_len_map 0 rfl Tryz.underlying132 rfl) (pW' 1 tA31 rfl (pE' (v := (pP b1 1)) rfl (ex_fieldAddr rfl Tryz.underlying31 rfl Tryz.sizeOf28 rfl) (pO'' 1 (Value.slice x.b.p ts.length x.b.c) tO28 rfl (pE' (v := (vN ts.length)) rfl (ex_len_slice rfl Tryz.underlying28) ?_)))))
  refine OkE.imp rfl (cX (S := S) (cs := rowsL e4L (edL ts)) (k := (edL ts).length) (args := [(aG (mxL x))]) Tryz.call36 (fun w hw => Edges_ok x (by omega) (by omega) hnb w (inS hw 2 rfl lx)) rfl rfl rfl fun o lo => OkE.back (sl sr) (pE' (v := (vN ((edL ts).length))) rfl (ex_len_slice rfl Tryz.underlying40) (pE' rfl (ex_sub (c := ((((cnrN ts (3 * ts.length)).length : Nat) : Int) - ((edL ts).length : Nat))) rfl rfl (wrap_i64 (by omega) (by omega))) (pE' rfl (ex_add (c := (eulZ ts)) rfl rfl (by unfold eulZ; exact wrap_i64 (by omega) (by omega))) ?_))))
  exact pS' rfl (OkE.nil (OkQ.subF (sL [1, 2, 3, 13, 14, 15] rfl) (OkQ.then_ (OkC.ret (ret_one rfl (rd_tmp (v := (vI (eulZ ts))) rfl) (fun w hw => ⟨rfl, hw.out⟩))))))
end
end Go.Proofs.YtgiacpkjnikjdaaGreat
