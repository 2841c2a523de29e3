import Derived.Test.YtgiacpkjnikjdaaGreatPart06
import Derived.Test.YtgiacpkjnikjdaaGreatPart15
import Derived.Test.YtgiacpkjnikjdaaGreatPart25
import Derived.Test.YtgiacpkjnikjdaaGreatPart42
namespace Go.Proofs.YtgiacpkjnikjdaaGreat
open Go Go.RowKit
set_option linter.unusedVariables false
set_option linter.unusedSimpArgs false
section
set_option maxRecDepth 100000
theorem tfs_numvc_45_1 (x0 : Nat × Nat × Nat) : Instr.fill (fun i => some (i * 3, 3)) ((Array.range (1 * 3)).map ((Value.agg (t3L ((0, 0, 0) : Nat × Nat × Nat)).toArray).cells[· % (Value.agg (t3L ((0, 0, 0) : Nat × Nat × Nat)).toArray).cells.size]!)) [(0, .agg (t3L x0).toArray)] = some (t3L x0).toArray := by kernel_rfl
set_option maxHeartbeats 4000000 in
theorem RimsParts_ok (m : MQ) (w : World) {S : Nat → Prop} (hm : Ro S w m) : Calls Tryz.prog 4 #[(aG (mqL m))] w (Gives w (Value.bool true)) := by
 have lm := atA (W := w) hm
 refine calls_ofR (args := [(aG (mqL m))]) (L := [rowR m.p (bytL m.cs)]) Tryz.func4 rfl rfl (leB rfl) (sxA hm roL_nil) (OkC.subF (sL [0] rfl) (q4 (bx' (cs := mqL m) rfl fun b1 => asg' rfl (q3 (sL [1, 2] rfl) ?_))))
 refine ldW' 0 tA26 rfl (OkL.callR (S := S) (α := MG) (args := [(aG (mqL m))]) Tryz.call12 (fun w hw => mMesh_ok m w (inS hw 1 rfl lm)) rfl rfl rfl fun g lg => ?_)
 have hG := g.good
 have hnb : numB g.ps.length g.ts = true := numB_good hG
 have htl := hG.tl
 have hpl := hG.pl
 have hne : 0 < g.ts.length := List.length_pos_iff.2 hG.ne
 refine al tZ31 rfl fun b2 => stW0' rfl Tryz.sizeOf31 rfl (q3 (sL [2, 3] rfl) (ldW' 0 tA31 rfl (OkL.callR (S := S) (α := PaX g.ts) (args := [(aG (mxL g.mx))]) Tryz.call20 (fun w hw => Parts_ok g.mx hnb hne (by omega) (by omega) w (inS hw 1 rfl lg : Ro _ w g.mx)) rfl rfl rfl fun pa lpa => mv' rfl ?_)))
 refine st' (ex_extract (v := (Value.slice pa.r.p pa.l.length pa.r.c)) rfl rfl) rfl ?_
 have hpl2 := pa.pts.len
 have hpn := pa.pts.nle
 have hpn1 : 1 ≤ pa.n := by have h9 := pa.pts.rng 0 hne; omega
 have hsE := sumE_eq pa.pts hnb (by omega)
 have hez := eulZ_le g.ts
 refine st' (ex_extract (v := (vN pa.n)) rfl rfl) rfl (asg' rfl (asg' rfl (q6 (sL [2, 3, 4, 5] rfl) (q4 (mv' rfl ?_)))))
 refine st' (v := (vN pa.l.length)) (ex_len_slice rfl Tryz.underlying34) rfl (st' (v := (pP b2 1)) (ex_fieldAddr rfl Tryz.underlying31 rfl Tryz.sizeOf28 rfl) rfl (ldO' 1 (Value.slice g.mx.b.p g.ts.length g.mx.b.c) tO28 rfl (st' (v := (vN g.ts.length)) (ex_len_slice rfl Tryz.underlying28) rfl (st' (ex_neq (c := false) rfl rfl (decide_eq_false (by omega))) rfl (mv' rfl ?_)))))
 refine OkL.step (v := (vN pa.n)) (wt_some' rfl) (ex_move rfl) rfl (leB rfl) (OkL.step (v := (Value.bool false)) (wt_some' rfl) (ex_lss (c := false) rfl rfl (decide_eq_false (by omega))) rfl (leB rfl) (st' (v := (Value.bool false)) (ex_pick_false rfl rfl) rfl (OkL.nil (OkQ.subF (sL [2, 3, 4, 5, 31] rfl) (OkQ.then_ ?_)))))
 refine OkC.cond_false rfl (OkC.skip (q2 (asg' rfl (q6 (sL [2, 3, 4, 5, 6] rfl) (q4 ?_)))))
 refine asg' rfl (OkL.nil (OkQ.then_ (OkC.block ?_)))
 refine OkC.lp2 (tg fun (t : Nat) (nx : Nat) => t ≤ g.ts.length ∧ nx ≤ pa.n ∧ ∀ s, s < t → gZ pa.l s < ((nx : Nat) : Int)) (tg fun (t : Nat) (nx : Nat) => [(3, (pP b2 0)), (4, (Value.slice pa.r.p pa.l.length pa.r.c)), (5, (vN pa.n)), (7, (vN t)), (6, (vN nx))]) (tg fun (t : Nat) (nx : Nat) => [rowR pa.r.p (zL pa.l), blk b2 31 (mxL g.mx), rowR g.mx.a.p (rowsL ptL g.ps), rowR g.mx.b.p (rowsL t3L g.ts), rowR g.mx.c.p (rowsL t3L g.ss), blk b1 26 (mqL m), rowR m.p (bytL m.cs)]) (tg fun (t : Nat) (nx : Nat) => g.ts.length - t) 0 0 (⟨Nat.zero_le _, Nat.zero_le _, fun s hs => absurd hs (Nat.not_lt_zero _)⟩) (sF rfl) sr (fun t nx hJ => ?_)
 obtain ⟨ht, hnx, hjn⟩ := hJ
 refine OkC.seq (q4 (mv' rfl (mv' rfl (st' (v := (vN pa.l.length)) (ex_len_slice rfl Tryz.underlying34) rfl (st' (ex_lss (c := (decide (t < pa.l.length))) rfl rfl (ltN (a := t) (b := pa.l.length))) rfl ?_)))))
 refine OkL.nil (OkQ.subF (sL [3, 4, 5, 7, 6, 35] rfl) (OkQ.then_ ?_))
 refine OkC.cond rfl (fun hc1 => ?_) (fun hc1 => ?_)
 ·replace hc1 := of_decide_eq_true hc1
  have hrg := pa.pts.rng t (by omega)
  have hle := next_le pa.pts (by omega) hjn hnx
  have hgz : gZ pa.l t = pa.l.getD t 0 := rfl
  obtain ⟨A, hA⟩ : ∃ q, q = g.ts.getD t (0, 0, 0) := ⟨_, rfl⟩
  refine OkC.skip (q1 (OkC.block (OkC.seq (q4 (mv' rfl ?_)))))
  refine mv' rfl (st' (v := (pP (pB pa.r.p) (pO pa.r.p + t * 1))) (ex_index_row (j := t) rfl rfl pa.r.ok Tryz.underlying34 Tryz.sizeOf3 rfl (by omega)) rfl (st' (ex_load_rowR_one (v := (vI (pa.l.getD t 0))) (i := 0) rfl rfl (pa.r.ok.ne (by omega)) tO3 (zL_get (l := pa.l) (j := t) (by omega))) rfl (st' (ex_lss (c := false) rfl rfl (decide_eq_false (by omega))) rfl (mv' rfl (OkL.step (v := (Value.slice pa.r.p pa.l.length pa.r.c)) (wt_some' rfl) (ex_move rfl) rfl (leB rfl) ?_)))))
  refine OkL.step (v := (vN t)) (wt_some' rfl) (ex_move rfl) rfl (leB rfl) (OkL.step (v := (pP (pB pa.r.p) (pO pa.r.p + t * 1))) (wt_some' rfl) (ex_index_row (j := t) rfl rfl pa.r.ok Tryz.underlying34 Tryz.sizeOf3 rfl (by omega)) rfl (leB rfl) (OkL.step (v := (vI (pa.l.getD t 0))) (wt_some' rfl) (ex_load_rowR_one (v := (vI (pa.l.getD t 0))) (i := 0) rfl rfl (pa.r.ok.ne (by omega)) tO3 (zL_get (l := pa.l) (j := t) (by omega))) rfl (leB rfl) (OkL.step (v := (vN nx)) (wt_some' rfl) (ex_move rfl) rfl (leB rfl) (OkL.step (v := (Value.bool false)) (wt_some' rfl) (ex_gtr (c := false) rfl rfl (decide_eq_false (by omega))) rfl (leB rfl) (st' (v := (Value.bool false)) (ex_pick_false rfl rfl) rfl ?_)))))
  refine OkL.nil (OkQ.subF (sL [3, 4, 5, 7, 6, 50] rfl) (OkQ.then_ (OkC.cond_false rfl (OkC.skip (q1 ?_)))))
  refine q4 (mv' rfl (mv' rfl (st' (v := (pP (pB pa.r.p) (pO pa.r.p + t * 1))) (ex_index_row (j := t) rfl rfl pa.r.ok Tryz.underlying34 Tryz.sizeOf3 rfl (by omega)) rfl (st' (ex_load_rowR_one (v := (vI (pa.l.getD t 0))) (i := 0) rfl rfl (pa.r.ok.ne (by omega)) tO3 (zL_get (l := pa.l) (j := t) (by omega))) rfl (mv' rfl ?_)))))
  refine st' (ex_eql (c := (decide ((pa.l.getD t 0) = ((nx : Nat) : Int)))) rfl rfl rfl) rfl (OkL.nil (OkQ.subF (sL [3, 4, 5, 7, 6, 56] rfl) (OkQ.then_ ?_)))
  refine OkC.cond rfl (fun hc3 => ?_) (fun hc3 => ?_)
  ·replace hc3 := of_decide_eq_true hc3
   refine OkC.region (mv' rfl (st' (ex_add (c := ((nx + 1 : Nat) : Int)) rfl rfl (addN_i64 (a := nx) (b := 1) (by omega))) rfl (asg' rfl (q3 (sL [3, 4, 5, 7, 6] rfl) (asg' rfl ?_)))))
   refine OkL.nil (OkQ.then_ (OkC.block ?_))
   refine OkC.lp1 (tg fun (s : Nat) => s ≤ t) (tg fun (s : Nat) => [(3, (pP b2 0)), (4, (Value.slice pa.r.p pa.l.length pa.r.c)), (5, (vN pa.n)), (7, (vN t)), (6, (vN (nx + 1))), (8, (vN s))]) (tg fun (s : Nat) => [rowR pa.r.p (zL pa.l), blk b2 31 (mxL g.mx), rowR g.mx.a.p (rowsL ptL g.ps), rowR g.mx.b.p (rowsL t3L g.ts), rowR g.mx.c.p (rowsL t3L g.ss), blk b1 26 (mqL m), rowR m.p (bytL m.cs)]) (tg fun (s : Nat) => t - s) 0 (Nat.zero_le _) (sF rfl) sr (fun s hJ => ?_)
   have hsl := hJ
   refine OkC.seq (q4 (mv' rfl (mv' rfl (st' (ex_lss (c := (decide (s < t))) rfl rfl (ltN (a := s) (b := t))) rfl (OkL.nil ?_)))))
   refine OkQ.subF (sL [3, 4, 5, 7, 6, 8, 61] rfl) (OkQ.then_ ?_)
   refine OkC.cond rfl (fun hc4 => ?_) (fun hc4 => ?_)
   ·replace hc4 := of_decide_eq_true hc4
    obtain ⟨B, hB⟩ : ∃ q, q = g.ts.getD s (0, 0, 0) := ⟨_, rfl⟩
    have hrg2 := pa.pts.rng s (by omega)
    refine OkC.skip (q1 (OkC.block (q4 (asg' rfl (OkL.nil ?_)))))
    refine q1 (q4 (asg' rfl (OkL.nil (OkQ.then_ (OkC.block ?_)))))
    refine OkC.lp2 (tg fun (i : Nat) (fd : Bool) => i ≤ 9 ∧ fd = tchB A B i) (tg fun (i : Nat) (fd : Bool) => [(3, (pP b2 0)), (4, (Value.slice pa.r.p pa.l.length pa.r.c)), (5, (vN pa.n)), (7, (vN t)), (6, (vN (nx + 1))), (8, (vN s)), (10, (vN i)), (9, (Value.bool fd))]) (tg fun (i : Nat) (fd : Bool) => [rowR pa.r.p (zL pa.l), blk b2 31 (mxL g.mx), rowR g.mx.a.p (rowsL ptL g.ps), rowR g.mx.b.p (rowsL t3L g.ts), rowR g.mx.c.p (rowsL t3L g.ss), blk b1 26 (mqL m), rowR m.p (bytL m.cs)]) (tg fun (i : Nat) (fd : Bool) => 9 - i) 0 false (⟨Nat.zero_le _, rfl⟩) (sF rfl) sr (fun i fd hJ => ?_)
    obtain ⟨hi9, hfd⟩ := hJ
    refine OkC.seq (q4 (mv' rfl (st' (ex_lss (c := (decide (i < 9))) rfl rfl (ltN (a := i) (b := 9))) rfl (OkL.nil (OkQ.subF (sL [3, 4, 5, 7, 6, 8, 10, 9, 65] rfl) ?_)))))
    refine OkQ.then_ ?_
    refine OkC.cond rfl (fun hc5 => ?_) (fun hc5 => ?_)
    ·replace hc5 := of_decide_eq_true hc5
     refine OkC.skip (q1 (OkC.block ?_))
     by_cases hs20 : fd = true
     ·skip
      rw [hs20]
      refine rG' [(0, true), (1, true), (2, true), (3, true), (4, true), (5, true), (6, true), (7, true), (8, true), (9, true), (10, true), (11, true), (12, true), (13, true), (14, true), (15, true), (16, true), (17, true), (18, true), (19, true), (20, true)] sr (pM' rfl (pM' rfl (OkE.skp rfl (wt_not' rfl) rfl rfl (OkE.skp rfl (wt_not' rfl) rfl rfl (OkE.skp rfl (wt_not' rfl) rfl rfl ?_)))))
      refine OkE.skp rfl (wt_not' rfl) rfl rfl (OkE.skp rfl (wt_not' rfl) rfl rfl (OkE.skp rfl (wt_not' rfl) rfl rfl (OkE.skp rfl (wt_not' rfl) rfl rfl (OkE.skp rfl (wt_not' rfl) rfl rfl (OkE.skp rfl (wt_not' rfl) rfl rfl ?_)))))
      refine OkE.skp rfl (wt_not' rfl) rfl rfl (OkE.skp rfl (wt_not' rfl) rfl rfl (OkE.skp rfl (wt_not' rfl) rfl rfl (OkE.skp rfl (wt_not' rfl) rfl rfl (OkE.skp rfl (wt_not' rfl) rfl rfl (OkE.skp rfl (wt_not' rfl) rfl rfl ?_)))))
      refine OkE.skp rfl (wt_not' rfl) rfl rfl (OkE.skp rfl (wt_not' rfl) rfl rfl (pE' (v := (Value.bool true)) rfl (ex_pick_true rfl rfl) (pS' rfl (OkE.nil (OkQ.subF (sL [3, 4, 5, 7, 6, 8, 10, 9] rfl) ?_)))))
      refine OkQ.in_normal (OkQ.then_ (OkC.region (mv' rfl (st' (ex_add (c := ((i + 1 : Nat) : Int)) rfl rfl (addN_i64 (a := i) (b := 1) (by omega))) rfl (asg' rfl ?_)))))
      exact OkL.nil (OkQ.subF (sL [3, 4, 5, 7, 6, 8, 10, 9] rfl) (OkQ.round2 (i + 1) true (⟨by omega, by show _ = (tchB A B i || _); rw [← hfd, hs20]; first | rfl | (rw [hA, hB]; rfl)⟩) (by omega) (sF rfl) sr))
     ·skip
      rw [Bool.not_eq_true] at hs20
      rw [hs20]
      refine rG' [(0, true), (1, true), (2, true), (3, true), (4, true), (5, true), (6, true), (7, true), (8, true), (9, true), (10, true), (11, true), (12, true), (13, true), (14, true), (15, true), (16, true), (17, true), (18, true), (19, true), (20, true)] sr (pM' rfl (pM' rfl (OkE.pas (v := (pP b2 1)) rfl (wt_some' rfl) (ex_fieldAddr rfl Tryz.underlying31 rfl Tryz.sizeOf28 rfl) rfl rfl (OkE.pas (v := (Value.slice g.mx.b.p g.ts.length g.mx.b.c)) rfl (wt_some' rfl) (ex_load_one (i := 1) (v := (Value.slice g.mx.b.p g.ts.length g.mx.b.c)) rfl rfl tO28.a rfl) rfl rfl (OkE.pas (v := (vN t)) rfl (wt_some' rfl) (ex_move rfl) rfl rfl ?_)))))
      refine OkE.pas (v := (vN i)) rfl (wt_some' rfl) (ex_move rfl) rfl rfl (OkE.pas (v := (vN (i % 3))) rfl (wt_some' rfl) (ex_rem (c := ((i % 3 : Nat) : Int)) rfl rfl (by omega) (remN (a := i) (b := 3))) rfl rfl (OkE.pas (v := (pP (pB g.mx.b.p) (pO g.mx.b.p + t * 3))) rfl (wt_some' rfl) (ex_index_row (j := t) rfl rfl g.mx.b.ok Tryz.underlying28 Tryz.sizeOf45 rfl (by omega)) rfl rfl (OkE.pas (v := (pP (pB g.mx.b.p) (pO g.mx.b.p + (t * 3 + (i % 3))))) rfl (wt_some' rfl) (ex_indexAddr_array (j := i % 3) rfl rfl Tryz.underlying45 Tryz.sizeOf3 rfl (by omega) (by rw [Nat.mul_one]; exact Nat.add_assoc _ _ _)) rfl rfl (OkE.pas (v := (vN (crT (g.ts.getD t ((0, 0, 0) : Nat × Nat × Nat)) (i % 3)))) rfl (wt_some' rfl) (ex_load_rowR_one (v := (vN (crT (g.ts.getD t ((0, 0, 0) : Nat × Nat × Nat)) (i % 3)))) (i := 3) rfl rfl (RowOk.ne g.mx.b.ok (by omega)) tO3 (rowsL_at t3L_len ((0, 0, 0) : Nat × Nat × Nat) _ _ (i % 3) (by omega) (by omega) (t3_at (by omega)))) rfl rfl (OkE.pas (v := (pP b2 1)) rfl (wt_some' rfl) (ex_fieldAddr rfl Tryz.underlying31 rfl Tryz.sizeOf28 rfl) rfl rfl ?_)))))
      refine OkE.pas (v := (Value.slice g.mx.b.p g.ts.length g.mx.b.c)) rfl (wt_some' rfl) (ex_load_one (i := 1) (v := (Value.slice g.mx.b.p g.ts.length g.mx.b.c)) rfl rfl tO28.a rfl) rfl rfl (OkE.pas (v := (vN s)) rfl (wt_some' rfl) (ex_move rfl) rfl rfl (OkE.pas (v := (vN i)) rfl (wt_some' rfl) (ex_move rfl) rfl rfl (OkE.pas (v := (vN (i / 3))) rfl (wt_some' rfl) (ex_quo (c := ((i / 3 : Nat) : Int)) rfl rfl (by omega) (quoN_i64 (a := i) (b := 3) (by omega))) rfl rfl (OkE.pas (v := (pP (pB g.mx.b.p) (pO g.mx.b.p + s * 3))) rfl (wt_some' rfl) (ex_index_row (j := s) rfl rfl g.mx.b.ok Tryz.underlying28 Tryz.sizeOf45 rfl (by omega)) rfl rfl (OkE.pas (v := (pP (pB g.mx.b.p) (pO g.mx.b.p + (s * 3 + (i / 3))))) rfl (wt_some' rfl) (ex_indexAddr_array (j := i / 3) rfl rfl Tryz.underlying45 Tryz.sizeOf3 rfl (by omega) (by rw [Nat.mul_one]; exact Nat.add_assoc _ _ _)) rfl rfl ?_)))))
      refine OkE.pas (v := (vN (crT (g.ts.getD s ((0, 0, 0) : Nat × Nat × Nat)) (i / 3)))) rfl (wt_some' rfl) (ex_load_rowR_one (v := (vN (crT (g.ts.getD s ((0, 0, 0) : Nat × Nat × Nat)) (i / 3)))) (i := 3) rfl rfl (RowOk.ne g.mx.b.ok (by omega)) tO3 (rowsL_at t3L_len ((0, 0, 0) : Nat × Nat × Nat) _ _ (i / 3) (by omega) (by omega) (t3_at (by omega)))) rfl rfl (OkE.pas (v := (Value.bool (decide ((crT (g.ts.getD t ((0, 0, 0) : Nat × Nat × Nat)) (i % 3)) = (crT (g.ts.getD s ((0, 0, 0) : Nat × Nat × Nat)) (i / 3)))))) rfl (wt_some' rfl) (ex_eql (c := (decide ((crT (g.ts.getD t ((0, 0, 0) : Nat × Nat × Nat)) (i % 3)) = (crT (g.ts.getD s ((0, 0, 0) : Nat × Nat × Nat)) (i / 3))))) rfl rfl (eqN (a := crT (g.ts.getD t ((0, 0, 0) : Nat × Nat × Nat)) (i % 3)) (b := crT (g.ts.getD s ((0, 0, 0) : Nat × Nat × Nat)) (i / 3)))) rfl rfl (pE' (v := (Value.bool (decide ((crT (g.ts.getD t ((0, 0, 0) : Nat × Nat × Nat)) (i % 3)) = (crT (g.ts.getD s ((0, 0, 0) : Nat × Nat × Nat)) (i / 3)))))) rfl (ex_pick_false rfl rfl) (pS' rfl (OkE.nil (OkQ.subF (sL [3, 4, 5, 7, 6, 8, 10, 9] rfl) ?_)))))
      refine OkQ.in_normal (OkQ.then_ (OkC.region (mv' rfl (st' (ex_add (c := ((i + 1 : Nat) : Int)) rfl rfl (addN_i64 (a := i) (b := 1) (by omega))) rfl (asg' rfl ?_)))))
      exact OkL.nil (OkQ.subF (sL [3, 4, 5, 7, 6, 8, 10, 9] rfl) (OkQ.round2 (i + 1) (decide ((crT (g.ts.getD t ((0, 0, 0) : Nat × Nat × Nat)) (i % 3)) = (crT (g.ts.getD s ((0, 0, 0) : Nat × Nat × Nat)) (i / 3)))) (⟨by omega, by show _ = (tchB A B i || _); rw [← hfd, hs20]; first | rfl | (rw [hA, hB]; rfl)⟩) (by omega) (sF rfl) sr))
    ·replace hc5 := of_decide_eq_false hc5
     have hft : fd = true → pa.l.getD s 0 = pa.l.getD t 0 := fun h9 => tchB_pts pa.pts (by omega) (by omega) (by rw [← hA, ← hB, show (9 : Nat) = i by omega, ← hfd]; exact h9)
     refine OkC.exit (OkQ.then_exit (OkQ.round2_exit (OkQ.in_exit (q1 ?_))))
     by_cases hs21 : fd = true
     ·skip
      rw [hs21]
      refine rG' [(0, true), (1, true), (2, true), (3, true), (4, true), (5, true), (6, true), (7, true), (8, true), (9, true), (10, true), (11, true)] sr (pM' rfl (pM' rfl (OkE.pas (v := (Value.slice pa.r.p pa.l.length pa.r.c)) rfl (wt_some' rfl) (ex_move rfl) rfl rfl (OkE.pas (v := (vN s)) rfl (wt_some' rfl) (ex_move rfl) rfl rfl (OkE.pas (v := (pP (pB pa.r.p) (pO pa.r.p + s * 1))) rfl (wt_some' rfl) (ex_index_row (j := s) rfl rfl pa.r.ok Tryz.underlying34 Tryz.sizeOf3 rfl (by omega)) rfl rfl ?_)))))
      refine OkE.pas (v := (vI (pa.l.getD s 0))) rfl (wt_some' rfl) (ex_load_rowR_one (v := (vI (pa.l.getD s 0))) (i := 0) rfl rfl (pa.r.ok.ne (by omega)) tO3 (zL_get (l := pa.l) (j := s) (by omega))) rfl rfl (OkE.pas (v := (Value.slice pa.r.p pa.l.length pa.r.c)) rfl (wt_some' rfl) (ex_move rfl) rfl rfl (OkE.pas (v := (vN t)) rfl (wt_some' rfl) (ex_move rfl) rfl rfl (OkE.pas (v := (pP (pB pa.r.p) (pO pa.r.p + t * 1))) rfl (wt_some' rfl) (ex_index_row (j := t) rfl rfl pa.r.ok Tryz.underlying34 Tryz.sizeOf3 rfl (by omega)) rfl rfl (OkE.pas (v := (vI (pa.l.getD t 0))) rfl (wt_some' rfl) (ex_load_rowR_one (v := (vI (pa.l.getD t 0))) (i := 0) rfl rfl (pa.r.ok.ne (by omega)) tO3 (zL_get (l := pa.l) (j := t) (by omega))) rfl rfl (OkE.pas (v := (Value.bool false)) rfl (wt_some' rfl) (ex_neq (c := false) rfl rfl (by first | exact decide_eq_false (fun h9 => h9 (hft hs21)) | simp [hft hs21])) rfl rfl ?_)))))
      refine pE' (v := (Value.bool false)) rfl (ex_pick_true rfl rfl) (OkE.nil (OkQ.subF (sL [3, 4, 5, 7, 6, 8, 10, 9, 99] rfl) (OkQ.then_ (OkC.cond_false rfl (OkC.skip ?_)))))
      refine OkQ.in_normal (OkQ.then_ (OkC.region (mv' rfl (st' (ex_add (c := ((s + 1 : Nat) : Int)) rfl rfl (addN_i64 (a := s) (b := 1) (by omega))) rfl (asg' rfl ?_)))))
      exact OkL.nil (OkQ.subF (sL [3, 4, 5, 7, 6, 8, 10, 9] rfl) (OkQ.round1 (s + 1) (by omega) (by omega) (sF rfl) sr))
     ·skip
      rw [Bool.not_eq_true] at hs21
      rw [hs21]
      refine rG' [(0, true), (1, true), (2, true), (3, true), (4, true), (5, true), (6, true), (7, true), (8, true), (9, true), (10, true), (11, true)] sr (pM' rfl (pM' rfl (OkE.skp rfl (wt_not' rfl) rfl rfl (OkE.skp rfl (wt_not' rfl) rfl rfl (OkE.skp rfl (wt_not' rfl) rfl rfl ?_)))))
      refine OkE.skp rfl (wt_not' rfl) rfl rfl (OkE.skp rfl (wt_not' rfl) rfl rfl (OkE.skp rfl (wt_not' rfl) rfl rfl (OkE.skp rfl (wt_not' rfl) rfl rfl (OkE.skp rfl (wt_not' rfl) rfl rfl (OkE.skp rfl (wt_not' rfl) rfl rfl ?_)))))
      refine pE' (v := (Value.bool false)) rfl (ex_pick_false rfl rfl) (OkE.nil (OkQ.subF (sL [3, 4, 5, 7, 6, 8, 10, 9, 99] rfl) (OkQ.then_ (OkC.cond_false rfl (OkC.skip ?_)))))
      refine OkQ.in_normal (OkQ.then_ (OkC.region (mv' rfl (st' (ex_add (c := ((s + 1 : Nat) : Int)) rfl rfl (addN_i64 (a := s) (b := 1) (by omega))) rfl (asg' rfl ?_)))))
      exact OkL.nil (OkQ.subF (sL [3, 4, 5, 7, 6, 8, 10, 9] rfl) (OkQ.round1 (s + 1) (by omega) (by omega) (sF rfl) sr))
   ·replace hc4 := of_decide_eq_false hc4
    refine OkC.exit (OkQ.then_exit (OkQ.round1_exit (OkQ.in_exit (OkQ.in_normal (OkQ.then_ ?_)))))
    exact OkC.region (mv' rfl (st' (ex_add (c := ((t + 1 : Nat) : Int)) rfl rfl (addN_i64 (a := t) (b := 1) (by omega))) rfl (asg' rfl (OkL.nil (OkQ.subF (sL [3, 4, 5, 7, 6, 8] rfl) (OkQ.round2 (t + 1) (nx + 1) (⟨by omega, by omega, fun s hs => by rcases Nat.lt_or_ge s t with h9 | h9; have h8 := hjn s h9; omega; rw [show s = t by omega]; show pa.l.getD t 0 < _; omega⟩) (by omega) (sF rfl) sr))))))
  ·replace hc3 := of_decide_eq_false hc3
   refine OkC.skip (q2 (asg' rfl (OkL.nil (OkQ.then_ (OkC.block ?_)))))
   refine OkC.lp1 (tg fun (s : Nat) => s ≤ t) (tg fun (s : Nat) => [(3, (pP b2 0)), (4, (Value.slice pa.r.p pa.l.length pa.r.c)), (5, (vN pa.n)), (7, (vN t)), (6, (vN nx)), (8, (vN s))]) (tg fun (s : Nat) => [rowR pa.r.p (zL pa.l), blk b2 31 (mxL g.mx), rowR g.mx.a.p (rowsL ptL g.ps), rowR g.mx.b.p (rowsL t3L g.ts), rowR g.mx.c.p (rowsL t3L g.ss), blk b1 26 (mqL m), rowR m.p (bytL m.cs)]) (tg fun (s : Nat) => t - s) 0 (Nat.zero_le _) (sF rfl) sr (fun s hJ => ?_)
   have hsl := hJ
   refine OkC.seq (q4 (mv' rfl (mv' rfl (st' (ex_lss (c := (decide (s < t))) rfl rfl (ltN (a := s) (b := t))) rfl (OkL.nil ?_)))))
   refine OkQ.subF (sL [3, 4, 5, 7, 6, 8, 61] rfl) (OkQ.then_ ?_)
   refine OkC.cond rfl (fun hc4 => ?_) (fun hc4 => ?_)
   ·replace hc4 := of_decide_eq_true hc4
    obtain ⟨B, hB⟩ : ∃ q, q = g.ts.getD s (0, 0, 0) := ⟨_, rfl⟩
    have hrg2 := pa.pts.rng s (by omega)
    refine OkC.skip (q1 (OkC.block (q4 (asg' rfl (OkL.nil ?_)))))
    refine q1 (q4 (asg' rfl (OkL.nil (OkQ.then_ (OkC.block ?_)))))
    refine OkC.lp2 (tg fun (i : Nat) (fd : Bool) => i ≤ 9 ∧ fd = tchB A B i) (tg fun (i : Nat) (fd : Bool) => [(3, (pP b2 0)), (4, (Value.slice pa.r.p pa.l.length pa.r.c)), (5, (vN pa.n)), (7, (vN t)), (6, (vN nx)), (8, (vN s)), (10, (vN i)), (9, (Value.bool fd))]) (tg fun (i : Nat) (fd : Bool) => [rowR pa.r.p (zL pa.l), blk b2 31 (mxL g.mx), rowR g.mx.a.p (rowsL ptL g.ps), rowR g.mx.b.p (rowsL t3L g.ts), rowR g.mx.c.p (rowsL t3L g.ss), blk b1 26 (mqL m), rowR m.p (bytL m.cs)]) (tg fun (i : Nat) (fd : Bool) => 9 - i) 0 false (⟨Nat.zero_le _, rfl⟩) (sF rfl) sr (fun i fd hJ => ?_)
    obtain ⟨hi9, hfd⟩ := hJ
    refine OkC.seq (q4 (mv' rfl (st' (ex_lss (c := (decide (i < 9))) rfl rfl (ltN (a := i) (b := 9))) rfl (OkL.nil (OkQ.subF (sL [3, 4, 5, 7, 6, 8, 10, 9, 65] rfl) ?_)))))
    refine OkQ.then_ ?_
    refine OkC.cond rfl (fun hc5 => ?_) (fun hc5 => ?_)
    ·replace hc5 := of_decide_eq_true hc5
     refine OkC.skip (q1 (OkC.block ?_))
     by_cases hs20 : fd = true
     ·skip
      rw [hs20]
      refine rG' [(0, true), (1, true), (2, true), (3, true), (4, true), (5, true), (6, true), (7, true), (8, true), (9, true), (10, true), (11, true), (12, true), (13, true), (14, true), (15, true), (16, true), (17, true), (18, true), (19, true), (20, true)] sr (pM' rfl (pM' rfl (OkE.skp rfl (wt_not' rfl) rfl rfl (OkE.skp rfl (wt_not' rfl) rfl rfl (OkE.skp rfl (wt_not' rfl) rfl rfl ?_)))))
      refine OkE.skp rfl (wt_not' rfl) rfl rfl (OkE.skp rfl (wt_not' rfl) rfl rfl (OkE.skp rfl (wt_not' rfl) rfl rfl (OkE.skp rfl (wt_not' rfl) rfl rfl (OkE.skp rfl (wt_not' rfl) rfl rfl (OkE.skp rfl (wt_not' rfl) rfl rfl ?_)))))
      refine OkE.skp rfl (wt_not' rfl) rfl rfl (OkE.skp rfl (wt_not' rfl) rfl rfl (OkE.skp rfl (wt_not' rfl) rfl rfl (OkE.skp rfl (wt_not' rfl) rfl rfl (OkE.skp rfl (wt_not' rfl) rfl rfl (OkE.skp rfl (wt_not' rfl) rfl rfl ?_)))))
      refine OkE.skp rfl (wt_not' rfl) rfl rfl (OkE.skp rfl (wt_not' rfl) rfl rfl (pE' (v := (Value.bool true)) rfl (ex_pick_true rfl rfl) (pS' rfl (OkE.nil (OkQ.subF (sL [3, 4, 5, 7, 6, 8, 10, 9] rfl) ?_)))))
      refine OkQ.in_normal (OkQ.then_ (OkC.region (mv' rfl (st' (ex_add (c := ((i + 1 : Nat) : Int)) rfl rfl (addN_i64 (a := i) (b := 1) (by omega))) rfl (asg' rfl ?_)))))
      exact OkL.nil (OkQ.subF (sL [3, 4, 5, 7, 6, 8, 10, 9] rfl) (OkQ.round2 (i + 1) true (⟨by omega, by show _ = (tchB A B i || _); rw [← hfd, hs20]; first | rfl | (rw [hA, hB]; rfl)⟩) (by omega) (sF rfl) sr))
     ·skip
      rw [Bool.not_eq_true] at hs20
      rw [hs20]
      refine rG' [(0, true), (1, true), (2, true), (3, true), (4, true), (5, true), (6, true), (7, true), (8, true), (9, true), (10, true), (11, true), (12, true), (13, true), (14, true), (15, true), (16, true), (17, true), (18, true), (19, true), (20, true)] sr (pM' rfl (pM' rfl (OkE.pas (v := (pP b2 1)) rfl (wt_some' rfl) (ex_fieldAddr rfl Tryz.underlying31 rfl Tryz.sizeOf28 rfl) rfl rfl (OkE.pas (v := (Value.slice g.mx.b.p g.ts.length g.mx.b.c)) rfl (wt_some' rfl) (ex_load_one (i := 1) (v := (Value.slice g.mx.b.p g.ts.length g.mx.b.c)) rfl rfl tO28.a rfl) rfl rfl (OkE.pas (v := (vN t)) rfl (wt_some' rfl) (ex_move rfl) rfl rfl ?_)))))
      refine OkE.pas (v := (vN i)) rfl (wt_some' rfl) (ex_move rfl) rfl rfl (OkE.pas (v := (vN (i % 3))) rfl (wt_some' rfl) (ex_rem (c := ((i % 3 : Nat) : Int)) rfl rfl (by omega) (remN (a := i) (b := 3))) rfl rfl (OkE.pas (v := (pP (pB g.mx.b.p) (pO g.mx.b.p + t * 3))) rfl (wt_some' rfl) (ex_index_row (j := t) rfl rfl g.mx.b.ok Tryz.underlying28 Tryz.sizeOf45 rfl (by omega)) rfl rfl (OkE.pas (v := (pP (pB g.mx.b.p) (pO g.mx.b.p + (t * 3 + (i % 3))))) rfl (wt_some' rfl) (ex_indexAddr_array (j := i % 3) rfl rfl Tryz.underlying45 Tryz.sizeOf3 rfl (by omega) (by rw [Nat.mul_one]; exact Nat.add_assoc _ _ _)) rfl rfl (OkE.pas (v := (vN (crT (g.ts.getD t ((0, 0, 0) : Nat × Nat × Nat)) (i % 3)))) rfl (wt_some' rfl) (ex_load_rowR_one (v := (vN (crT (g.ts.getD t ((0, 0, 0) : Nat × Nat × Nat)) (i % 3)))) (i := 3) rfl rfl (RowOk.ne g.mx.b.ok (by omega)) tO3 (rowsL_at t3L_len ((0, 0, 0) : Nat × Nat × Nat) _ _ (i % 3) (by omega) (by omega) (t3_at (by omega)))) rfl rfl (OkE.pas (v := (pP b2 1)) rfl (wt_some' rfl) (ex_fieldAddr rfl Tryz.underlying31 rfl Tryz.sizeOf28 rfl) rfl rfl ?_)))))
      refine OkE.pas (v := (Value.slice g.mx.b.p g.ts.length g.mx.b.c)) rfl (wt_some' rfl) (ex_load_one (i := 1) (v := (Value.slice g.mx.b.p g.ts.length g.mx.b.c)) rfl rfl tO28.a rfl) rfl rfl (OkE.pas (v := (vN s)) rfl (wt_some' rfl) (ex_move rfl) rfl rfl (OkE.pas (v := (vN i)) rfl (wt_some' rfl) (ex_move rfl) rfl rfl (OkE.pas (v := (vN (i / 3))) rfl (wt_some' rfl) (ex_quo (c := ((i / 3 : Nat) : Int)) rfl rfl (by omega) (quoN_i64 (a := i) (b := 3) (by omega))) rfl rfl (OkE.pas (v := (pP (pB g.mx.b.p) (pO g.mx.b.p + s * 3))) rfl (wt_some' rfl) (ex_index_row (j := s) rfl rfl g.mx.b.ok Tryz.underlying28 Tryz.sizeOf45 rfl (by omega)) rfl rfl (OkE.pas (v := (pP (pB g.mx.b.p) (pO g.mx.b.p + (s * 3 + (i / 3))))) rfl (wt_some' rfl) (ex_indexAddr_array (j := i / 3) rfl rfl Tryz.underlying45 Tryz.sizeOf3 rfl (by omega) (by rw [Nat.mul_one]; exact Nat.add_assoc _ _ _)) rfl rfl ?_)))))
      refine OkE.pas (v := (vN (crT (g.ts.getD s ((0, 0, 0) : Nat × Nat × Nat)) (i / 3)))) rfl (wt_some' rfl) (ex_load_rowR_one (v := (vN (crT (g.ts.getD s ((0, 0, 0) : Nat × Nat × Nat)) (i / 3)))) (i := 3) rfl rfl (RowOk.ne g.mx.b.ok (by omega)) tO3 (rowsL_at t3L_len ((0, 0, 0) : Nat × Nat × Nat) _ _ (i / 3) (by omega) (by omega) (t3_at (by omega)))) rfl rfl (OkE.pas (v := (Value.bool (decide ((crT (g.ts.getD t ((0, 0, 0) : Nat × Nat × Nat)) (i % 3)) = (crT (g.ts.getD s ((0, 0, 0) : Nat × Nat × Nat)) (i / 3)))))) rfl (wt_some' rfl) (ex_eql (c := (decide ((crT (g.ts.getD t ((0, 0, 0) : Nat × Nat × Nat)) (i % 3)) = (crT (g.ts.getD s ((0, 0, 0) : Nat × Nat × Nat)) (i / 3))))) rfl rfl (eqN (a := crT (g.ts.getD t ((0, 0, 0) : Nat × Nat × Nat)) (i % 3)) (b := crT (g.ts.getD s ((0, 0, 0) : Nat × Nat × Nat)) (i / 3)))) rfl rfl (pE' (v := (Value.bool (decide ((crT (g.ts.getD t ((0, 0, 0) : Nat × Nat × Nat)) (i % 3)) = (crT (g.ts.getD s ((0, 0, 0) : Nat × Nat × Nat)) (i / 3)))))) rfl (ex_pick_false rfl rfl) (pS' rfl (OkE.nil (OkQ.subF (sL [3, 4, 5, 7, 6, 8, 10, 9] rfl) ?_)))))
      refine OkQ.in_normal (OkQ.then_ (OkC.region (mv' rfl (st' (ex_add (c := ((i + 1 : Nat) : Int)) rfl rfl (addN_i64 (a := i) (b := 1) (by omega))) rfl (asg' rfl ?_)))))
      exact OkL.nil (OkQ.subF (sL [3, 4, 5, 7, 6, 8, 10, 9] rfl) (OkQ.round2 (i + 1) (decide ((crT (g.ts.getD t ((0, 0, 0) : Nat × Nat × Nat)) (i % 3)) = (crT (g.ts.getD s ((0, 0, 0) : Nat × Nat × Nat)) (i / 3)))) (⟨by omega, by show _ = (tchB A B i || _); rw [← hfd, hs20]; first | rfl | (rw [hA, hB]; rfl)⟩) (by omega) (sF rfl) sr))
    ·replace hc5 := of_decide_eq_false hc5
     have hft : fd = true → pa.l.getD s 0 = pa.l.getD t 0 := fun h9 => tchB_pts pa.pts (by omega) (by omega) (by rw [← hA, ← hB, show (9 : Nat) = i by omega, ← hfd]; exact h9)
     refine OkC.exit (OkQ.then_exit (OkQ.round2_exit (OkQ.in_exit (q1 ?_))))
     by_cases hs21 : fd = true
     ·skip
      rw [hs21]
      refine rG' [(0, true), (1, true), (2, true), (3, true), (4, true), (5, true), (6, true), (7, true), (8, true), (9, true), (10, true), (11, true)] sr (pM' rfl (pM' rfl (OkE.pas (v := (Value.slice pa.r.p pa.l.length pa.r.c)) rfl (wt_some' rfl) (ex_move rfl) rfl rfl (OkE.pas (v := (vN s)) rfl (wt_some' rfl) (ex_move rfl) rfl rfl (OkE.pas (v := (pP (pB pa.r.p) (pO pa.r.p + s * 1))) rfl (wt_some' rfl) (ex_index_row (j := s) rfl rfl pa.r.ok Tryz.underlying34 Tryz.sizeOf3 rfl (by omega)) rfl rfl ?_)))))
      refine OkE.pas (v := (vI (pa.l.getD s 0))) rfl (wt_some' rfl) (ex_load_rowR_one (v := (vI (pa.l.getD s 0))) (i := 0) rfl rfl (pa.r.ok.ne (by omega)) tO3 (zL_get (l := pa.l) (j := s) (by omega))) rfl rfl (OkE.pas (v := (Value.slice pa.r.p pa.l.length pa.r.c)) rfl (wt_some' rfl) (ex_move rfl) rfl rfl (OkE.pas (v := (vN t)) rfl (wt_some' rfl) (ex_move rfl) rfl rfl (OkE.pas (v := (pP (pB pa.r.p) (pO pa.r.p + t * 1))) rfl (wt_some' rfl) (ex_index_row (j := t) rfl rfl pa.r.ok Tryz.underlying34 Tryz.sizeOf3 rfl (by omega)) rfl rfl (OkE.pas (v := (vI (pa.l.getD t 0))) rfl (wt_some' rfl) (ex_load_rowR_one (v := (vI (pa.l.getD t 0))) (i := 0) rfl rfl (pa.r.ok.ne (by omega)) tO3 (zL_get (l := pa.l) (j := t) (by omega))) rfl rfl (OkE.pas (v := (Value.bool false)) rfl (wt_some' rfl) (ex_neq (c := false) rfl rfl (by first | exact decide_eq_false (fun h9 => h9 (hft hs21)) | simp [hft hs21])) rfl rfl ?_)))))
      refine pE' (v := (Value.bool false)) rfl (ex_pick_true rfl rfl) (OkE.nil (OkQ.subF (sL [3, 4, 5, 7, 6, 8, 10, 9, 99] rfl) (OkQ.then_ (OkC.cond_false rfl (OkC.skip ?_)))))
      refine OkQ.in_normal (OkQ.then_ (OkC.region (mv' rfl (st' (ex_add (c := ((s + 1 : Nat) : Int)) rfl rfl (addN_i64 (a := s) (b := 1) (by omega))) rfl (asg' rfl ?_)))))
      exact OkL.nil (OkQ.subF (sL [3, 4, 5, 7, 6, 8, 10, 9] rfl) (OkQ.round1 (s + 1) (by omega) (by omega) (sF rfl) sr))
     ·skip
      rw [Bool.not_eq_true] at hs21
      rw [hs21]
      refine rG' [(0, true), (1, true), (2, true), (3, true), (4, true), (5, true), (6, true), (7, true), (8, true), (9, true), (10, true), (11, true)] sr (pM' rfl (pM' rfl (OkE.skp rfl (wt_not' rfl) rfl rfl (OkE.skp rfl (wt_not' rfl) rfl rfl (OkE.skp rfl (wt_not' rfl) rfl rfl ?_)))))
      refine OkE.skp rfl (wt_not' rfl) rfl rfl (OkE.skp rfl (wt_not' rfl) rfl rfl (OkE.skp rfl (wt_not' rfl) rfl rfl (OkE.skp rfl (wt_not' rfl) rfl rfl (OkE.skp rfl (wt_not' rfl) rfl rfl (OkE.skp rfl (wt_not' rfl) rfl rfl ?_)))))
      refine pE' (v := (Value.bool false)) rfl (ex_pick_false rfl rfl) (OkE.nil (OkQ.subF (sL [3, 4, 5, 7, 6, 8, 10, 9, 99] rfl) (OkQ.then_ (OkC.cond_false rfl (OkC.skip ?_)))))
      refine OkQ.in_normal (OkQ.then_ (OkC.region (mv' rfl (st' (ex_add (c := ((s + 1 : Nat) : Int)) rfl rfl (addN_i64 (a := s) (b := 1) (by omega))) rfl (asg' rfl ?_)))))
      exact OkL.nil (OkQ.subF (sL [3, 4, 5, 7, 6, 8, 10, 9] rfl) (OkQ.round1 (s + 1) (by omega) (by omega) (sF rfl) sr))
   ·replace hc4 := of_decide_eq_false hc4
    refine OkC.exit (OkQ.then_exit (OkQ.round1_exit (OkQ.in_exit (OkQ.in_normal (OkQ.then_ ?_)))))
    exact OkC.region (mv' rfl (st' (ex_add (c := ((t + 1 : Nat) : Int)) rfl rfl (addN_i64 (a := t) (b := 1) (by omega))) rfl (asg' rfl (OkL.nil (OkQ.subF (sL [3, 4, 5, 7, 6, 8] rfl) (OkQ.round2 (t + 1) nx (⟨by omega, by omega, fun s hs => by rcases Nat.lt_or_ge s t with h9 | h9; have h8 := hjn s h9; omega; rw [show s = t by omega]; show pa.l.getD t 0 < _; omega⟩) (by omega) (sF rfl) sr))))))
 ·replace hc1 := of_decide_eq_false hc1
  have hnx2 := next_all pa.pts (nx := nx) (fun s hs => hjn s (by omega)) hnx
  refine OkC.exit (OkQ.then_exit (OkQ.round2_exit (OkQ.in_exit (q2 (asg' rfl ?_)))))
  refine OkL.nil (q1 (q4 (asg' rfl (OkL.nil (OkQ.then_ ?_)))))
  refine OkC.block ?_
  refine OkC.lp1 (tg fun (kk : Nat) => kk ≤ pa.n) (tg fun (kk : Nat) => [(3, (pP b2 0)), (4, (Value.slice pa.r.p pa.l.length pa.r.c)), (5, (vN pa.n)), (6, (vN nx)), (12, (vN kk)), (11, (vI (sumE g.ts pa.l kk)))]) (tg fun (kk : Nat) => [rowR pa.r.p (zL pa.l), blk b2 31 (mxL g.mx), rowR g.mx.a.p (rowsL ptL g.ps), rowR g.mx.b.p (rowsL t3L g.ts), rowR g.mx.c.p (rowsL t3L g.ss), blk b1 26 (mqL m), rowR m.p (bytL m.cs)]) (tg fun (kk : Nat) => pa.n - kk) 0 (Nat.zero_le _) (sF rfl) sr (fun kk hJ => ?_)
  have hkk := hJ
  refine OkC.seq (q4 (mv' rfl (mv' rfl (st' (ex_lss (c := (decide (kk < pa.n))) rfl rfl (ltN (a := kk) (b := pa.n))) rfl (OkL.nil ?_)))))
  refine OkQ.subF (sL [3, 4, 5, 6, 12, 11, 102] rfl) (OkQ.then_ ?_)
  refine OkC.cond rfl (fun hc7 => ?_) (fun hc7 => ?_)
  ·replace hc7 := of_decide_eq_true hc7
   have hsl := sumE_le (ts := g.ts) (l := pa.l) kk
   have hb1 : 4 * (g.ts.length : Int) * (kk : Int) ≤ 4 * 36 * 36 := Int.mul_le_mul (by omega) (by omega) (by omega) (by omega)
   have hb2 : 3 * (g.ts.length : Int) * (kk : Int) ≤ 3 * 36 * 36 := Int.mul_le_mul (by omega) (by omega) (by omega) (by omega)
   refine OkC.skip (q1 (OkC.block (q4 (st' (v := (pP b2 0)) (ex_fieldAddr rfl Tryz.underlying31 rfl Tryz.sizeOf27 rfl) rfl (ldO' 1 (Value.slice g.mx.a.p g.ps.length g.mx.a.c) tO27 rfl ?_)))))
   refine st' (v := (aG ([(Value.slice g.mx.a.p g.ps.length g.mx.a.c), (Value.slice none 0 0), (Value.slice none 0 0)]))) (ex_build_struct (zs := [(Value.slice none 0 0), (Value.slice none 0 0), (Value.slice none 0 0)]) (vs := [(Value.slice g.mx.a.p g.ps.length g.mx.a.c), (Value.slice none 0 0), (Value.slice none 0 0)]) (pv := [(0, (Value.slice g.mx.a.p g.ps.length g.mx.a.c))]) (places := [(0, 1), (1, 1), (2, 1)]) Tryz.zeroValue31 Tryz.underlying31 (fun w => by simp [Tryz.sizeOf27, Tryz.sizeOf28, Tryz.sizeOf29]) rfl rfl) rfl (al tZ31 rfl fun b3 => stW0' rfl Tryz.sizeOf31 rfl (OkL.nilRow 45 3 (q6 (sL [3, 4, 5, 6, 12, 11, 13] rfl) (q4 ?_))))
   refine asg' rfl (OkL.nil (OkQ.then_ (OkC.block ?_)))
   refine OkC.lp3 (tg fun (q : Nat) (pp : Option Addr) (cp : Nat) => q ≤ g.ts.length ∧ OwnOk pp (prtN g.ts pa.l kk q).length cp) (tg fun (q : Nat) (pp : Option Addr) (cp : Nat) => [(3, (pP b2 0)), (4, (Value.slice pa.r.p pa.l.length pa.r.c)), (5, (vN pa.n)), (6, (vN nx)), (12, (vN kk)), (11, (vI (sumE g.ts pa.l kk))), (13, (pP b3 0)), (14, (vN q))]) (tg fun (q : Nat) (pp : Option Addr) (cp : Nat) => [rowW pp 45 3 ((prtN g.ts pa.l kk q).length) cp (rowsL t3L (prtN g.ts pa.l kk q)), blk b3 31 ([(Value.slice g.mx.a.p g.ps.length g.mx.a.c), (Value.slice pp ((prtN g.ts pa.l kk q).length) cp), (Value.slice none 0 0)]), rowR pa.r.p (zL pa.l), blk b2 31 (mxL g.mx), rowR g.mx.a.p (rowsL ptL g.ps), rowR g.mx.b.p (rowsL t3L g.ts), rowR g.mx.c.p (rowsL t3L g.ss), blk b1 26 (mqL m), rowR m.p (bytL m.cs)]) (tg fun (q : Nat) (pp : Option Addr) (cp : Nat) => g.ts.length - q) 0 none 0 (⟨Nat.zero_le _, OwnOk.none⟩) (sF rfl) sr (fun q pp cp hJ => ?_)
   obtain ⟨hq, hop⟩ := hJ
   have hpql := prtN_len (ts := g.ts) (l := pa.l) (k := kk) (q := q)
   refine OkC.seq (q4 (mv' rfl (mv' rfl (st' (v := (vN pa.l.length)) (ex_len_slice rfl Tryz.underlying34) rfl (st' (ex_lss (c := (decide (q < pa.l.length))) rfl rfl (ltN (a := q) (b := pa.l.length))) rfl ?_)))))
   refine OkL.nil (OkQ.subF (sL [3, 4, 5, 6, 12, 11, 13, 14, 111] rfl) (OkQ.then_ ?_))
   refine OkC.cond rfl (fun hc8 => ?_) (fun hc8 => ?_)
   ·replace hc8 := of_decide_eq_true hc8
    refine OkC.skip (q1 (OkC.block (q4 (mv' rfl (mv' rfl ?_)))))
    refine st' (v := (pP (pB pa.r.p) (pO pa.r.p + q * 1))) (ex_index_row (j := q) rfl rfl pa.r.ok Tryz.underlying34 Tryz.sizeOf3 rfl (by omega)) rfl (st' (ex_load_rowR_one (v := (vI (pa.l.getD q 0))) (i := 2) rfl rfl (pa.r.ok.ne (by omega)) tO3 (zL_get (l := pa.l) (j := q) (by omega))) rfl (mv' rfl (st' (ex_eql (c := (decide ((pa.l.getD q 0) = ((kk : Nat) : Int)))) rfl rfl rfl) rfl (OkL.nil (OkQ.subF (sL [3, 4, 5, 6, 12, 11, 13, 14, 119] rfl) ?_)))))
    refine OkQ.then_ ?_
    refine OkC.cond rfl (fun hc9 => ?_) (fun hc9 => ?_)
    ·replace hc9 := of_decide_eq_true hc9
     refine rC [(0, true), (1, true), (2, true), (3, true), (4, true), (5, true), (6, true), (7, false), (8, false), (9, true)] 10 [] (sl sr) (sl sr) (by kernel_rfl) (fun _ _ d _ _ h => by cases d <;> exact h) (vE (v := (pP b3 1)) rfl (ex_fieldAddr rfl Tryz.underlying31 rfl Tryz.sizeOf28 rfl) rfl (vE rfl (ex_load_one (i := 0) (v := (Value.slice pp ((prtN g.ts pa.l kk q).length) cp)) rfl rfl tO28.a rfl) rfl (vE (v := (pP b2 1)) rfl (ex_fieldAddr rfl Tryz.underlying31 rfl Tryz.sizeOf28 rfl) rfl (vE rfl (ex_load_one (i := 2) (v := (Value.slice g.mx.b.p g.ts.length g.mx.b.c)) rfl rfl tO28.a rfl) rfl (vM rfl rfl rfl ?_)))))
     refine vE (v := (pP (pB g.mx.b.p) (pO g.mx.b.p + q * 3))) rfl (ex_index_row (j := q) rfl rfl g.mx.b.ok Tryz.underlying28 Tryz.sizeOf45 rfl (by omega)) rfl (vE (v := (aG (t3L (g.ts.getD q ((0, 0, 0) : Nat × Nat × Nat))))) rfl (ex_load_rowR_agg (vs := t3L (g.ts.getD q ((0, 0, 0) : Nat × Nat × Nat))) (i := 4) rfl rfl (RowOk.ne g.mx.b.ok (by omega)) tA45 (rowsL_get t3L_len _ _ _ (by omega)) (t3L_len _)) rfl (OkF.imp rfl (OkL.openV (V := fun b4 => (Value.slice (some ⟨b4, 0, none⟩) 1 1)) (T := 45) (cs := t3L (g.ts.getD q ((0, 0, 0) : Nat × Nat × Nat))) (wt_none rfl) (op_buildSlice (z := .agg (t3L ((0, 0, 0) : Nat × Nat × Nat)).toArray) (cs := t3L (g.ts.getD q ((0, 0, 0) : Nat × Nat × Nat))) (pv := [(0, (aG (t3L (g.ts.getD q ((0, 0, 0) : Nat × Nat × Nat)))))]) Tryz.underlying28 Tryz.sizeOf45 Tryz.zeroValue45 (by decide) (by decide) rfl (tfs_numvc_45_1 (g.ts.getD q ((0, 0, 0) : Nat × Nat × Nat)))) rfl (leB rfl) fun b4 => OkF.back (sl (sl sr)) (OkF.imp rfl ?_))))
     refine OkL.append1 (j := 0) (cs2 := rowsL t3L ((prtN g.ts pa.l kk q) ++ [g.ts.getD q ((0, 0, 0) : Nat × Nat × Nat)])) tE28 rfl hop (rowsL_length t3L_len _) rfl rfl rfl rfl (by decide) (mxl (by omega)) (by omega) (by rw [rowsL_append]; rfl) rfl fun p_1 c_1 ho_1 hne_1 => OkF.back (sl (sl sr)) (vE (v := (pP b3 1)) rfl (ex_fieldAddr rfl Tryz.underlying31 rfl Tryz.sizeOf28 rfl) rfl (OkF.cut rfl (stX 2 (off := 1) (vs := [(Value.slice p_1 (((prtN g.ts pa.l kk q).length) + 1) c_1)]) (cs' := [(Value.slice g.mx.a.p g.ps.length g.mx.a.c), (Value.slice p_1 (((prtN g.ts pa.l kk q).length) + 1) c_1), (Value.slice none 0 0)]) (wt_none rfl) rfl Tryz.sizeOf28 rfl (OkE.back (sl (sl (sl sr))) ?_))))
     refine OkE.nil (OkQ.subF (sL [3, 4, 5, 6, 12, 11, 13, 14] rfl) (OkQ.in_normal (OkQ.then_ (OkC.region (mv' rfl ?_)))))
     refine st' (ex_add (c := ((q + 1 : Nat) : Int)) rfl rfl (addN_i64 (a := q) (b := 1) (by omega))) rfl (asg' rfl (OkL.nil (OkQ.subF (sL [3, 4, 5, 6, 12, 11, 13, 14] rfl) ?_)))
     rw [show (prtN g.ts pa.l kk q).length + 1 = ((prtN g.ts pa.l kk q) ++ [g.ts.getD q ((0, 0, 0) : Nat × Nat × Nat)]).length by simp, ← prtN_yes (q := q) (ts := g.ts) (k := kk) hc9]
     exact OkQ.round3 (q + 1) p_1 c_1 (⟨by omega, by rw [prtN_yes hc9]; simpa using ho_1⟩) (by omega) (sF rfl) (sl sr)
    ·replace hc9 := of_decide_eq_false hc9
     refine OkC.skip (OkQ.in_normal (OkQ.then_ (OkC.region (mv' rfl (st' (ex_add (c := ((q + 1 : Nat) : Int)) rfl rfl (addN_i64 (a := q) (b := 1) (by omega))) rfl ?_)))))
     refine asg' rfl (OkL.nil (OkQ.subF (sL [3, 4, 5, 6, 12, 11, 13, 14] rfl) ?_))
     rw [← prtN_no (q := q) (ts := g.ts) (k := kk) hc9]
     exact OkQ.round3 (q + 1) pp cp (⟨by omega, by rw [prtN_no hc9]; exact hop⟩) (by omega) (sF rfl) sr
   ·replace hc8 := of_decide_eq_false hc8
    obtain ⟨pt, hpt⟩ : ∃ q, q = prtL g.ts pa.l kk := ⟨_, rfl⟩
    have hpq : prtN g.ts pa.l kk q = pt := by rw [hpt, show q = g.ts.length by omega]; rfl
    rw [hpq] at hop hpql
    rw [hpq]
    have hez2 := eulZ_le pt
    refine OkC.exit (OkQ.then_exit (OkQ.round3_exit (OkQ.in_exit (OkQ.then_ (OkC.region ?_)))))
    refine mv' rfl (OkL.frzRow 0 rfl hop (rowsL_length t3L_len _) rfl rfl fun hn_PT => ldW' 1 tA31 rfl (OkL.retell (k := 131) (u := (aG (mxL (⟨g.mx.a, ⟨pp, cp, hop.row⟩, ⟨none, 0, OwnOk.none.row⟩⟩ : MX g.ps pt [])))) rfl (by rfl) (cl' Tryz.call21 (fun w hw => Euler_ok (⟨g.mx.a, ⟨pp, cp, hop.row⟩, ⟨none, 0, OwnOk.none.row⟩⟩ : MX g.ps pt []) (by rw [hpt]; exact prt_num hnb) (by omega) (by omega) w (roMX3 (roMa (inS hw 4 rfl lg : Ro _ w g.mx)) (inS hw 0 rfl (At.new hn_PT)))) rfl (st' (ex_add (c := (sumE g.ts pa.l kk + eulZ pt)) rfl rfl (wrap_i64 (by omega) (by omega))) rfl ?_))))
    refine asg' rfl (OkL.nil (OkQ.subF (sL [3, 4, 5, 6, 12, 11, 13, 14] rfl) (OkQ.in_normal (OkQ.then_ (OkC.region ?_)))))
    refine mv' rfl (st' (ex_add (c := ((kk + 1 : Nat) : Int)) rfl rfl (addN_i64 (a := kk) (b := 1) (by omega))) rfl (asg' rfl (OkL.nil (OkQ.subF (sL [3, 4, 5, 6, 12, 11, 13, 14] rfl) ?_))))
    rw [show sumE g.ts pa.l kk + eulZ pt = sumE g.ts pa.l (kk + 1) by rw [hpt]; rfl]
    exact OkQ.round1 (kk + 1) (by omega) (by omega) (sF rfl) (sl (sl sr))
  ·replace hc7 := of_decide_eq_false hc7
   refine OkC.exit (OkQ.then_exit (OkQ.round1_exit (OkQ.in_exit (q2 (mv' rfl ?_)))))
   refine mv' rfl (st' (ex_eql (c := true) rfl rfl (decide_eq_true (by omega))) rfl (mv' rfl (OkL.step (v := (vI (sumE g.ts pa.l kk))) (wt_some' rfl) (ex_move rfl) rfl (leB rfl) (OkL.step (v := (aG (mxL g.mx))) (wt_some' rfl) (ex_load_agg (i := 1) (vs := mxL g.mx) rfl rfl tA31.a tA31.s rfl rfl) rfl (leB rfl) (OkL.call (v := (vI (eulZ g.ts))) (wt_some' rfl) (op_call0 (args := [(aG (mxL g.mx))]) rfl rfl Tryz.call21) (fun w hw => Euler_ok g.mx hnb (by omega) (by omega) w (inS hw 2 rfl lg : Ro _ w g.mx)) rfl (leB rfl) ?_)))))
   refine OkL.step (v := (Value.bool true)) (wt_some' rfl) (ex_eql (c := true) rfl rfl (decide_eq_true (by rw [show kk = pa.n by omega]; exact hsE))) rfl (leB rfl) (st' (v := (Value.bool true)) (ex_pick_true rfl rfl) rfl (mv' rfl (OkL.call (v := (Value.bool true)) (wt_some' rfl) (op_call0 (args := []) rfl rfl Tryz.call22) (fun w hw => lives26_ok w) rfl (leB rfl) (st' (v := (Value.bool true)) (ex_pick_true rfl rfl) rfl (asg' rfl ?_)))))
   exact OkL.nil (OkQ.subF (sL [3, 4, 5, 6, 12, 11, 2] rfl) (OkQ.then_ (OkC.ret (ret_one rfl (rd_tmp (v := (Value.bool true)) rfl) (fun w hw => ⟨rfl, hw.out⟩)))))
end
end Go.Proofs.YtgiacpkjnikjdaaGreat
