import Derived.Test.YtaahheddmfddhaaGreatPart36
import Derived.Test.YtaahheddmfddhaaGreatPart37
namespace Go.Proofs.YtaahheddmfddhaaGreat
open Go Go.RowKit
set_option linter.unusedVariables false
set_option linter.unusedSimpArgs false
section
set_option maxRecDepth 100000
theorem fill_numug_31_  : Instr.fill ([(0, 1), (1, 1), (2, 1)].toArray[·]?) ([(Value.slice none 0 0), (Value.slice none 0 0), (Value.slice none 0 0)]).toArray [] = some ([(Value.slice none 0 0), (Value.slice none 0 0), (Value.slice none 0 0)]).toArray := by kernel_rfl
set_option maxHeartbeats 1000000 in
theorem Times_ok {ps : List Pt} {ts ss : List T3} (x : MX ps ts ss) (n : Nat) (hn : n ≤ 1000) (hwf0 : WfM (ps, ts, ss)) (w : World) {S : Nat → Prop} (hx : Ro S w x) : Calls Tryz.prog 17 #[(aG (mxL x)), (vN n)] w (GivesR (TmX (timesF n (ps, ts, ss)).1.1 (timesF n (ps, ts, ss)).1.2.1 (timesF n (ps, ts, ss)).1.2.2 (timesF n (ps, ts, ss)).2) S w) := by
 have hnb : numB ps.length ts = true := hwf0.num
 have hp0 : ps.length ≤ 4096 := hwf0.pl
 have ht0 : ts.length ≤ 8192 := hwf0.tl
 have hs0 : ss.length ≤ 24576 := hwf0.sl
 have lx := atA (W := w) hx
 refine calls_ofR (args := [(aG (mxL x)), (vN n)]) (L := [rowR x.a.p (rowsL ptL ps), rowR x.b.p (rowsL t3L ts), rowR x.c.p (rowsL t3L ss)]) Tryz.func17 rfl rfl (leB rfl) (sxA hx roL_nil) (OkC.subF (sL [0, 1] rfl) (q4 (bx' (cs := mxL x) rfl fun b1 => al tZ31 rfl fun b2 => asg' rfl ?_)))
 refine q6 (sL [1, 2, 4, 5] rfl) (q4 (mv' rfl (st' (ex_lss (c := false) rfl rfl (decide_eq_false (by omega))) rfl (mv' rfl (OkL.step (v := (aG (mxL x))) (wt_some' rfl) (ex_load_agg (i := 1) (vs := mxL x) rfl rfl tA31.a tA31.s rfl rfl) rfl (leB rfl) ?_)))))
 refine OkL.call (v := (Value.bool true)) (wt_some' rfl) (op_call0 (args := [(aG (mxL x))]) rfl rfl Tryz.call54) (fun w hw => (by have h9 := Numd_ok x (by omega) w (inS hw 2 rfl lx); rw [hnb] at h9; exact h9)) rfl (leB rfl) (OkL.step (v := (Value.bool false)) (wt_some' rfl) (ex_not (c := false) rfl rfl) rfl (leB rfl) (st' (v := (Value.bool false)) (ex_pick_false rfl rfl) rfl (OkL.nil (OkQ.subF (sL [1, 2, 4, 5, 15] rfl) (OkQ.then_ ?_)))))
 refine OkC.cond_false rfl (OkC.skip (q2 (ldW' 1 tA31 rfl (OkL.callL (S := S) (V := fun a : CpX ps ts ss => aG (cpL a)) (LW := cpW) (args := [(aG (mxL x))]) Tryz.call14 (fun w hw => Copy_ok x (by omega) (by omega) (by omega) w (inS hw 2 rfl lx)) rfl fun cp hcp => stX 4 (off := 0) (vs := [(Value.slice cp.a.p ps.length ps.length), (Value.slice cp.b.p ts.length ts.length), (Value.slice cp.c.p ss.length ss.length)]) (cs' := [(Value.slice cp.a.p ps.length ps.length), (Value.slice cp.b.p ts.length ts.length), (Value.slice cp.c.p ss.length ss.length)]) (wt_none rfl) rfl Tryz.sizeOf31 rfl ?_))))
 refine q6 (sL [1, 2, 4, 5] rfl) (q4 (mv' rfl (OkL.rev3 (OkL.frzRow 0 rfl cp.a.ok (rowsL_length ptL_len _) rfl rfl fun hn_cp_a => OkL.frzRow 1 rfl cp.b.ok (rowsL_length t3L_len _) rfl rfl fun hn_cp_b => ?_))))
 refine OkL.frzRow 2 rfl cp.c.ok (rowsL_length t3L_len _) rfl rfl fun hn_cp_c => mv' rfl (OkL.nil (OkQ.then_ (OkC.block ?_)))
 refine OkC.lp2 (tg fun (i : Nat) (z : ZM) => i ≤ n ∧ WfM (z.ps, z.ts, z.ss) ∧ timesF n (ps, ts, ss) = timesF (n - i) (z.ps, z.ts, z.ss) ∧ At ⟨w, none⟩ S z.mx) (tg fun (i : Nat) (z : ZM) => [(2, (pP b1 0)), (4, (pP b2 0)), (19, (vN n)), (20, (vN i))]) (tg fun (i : Nat) (z : ZM) => [rowR z.mx.a.p (rowsL ptL z.ps), rowR z.mx.b.p (rowsL t3L z.ts), rowR z.mx.c.p (rowsL t3L z.ss), blk b2 31 ([(Value.slice none 0 0), (Value.slice none 0 0), (Value.slice none 0 0)]), blk b1 31 (mxL z.mx), rowR x.a.p (rowsL ptL ps), rowR x.b.p (rowsL t3L ts), rowR x.c.p (rowsL t3L ss)]) (tg fun (i : Nat) (z : ZM) => n - i) 0 (⟨ps, ts, ss, (⟨⟨cp.a.p, ps.length, cp.a.ok.clip⟩, ⟨cp.b.p, ts.length, cp.b.ok.clip⟩, ⟨cp.c.p, ss.length, cp.c.ok.clip⟩⟩ : MX ps ts ss)⟩ : ZM) (⟨Nat.zero_le _, hwf0, rfl, At.mx (At.new hn_cp_a) (At.new hn_cp_b) (At.new hn_cp_c)⟩) (sF rfl) sr (fun i z hJ => ?_)
 obtain ⟨hi, hwf, htm, hy⟩ := hJ
 have hw1 : numB z.ps.length z.ts = true := hwf.num
 have hz9 : ∀ i, SzP (cor z.ps i) ≤ 1000000 := hwf.hz
 have hp9 : z.ps.length ≤ 4096 := hwf.pl
 have ht9 : z.ts.length ≤ 8192 := hwf.tl
 have hs9 : z.ss.length ≤ 24576 := hwf.sl
 have hn9 : 0 < z.ts.length := hwf.ne
 refine q4 (st' (ex_lss (c := (decide (i < n))) rfl rfl (ltN (a := i) (b := n))) rfl (OkL.nil (q1 ?_)))
 refine OkC.cond rfl (fun hc1 => ?_) (fun hc1 => ?_)
 ·replace hc1 := of_decide_eq_true hc1
  refine OkC.skip (q1 (OkC.block (OkC.seq ?_)))
  by_cases hlm : limM (z.ps, z.ts, z.ss)
  ·skip
   refine OkC.region (ldW' 4 tA31 rfl (cRd (S := S) (args := [(aG (mxL z.mx))]) Tryz.call15 (fun w hw => Red_ok z.mx hw1 hz9 (by omega) (by omega) (by omega) hlm w (inS hw 0 rfl hy)) rfl fun rd hm hq => mv' rfl (st' (ex_extract (v := (aG (mxL rd.m))) rfl rfl) rfl (st' (ex_extract (v := (Value.slice rd.q.p ((parN z.ts.length).length) rd.q.c)) rfl rfl) rfl ?_))))
   refine st' (ex_extract (v := (vI 0)) rfl rfl) rfl (al tZ31 rfl fun b3 => stW0' rfl Tryz.sizeOf31 rfl (asg' rfl (asg' rfl (q6 (sL [2, 4, 19, 20, 6, 8] rfl) ?_))))
   refine OkC.block (q4 (mv' rfl (st' (ex_neq (c := false) rfl rfl (by decide)) rfl (asg' rfl (OkL.nil ?_)))))
   refine OkQ.subF (sL [2, 4, 19, 20, 6, 8, 28] rfl) (OkQ.then_ (OkC.cond_false rfl (q4 (st' (v := (pP b1 1)) (ex_fieldAddr rfl Tryz.underlying31 rfl Tryz.sizeOf28 rfl) rfl (ldO' 9 (Value.slice z.mx.b.p z.ts.length z.mx.b.c) tO28 rfl ?_)))))
   refine st' (v := (vN z.ts.length)) (ex_len_slice rfl Tryz.underlying28) rfl (st' (ex_eql (c := false) rfl rfl (decide_eq_false (by omega))) rfl (asg' rfl (OkL.nil (OkQ.subF (sL [2, 4, 19, 20, 6, 8, 33] rfl) (OkQ.then_ ?_)))))
   refine OkC.cond_false rfl (OkC.skip (OkQ.in_normal (OkQ.then_ (OkC.region (ldW' 0 tA31 rfl ?_)))))
   refine stX 9 (off := 0) (vs := mxL rd.m) (cs' := mxL rd.m) (wt_none rfl) rfl Tryz.sizeOf31 rfl (OkL.nil (OkQ.subF (sL [2, 4, 19, 20, 6, 8] rfl) (OkQ.in_normal (OkQ.then_ (OkC.region ?_)))))
   exact st' (ex_add (c := ((i + 1 : Nat) : Int)) rfl rfl (addN_i64 (a := i) (b := 1) (by omega))) rfl (mv' rfl (OkL.nil (OkQ.subF (sL [2, 4, 19, 20, 6, 8] rfl) (OkQ.round2 (i + 1) (⟨halP z.ps (edL z.ts), redT z.ps.length (edL z.ts) z.ts, halX z.ps.length z.ss (edL z.ts) (redT z.ps.length (edL z.ts) z.ts), rd.m⟩ : ZM) (⟨by omega, hwf.red hlm, htm.trans ((timesF_yes hlm (by omega)).trans (by rw [Nat.sub_sub]; rfl)), hm⟩) (by omega) (sF rfl) (sl (sk (sk (sk (sl (sl (sl (sl sr))))))))))))
  ·skip
   refine OkC.region (ldW' 4 tA31 rfl (cRd (S := S) (args := [(aG (mxL z.mx))]) Tryz.call15 (fun w hw => Red_lim z.mx hw1 hz9 (by omega) (by omega) (by omega) hlm w (inS hw 0 rfl hy)) rfl fun rd hm hq => mv' rfl (st' (ex_extract (v := (aG (mxL rd.m))) rfl rfl) rfl (st' (ex_extract (v := (Value.slice rd.q.p ((([] : List Nat)).length) rd.q.c)) rfl rfl) rfl ?_))))
   refine st' (ex_extract (v := (vI 3)) rfl rfl) rfl (al tZ31 rfl fun b3 => stW0' rfl Tryz.sizeOf31 rfl (asg' rfl (asg' rfl (q6 (sL [2, 4, 19, 20, 6, 8] rfl) ?_))))
   refine OkC.block (q4 (mv' rfl (st' (ex_neq (c := true) rfl rfl (by decide)) rfl (asg' rfl (OkL.nil ?_)))))
   refine OkQ.subF (sL [2, 4, 19, 20, 6, 8, 28] rfl) (OkQ.then_ (OkC.cond_true rfl (q4 (st' (v := (aG ([(Value.slice none 0 0), (Value.slice none 0 0), (Value.slice none 0 0)]))) (ex_build_struct (zs := [(Value.slice none 0 0), (Value.slice none 0 0), (Value.slice none 0 0)]) (vs := [(Value.slice none 0 0), (Value.slice none 0 0), (Value.slice none 0 0)]) (pv := []) (places := [(0, 1), (1, 1), (2, 1)]) Tryz.zeroValue31 Tryz.underlying31 (fun w => by simp [Tryz.sizeOf27, Tryz.sizeOf28, Tryz.sizeOf29]) rfl (fill_numug_31_ )) rfl (mv' rfl ?_)))))
   refine stX 8 (off := 0) (vs := [(Value.slice none 0 0), (Value.slice none 0 0), (Value.slice none 0 0)]) (cs' := [(Value.slice none 0 0), (Value.slice none 0 0), (Value.slice none 0 0)]) (wt_none rfl) rfl Tryz.sizeOf31 rfl (asg' rfl (OkL.nil (OkQ.subF (sL [2, 4, 19, 20, 6, 8, 5] rfl) (OkQ.then_ (OkC.ret ?_)))))
   refine OkQ.in_ret (OkQ.then_ret (OkQ.in_ret (OkQ.then_ret (OkQ.round2_ret (OkQ.in_ret ?_)))))
   exact OkQ.then_ret (ret_two rfl (rd_agg (i := 8) (cs := [(Value.slice none 0 0), (Value.slice none 0 0), (Value.slice none 0 0)]) rfl rfl Tryz.isAgg31 Tryz.sizeOf31 rfl) (rd_tmp (v := (vI 3)) rfl) (fun w hw => (GivesR.ofTm (R' := (([], [], []), 3)) (htm.trans (timesF_no hlm (by omega))) (retTm0 hw 3 rfl))))
 ·replace hc1 := of_decide_eq_false hc1
  refine OkC.exit (OkQ.then_exit (OkQ.round2_exit (OkQ.in_exit (q2 (ldW' 4 tA31 rfl ?_)))))
  exact stW3' rfl Tryz.sizeOf31 rfl (asg' rfl (OkL.nil (OkQ.subF (sL [2, 4, 19, 20, 5] rfl) (OkQ.then_ (OkC.ret (ret_two rfl (rd_agg (i := 3) (cs := mxL z.mx) rfl rfl Tryz.isAgg31 Tryz.sizeOf31 rfl) (rd_tmp (v := (vI 0)) rfl) (fun w hw => (GivesR.ofTm (R' := ((z.ps, z.ts, z.ss), 0)) (htm.trans (by rw [show n - i = 0 by omega]; rfl)) (retTm hw (inS hw 0 rfl hy) rfl)))))))))
theorem Times_neg {ps : List Pt} {ts ss : List T3} (x : MX ps ts ss) (n : Int) (hn : n < 0) (w : World) {S : Nat → Prop} (hx : Ro S w x) : Calls Tryz.prog 17 #[(aG (mxL x)), (vI n)] w (GivesR (TmX [] [] [] 1) S w) := by
 have lx := atA (W := w) hx
 refine calls_ofR (args := [(aG (mxL x)), (vI n)]) (L := [rowR x.a.p (rowsL ptL ps), rowR x.b.p (rowsL t3L ts), rowR x.c.p (rowsL t3L ss)]) Tryz.func17 rfl rfl (leB rfl) (sxA hx roL_nil) (OkC.subF (sL [0, 1] rfl) (q4 (bx' (cs := mxL x) rfl fun b1 => al tZ31 rfl fun b2 => asg' rfl ?_)))
 refine q6 (sL [1, 2, 4, 5] rfl) (q4 (mv' rfl (st' (ex_lss (c := true) rfl rfl (decide_eq_true hn)) rfl (mv' rfl (OkL.skip (wt_not' rfl) rfl (leB rfl) ?_)))))
 refine OkL.skip (wt_not' rfl) rfl (leB rfl) (OkL.skip (wt_not' rfl) rfl (leB rfl) (st' (v := (Value.bool true)) (ex_pick_true rfl rfl) rfl (OkL.nil (OkQ.subF (sL [1, 2, 4, 5, 15] rfl) (OkQ.then_ ?_)))))
 refine OkC.cond_true rfl (q4 (st' (v := (aG ([(Value.slice none 0 0), (Value.slice none 0 0), (Value.slice none 0 0)]))) (ex_build_struct (zs := [(Value.slice none 0 0), (Value.slice none 0 0), (Value.slice none 0 0)]) (vs := [(Value.slice none 0 0), (Value.slice none 0 0), (Value.slice none 0 0)]) (pv := []) (places := [(0, 1), (1, 1), (2, 1)]) Tryz.zeroValue31 Tryz.underlying31 (fun w => by simp [Tryz.sizeOf27, Tryz.sizeOf28, Tryz.sizeOf29]) rfl (fill_numug_31_ )) rfl (stW0' rfl Tryz.sizeOf31 rfl (asg' rfl (OkL.nil ?_)))))
 exact OkQ.subF (sL [1, 2, 4, 5] rfl) (OkQ.then_ (OkC.ret (OkQ.then_ret (ret_two rfl (rd_agg (i := 0) (cs := [(Value.slice none 0 0), (Value.slice none 0 0), (Value.slice none 0 0)]) rfl rfl Tryz.isAgg31 Tryz.sizeOf31 rfl) (rd_tmp (v := (vI 1)) rfl) (fun w hw => (retTm0 hw 1 rfl))))))
end
section
set_option maxRecDepth 100000
theorem badPt_ok (n : Nat) (w : World)  : Calls Tryz.prog 152 #[(vI (-1 : Int)), (vN n)] w (Gives w (Value.bool false)) := by
 refine calls_of (args := [(vI (-1 : Int)), (vN n)]) Tryz.func152 rfl rfl (leB rfl) (OkC.subF (sL [0, 1] rfl) (q4 (asg' rfl (OkL.nil (q2 ?_)))))
 refine mv' rfl (st' (ex_geq (c := (decide ((0 : Int) ≤ (-1 : Int)))) rfl rfl rfl) rfl (mv' rfl ?_))
 refine OkL.mid (FM := [(0, (vI (-1 : Int))), (1, (vN n)), (4, (Value.bool false)), (5, (vI (-1 : Int))), (6, (Value.bool (decide ((0 : Int) ≤ (-1 : Int))))), (7, (Value.bool (decide ((0 : Int) ≤ (-1 : Int))))), (11, (Value.bool ((decide ((0 : Int) ≤ (-1 : Int))) && (decide ((-1 : Int) < ((n : Nat) : Int))))))]) (LM := []) 4 ?_ ?_
 ·rcases Bool.eq_false_or_eq_true (decide ((0 : Int) ≤ (-1 : Int))) with hg1 | hg1
  ·skip
   refine OkL.retell (k := 7) (u := Value.bool true) rfl (by rw [hg1]) ?_
   have hg1' := hg1
   replace hg1' := of_decide_eq_true hg1'
   exact OkL.step (v := (vI (-1 : Int))) (wt_some' rfl) (ex_move rfl) rfl (leB rfl) (OkL.step (v := (vN n)) (wt_some' rfl) (ex_move rfl) rfl (leB rfl) (OkL.step (v := (Value.bool (decide ((-1 : Int) < ((n : Nat) : Int))))) (wt_some' rfl) (ex_lss (c := (decide ((-1 : Int) < ((n : Nat) : Int)))) rfl rfl rfl) rfl (leB rfl) (st' (v := (Value.bool (decide ((-1 : Int) < ((n : Nat) : Int))))) (ex_pick_true rfl rfl) rfl (OkL.nil (OkQ.mid (sS rfl (sS rfl (sS rfl (sS rfl (sS rfl (sS (by first | rfl | (rw [hg1]; rfl) | rw [hg1]) (sS (by first | rfl | (rw [hg1]; rfl) | rw [hg1]) (sN)))))))) (List.Sublist.refl _))))))
  ·skip
   refine OkL.retell (k := 7) (u := Value.bool false) rfl (by rw [hg1]) ?_
   have hg1' := hg1
   replace hg1' := of_decide_eq_false hg1'
   exact OkL.skip (wt_not' rfl) rfl (leB rfl) (OkL.skip (wt_not' rfl) rfl (leB rfl) (OkL.skip (wt_not' rfl) rfl (leB rfl) (st' (v := (Value.bool false)) (ex_pick_false rfl rfl) rfl (OkL.nil (OkQ.mid (sS rfl (sS rfl (sS rfl (sS rfl (sS rfl (sS (by first | rfl | (rw [hg1]; rfl) | rw [hg1]) (sS (by first | rfl | (rw [hg1]; rfl) | rw [hg1]) (sN)))))))) (List.Sublist.refl _))))))
 exact asg' rfl (OkL.nil (OkQ.subF (sL [4] rfl) (OkQ.then_ (OkC.ret (ret_one rfl (rd_tmp (v := (Value.bool ((decide ((0 : Int) ≤ (-1 : Int))) && (decide ((-1 : Int) < ((n : Nat) : Int)))))) rfl) (fun w hw => ⟨rfl, hw.out⟩))))))
theorem bad1_ok (n : Nat) (bo : BX [vN n]) (w : World) {S : Nat → Prop} (hbo : Ro S w bo) : Calls Tryz.prog 155 #[(aG ([(vI (-1 : Int)), (vI 0), (vI 1)])), (pP bo.b 0)] w (Gives w (Value.bool true)) := by
 have lbo := atA (W := w) hbo
 refine calls_ofR (args := [(aG ([(vI (-1 : Int)), (vI 0), (vI 1)])), (pP bo.b 0)]) (L := [rowR (some ⟨bo.b, 0, none⟩) ([(vN n)])]) Tryz.func155 rfl rfl (leB rfl) (sxA hbo roL_nil) (OkC.subF (sL [0, 1] rfl) (q4 (bx' (cs := [(vI (-1 : Int)), (vI 0), (vI 1)]) rfl fun b1 => asg' rfl (q3 (sL [1, 2, 3] rfl) ?_))))
 refine st' (v := (pP b1 0)) (ex_indexAddr_array (j := 0) rfl rfl Tryz.underlying34 Tryz.sizeOf3 rfl (by decide) rfl) rfl (ldO' 0 (vI (-1 : Int)) tO3 rfl (st' (ex_load_rowR_one (q := some ⟨bo.b, 0, none⟩) (v := (vN n)) (off := 0) (i := 1) rfl rfl (fun e => by cases e) tO3 rfl) rfl (ck' Tryz.call152 (badPt_ok n) rfl (st' (ex_not (c := true) rfl rfl) rfl (mv' rfl ?_)))))
 refine OkL.skip (wt_not' rfl) rfl (leB rfl) (OkL.skip (wt_not' rfl) rfl (leB rfl) (OkL.skip (wt_not' rfl) rfl (leB rfl) (OkL.skip (wt_not' rfl) rfl (leB rfl) (OkL.skip (wt_not' rfl) rfl (leB rfl) (st' (v := (Value.bool true)) (ex_pick_true rfl rfl) rfl ?_)))))
 refine mv' rfl (OkL.skip (wt_not' rfl) rfl (leB rfl) (OkL.skip (wt_not' rfl) rfl (leB rfl) (OkL.skip (wt_not' rfl) rfl (leB rfl) (OkL.skip (wt_not' rfl) rfl (leB rfl) (OkL.skip (wt_not' rfl) rfl (leB rfl) ?_)))))
 refine st' (v := (Value.bool true)) (ex_pick_true rfl rfl) rfl (mv' rfl (OkL.skip (wt_not' rfl) rfl (leB rfl) (OkL.skip (wt_not' rfl) rfl (leB rfl) (OkL.skip (wt_not' rfl) rfl (leB rfl) (OkL.skip (wt_not' rfl) rfl (leB rfl) ?_)))))
 refine OkL.skip (wt_not' rfl) rfl (leB rfl) (st' (v := (Value.bool true)) (ex_pick_true rfl rfl) rfl (mv' rfl (OkL.skip (wt_not' rfl) rfl (leB rfl) (OkL.skip (wt_not' rfl) rfl (leB rfl) (OkL.skip (wt_not' rfl) rfl (leB rfl) ?_)))))
 refine OkL.skip (wt_not' rfl) rfl (leB rfl) (OkL.skip (wt_not' rfl) rfl (leB rfl) (st' (v := (Value.bool true)) (ex_pick_true rfl rfl) rfl (mv' rfl (OkL.skip (wt_not' rfl) rfl (leB rfl) (OkL.skip (wt_not' rfl) rfl (leB rfl) ?_)))))
 refine OkL.skip (wt_not' rfl) rfl (leB rfl) (OkL.skip (wt_not' rfl) rfl (leB rfl) (OkL.skip (wt_not' rfl) rfl (leB rfl) (st' (v := (Value.bool true)) (ex_pick_true rfl rfl) rfl (asg' rfl (OkL.nil ?_)))))
 exact OkQ.subF (sL [3] rfl) (OkQ.then_ (OkC.ret (ret_one rfl (rd_tmp (v := (Value.bool true)) rfl) (fun w hw => ⟨rfl, hw.out⟩))))
theorem bidx_ok (n : Nat) (bo : BX [vN n]) (ts : List T3) (x : RX (badL ts) (1 + ts.length)) (hl : ts.length ≤ 1000000) (w : World) {S : Nat → Prop} (hbo : Ro S w bo) (hx : Ro S w x) : Calls Tryz.prog 186 #[(Value.slice x.p (1 + ts.length) x.c), (Value.func (.func 155) #[] #[(pP bo.b 0)])] w (Gives w (vI 0)) := by
 have lbo := atA (W := w) hbo
 have lx := atA (W := w) hx
 refine calls_ofR (args := [(Value.slice x.p (1 + ts.length) x.c), (Value.func (.func 155) #[] #[(pP bo.b 0)])]) (L := [rowR (some ⟨bo.b, 0, none⟩) ([(vN n)]), rowR x.p (badL ts)]) Tryz.func186 rfl rfl (leB rfl) (sxA hbo (sxA hx roL_nil)) (OkC.subF (sL [0, 1] rfl) (q4 (asg' rfl (OkL.nil (q1 ?_)))))
 refine q4 (mv' rfl (st' (v := (vN (1 + ts.length))) (ex_len_slice rfl Tryz.underlying28) rfl (mv' rfl (OkL.nil (OkQ.subF (sL [0, 1, 4, 7, 8] rfl) ?_)))))
 refine OkQ.then_ (OkC.block (OkC.unroll 1 (OkR.step (q4 (st' (ex_lss (c := true) rfl rfl (decide_eq_true (by omega))) rfl ?_)))))
 refine OkL.nil (q1 (OkC.cond_true rfl (OkC.skip (q1 (OkC.block ?_)))))
 refine q4 (mv' rfl (asg' rfl (q3 (sL [0, 1, 4, 7, 8, 5] rfl) (mv' rfl (mv' rfl ?_)))))
 refine mv' rfl (st' (v := (pP (pB x.p) (pO x.p + 0 * 3))) (ex_index_row (j := 0) rfl rfl x.ok Tryz.underlying28 Tryz.sizeOf34 rfl (by omega)) rfl (st' (v := (aG ([(vI (-1 : Int)), (vI 0), (vI 1)]))) (ex_load_rowR_agg (vs := [vI (-1), vN 0, vN 1]) (i := 1) rfl rfl (RowOk.ne x.ok (by omega)) tA34 rfl rfl) rfl (OkL.call (v := (Value.bool true)) (wt_none rfl) (op_call (args := [(aG ([(vI (-1 : Int)), (vI 0), (vI 1)]))]) (caps := [(pP bo.b 0)]) (all := [(aG ([(vI (-1 : Int)), (vI 0), (vI 1)])), (pP bo.b 0)]) rfl rfl rfl Tryz.call155) (fun w hw => bad1_ok n bo w (inS hw 0 rfl lbo)) rfl (leB rfl) (OkL.nil (OkQ.subF (sL [0, 1, 4, 7, 8, 5, 16] rfl) ?_)))))
 refine OkQ.then_ (OkC.cond_true rfl (q4 (mv' rfl (asg' rfl (OkL.nil ?_)))))
 refine OkQ.subF (sL [0, 1, 4, 7, 8, 5] rfl) (OkQ.then_ (OkC.ret (OkQ.in_ret (OkQ.then_ret (OkQ.then_ret ?_)))))
 exact OkQ.in_ret (OkQ.then_ret (ret_one rfl (rd_tmp (v := (vI 0)) rfl) (fun w hw => ⟨rfl, hw.out⟩)))
theorem bcont_ok (n : Nat) (bo : BX [vN n]) (ts : List T3) (x : RX (badL ts) (1 + ts.length)) (hl : ts.length ≤ 1000000) (w : World) {S : Nat → Prop} (hbo : Ro S w bo) (hx : Ro S w x) : Calls Tryz.prog 154 #[(Value.slice x.p (1 + ts.length) x.c), (Value.func (.func 155) #[] #[(pP bo.b 0)])] w (Gives w (Value.bool true)) := by
 have lbo := atA (W := w) hbo
 have lx := atA (W := w) hx
 refine calls_ofR (args := [(Value.slice x.p (1 + ts.length) x.c), (Value.func (.func 155) #[] #[(pP bo.b 0)])]) (L := [rowR (some ⟨bo.b, 0, none⟩) ([(vN n)]), rowR x.p (badL ts)]) Tryz.func154 rfl rfl (leB rfl) (sxA hbo (sxA hx roL_nil)) (OkC.subF (sL [0, 1] rfl) (q4 (asg' rfl (OkL.nil (q2 ?_)))))
 refine mv' rfl (mv' rfl (cl' Tryz.call186 (fun w hw => bidx_ok n bo ts x hl w (inS hw 0 rfl lbo) (inS hw 1 rfl lx)) rfl (st' (ex_geq (c := true) rfl rfl (by decide)) rfl (asg' rfl (OkL.nil ?_)))))
 exact OkQ.subF (sL [4] rfl) (OkQ.then_ (OkC.ret (ret_one rfl (rd_tmp (v := (Value.bool true)) rfl) (fun w hw => ⟨rfl, hw.out⟩))))
theorem bnumd_ok (n : Nat) (ts : List T3) (x : RX (badL ts) (1 + ts.length)) (hl : ts.length ≤ 1000000) (w : World) {S : Nat → Prop} (hx : Ro S w x) : Calls Tryz.prog 110 #[(Value.slice x.p (1 + ts.length) x.c), (vN n)] w (Gives w (Value.bool false)) := by
 have lx := atA (W := w) hx
 refine calls_ofR (args := [(Value.slice x.p (1 + ts.length) x.c), (vN n)]) (L := [rowR x.p (badL ts)]) Tryz.func110 rfl rfl (leB rfl) (sxA hx roL_nil) (OkC.subF (sL [0, 1] rfl) (q4 (bx' (cs := [(vN n)]) rfl fun b1 => OkL.frzX 0 rfl rfl fun hnb1 => asg' rfl ?_)))
 refine q3 (sL [0, 3, 4] rfl) (mv' rfl (st' (v := (Value.func (.func 155) #[] #[(pP b1 0)])) (ex_makeFunc (vs := []) (us := [(pP b1 0)]) rfl rfl) rfl (cl' Tryz.call154 (fun w hw => bcont_ok n ⟨b1⟩ ts x hl w (inB (x := (⟨b1⟩ : BX [vN n])) hw 0 rfl hnb1) (inS hw 1 rfl lx)) rfl (st' (ex_not (c := false) rfl rfl) rfl (asg' rfl ?_)))))
 exact OkL.nil (OkQ.subF (sL [4] rfl) (OkQ.then_ (OkC.ret (ret_one rfl (rd_tmp (v := (Value.bool false)) rfl) (fun w hw => ⟨rfl, hw.out⟩)))))
theorem bNumd_ok {ps : List Pt} {ts ss : List T3} (x : MB ps ts ss) (hl : ts.length ≤ 1000000) (w : World) {S : Nat → Prop} (hx : Ro S w x) : Calls Tryz.prog 54 #[(aG (mbL x))] w (Gives w (Value.bool false)) := by
 have lx := atA (W := w) hx
 refine calls_ofR (args := [(aG (mbL x))]) (L := [rowR x.a.p (rowsL ptL ps), rowR x.b.p (badL ts), rowR x.c.p (rowsL t3L ss)]) Tryz.func54 rfl rfl (leB rfl) (sxA hx roL_nil) (OkC.subF (sL [0] rfl) (q4 (bx' (cs := mbL x) rfl fun b1 => asg' rfl (q3 (sL [1, 2] rfl) ?_))))
 refine st' (v := (pP b1 1)) (ex_fieldAddr rfl Tryz.underlying31 rfl Tryz.sizeOf28 rfl) rfl (ldO' 0 (Value.slice x.b.p (1 + ts.length) x.b.c) tO28 rfl (st' (v := (pP b1 0)) (ex_fieldAddr rfl Tryz.underlying31 rfl Tryz.sizeOf27 rfl) rfl (ldO' 0 (Value.slice x.a.p ps.length x.a.c) tO27 rfl (st' (v := (vN ps.length)) (ex_len_slice rfl Tryz.underlying27) rfl (cl' Tryz.call110 (fun w hw => bnumd_ok ps.length ts x.b hl w (roMBb (inS hw 1 rfl lx))) rfl ?_)))))
 exact asg' rfl (OkL.nil (OkQ.subF (sL [2] rfl) (OkQ.then_ (OkC.ret (ret_one rfl (rd_tmp (v := (Value.bool false)) rfl) (fun w hw => ⟨rfl, hw.out⟩))))))
theorem fill_numuh_31_  : Instr.fill ([(0, 1), (1, 1), (2, 1)].toArray[·]?) ([(Value.slice none 0 0), (Value.slice none 0 0), (Value.slice none 0 0)]).toArray [] = some ([(Value.slice none 0 0), (Value.slice none 0 0), (Value.slice none 0 0)]).toArray := by kernel_rfl
theorem Red_bad {ps : List Pt} {ts ss : List T3} (x : MB ps ts ss) (hl : ts.length ≤ 1000000) (w : World) {S : Nat → Prop} (hx : Ro S w x) : Calls Tryz.prog 15 #[(aG (mbL x))] w (GivesR (RdX [] [] [] [] 1) S w) := by
 have lx := atA (W := w) hx
 refine calls_ofR (args := [(aG (mbL x))]) (L := [rowR x.a.p (rowsL ptL ps), rowR x.b.p (badL ts), rowR x.c.p (rowsL t3L ss)]) Tryz.func15 rfl rfl (leB rfl) (sxA hx roL_nil) (OkC.subF (sL [0] rfl) (q4 (bx' (cs := mbL x) rfl fun b1 => al tZ31 rfl fun b2 => asg' rfl ?_)))
 refine asg' rfl (q6 (sL [1, 2, 3, 4] rfl) (q4 (ldW' 1 tA31 rfl (cl' Tryz.call54 (fun w hw => bNumd_ok x hl w (inS hw 2 rfl lx)) rfl (st' (ex_not (c := true) rfl rfl) rfl ?_)))))
 refine OkL.nil (OkQ.subF (sL [1, 2, 3, 4, 17] rfl) (OkQ.then_ (OkC.cond_true rfl (q4 (st' (v := (aG ([(Value.slice none 0 0), (Value.slice none 0 0), (Value.slice none 0 0)]))) (ex_build_struct (zs := [(Value.slice none 0 0), (Value.slice none 0 0), (Value.slice none 0 0)]) (vs := [(Value.slice none 0 0), (Value.slice none 0 0), (Value.slice none 0 0)]) (pv := []) (places := [(0, 1), (1, 1), (2, 1)]) Tryz.zeroValue31 Tryz.underlying31 (fun w => by simp [Tryz.sizeOf27, Tryz.sizeOf28, Tryz.sizeOf29]) rfl (fill_numuh_31_ )) rfl ?_)))))
 refine stW0' rfl Tryz.sizeOf31 rfl (asg' rfl (asg' rfl (OkL.nil (OkQ.subF (sL [1, 2, 3, 4] rfl) (OkQ.then_ ?_)))))
 exact OkC.ret (OkQ.then_ret (ret_three rfl (rd_agg (i := 0) (cs := [(Value.slice none 0 0), (Value.slice none 0 0), (Value.slice none 0 0)]) rfl rfl Tryz.isAgg31 Tryz.sizeOf31 rfl) (rd_tmp (v := (Value.slice none 0 0)) rfl) (rd_tmp (v := (vI 1)) rfl) (fun w hw => (retRd0 hw 1 rfl))))
theorem Times_bad {ps : List Pt} {ts ss : List T3} (x : MB ps ts ss) (hl : ts.length ≤ 1000000) (n : Nat) (w : World) {S : Nat → Prop} (hx : Ro S w x) : Calls Tryz.prog 17 #[(aG (mbL x)), (vN n)] w (GivesR (TmX [] [] [] 1) S w) := by
 have lx := atA (W := w) hx
 refine calls_ofR (args := [(aG (mbL x)), (vN n)]) (L := [rowR x.a.p (rowsL ptL ps), rowR x.b.p (badL ts), rowR x.c.p (rowsL t3L ss)]) Tryz.func17 rfl rfl (leB rfl) (sxA hx roL_nil) (OkC.subF (sL [0, 1] rfl) (q4 (bx' (cs := mbL x) rfl fun b1 => al tZ31 rfl fun b2 => asg' rfl ?_)))
 refine q6 (sL [1, 2, 4, 5] rfl) (q4 (mv' rfl (st' (ex_lss (c := false) rfl rfl (decide_eq_false (by omega))) rfl (mv' rfl (OkL.step (v := (aG (mbL x))) (wt_some' rfl) (ex_load_agg (i := 1) (vs := mbL x) rfl rfl tA31.a tA31.s rfl rfl) rfl (leB rfl) ?_)))))
 refine OkL.call (v := (Value.bool false)) (wt_some' rfl) (op_call0 (args := [(aG (mbL x))]) rfl rfl Tryz.call54) (fun w hw => bNumd_ok x hl w (inS hw 2 rfl lx)) rfl (leB rfl) (OkL.step (v := (Value.bool true)) (wt_some' rfl) (ex_not (c := true) rfl rfl) rfl (leB rfl) (st' (v := (Value.bool true)) (ex_pick_false rfl rfl) rfl (OkL.nil (OkQ.subF (sL [1, 2, 4, 5, 15] rfl) (OkQ.then_ ?_)))))
 refine OkC.cond_true rfl (q4 (st' (v := (aG ([(Value.slice none 0 0), (Value.slice none 0 0), (Value.slice none 0 0)]))) (ex_build_struct (zs := [(Value.slice none 0 0), (Value.slice none 0 0), (Value.slice none 0 0)]) (vs := [(Value.slice none 0 0), (Value.slice none 0 0), (Value.slice none 0 0)]) (pv := []) (places := [(0, 1), (1, 1), (2, 1)]) Tryz.zeroValue31 Tryz.underlying31 (fun w => by simp [Tryz.sizeOf27, Tryz.sizeOf28, Tryz.sizeOf29]) rfl (fill_numuh_31_ )) rfl (stW0' rfl Tryz.sizeOf31 rfl (asg' rfl (OkL.nil ?_)))))
 exact OkQ.subF (sL [1, 2, 4, 5] rfl) (OkQ.then_ (OkC.ret (OkQ.then_ret (ret_two rfl (rd_agg (i := 0) (cs := [(Value.slice none 0 0), (Value.slice none 0 0), (Value.slice none 0 0)]) rfl rfl Tryz.isAgg31 Tryz.sizeOf31 rfl) (rd_tmp (v := (vI 1)) rfl) (fun w hw => (retTm0 hw 1 rfl))))))
end
end Go.Proofs.YtaahheddmfddhaaGreat
