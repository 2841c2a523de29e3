import Derived.Test.YtpkoldfmbebmgaaGreatDoorPart07
import Derived.Test.YtpkoldfmbebmgaaGreatDoorPart11
import Derived.Test.YtpkoldfmbebmgaaGreatDoorPart22
namespace Go.Proofs.YtpkoldfmbebmgaaGreatDoor
open Go Go.RowKit
set_option linter.unusedVariables false
set_option linter.unusedSimpArgs false
section
set_option maxRecDepth 100000
theorem At_ok (a b c : Pt) (x y z : Rat) (hs : SzP a + SzP b + SzP c ≤ 268435456) (hx : Sz x + Sz y + Sz z ≤ 268435456) (w : World)  : Calls Tryz.prog 28 #[(aG (ptL a)), (aG (ptL b)), (aG (ptL c)), (aG (fracL x ++ fracL y ++ fracL z))] w (Gives w (aG (ptL (scaleP a x + scaleP b y + scaleP c z)))) := by
 refine calls_of (args := [(aG (ptL a)), (aG (ptL b)), (aG (ptL c)), (aG (fracL x ++ fracL y ++ fracL z))]) Tryz.func28 rfl rfl (leB rfl) (OkC.subF (sC 0 rfl (sC 1 rfl (sC 2 rfl (sC 3 rfl (sN))))) (q4 (bx (cs := ptL a) rfl rfl rfl fun b1 => bx (cs := ptL b) rfl rfl rfl fun b2 => bx (cs := ptL c) rfl rfl rfl fun b3 => ?_)))
 refine bx (cs := fracL x ++ fracL y ++ fracL z) rfl rfl rfl fun b4 => al tZ38 rfl fun b5 => q6 (sC 4 rfl (sC 5 rfl (sC 6 rfl (sC 7 rfl (sC 8 rfl (sN)))))) (rG [(0, true), (1, true), (2, true), (4, true), (5, true), (6, true), (9, true), (10, true), (11, true), (3, false), (7, false), (8, false), (12, false), (13, false), (14, false)] (sl sr) (by kernel_rfl) (fun _ _ d _ _ h => by cases d <;> exact h) (pW 3 tA38 rfl rfl rfl rfl rfl (pE (v := (pP b4 0)) rfl (ex_indexAddr_array (j := 0) rfl rfl Tryz.underlying56 Tryz.sizeOf36 rfl (by decide) rfl) rfl ?_)))
 refine pA 0 (fracL x) tA36 rfl rfl rfl rfl rfl rfl (pW 2 tA38 rfl rfl rfl rfl rfl (pE (v := (pP b4 5)) rfl (ex_indexAddr_array (j := 1) rfl rfl Tryz.underlying56 Tryz.sizeOf36 rfl (by decide) rfl) rfl (pA 0 (fracL y) tA36 rfl rfl rfl rfl rfl rfl (pW 1 tA38 rfl rfl rfl rfl rfl (pE (v := (pP b4 10)) rfl (ex_indexAddr_array (j := 2) rfl rfl Tryz.underlying56 Tryz.sizeOf36 rfl (by decide) rfl) rfl ?_)))))
 refine pA 0 (fracL z) tA36 rfl rfl rfl rfl rfl rfl (OkE.imp rfl ?_)
 have hz1 := SzP_scale a x
 refine cl Tryz.call64 (fun w hw => pScale_ok a x (by omega) w) rfl rfl rfl (OkE.back (sl sr) (OkE.imp rfl ?_))
 have hz2 := SzP_scale b y
 refine cl Tryz.call64 (fun w hw => pScale_ok b y (by omega) w) rfl rfl rfl (OkE.back (sl sr) (OkE.imp rfl ?_))
 have hz3 := SzP_add (scaleP a x) (scaleP b y)
 refine cl Tryz.call38 (fun w hw => pAdd_ok (scaleP a x) (scaleP b y) (by omega) w) rfl rfl rfl (OkE.back (sl sr) (OkE.imp rfl ?_))
 have hz4 := SzP_scale c z
 refine cl Tryz.call64 (fun w hw => pScale_ok c z (by omega) w) rfl rfl rfl (OkE.back (sl sr) (OkE.imp rfl ?_))
 have hz5 := SzP_add ((scaleP a x) + (scaleP b y)) (scaleP c z)
 refine cl Tryz.call38 (fun w hw => pAdd_ok ((scaleP a x) + (scaleP b y)) (scaleP c z) (by omega) w) rfl rfl rfl (OkE.back (sl sr) (OkE.imp rfl (stW0 rfl rfl rfl Tryz.sizeOf38 rfl rfl (OkE.back (sl sr) (OkE.nil ?_)))))
 exact OkQ.subF (sC 8 rfl (sN)) (OkQ.then_ (OkC.ret (ret_one rfl (rd_agg (i := 0) (cs := ptL (((scaleP a x) + (scaleP b y)) + (scaleP c z))) rfl rfl Tryz.isAgg38 Tryz.sizeOf38 rfl) (fun w hw => ⟨rfl, hw.out⟩))))
theorem fill_numo_56_0fracL_1fracL_2fracL (x0 : Rat) (x1 : Rat) (x2 : Rat) : Instr.fill (fun i => some (i * 5, 5)) (fracL (0 : Rat) ++ fracL (0 : Rat) ++ fracL (0 : Rat)).toArray [(0, .agg (fracL x0).toArray), (1, .agg (fracL x1).toArray), (2, .agg (fracL x2).toArray)] = some (fracL x0 ++ fracL x1 ++ fracL x2).toArray := by kernel_rfl
theorem Bary_ok (a b c p : Pt) (hs : SzP a + SzP b + SzP c + SzP p ≤ 268435456) (h : turnP a b c ≠ 0) (w : World)  : Calls Tryz.prog 26 #[(aG (ptL a)), (aG (ptL b)), (aG (ptL c)), (aG (ptL p))] w (Gives w (Value.tuple #[(aG (fracL (turnP p b c / turnP a b c) ++ fracL (turnP a p c / turnP a b c) ++ fracL (turnP a b p / turnP a b c))), (vI 0)])) := by
 refine calls_of (args := [(aG (ptL a)), (aG (ptL b)), (aG (ptL c)), (aG (ptL p))]) Tryz.func26 rfl rfl (leB rfl) (OkC.subF (sC 0 rfl (sC 1 rfl (sC 2 rfl (sC 3 rfl (sN))))) (q4 (bx (cs := ptL a) rfl rfl rfl fun b1 => bx (cs := ptL b) rfl rfl rfl fun b2 => bx (cs := ptL c) rfl rfl rfl fun b3 => ?_)))
 refine bx (cs := ptL p) rfl rfl rfl fun b4 => al tZ56 rfl fun b5 => asg rfl rfl (q3 (sC 4 rfl (sC 5 rfl (sC 6 rfl (sC 7 rfl (sC 8 rfl (sC 9 rfl (sN))))))) (ldW 4 tA38 rfl rfl rfl rfl (ldW 3 tA38 rfl rfl rfl rfl ?_)))
 refine ldW 2 tA38 rfl rfl rfl rfl ?_
 have hz1 := Sz_turn a b c
 refine cl Tryz.call53 (fun w hw => twice_ok a b c (by omega) w) rfl rfl rfl (al tZ36 rfl fun b6 => stW0 rfl rfl rfl Tryz.sizeOf36 rfl rfl (q6 (sC 4 rfl (sC 5 rfl (sC 6 rfl (sC 7 rfl (sC 8 rfl (sC 9 rfl (sC 10 rfl (sN)))))))) (rN [(0, true), (1, true), (2, true), (4, true), (5, true), (6, true), (8, true), (9, true), (10, true), (3, false), (7, false), (11, false), (12, true)] [⟨13, 11, 56, fracL (0 : Rat) ++ fracL (0 : Rat) ++ fracL (0 : Rat)⟩] [(14, false)] sr (by kernel_rfl) (fun _ _ d _ _ h => by cases d <;> exact h) (newC rfl rfl tZ56 rfl (newN)) rfl (uW 2 tA38 rfl rfl rfl rfl rfl rfl ?_))))
 refine uW 4 tA38 rfl rfl rfl rfl rfl rfl (uW 3 tA38 rfl rfl rfl rfl rfl rfl (uW 5 tA38 rfl rfl rfl rfl rfl rfl (uW 2 tA38 rfl rfl rfl rfl rfl rfl (uW 3 tA38 rfl rfl rfl rfl rfl rfl (uW 5 tA38 rfl rfl rfl rfl rfl rfl ?_)))))
 refine uW 4 tA38 rfl rfl rfl rfl rfl rfl (uW 2 tA38 rfl rfl rfl rfl rfl rfl (OkN.imp rfl fun EF EL => ?_))
 have hz2 := Sz_turn p b c
 refine cl Tryz.call53 (fun w hw => twice_ok p b c (by omega) w) rfl rfl rfl (OkN.back0 sr rfl (OkN.imp rfl fun EF EL => ?_))
 have hz3 := Sz_turn a p c
 refine cl Tryz.call53 (fun w hw => twice_ok a p c (by omega) w) rfl rfl rfl (OkN.back0 sr rfl (OkN.imp rfl fun EF EL => ?_))
 have hz4 := Sz_turn a b p
 refine cl Tryz.call53 (fun w hw => twice_ok a b p (by omega) w) rfl rfl rfl (OkN.back0 sr rfl (uE (v := (aG (fracL (turnP p b c) ++ fracL (turnP a p c) ++ fracL (turnP a b p)))) rfl (ex_build_array (zs := fracL (0 : Rat) ++ fracL (0 : Rat) ++ fracL (0 : Rat)) (vs := fracL (turnP p b c) ++ fracL (turnP a p c) ++ fracL (turnP a b p)) (pv := [(0, (aG (fracL (turnP p b c)))), (1, (aG (fracL (turnP a p c)))), (2, (aG (fracL (turnP a b p))))]) Tryz.zeroValue56 Tryz.underlying56 Tryz.sizeOf36 rfl (fill_numo_56_0fracL_1fracL_2fracL (turnP p b c) (turnP a p c) (turnP a b p))) rfl rfl (OkN.news1 fun b7 => OkE.imp rfl (stW0 rfl rfl rfl Tryz.sizeOf56 rfl rfl ?_))))
 refine OkE.back (sl sr) (OkE.nil (OkQ.subF (sC 4 rfl (sC 5 rfl (sC 6 rfl (sC 8 rfl (sC 9 rfl (sC 10 rfl (sC 11 rfl (sN)))))))) (q1 (q4 (mv rfl rfl ?_)))))
 refine OkL.nil (OkQ.then_ (OkC.block (OkC.unroll 5 (OkR.step (q4 ?_)))))
 refine st (ex_lss (c := true) rfl rfl (by decide)) (leB rfl) (OkL.nil (q1 (OkC.cond_true rfl (OkC.skip (q1 ?_)))))
 refine OkC.block (q4 (mv rfl rfl (asg rfl rfl (OkL.nil (q1 ?_)))))
 refine rN [(0, true), (1, true), (2, true), (3, true), (4, false), (5, true), (6, true), (7, true)] [⟨8, 13, 36, fracL (0 : Rat)⟩] [(9, false), (10, true)] sr (by kernel_rfl) (fun _ _ d _ _ h => by cases d <;> exact h) (newC rfl rfl tZ36 rfl (newN)) rfl (uM rfl rfl rfl rfl (uE (v := (pP b7 0)) rfl (ex_indexAddr_array (j := 0) rfl rfl Tryz.underlying56 Tryz.sizeOf36 rfl (by decide) rfl) rfl rfl (uA 0 (fracL (turnP p b c)) tA36 rfl rfl rfl rfl rfl rfl rfl (uW 1 tA36 rfl rfl rfl rfl rfl rfl (OkN.imp rfl fun EF EL => ?_)))))
 have hz5 := Sz_div (a := turnP p b c) (b := turnP a b c) (by assumption)
 refine cl Tryz.call54 (fun w hw => fDiv_ok (turnP p b c) (turnP a b c) (by omega) (by assumption) w) rfl rfl rfl (OkN.back0 sr rfl (uM rfl rfl rfl rfl (uE rfl (ex_extract (v := (aG (fracL ((turnP p b c) / (turnP a b c))))) rfl rfl) rfl rfl (uE rfl (ex_extract (v := (vI 0)) rfl rfl) rfl rfl (OkN.news1 fun b8 => ?_)))))
 refine OkE.imp rfl (stW0 rfl rfl rfl Tryz.sizeOf36 rfl rfl (OkE.back (sl sr) (pS rfl rfl rfl (OkE.nil (q1 ?_)))))
 refine q4 (mv rfl rfl (st (ex_neq (c := false) rfl rfl (by decide)) (leB rfl) (OkL.nil (OkQ.then_ (OkC.cond_false rfl ?_)))))
 refine OkC.skip (OkQ.then_ (OkC.region (mv rfl rfl (ldW 0 tA36 rfl rfl rfl rfl (st (v := (pP b7 0)) (ex_indexAddr_array (j := 0) rfl rfl Tryz.underlying56 Tryz.sizeOf36 rfl (by decide) rfl) (leB rfl) ?_)))))
 refine OkL.store' (i := 1) (off := 0) (vs := fracL ((turnP p b c) / (turnP a b c))) (cs' := fracL ((turnP p b c) / (turnP a b c)) ++ fracL (turnP a p c) ++ fracL (turnP a b p)) (L' := [blk b8 36 (fracL ((turnP p b c) / (turnP a b c))), blk b7 56 (fracL ((turnP p b c) / (turnP a b c)) ++ fracL (turnP a p c) ++ fracL (turnP a b p)), blk b6 36 (fracL (turnP a b c)), blk b5 56 (fracL (0 : Rat) ++ fracL (0 : Rat) ++ fracL (0 : Rat)), blk b4 38 (ptL p), blk b3 38 (ptL c), blk b2 38 (ptL b), blk b1 38 (ptL a)]) (wt_none rfl) rfl rfl rfl rfl rfl Tryz.sizeOf36 rfl rfl rfl rfl (OkL.nil (OkQ.in_normal (OkQ.then_ (OkC.region (st (ex_add (c := (1 : Int)) rfl rfl (by decide)) (leB rfl) ?_)))))
 refine mv rfl rfl (OkL.nil (OkQ.again (OkR.step (q4 (st (ex_lss (c := true) rfl rfl (by decide)) (leB rfl) ?_)))))
 refine OkL.nil (q1 (OkC.cond_true rfl (OkC.skip (q1 (OkC.block ?_)))))
 refine q4 (mv rfl rfl (asg rfl rfl (OkL.nil (q1 (OkC.subF (sC 4 rfl (sC 5 rfl (sC 6 rfl (sC 8 rfl (sC 9 rfl (sC 10 rfl (sC 11 rfl (sC 32 rfl (sC 33 rfl (sC 34 rfl (sC 12 rfl (sC 36 rfl (sC 37 rfl (sC 38 rfl (sC 39 rfl (sC 40 rfl (sC 35 rfl (sC 41 rfl (sC 42 rfl (sC 14 rfl (sC 43 rfl (sC 44 rfl (sC 46 rfl (sC 47 rfl (sC 48 rfl (sC 49 rfl (sN))))))))))))))))))))))))))) ?_)))))
 refine rN [(0, true), (1, true), (2, true), (3, true), (4, false), (5, true), (6, true), (7, true)] [⟨8, 13, 36, fracL (0 : Rat)⟩] [(9, false), (10, true)] sr (by kernel_rfl) (fun _ _ d _ _ h => by cases d <;> exact h) (newC rfl rfl tZ36 rfl (newN)) rfl (uM rfl rfl rfl rfl (uE (v := (pP b7 5)) rfl (ex_indexAddr_array (j := 1) rfl rfl Tryz.underlying56 Tryz.sizeOf36 rfl (by decide) rfl) rfl rfl (uA 1 (fracL (turnP a p c)) tA36 rfl rfl rfl rfl rfl rfl rfl (uW 2 tA36 rfl rfl rfl rfl rfl rfl (OkN.imp rfl fun EF EL => ?_)))))
 have hz6 := Sz_div (a := turnP a p c) (b := turnP a b c) (by assumption)
 refine cl Tryz.call54 (fun w hw => fDiv_ok (turnP a p c) (turnP a b c) (by omega) (by assumption) w) rfl rfl rfl (OkN.back0 sr rfl (uM rfl rfl rfl rfl (uE rfl (ex_extract (v := (aG (fracL ((turnP a p c) / (turnP a b c))))) rfl rfl) rfl rfl (uE rfl (ex_extract (v := (vI 0)) rfl rfl) rfl rfl (OkN.news1 fun b9 => ?_)))))
 refine OkE.imp rfl (stW0 rfl rfl rfl Tryz.sizeOf36 rfl rfl (OkE.back (sl sr) (pS rfl rfl rfl (OkE.nil (q1 ?_)))))
 refine q4 (mv rfl rfl (st (ex_neq (c := false) rfl rfl (by decide)) (leB rfl) (OkL.nil (OkQ.then_ (OkC.cond_false rfl ?_)))))
 refine OkC.skip (OkQ.then_ (OkC.region (mv rfl rfl (ldW 0 tA36 rfl rfl rfl rfl (st (v := (pP b7 5)) (ex_indexAddr_array (j := 1) rfl rfl Tryz.underlying56 Tryz.sizeOf36 rfl (by decide) rfl) (leB rfl) ?_)))))
 refine OkL.store' (i := 2) (off := 5) (vs := fracL ((turnP a p c) / (turnP a b c))) (cs' := fracL ((turnP p b c) / (turnP a b c)) ++ fracL ((turnP a p c) / (turnP a b c)) ++ fracL (turnP a b p)) (L' := [blk b9 36 (fracL ((turnP a p c) / (turnP a b c))), blk b8 36 (fracL ((turnP p b c) / (turnP a b c))), blk b7 56 (fracL ((turnP p b c) / (turnP a b c)) ++ fracL ((turnP a p c) / (turnP a b c)) ++ fracL (turnP a b p)), blk b6 36 (fracL (turnP a b c)), blk b5 56 (fracL (0 : Rat) ++ fracL (0 : Rat) ++ fracL (0 : Rat)), blk b4 38 (ptL p), blk b3 38 (ptL c), blk b2 38 (ptL b), blk b1 38 (ptL a)]) (wt_none rfl) rfl rfl rfl rfl rfl Tryz.sizeOf36 rfl rfl rfl rfl (OkL.nil (OkQ.in_normal (OkQ.then_ (OkC.region (st (ex_add (c := (2 : Int)) rfl rfl (by decide)) (leB rfl) ?_)))))
 refine mv rfl rfl (OkL.nil (OkQ.again (OkR.step (q4 (st (ex_lss (c := true) rfl rfl (by decide)) (leB rfl) ?_)))))
 refine OkL.nil (q1 (OkC.cond_true rfl (OkC.skip (q1 (OkC.block ?_)))))
 refine q4 (mv rfl rfl (asg rfl rfl (OkL.nil (q1 (OkC.subF (sC 4 rfl (sC 5 rfl (sC 6 rfl (sC 8 rfl (sC 9 rfl (sC 10 rfl (sC 11 rfl (sC 32 rfl (sC 33 rfl (sC 34 rfl (sC 12 rfl (sC 36 rfl (sC 37 rfl (sC 38 rfl (sC 39 rfl (sC 40 rfl (sC 35 rfl (sC 41 rfl (sC 42 rfl (sC 14 rfl (sC 43 rfl (sC 44 rfl (sC 46 rfl (sC 47 rfl (sC 48 rfl (sC 49 rfl (sN))))))))))))))))))))))))))) ?_)))))
 refine rN [(0, true), (1, true), (2, true), (3, true), (4, false), (5, true), (6, true), (7, true)] [⟨8, 13, 36, fracL (0 : Rat)⟩] [(9, false), (10, true)] sr (by kernel_rfl) (fun _ _ d _ _ h => by cases d <;> exact h) (newC rfl rfl tZ36 rfl (newN)) rfl (uM rfl rfl rfl rfl (uE (v := (pP b7 10)) rfl (ex_indexAddr_array (j := 2) rfl rfl Tryz.underlying56 Tryz.sizeOf36 rfl (by decide) rfl) rfl rfl (uA 2 (fracL (turnP a b p)) tA36 rfl rfl rfl rfl rfl rfl rfl (uW 3 tA36 rfl rfl rfl rfl rfl rfl (OkN.imp rfl fun EF EL => ?_)))))
 have hz7 := Sz_div (a := turnP a b p) (b := turnP a b c) (by assumption)
 refine cl Tryz.call54 (fun w hw => fDiv_ok (turnP a b p) (turnP a b c) (by omega) (by assumption) w) rfl rfl rfl (OkN.back0 sr rfl (uM rfl rfl rfl rfl (uE rfl (ex_extract (v := (aG (fracL ((turnP a b p) / (turnP a b c))))) rfl rfl) rfl rfl (uE rfl (ex_extract (v := (vI 0)) rfl rfl) rfl rfl (OkN.news1 fun b10 => ?_)))))
 refine OkE.imp rfl (stW0 rfl rfl rfl Tryz.sizeOf36 rfl rfl (OkE.back (sl sr) (pS rfl rfl rfl (OkE.nil (q1 ?_)))))
 refine q4 (mv rfl rfl (st (ex_neq (c := false) rfl rfl (by decide)) (leB rfl) (OkL.nil (OkQ.then_ (OkC.cond_false rfl ?_)))))
 refine OkC.skip (OkQ.then_ (OkC.region (mv rfl rfl (ldW 0 tA36 rfl rfl rfl rfl (st (v := (pP b7 10)) (ex_indexAddr_array (j := 2) rfl rfl Tryz.underlying56 Tryz.sizeOf36 rfl (by decide) rfl) (leB rfl) ?_)))))
 refine OkL.store' (i := 3) (off := 10) (vs := fracL ((turnP a b p) / (turnP a b c))) (cs' := fracL ((turnP p b c) / (turnP a b c)) ++ fracL ((turnP a p c) / (turnP a b c)) ++ fracL ((turnP a b p) / (turnP a b c))) (L' := [blk b10 36 (fracL ((turnP a b p) / (turnP a b c))), blk b9 36 (fracL ((turnP a p c) / (turnP a b c))), blk b8 36 (fracL ((turnP p b c) / (turnP a b c))), blk b7 56 (fracL ((turnP p b c) / (turnP a b c)) ++ fracL ((turnP a p c) / (turnP a b c)) ++ fracL ((turnP a b p) / (turnP a b c))), blk b6 36 (fracL (turnP a b c)), blk b5 56 (fracL (0 : Rat) ++ fracL (0 : Rat) ++ fracL (0 : Rat)), blk b4 38 (ptL p), blk b3 38 (ptL c), blk b2 38 (ptL b), blk b1 38 (ptL a)]) (wt_none rfl) rfl rfl rfl rfl rfl Tryz.sizeOf36 rfl rfl rfl rfl (OkL.nil (OkQ.in_normal (OkQ.then_ (OkC.region (st (ex_add (c := (3 : Int)) rfl rfl (by decide)) (leB rfl) ?_)))))
 refine mv rfl rfl (OkL.nil (OkQ.again (OkR.step (q4 (st (ex_lss (c := false) rfl rfl (by decide)) (leB rfl) ?_)))))
 refine OkL.nil (q1 (OkC.cond_false rfl (OkC.exit (OkQ.then_exit (OkQ.then_exit ?_)))))
 refine OkQ.in_exit (q2 (ldW 3 tA56 rfl rfl rfl rfl (OkL.store' (i := 5) (off := 0) (vs := fracL ((turnP p b c) / (turnP a b c)) ++ fracL ((turnP a p c) / (turnP a b c)) ++ fracL ((turnP a b p) / (turnP a b c))) (cs' := fracL ((turnP p b c) / (turnP a b c)) ++ fracL ((turnP a p c) / (turnP a b c)) ++ fracL ((turnP a b p) / (turnP a b c))) (L' := [blk b10 36 (fracL ((turnP a b p) / (turnP a b c))), blk b9 36 (fracL ((turnP a p c) / (turnP a b c))), blk b8 36 (fracL ((turnP p b c) / (turnP a b c))), blk b7 56 (fracL ((turnP p b c) / (turnP a b c)) ++ fracL ((turnP a p c) / (turnP a b c)) ++ fracL ((turnP a b p) / (turnP a b c))), blk b6 36 (fracL (turnP a b c)), blk b5 56 (fracL ((turnP p b c) / (turnP a b c)) ++ fracL ((turnP a p c) / (turnP a b c)) ++ fracL ((turnP a b p) / (turnP a b c))), blk b4 38 (ptL p), blk b3 38 (ptL c), blk b2 38 (ptL b), blk b1 38 (ptL a)]) (wt_none rfl) rfl rfl rfl rfl rfl Tryz.sizeOf56 rfl rfl rfl rfl (asg rfl rfl (OkL.nil ?_)))))
 exact OkQ.subF (sC 4 rfl (sC 5 rfl (sC 6 rfl (sC 8 rfl (sC 9 rfl (sC 10 rfl (sC 11 rfl (sC 32 rfl (sC 33 rfl (sC 34 rfl (sC 12 rfl (sC 36 rfl (sC 37 rfl (sC 38 rfl (sC 39 rfl (sC 40 rfl (sC 35 rfl (sC 41 rfl (sC 42 rfl (sC 14 rfl (sC 43 rfl (sC 44 rfl (sC 46 rfl (sC 47 rfl (sC 48 rfl (sC 49 rfl (sC 13 rfl (sN)))))))))))))))))))))))))))) (OkQ.then_ (OkC.ret (ret_two rfl (rd_agg (i := 5) (cs := fracL ((turnP p b c) / (turnP a b c)) ++ fracL ((turnP a p c) / (turnP a b c)) ++ fracL ((turnP a b p) / (turnP a b c))) rfl rfl Tryz.isAgg56 Tryz.sizeOf56 rfl) (rd_tmp (v := (vI 0)) rfl) (fun w hw => ⟨rfl, hw.out⟩))))
theorem fill_numo_56_  : Instr.fill (fun i => some (i * 5, 5)) (fracL (0 : Rat) ++ fracL (0 : Rat) ++ fracL (0 : Rat)).toArray [] = some (fracL (0 : Rat) ++ fracL (0 : Rat) ++ fracL (0 : Rat)).toArray := by kernel_rfl
theorem Bary0_ok (a b c p : Pt) (hs : SzP a + SzP b + SzP c + SzP p ≤ 268435456) (h : turnP a b c = 0) (w : World)  : Calls Tryz.prog 26 #[(aG (ptL a)), (aG (ptL b)), (aG (ptL c)), (aG (ptL p))] w (Gives w (Value.tuple #[(aG (fracL (0 : Rat) ++ fracL (0 : Rat) ++ fracL (0 : Rat))), (vI 1)])) := by
 refine calls_of (args := [(aG (ptL a)), (aG (ptL b)), (aG (ptL c)), (aG (ptL p))]) Tryz.func26 rfl rfl (leB rfl) (OkC.subF (sC 0 rfl (sC 1 rfl (sC 2 rfl (sC 3 rfl (sN))))) (q4 (bx (cs := ptL a) rfl rfl rfl fun b1 => bx (cs := ptL b) rfl rfl rfl fun b2 => bx (cs := ptL c) rfl rfl rfl fun b3 => ?_)))
 refine bx (cs := ptL p) rfl rfl rfl fun b4 => al tZ56 rfl fun b5 => asg rfl rfl (q3 (sC 4 rfl (sC 5 rfl (sC 6 rfl (sC 7 rfl (sC 8 rfl (sC 9 rfl (sN))))))) (ldW 4 tA38 rfl rfl rfl rfl (ldW 3 tA38 rfl rfl rfl rfl ?_)))
 refine ldW 2 tA38 rfl rfl rfl rfl ?_
 have hz1 := Sz_turn a b c
 refine cl Tryz.call53 (fun w hw => twice_ok a b c (by omega) w) rfl rfl rfl (al tZ36 rfl fun b6 => stW0 rfl rfl rfl Tryz.sizeOf36 rfl rfl (q6 (sC 4 rfl (sC 5 rfl (sC 6 rfl (sC 7 rfl (sC 8 rfl (sC 9 rfl (sC 10 rfl (sN)))))))) (rN [(0, true), (1, true), (2, true), (4, true), (5, true), (6, true), (8, true), (9, true), (10, true), (3, false), (7, false), (11, false), (12, true)] [⟨13, 11, 56, fracL (0 : Rat) ++ fracL (0 : Rat) ++ fracL (0 : Rat)⟩] [(14, false)] sr (by kernel_rfl) (fun _ _ d _ _ h => by cases d <;> exact h) (newC rfl rfl tZ56 rfl (newN)) rfl (uW 2 tA38 rfl rfl rfl rfl rfl rfl ?_))))
 refine uW 4 tA38 rfl rfl rfl rfl rfl rfl (uW 3 tA38 rfl rfl rfl rfl rfl rfl (uW 5 tA38 rfl rfl rfl rfl rfl rfl (uW 2 tA38 rfl rfl rfl rfl rfl rfl (uW 3 tA38 rfl rfl rfl rfl rfl rfl (uW 5 tA38 rfl rfl rfl rfl rfl rfl ?_)))))
 refine uW 4 tA38 rfl rfl rfl rfl rfl rfl (uW 2 tA38 rfl rfl rfl rfl rfl rfl (OkN.imp rfl fun EF EL => ?_))
 have hz2 := Sz_turn p b c
 refine cl Tryz.call53 (fun w hw => twice_ok p b c (by omega) w) rfl rfl rfl (OkN.back0 sr rfl (OkN.imp rfl fun EF EL => ?_))
 have hz3 := Sz_turn a p c
 refine cl Tryz.call53 (fun w hw => twice_ok a p c (by omega) w) rfl rfl rfl (OkN.back0 sr rfl (OkN.imp rfl fun EF EL => ?_))
 have hz4 := Sz_turn a b p
 refine cl Tryz.call53 (fun w hw => twice_ok a b p (by omega) w) rfl rfl rfl (OkN.back0 sr rfl (uE (v := (aG (fracL (turnP p b c) ++ fracL (turnP a p c) ++ fracL (turnP a b p)))) rfl (ex_build_array (zs := fracL (0 : Rat) ++ fracL (0 : Rat) ++ fracL (0 : Rat)) (vs := fracL (turnP p b c) ++ fracL (turnP a p c) ++ fracL (turnP a b p)) (pv := [(0, (aG (fracL (turnP p b c)))), (1, (aG (fracL (turnP a p c)))), (2, (aG (fracL (turnP a b p))))]) Tryz.zeroValue56 Tryz.underlying56 Tryz.sizeOf36 rfl (fill_numo_56_0fracL_1fracL_2fracL (turnP p b c) (turnP a p c) (turnP a b p))) rfl rfl (OkN.news1 fun b7 => OkE.imp rfl (stW0 rfl rfl rfl Tryz.sizeOf56 rfl rfl ?_))))
 refine OkE.back (sl sr) (OkE.nil (OkQ.subF (sC 4 rfl (sC 5 rfl (sC 6 rfl (sC 8 rfl (sC 9 rfl (sC 10 rfl (sC 11 rfl (sN)))))))) (q1 (q4 (mv rfl rfl ?_)))))
 refine OkL.nil (OkQ.then_ (OkC.block (OkC.unroll 5 (OkR.step (q4 ?_)))))
 refine st (ex_lss (c := true) rfl rfl (by decide)) (leB rfl) (OkL.nil (q1 (OkC.cond_true rfl (OkC.skip (q1 ?_)))))
 refine OkC.block (q4 (mv rfl rfl (asg rfl rfl (OkL.nil (q1 ?_)))))
 refine rN [(0, true), (1, true), (2, true), (3, true), (4, false), (5, true), (6, true), (7, true)] [⟨8, 13, 36, fracL (0 : Rat)⟩] [(9, false), (10, true)] sr (by kernel_rfl) (fun _ _ d _ _ h => by cases d <;> exact h) (newC rfl rfl tZ36 rfl (newN)) rfl (uM rfl rfl rfl rfl (uE (v := (pP b7 0)) rfl (ex_indexAddr_array (j := 0) rfl rfl Tryz.underlying56 Tryz.sizeOf36 rfl (by decide) rfl) rfl rfl (uA 0 (fracL (turnP p b c)) tA36 rfl rfl rfl rfl rfl rfl rfl (uW 1 tA36 rfl rfl rfl rfl rfl rfl (OkN.imp rfl fun EF EL => ?_)))))
 refine cl (args := [(aG (fracL (turnP p b c))), (aG (fracL (turnP a b c)))]) (v := (Value.tuple #[(aG (fracL (0 : Rat))), (vI 5)])) Tryz.call54 (fun w hw => (by rw [h]; exact fDiv0_ok _ w)) rfl rfl rfl (OkN.back0 sr rfl (uM rfl rfl rfl rfl (uE rfl (ex_extract (v := (aG (fracL (0 : Rat)))) rfl rfl) rfl rfl (uE rfl (ex_extract (v := (vI 5)) rfl rfl) rfl rfl (OkN.news1 fun b8 => ?_)))))
 refine OkE.imp rfl (stW0 rfl rfl rfl Tryz.sizeOf36 rfl rfl (OkE.back (sl sr) (pS rfl rfl rfl (OkE.nil (q1 ?_)))))
 refine q4 (mv rfl rfl (st (ex_neq (c := true) rfl rfl (by decide)) (leB rfl) (OkL.nil (OkQ.then_ (OkC.cond_true rfl ?_)))))
 refine q4 (st (v := (aG (fracL (0 : Rat) ++ fracL (0 : Rat) ++ fracL (0 : Rat)))) (ex_build_array (zs := fracL (0 : Rat) ++ fracL (0 : Rat) ++ fracL (0 : Rat)) (vs := fracL (0 : Rat) ++ fracL (0 : Rat) ++ fracL (0 : Rat)) (pv := []) Tryz.zeroValue56 Tryz.underlying56 Tryz.sizeOf36 rfl (fill_numo_56_ )) (leB rfl) (stW3 rfl rfl rfl Tryz.sizeOf56 rfl rfl (asg rfl rfl (OkL.nil (OkQ.then_ ?_)))))
 refine OkC.ret (OkQ.then_ret (OkQ.in_ret (OkQ.then_ret (OkQ.then_ret (OkQ.in_ret ?_)))))
 exact OkQ.then_ret (ret_two rfl (rd_agg (i := 3) (cs := fracL (0 : Rat) ++ fracL (0 : Rat) ++ fracL (0 : Rat)) rfl rfl Tryz.isAgg56 Tryz.sizeOf56 rfl) (rd_tmp (v := (vI 1)) rfl) (fun w hw => ⟨rfl, hw.out⟩))
end
def absQ (a : Rat) : Rat := if a.num < 0 then -a else a
theorem absQ_num (a : Rat) : (absQ a).num = mkI false a.num.natAbs := by
  unfold absQ mkI
  by_cases h : a.num < 0
  · simp [h, Rat.neg_num]; omega
  · simp [h]; omega
theorem absQ_den (a : Rat) : (absQ a).den = a.den := by
  unfold absQ
  by_cases h : a.num < 0
  · simp [h, Rat.neg_den]
  · simp [h]
theorem Sz_abs (a : Rat) : Sz (absQ a) = Sz a := by
  unfold Sz
  rw [absQ_num, absQ_den, mkI_natAbs]
theorem absQ_ne {a : Rat} (h : a ≠ 0) : absQ a ≠ 0 := by
  unfold absQ
  split
  · intro e; exact h (by rw [← Rat.neg_neg a, e]; rfl)
  · exact h
theorem sign_ne {q : Rat} (h : q ≠ 0) : q.num.sign ≠ 0 := fun e => h (Rat.num_eq_zero.1 (Int.sign_eq_zero_iff_zero.1 e))
theorem two_ne {q : Rat} (h : q ≠ 0) : ((2 : Int) : Rat) * q ≠ 0 := by
  intro e
  rcases Rat.mul_eq_zero.1 e with h1 | h1
  · exact absurd h1 (by decide +kernel)
  · exact h h1
theorem SzP_right (v : Pt) : SzP (⟨v.y, -v.x⟩ : Pt) ≤ SzP v := SzP_le (SzP_y v) (by show Sz (-v.x) ≤ _; rw [Sz_neg]; exact SzP_x v)
def zq (q : Rat) : Nat := if q.num.sign = 0 then 1 else 0
def whereN (x y z : Rat) : Nat := if x.num.sign = -1 ∨ y.num.sign = -1 ∨ z.num.sign = -1 then 0 else 1 + zq x + zq y + zq z
theorem where_neg0 {x y z : Rat} (h : x.num.sign = -1) : whereN x y z = 0 := if_pos (.inl h)
theorem where_neg1 {x y z : Rat} (h : y.num.sign = -1) : whereN x y z = 0 := if_pos (.inr (.inl h))
theorem where_neg2 {x y z : Rat} (h : z.num.sign = -1) : whereN x y z = 0 := if_pos (.inr (.inr h))
theorem where_ok {x y z : Rat} (h1 : ¬ x.num.sign = -1) (h2 : ¬ y.num.sign = -1) (h3 : ¬ z.num.sign = -1) : whereN x y z = 1 + zq x + zq y + zq z := if_neg (by simp [h1, h2, h3])
theorem zq_one {x : Rat} (h : x.num.sign = 0) : zq x = 1 := if_pos h
theorem zq_zero {x : Rat} (h : ¬ x.num.sign = 0) : zq x = 0 := if_neg h
theorem zq_le (x : Rat) : zq x ≤ 1 := by unfold zq; split <;> omega
end Go.Proofs.YtpkoldfmbebmgaaGreatDoor
