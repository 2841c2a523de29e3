import Derived.Test.YtmjbiebmgffleaaGreatDoorPart05
import Derived.Test.YtmjbiebmgffleaaGreatDoorPart21
namespace Go.Proofs.YtmjbiebmgffleaaGreatDoor
open Go Go.RowKit
set_option linter.unusedVariables false
set_option linter.unusedSimpArgs false
section
set_option maxRecDepth 100000
theorem At_ok (a b c : Pt) (x y z : Rat) (hs : SzP a + SzP b + SzP c ≤ 268435456) (hx : Sz x + Sz y + Sz z ≤ 268435456) (w : World)  : Calls Tryz.prog 12 #[(aG (ptL a)), (aG (ptL b)), (aG (ptL c)), (aG (fracL x ++ fracL y ++ fracL z))] w (Gives w (aG (ptL (scaleP a x + scaleP b y + scaleP c z)))) := by
 refine calls_of (args := [(aG (ptL a)), (aG (ptL b)), (aG (ptL c)), (aG (fracL x ++ fracL y ++ fracL z))]) Tryz.func12 rfl rfl (leB rfl) (OkC.subF (sC 0 rfl (sC 1 rfl (sC 2 rfl (sC 3 rfl (sN))))) (q4 (bx (cs := ptL a) rfl rfl rfl fun b1 => bx (cs := ptL b) rfl rfl rfl fun b2 => bx (cs := ptL c) rfl rfl rfl fun b3 => ?_)))
 refine bx (cs := fracL x ++ fracL y ++ fracL z) rfl rfl rfl fun b4 => al tZ45 rfl fun b5 => q6 (sC 4 rfl (sC 5 rfl (sC 6 rfl (sC 7 rfl (sC 8 rfl (sN)))))) (rG [(0, true), (1, true), (2, true), (4, true), (5, true), (6, true), (9, true), (10, true), (11, true), (3, false), (7, false), (8, false), (12, false), (13, false), (14, false)] (sl sr) (by kernel_rfl) (fun _ _ d _ _ h => by cases d <;> exact h) (pW 3 tA45 rfl rfl rfl rfl rfl (pE (v := (pP b4 0)) rfl (ex_indexAddr_array (j := 0) rfl rfl Tryz.underlying60 Tryz.sizeOf43 rfl (by decide) rfl) rfl ?_)))
 refine pA 0 (fracL x) tA43 rfl rfl rfl rfl rfl rfl (pW 2 tA45 rfl rfl rfl rfl rfl (pE (v := (pP b4 5)) rfl (ex_indexAddr_array (j := 1) rfl rfl Tryz.underlying60 Tryz.sizeOf43 rfl (by decide) rfl) rfl (pA 0 (fracL y) tA43 rfl rfl rfl rfl rfl rfl (pW 1 tA45 rfl rfl rfl rfl rfl (pE (v := (pP b4 10)) rfl (ex_indexAddr_array (j := 2) rfl rfl Tryz.underlying60 Tryz.sizeOf43 rfl (by decide) rfl) rfl ?_)))))
 refine pA 0 (fracL z) tA43 rfl rfl rfl rfl rfl rfl (OkE.imp rfl ?_)
 have hz1 := SzP_scale a x
 refine cl Tryz.call24 (fun w hw => pScale_ok a x (by omega) w) rfl rfl rfl (OkE.back (sl sr) (OkE.imp rfl ?_))
 have hz2 := SzP_scale b y
 refine cl Tryz.call24 (fun w hw => pScale_ok b y (by omega) w) rfl rfl rfl (OkE.back (sl sr) (OkE.imp rfl ?_))
 have hz3 := SzP_add (scaleP a x) (scaleP b y)
 refine cl Tryz.call25 (fun w hw => pAdd_ok (scaleP a x) (scaleP b y) (by omega) w) rfl rfl rfl (OkE.back (sl sr) (OkE.imp rfl ?_))
 have hz4 := SzP_scale c z
 refine cl Tryz.call24 (fun w hw => pScale_ok c z (by omega) w) rfl rfl rfl (OkE.back (sl sr) (OkE.imp rfl ?_))
 have hz5 := SzP_add ((scaleP a x) + (scaleP b y)) (scaleP c z)
 refine cl Tryz.call25 (fun w hw => pAdd_ok ((scaleP a x) + (scaleP b y)) (scaleP c z) (by omega) w) rfl rfl rfl (OkE.back (sl sr) (OkE.imp rfl (stW0 rfl rfl rfl Tryz.sizeOf45 rfl rfl (OkE.back (sl sr) (OkE.nil ?_)))))
 exact OkQ.subF (sC 8 rfl (sN)) (OkQ.then_ (OkC.ret (ret_one rfl (rd_agg (i := 0) (cs := ptL (((scaleP a x) + (scaleP b y)) + (scaleP c z))) rfl rfl Tryz.isAgg45 Tryz.sizeOf45 rfl) (fun w hw => ⟨rfl, hw.out⟩))))
theorem fill_numo_60_0fracL_1fracL_2fracL (x0 : Rat) (x1 : Rat) (x2 : Rat) : Instr.fill (fun i => some (i * 5, 5)) (fracL (0 : Rat) ++ fracL (0 : Rat) ++ fracL (0 : Rat)).toArray [(0, .agg (fracL x0).toArray), (1, .agg (fracL x1).toArray), (2, .agg (fracL x2).toArray)] = some (fracL x0 ++ fracL x1 ++ fracL x2).toArray := by kernel_rfl
theorem Bary_ok (a b c p : Pt) (hs : SzP a + SzP b + SzP c + SzP p ≤ 268435456) (h : turnP a b c ≠ 0) (w : World)  : Calls Tryz.prog 39 #[(aG (ptL a)), (aG (ptL b)), (aG (ptL c)), (aG (ptL p))] w (Gives w (Value.tuple #[(aG (fracL (turnP p b c / turnP a b c) ++ fracL (turnP a p c / turnP a b c) ++ fracL (turnP a b p / turnP a b c))), (vI 0)])) := by
 refine calls_of (args := [(aG (ptL a)), (aG (ptL b)), (aG (ptL c)), (aG (ptL p))]) Tryz.func39 rfl rfl (leB rfl) (OkC.subF (sC 0 rfl (sC 1 rfl (sC 2 rfl (sC 3 rfl (sN))))) (q4 (bx (cs := ptL a) rfl rfl rfl fun b1 => bx (cs := ptL b) rfl rfl rfl fun b2 => bx (cs := ptL c) rfl rfl rfl fun b3 => ?_)))
 refine bx (cs := ptL p) rfl rfl rfl fun b4 => al tZ60 rfl fun b5 => asg rfl rfl (q3 (sC 4 rfl (sC 5 rfl (sC 6 rfl (sC 7 rfl (sC 8 rfl (sC 9 rfl (sN))))))) (ldW 4 tA45 rfl rfl rfl rfl (ldW 3 tA45 rfl rfl rfl rfl ?_)))
 refine ldW 2 tA45 rfl rfl rfl rfl ?_
 have hz1 := Sz_turn a b c
 refine cl Tryz.call71 (fun w hw => twice_ok a b c (by omega) w) rfl rfl rfl (al tZ43 rfl fun b6 => stW0 rfl rfl rfl Tryz.sizeOf43 rfl rfl (q6 (sC 4 rfl (sC 5 rfl (sC 6 rfl (sC 7 rfl (sC 8 rfl (sC 9 rfl (sC 10 rfl (sN)))))))) (rN [(0, true), (1, true), (2, true), (4, true), (5, true), (6, true), (8, true), (9, true), (10, true), (3, false), (7, false), (11, false), (12, true)] [⟨13, 11, 60, fracL (0 : Rat) ++ fracL (0 : Rat) ++ fracL (0 : Rat)⟩] [(14, false)] sr (by kernel_rfl) (fun _ _ d _ _ h => by cases d <;> exact h) (newC rfl rfl tZ60 rfl (newN)) rfl (uW 2 tA45 rfl rfl rfl rfl rfl rfl ?_))))
 refine uW 4 tA45 rfl rfl rfl rfl rfl rfl (uW 3 tA45 rfl rfl rfl rfl rfl rfl (uW 5 tA45 rfl rfl rfl rfl rfl rfl (uW 2 tA45 rfl rfl rfl rfl rfl rfl (uW 3 tA45 rfl rfl rfl rfl rfl rfl (uW 5 tA45 rfl rfl rfl rfl rfl rfl ?_)))))
 refine uW 4 tA45 rfl rfl rfl rfl rfl rfl (uW 2 tA45 rfl rfl rfl rfl rfl rfl (OkN.imp rfl fun EF EL => ?_))
 have hz2 := Sz_turn p b c
 refine cl Tryz.call71 (fun w hw => twice_ok p b c (by omega) w) rfl rfl rfl (OkN.back0 sr rfl (OkN.imp rfl fun EF EL => ?_))
 have hz3 := Sz_turn a p c
 refine cl Tryz.call71 (fun w hw => twice_ok a p c (by omega) w) rfl rfl rfl (OkN.back0 sr rfl (OkN.imp rfl fun EF EL => ?_))
 have hz4 := Sz_turn a b p
 refine cl Tryz.call71 (fun w hw => twice_ok a b p (by omega) w) rfl rfl rfl (OkN.back0 sr rfl (uE (v := (aG (fracL (turnP p b c) ++ fracL (turnP a p c) ++ fracL (turnP a b p)))) rfl (ex_build_array (zs := fracL (0 : Rat) ++ fracL (0 : Rat) ++ fracL (0 : Rat)) (vs := fracL (turnP p b c) ++ fracL (turnP a p c) ++ fracL (turnP a b p)) (pv := [(0, (aG (fracL (turnP p b c)))), (1, (aG (fracL (turnP a p c)))), (2, (aG (fracL (turnP a b p))))]) Tryz.zeroValue60 Tryz.underlying60 Tryz.sizeOf43 rfl (fill_numo_60_0fracL_1fracL_2fracL (turnP p b c) (turnP a p c) (turnP a b p))) rfl rfl (OkN.news1 fun b7 => OkE.imp rfl (stW0 rfl rfl rfl Tryz.sizeOf60 rfl rfl ?_))))
 refine OkE.back (sl sr) (OkE.nil (OkQ.subF (sC 4 rfl (sC 5 rfl (sC 6 rfl (sC 8 rfl (sC 9 rfl (sC 10 rfl (sC 11 rfl (sN)))))))) (q1 (q4 (mv rfl rfl ?_)))))
 refine OkL.nil (OkQ.then_ (OkC.block (OkC.unroll 5 (OkR.step (q4 ?_)))))
 refine st (ex_lss (c := true) rfl rfl (by decide)) (leB rfl) (OkL.nil (q1 (OkC.cond_true rfl (OkC.skip (q1 ?_)))))
 refine OkC.block (q4 (mv rfl rfl (asg rfl rfl (q6 (sC 4 rfl (sC 5 rfl (sC 6 rfl (sC 8 rfl (sC 9 rfl (sC 10 rfl (sC 11 rfl (sC 32 rfl (sC 12 rfl (sN)))))))))) (rN [(0, true), (1, true), (2, true), (3, true), (4, false), (5, true), (6, true), (7, true)] [⟨8, 13, 43, fracL (0 : Rat)⟩] [(9, false), (10, true)] sr (by kernel_rfl) (fun _ _ d _ _ h => by cases d <;> exact h) (newC rfl rfl tZ43 rfl (newN)) rfl ?_)))))
 refine uM rfl rfl rfl rfl (uE (v := (pP b7 0)) rfl (ex_indexAddr_array (j := 0) rfl rfl Tryz.underlying60 Tryz.sizeOf43 rfl (by decide) rfl) rfl rfl (uA 0 (fracL (turnP p b c)) tA43 rfl rfl rfl rfl rfl rfl rfl (uW 1 tA43 rfl rfl rfl rfl rfl rfl (OkN.imp rfl fun EF EL => ?_))))
 have hz5 := Sz_div (a := turnP p b c) (b := turnP a b c) (by assumption)
 refine cl Tryz.call27 (fun w hw => fDiv_ok (turnP p b c) (turnP a b c) (by omega) (by assumption) w) rfl rfl rfl (OkN.back0 sr rfl (uM rfl rfl rfl rfl (uE rfl (ex_extract (v := (aG (fracL ((turnP p b c) / (turnP a b c))))) rfl rfl) rfl rfl (uE rfl (ex_extract (v := (vI 0)) rfl rfl) rfl rfl (OkN.news1 fun b8 => ?_)))))
 refine OkE.imp rfl (stW0 rfl rfl rfl Tryz.sizeOf43 rfl rfl (OkE.back (sl sr) (pS rfl rfl rfl (OkE.nil (OkQ.subF (sC 4 rfl (sC 5 rfl (sC 6 rfl (sC 8 rfl (sC 9 rfl (sC 10 rfl (sC 11 rfl (sC 32 rfl (sC 12 rfl (sC 13 rfl (sC 14 rfl (sN)))))))))))) ?_)))))
 refine q1 (q4 (mv rfl rfl (st (ex_neq (c := false) rfl rfl (by decide)) (leB rfl) (OkL.nil (OkQ.subF (sC 4 rfl (sC 5 rfl (sC 6 rfl (sC 8 rfl (sC 9 rfl (sC 10 rfl (sC 11 rfl (sC 32 rfl (sC 12 rfl (sC 13 rfl (sC 44 rfl (sN)))))))))))) ?_)))))
 refine OkQ.then_ (OkC.cond_false rfl (OkC.skip (OkQ.then_ (OkC.region (mv rfl rfl ?_)))))
 refine ldW 0 tA43 rfl rfl rfl rfl (st (v := (pP b7 0)) (ex_indexAddr_array (j := 0) rfl rfl Tryz.underlying60 Tryz.sizeOf43 rfl (by decide) rfl) (leB rfl) (OkL.store' (i := 1) (off := 0) (vs := fracL ((turnP p b c) / (turnP a b c))) (cs' := fracL ((turnP p b c) / (turnP a b c)) ++ fracL (turnP a p c) ++ fracL (turnP a b p)) (L' := [blk b8 43 (fracL ((turnP p b c) / (turnP a b c))), blk b7 60 (fracL ((turnP p b c) / (turnP a b c)) ++ fracL (turnP a p c) ++ fracL (turnP a b p)), blk b6 43 (fracL (turnP a b c)), blk b5 60 (fracL (0 : Rat) ++ fracL (0 : Rat) ++ fracL (0 : Rat)), blk b4 45 (ptL p), blk b3 45 (ptL c), blk b2 45 (ptL b), blk b1 45 (ptL a)]) (wt_none rfl) rfl rfl rfl rfl rfl Tryz.sizeOf43 rfl rfl rfl rfl (OkL.nil (OkQ.subF (sC 4 rfl (sC 5 rfl (sC 6 rfl (sC 8 rfl (sC 9 rfl (sC 10 rfl (sC 11 rfl (sC 32 rfl (sC 12 rfl (sC 13 rfl (sN))))))))))) (OkQ.in_normal ?_)))))
 refine OkQ.then_ (OkC.region (st (ex_add (c := (1 : Int)) rfl rfl (by decide)) (leB rfl) (mv rfl rfl (OkL.nil (OkQ.subF (sC 4 rfl (sC 5 rfl (sC 6 rfl (sC 8 rfl (sC 9 rfl (sC 10 rfl (sC 11 rfl (sC 32 rfl (sC 12 rfl (sC 13 rfl (sN))))))))))) ?_)))))
 refine OkQ.again (OkR.step (q4 (st (ex_lss (c := true) rfl rfl (by decide)) (leB rfl) (OkL.nil (q1 ?_)))))
 refine OkC.cond_true rfl (OkC.skip (q1 (OkC.block (q4 (mv rfl rfl ?_)))))
 refine asg rfl rfl (q6 (sC 4 rfl (sC 5 rfl (sC 6 rfl (sC 8 rfl (sC 9 rfl (sC 10 rfl (sC 11 rfl (sC 32 rfl (sC 12 rfl (sC 13 rfl (sN))))))))))) (OkC.subF (sC 4 rfl (sC 5 rfl (sC 6 rfl (sC 8 rfl (sC 9 rfl (sC 10 rfl (sC 11 rfl (sC 32 rfl (sC 12 rfl (sN)))))))))) (rN [(0, true), (1, true), (2, true), (3, true), (4, false), (5, true), (6, true), (7, true)] [⟨8, 13, 43, fracL (0 : Rat)⟩] [(9, false), (10, true)] sr (by kernel_rfl) (fun _ _ d _ _ h => by cases d <;> exact h) (newC rfl rfl tZ43 rfl (newN)) rfl (uM rfl rfl rfl rfl (uE (v := (pP b7 5)) rfl (ex_indexAddr_array (j := 1) rfl rfl Tryz.underlying60 Tryz.sizeOf43 rfl (by decide) rfl) rfl rfl ?_)))))
 refine uA 1 (fracL (turnP a p c)) tA43 rfl rfl rfl rfl rfl rfl rfl (uW 2 tA43 rfl rfl rfl rfl rfl rfl (OkN.imp rfl fun EF EL => ?_))
 have hz6 := Sz_div (a := turnP a p c) (b := turnP a b c) (by assumption)
 refine cl Tryz.call27 (fun w hw => fDiv_ok (turnP a p c) (turnP a b c) (by omega) (by assumption) w) rfl rfl rfl (OkN.back0 sr rfl (uM rfl rfl rfl rfl (uE rfl (ex_extract (v := (aG (fracL ((turnP a p c) / (turnP a b c))))) rfl rfl) rfl rfl (uE rfl (ex_extract (v := (vI 0)) rfl rfl) rfl rfl (OkN.news1 fun b9 => ?_)))))
 refine OkE.imp rfl (stW0 rfl rfl rfl Tryz.sizeOf43 rfl rfl (OkE.back (sl sr) (pS rfl rfl rfl (OkE.nil (OkQ.subF (sC 4 rfl (sC 5 rfl (sC 6 rfl (sC 8 rfl (sC 9 rfl (sC 10 rfl (sC 11 rfl (sC 32 rfl (sC 12 rfl (sC 13 rfl (sC 14 rfl (sN)))))))))))) ?_)))))
 refine q1 (q4 (mv rfl rfl (st (ex_neq (c := false) rfl rfl (by decide)) (leB rfl) (OkL.nil (OkQ.subF (sC 4 rfl (sC 5 rfl (sC 6 rfl (sC 8 rfl (sC 9 rfl (sC 10 rfl (sC 11 rfl (sC 32 rfl (sC 12 rfl (sC 13 rfl (sC 44 rfl (sN)))))))))))) ?_)))))
 refine OkQ.then_ (OkC.cond_false rfl (OkC.skip (OkQ.then_ (OkC.region (mv rfl rfl ?_)))))
 refine ldW 0 tA43 rfl rfl rfl rfl (st (v := (pP b7 5)) (ex_indexAddr_array (j := 1) rfl rfl Tryz.underlying60 Tryz.sizeOf43 rfl (by decide) rfl) (leB rfl) (OkL.store' (i := 2) (off := 5) (vs := fracL ((turnP a p c) / (turnP a b c))) (cs' := fracL ((turnP p b c) / (turnP a b c)) ++ fracL ((turnP a p c) / (turnP a b c)) ++ fracL (turnP a b p)) (L' := [blk b9 43 (fracL ((turnP a p c) / (turnP a b c))), blk b8 43 (fracL ((turnP p b c) / (turnP a b c))), blk b7 60 (fracL ((turnP p b c) / (turnP a b c)) ++ fracL ((turnP a p c) / (turnP a b c)) ++ fracL (turnP a b p)), blk b6 43 (fracL (turnP a b c)), blk b5 60 (fracL (0 : Rat) ++ fracL (0 : Rat) ++ fracL (0 : Rat)), blk b4 45 (ptL p), blk b3 45 (ptL c), blk b2 45 (ptL b), blk b1 45 (ptL a)]) (wt_none rfl) rfl rfl rfl rfl rfl Tryz.sizeOf43 rfl rfl rfl rfl (OkL.nil (OkQ.subF (sC 4 rfl (sC 5 rfl (sC 6 rfl (sC 8 rfl (sC 9 rfl (sC 10 rfl (sC 11 rfl (sC 32 rfl (sC 12 rfl (sC 13 rfl (sN))))))))))) (OkQ.in_normal ?_)))))
 refine OkQ.then_ (OkC.region (st (ex_add (c := (2 : Int)) rfl rfl (by decide)) (leB rfl) (mv rfl rfl (OkL.nil (OkQ.subF (sC 4 rfl (sC 5 rfl (sC 6 rfl (sC 8 rfl (sC 9 rfl (sC 10 rfl (sC 11 rfl (sC 32 rfl (sC 12 rfl (sC 13 rfl (sN))))))))))) ?_)))))
 refine OkQ.again (OkR.step (q4 (st (ex_lss (c := true) rfl rfl (by decide)) (leB rfl) (OkL.nil (q1 ?_)))))
 refine OkC.cond_true rfl (OkC.skip (q1 (OkC.block (q4 (mv rfl rfl ?_)))))
 refine asg rfl rfl (q6 (sC 4 rfl (sC 5 rfl (sC 6 rfl (sC 8 rfl (sC 9 rfl (sC 10 rfl (sC 11 rfl (sC 32 rfl (sC 12 rfl (sC 13 rfl (sN))))))))))) (OkC.subF (sC 4 rfl (sC 5 rfl (sC 6 rfl (sC 8 rfl (sC 9 rfl (sC 10 rfl (sC 11 rfl (sC 32 rfl (sC 12 rfl (sN)))))))))) (rN [(0, true), (1, true), (2, true), (3, true), (4, false), (5, true), (6, true), (7, true)] [⟨8, 13, 43, fracL (0 : Rat)⟩] [(9, false), (10, true)] sr (by kernel_rfl) (fun _ _ d _ _ h => by cases d <;> exact h) (newC rfl rfl tZ43 rfl (newN)) rfl (uM rfl rfl rfl rfl (uE (v := (pP b7 10)) rfl (ex_indexAddr_array (j := 2) rfl rfl Tryz.underlying60 Tryz.sizeOf43 rfl (by decide) rfl) rfl rfl ?_)))))
 refine uA 2 (fracL (turnP a b p)) tA43 rfl rfl rfl rfl rfl rfl rfl (uW 3 tA43 rfl rfl rfl rfl rfl rfl (OkN.imp rfl fun EF EL => ?_))
 have hz7 := Sz_div (a := turnP a b p) (b := turnP a b c) (by assumption)
 refine cl Tryz.call27 (fun w hw => fDiv_ok (turnP a b p) (turnP a b c) (by omega) (by assumption) w) rfl rfl rfl (OkN.back0 sr rfl (uM rfl rfl rfl rfl (uE rfl (ex_extract (v := (aG (fracL ((turnP a b p) / (turnP a b c))))) rfl rfl) rfl rfl (uE rfl (ex_extract (v := (vI 0)) rfl rfl) rfl rfl (OkN.news1 fun b10 => ?_)))))
 refine OkE.imp rfl (stW0 rfl rfl rfl Tryz.sizeOf43 rfl rfl (OkE.back (sl sr) (pS rfl rfl rfl (OkE.nil (OkQ.subF (sC 4 rfl (sC 5 rfl (sC 6 rfl (sC 8 rfl (sC 9 rfl (sC 10 rfl (sC 11 rfl (sC 32 rfl (sC 12 rfl (sC 13 rfl (sC 14 rfl (sN)))))))))))) ?_)))))
 refine q1 (q4 (mv rfl rfl (st (ex_neq (c := false) rfl rfl (by decide)) (leB rfl) (OkL.nil (OkQ.subF (sC 4 rfl (sC 5 rfl (sC 6 rfl (sC 8 rfl (sC 9 rfl (sC 10 rfl (sC 11 rfl (sC 32 rfl (sC 12 rfl (sC 13 rfl (sC 44 rfl (sN)))))))))))) ?_)))))
 refine OkQ.then_ (OkC.cond_false rfl (OkC.skip (OkQ.then_ (OkC.region (mv rfl rfl ?_)))))
 refine ldW 0 tA43 rfl rfl rfl rfl (st (v := (pP b7 10)) (ex_indexAddr_array (j := 2) rfl rfl Tryz.underlying60 Tryz.sizeOf43 rfl (by decide) rfl) (leB rfl) (OkL.store' (i := 3) (off := 10) (vs := fracL ((turnP a b p) / (turnP a b c))) (cs' := fracL ((turnP p b c) / (turnP a b c)) ++ fracL ((turnP a p c) / (turnP a b c)) ++ fracL ((turnP a b p) / (turnP a b c))) (L' := [blk b10 43 (fracL ((turnP a b p) / (turnP a b c))), blk b9 43 (fracL ((turnP a p c) / (turnP a b c))), blk b8 43 (fracL ((turnP p b c) / (turnP a b c))), blk b7 60 (fracL ((turnP p b c) / (turnP a b c)) ++ fracL ((turnP a p c) / (turnP a b c)) ++ fracL ((turnP a b p) / (turnP a b c))), blk b6 43 (fracL (turnP a b c)), blk b5 60 (fracL (0 : Rat) ++ fracL (0 : Rat) ++ fracL (0 : Rat)), blk b4 45 (ptL p), blk b3 45 (ptL c), blk b2 45 (ptL b), blk b1 45 (ptL a)]) (wt_none rfl) rfl rfl rfl rfl rfl Tryz.sizeOf43 rfl rfl rfl rfl (OkL.nil (OkQ.subF (sC 4 rfl (sC 5 rfl (sC 6 rfl (sC 8 rfl (sC 9 rfl (sC 10 rfl (sC 11 rfl (sC 32 rfl (sC 12 rfl (sC 13 rfl (sN))))))))))) (OkQ.in_normal ?_)))))
 refine OkQ.then_ (OkC.region (st (ex_add (c := (3 : Int)) rfl rfl (by decide)) (leB rfl) (mv rfl rfl (OkL.nil (OkQ.subF (sC 4 rfl (sC 5 rfl (sC 6 rfl (sC 8 rfl (sC 9 rfl (sC 10 rfl (sC 11 rfl (sC 32 rfl (sC 12 rfl (sC 13 rfl (sN))))))))))) ?_)))))
 refine OkQ.again (OkR.step (q4 (st (ex_lss (c := false) rfl rfl (by decide)) (leB rfl) (OkL.nil (q1 ?_)))))
 refine OkC.cond_false rfl (OkC.exit (OkQ.then_exit (OkQ.then_exit (OkQ.in_exit (q2 ?_)))))
 refine ldW 3 tA60 rfl rfl rfl rfl (OkL.store' (i := 5) (off := 0) (vs := fracL ((turnP p b c) / (turnP a b c)) ++ fracL ((turnP a p c) / (turnP a b c)) ++ fracL ((turnP a b p) / (turnP a b c))) (cs' := fracL ((turnP p b c) / (turnP a b c)) ++ fracL ((turnP a p c) / (turnP a b c)) ++ fracL ((turnP a b p) / (turnP a b c))) (L' := [blk b10 43 (fracL ((turnP a b p) / (turnP a b c))), blk b9 43 (fracL ((turnP a p c) / (turnP a b c))), blk b8 43 (fracL ((turnP p b c) / (turnP a b c))), blk b7 60 (fracL ((turnP p b c) / (turnP a b c)) ++ fracL ((turnP a p c) / (turnP a b c)) ++ fracL ((turnP a b p) / (turnP a b c))), blk b6 43 (fracL (turnP a b c)), blk b5 60 (fracL ((turnP p b c) / (turnP a b c)) ++ fracL ((turnP a p c) / (turnP a b c)) ++ fracL ((turnP a b p) / (turnP a b c))), blk b4 45 (ptL p), blk b3 45 (ptL c), blk b2 45 (ptL b), blk b1 45 (ptL a)]) (wt_none rfl) rfl rfl rfl rfl rfl Tryz.sizeOf60 rfl rfl rfl rfl (asg rfl rfl (OkL.nil (OkQ.subF (sC 4 rfl (sC 5 rfl (sC 6 rfl (sC 8 rfl (sC 9 rfl (sC 10 rfl (sC 11 rfl (sC 32 rfl (sC 12 rfl (sC 13 rfl (sN))))))))))) (OkQ.then_ ?_)))))
 exact OkC.ret (ret_two rfl (rd_agg (i := 5) (cs := fracL ((turnP p b c) / (turnP a b c)) ++ fracL ((turnP a p c) / (turnP a b c)) ++ fracL ((turnP a b p) / (turnP a b c))) rfl rfl Tryz.isAgg60 Tryz.sizeOf60 rfl) (rd_tmp (v := (vI 0)) rfl) (fun w hw => ⟨rfl, hw.out⟩))
theorem fill_numo_60_  : Instr.fill (fun i => some (i * 5, 5)) (fracL (0 : Rat) ++ fracL (0 : Rat) ++ fracL (0 : Rat)).toArray [] = some (fracL (0 : Rat) ++ fracL (0 : Rat) ++ fracL (0 : Rat)).toArray := by kernel_rfl
theorem Bary0_ok (a b c p : Pt) (hs : SzP a + SzP b + SzP c + SzP p ≤ 268435456) (h : turnP a b c = 0) (w : World)  : Calls Tryz.prog 39 #[(aG (ptL a)), (aG (ptL b)), (aG (ptL c)), (aG (ptL p))] w (Gives w (Value.tuple #[(aG (fracL (0 : Rat) ++ fracL (0 : Rat) ++ fracL (0 : Rat))), (vI 1)])) := by
 refine calls_of (args := [(aG (ptL a)), (aG (ptL b)), (aG (ptL c)), (aG (ptL p))]) Tryz.func39 rfl rfl (leB rfl) (OkC.subF (sC 0 rfl (sC 1 rfl (sC 2 rfl (sC 3 rfl (sN))))) (q4 (bx (cs := ptL a) rfl rfl rfl fun b1 => bx (cs := ptL b) rfl rfl rfl fun b2 => bx (cs := ptL c) rfl rfl rfl fun b3 => ?_)))
 refine bx (cs := ptL p) rfl rfl rfl fun b4 => al tZ60 rfl fun b5 => asg rfl rfl (q3 (sC 4 rfl (sC 5 rfl (sC 6 rfl (sC 7 rfl (sC 8 rfl (sC 9 rfl (sN))))))) (ldW 4 tA45 rfl rfl rfl rfl (ldW 3 tA45 rfl rfl rfl rfl ?_)))
 refine ldW 2 tA45 rfl rfl rfl rfl ?_
 have hz1 := Sz_turn a b c
 refine cl Tryz.call71 (fun w hw => twice_ok a b c (by omega) w) rfl rfl rfl (al tZ43 rfl fun b6 => stW0 rfl rfl rfl Tryz.sizeOf43 rfl rfl (q6 (sC 4 rfl (sC 5 rfl (sC 6 rfl (sC 7 rfl (sC 8 rfl (sC 9 rfl (sC 10 rfl (sN)))))))) (rN [(0, true), (1, true), (2, true), (4, true), (5, true), (6, true), (8, true), (9, true), (10, true), (3, false), (7, false), (11, false), (12, true)] [⟨13, 11, 60, fracL (0 : Rat) ++ fracL (0 : Rat) ++ fracL (0 : Rat)⟩] [(14, false)] sr (by kernel_rfl) (fun _ _ d _ _ h => by cases d <;> exact h) (newC rfl rfl tZ60 rfl (newN)) rfl (uW 2 tA45 rfl rfl rfl rfl rfl rfl ?_))))
 refine uW 4 tA45 rfl rfl rfl rfl rfl rfl (uW 3 tA45 rfl rfl rfl rfl rfl rfl (uW 5 tA45 rfl rfl rfl rfl rfl rfl (uW 2 tA45 rfl rfl rfl rfl rfl rfl (uW 3 tA45 rfl rfl rfl rfl rfl rfl (uW 5 tA45 rfl rfl rfl rfl rfl rfl ?_)))))
 refine uW 4 tA45 rfl rfl rfl rfl rfl rfl (uW 2 tA45 rfl rfl rfl rfl rfl rfl (OkN.imp rfl fun EF EL => ?_))
 have hz2 := Sz_turn p b c
 refine cl Tryz.call71 (fun w hw => twice_ok p b c (by omega) w) rfl rfl rfl (OkN.back0 sr rfl (OkN.imp rfl fun EF EL => ?_))
 have hz3 := Sz_turn a p c
 refine cl Tryz.call71 (fun w hw => twice_ok a p c (by omega) w) rfl rfl rfl (OkN.back0 sr rfl (OkN.imp rfl fun EF EL => ?_))
 have hz4 := Sz_turn a b p
 refine cl Tryz.call71 (fun w hw => twice_ok a b p (by omega) w) rfl rfl rfl (OkN.back0 sr rfl (uE (v := (aG (fracL (turnP p b c) ++ fracL (turnP a p c) ++ fracL (turnP a b p)))) rfl (ex_build_array (zs := fracL (0 : Rat) ++ fracL (0 : Rat) ++ fracL (0 : Rat)) (vs := fracL (turnP p b c) ++ fracL (turnP a p c) ++ fracL (turnP a b p)) (pv := [(0, (aG (fracL (turnP p b c)))), (1, (aG (fracL (turnP a p c)))), (2, (aG (fracL (turnP a b p))))]) Tryz.zeroValue60 Tryz.underlying60 Tryz.sizeOf43 rfl (fill_numo_60_0fracL_1fracL_2fracL (turnP p b c) (turnP a p c) (turnP a b p))) rfl rfl (OkN.news1 fun b7 => OkE.imp rfl (stW0 rfl rfl rfl Tryz.sizeOf60 rfl rfl ?_))))
 refine OkE.back (sl sr) (OkE.nil (OkQ.subF (sC 4 rfl (sC 5 rfl (sC 6 rfl (sC 8 rfl (sC 9 rfl (sC 10 rfl (sC 11 rfl (sN)))))))) (q1 (q4 (mv rfl rfl ?_)))))
 refine OkL.nil (OkQ.then_ (OkC.block (OkC.unroll 5 (OkR.step (q4 ?_)))))
 refine st (ex_lss (c := true) rfl rfl (by decide)) (leB rfl) (OkL.nil (q1 (OkC.cond_true rfl (OkC.skip (q1 ?_)))))
 refine OkC.block (q4 (mv rfl rfl (asg rfl rfl (q6 (sC 4 rfl (sC 5 rfl (sC 6 rfl (sC 8 rfl (sC 9 rfl (sC 10 rfl (sC 11 rfl (sC 32 rfl (sC 12 rfl (sN)))))))))) (rN [(0, true), (1, true), (2, true), (3, true), (4, false), (5, true), (6, true), (7, true)] [⟨8, 13, 43, fracL (0 : Rat)⟩] [(9, false), (10, true)] sr (by kernel_rfl) (fun _ _ d _ _ h => by cases d <;> exact h) (newC rfl rfl tZ43 rfl (newN)) rfl ?_)))))
 refine uM rfl rfl rfl rfl (uE (v := (pP b7 0)) rfl (ex_indexAddr_array (j := 0) rfl rfl Tryz.underlying60 Tryz.sizeOf43 rfl (by decide) rfl) rfl rfl (uA 0 (fracL (turnP p b c)) tA43 rfl rfl rfl rfl rfl rfl rfl (uW 1 tA43 rfl rfl rfl rfl rfl rfl (OkN.imp rfl fun EF EL => cl (args := [(aG (fracL (turnP p b c))), (aG (fracL (turnP a b c)))]) (v := (Value.tuple #[(aG (fracL (0 : Rat))), (vI 5)])) Tryz.call27 (fun w hw => (by rw [h]; exact fDiv0_ok _ w)) rfl rfl rfl ?_))))
 refine OkN.back0 sr rfl (uM rfl rfl rfl rfl (uE rfl (ex_extract (v := (aG (fracL (0 : Rat)))) rfl rfl) rfl rfl (uE rfl (ex_extract (v := (vI 5)) rfl rfl) rfl rfl (OkN.news1 fun b8 => OkE.imp rfl ?_))))
 refine stW0 rfl rfl rfl Tryz.sizeOf43 rfl rfl (OkE.back (sl sr) (pS rfl rfl rfl (OkE.nil (OkQ.subF (sC 4 rfl (sC 5 rfl (sC 6 rfl (sC 8 rfl (sC 9 rfl (sC 10 rfl (sC 11 rfl (sC 32 rfl (sC 12 rfl (sC 13 rfl (sC 14 rfl (sN)))))))))))) (q1 ?_)))))
 refine q4 (mv rfl rfl (st (ex_neq (c := true) rfl rfl (by decide)) (leB rfl) (OkL.nil (OkQ.subF (sC 4 rfl (sC 5 rfl (sC 6 rfl (sC 8 rfl (sC 9 rfl (sC 10 rfl (sC 11 rfl (sC 32 rfl (sC 12 rfl (sC 13 rfl (sC 44 rfl (sN)))))))))))) (OkQ.then_ ?_)))))
 refine OkC.cond_true rfl (q4 (st (v := (aG (fracL (0 : Rat) ++ fracL (0 : Rat) ++ fracL (0 : Rat)))) (ex_build_array (zs := fracL (0 : Rat) ++ fracL (0 : Rat) ++ fracL (0 : Rat)) (vs := fracL (0 : Rat) ++ fracL (0 : Rat) ++ fracL (0 : Rat)) (pv := []) Tryz.zeroValue60 Tryz.underlying60 Tryz.sizeOf43 rfl (fill_numo_60_ )) (leB rfl) (stW3 rfl rfl rfl Tryz.sizeOf60 rfl rfl (asg rfl rfl (OkL.nil ?_)))))
 refine OkQ.subF (sC 4 rfl (sC 5 rfl (sC 6 rfl (sC 8 rfl (sC 9 rfl (sC 10 rfl (sC 11 rfl (sC 32 rfl (sC 12 rfl (sC 13 rfl (sN))))))))))) (OkQ.then_ (OkC.ret (OkQ.then_ret (OkQ.in_ret (OkQ.then_ret ?_)))))
 exact OkQ.then_ret (OkQ.in_ret (OkQ.then_ret (ret_two rfl (rd_agg (i := 3) (cs := fracL (0 : Rat) ++ fracL (0 : Rat) ++ fracL (0 : Rat)) rfl rfl Tryz.isAgg60 Tryz.sizeOf60 rfl) (rd_tmp (v := (vI 1)) rfl) (fun w hw => ⟨rfl, hw.out⟩))))
end
def zq (q : Rat) : Nat := if q.num.sign = 0 then 1 else 0
def whereN (x y z : Rat) : Nat := if x.num.sign = -1 ∨ y.num.sign = -1 ∨ z.num.sign = -1 then 0 else 1 + zq x + zq y + zq z
theorem where_neg0 {x y z : Rat} (h : x.num.sign = -1) : whereN x y z = 0 := if_pos (.inl h)
theorem where_neg1 {x y z : Rat} (h : y.num.sign = -1) : whereN x y z = 0 := if_pos (.inr (.inl h))
theorem where_neg2 {x y z : Rat} (h : z.num.sign = -1) : whereN x y z = 0 := if_pos (.inr (.inr h))
theorem where_ok {x y z : Rat} (h1 : ¬ x.num.sign = -1) (h2 : ¬ y.num.sign = -1) (h3 : ¬ z.num.sign = -1) : whereN x y z = 1 + zq x + zq y + zq z := if_neg (by simp [h1, h2, h3])
theorem zq_one {x : Rat} (h : x.num.sign = 0) : zq x = 1 := if_pos h
theorem zq_zero {x : Rat} (h : ¬ x.num.sign = 0) : zq x = 0 := if_neg h
theorem zq_le (x : Rat) : zq x ≤ 1 := by unfold zq; split <;> omega
section
set_option maxRecDepth 100000
end
section
set_option maxRecDepth 100000
end
section
set_option maxRecDepth 100000
set_option maxHeartbeats 2000000 in
theorem Where_ok (a b c p : Pt) (hs : SzP a + SzP b + SzP c + SzP p ≤ 268435456) (h : turnP a b c ≠ 0) (w : World)  : Calls Tryz.prog 17 #[(aG (ptL a)), (aG (ptL b)), (aG (ptL c)), (aG (ptL p))] w (Gives w (vN (whereN (turnP p b c / turnP a b c) (turnP a p c / turnP a b c) (turnP a b p / turnP a b c)))) := by
 obtain ⟨l0, hl0⟩ : ∃ l, l = turnP p b c / turnP a b c := ⟨_, rfl⟩
 obtain ⟨l1, hl1⟩ : ∃ l, l = turnP a p c / turnP a b c := ⟨_, rfl⟩
 obtain ⟨l2, hl2⟩ : ∃ l, l = turnP a b p / turnP a b c := ⟨_, rfl⟩
 refine calls_of (args := [(aG (ptL a)), (aG (ptL b)), (aG (ptL c)), (aG (ptL p))]) Tryz.func17 rfl rfl (leB rfl) (OkC.subF (sC 0 rfl (sC 1 rfl (sC 2 rfl (sC 3 rfl (sN))))) (q4 (bx (cs := ptL a) rfl rfl rfl fun b1 => bx (cs := ptL b) rfl rfl rfl fun b2 => bx (cs := ptL c) rfl rfl rfl fun b3 => ?_)))
 refine bx (cs := ptL p) rfl rfl rfl fun b4 => asg rfl rfl (q3 (sC 4 rfl (sC 5 rfl (sC 6 rfl (sC 7 rfl (sC 8 rfl (sN)))))) (ldW 3 tA45 rfl rfl rfl rfl (ldW 2 tA45 rfl rfl rfl rfl (ldW 1 tA45 rfl rfl rfl rfl ?_))))
 refine ldW 0 tA45 rfl rfl rfl rfl (cl (args := [(aG (ptL a)), (aG (ptL b)), (aG (ptL c)), (aG (ptL p))]) (v := (Value.tuple #[(aG (fracL l0 ++ fracL l1 ++ fracL l2)), (vI 0)])) Tryz.call39 (fun w hw => (by rw [hl0, hl1, hl2]; exact Bary_ok a b c p (by omega) h w)) rfl rfl rfl (mv rfl rfl (st (ex_extract (v := (aG (fracL l0 ++ fracL l1 ++ fracL l2))) rfl rfl) (leB rfl) (st (ex_extract (v := (vI 0)) rfl rfl) (leB rfl) (al tZ60 rfl fun b5 => ?_)))))
 refine stW0 rfl rfl rfl Tryz.sizeOf60 rfl rfl (asg rfl rfl (q6 (sC 8 rfl (sC 9 rfl (sC 10 rfl (sN)))) (q4 (mv rfl rfl (st (ex_neq (c := false) rfl rfl (by decide)) (leB rfl) ?_)))))
 refine OkL.nil (OkQ.subF (sC 8 rfl (sC 9 rfl (sC 22 rfl (sN)))) (OkQ.then_ (OkC.cond_false rfl (OkC.skip (q2 ?_)))))
 refine asg rfl rfl (q6 (sC 8 rfl (sC 9 rfl (sC 11 rfl (sN)))) (q4 (mv rfl rfl (OkL.nil (OkQ.then_ ?_)))))
 refine OkC.block (OkC.unroll 5 (OkR.step (q4 (st (ex_lss (c := true) rfl rfl (by decide)) (leB rfl) (OkL.nil ?_)))))
 refine q1 (OkC.cond_true rfl (OkC.skip (q1 (OkC.block (q4 ?_)))))
 refine mv rfl rfl (asg rfl rfl (q3 (sC 8 rfl (sC 9 rfl (sC 11 rfl (sC 23 rfl (sC 12 rfl (sN)))))) (mv rfl rfl (st (v := (pP b5 0)) (ex_indexAddr_array (j := 0) rfl rfl Tryz.underlying60 Tryz.sizeOf43 rfl (by decide) rfl) (leB rfl) (ldA 0 (fracL l0) tA43 rfl rfl rfl rfl rfl ?_)))))
 refine cl Tryz.call40 (fun w hw => fSign_ok l0 w) rfl rfl rfl (OkL.nil (OkQ.subF (sC 8 rfl (sC 9 rfl (sC 11 rfl (sC 23 rfl (sC 29 rfl (sN)))))) (OkQ.then_ ?_)))
 refine OkC.join1 (J := fun (pl0 : Nat) => pl0 = 1 + zq l0 ∧ ¬ l0.num.sign = -1) (FI := fun (pl0 : Nat) => [(9, (pP b5 0)), (23, (vI 0)), (11, (vN pl0))]) (LI := fun (pl0 : Nat) => [blk b5 60 (fracL l0 ++ fracL l1 ++ fracL l2), blk b4 45 (ptL p), blk b3 45 (ptL c), blk b2 45 (ptL b), blk b1 45 (ptL a)]) ?_ ?_
 ·skip
  refine OkC.block (q4 (st (ex_eql (c := (decide (l0.num.sign = (-1 : Int)))) rfl rfl rfl) (leB rfl) (asg rfl rfl (OkL.nil (OkQ.subF (sC 8 rfl (sC 9 rfl (sC 11 rfl (sC 23 rfl (sC 29 rfl (sC 30 rfl (sN))))))) ?_)))))
  refine OkQ.then_ ?_
  refine OkC.cond rfl (fun hc2 => ?_) (fun hc2 => ?_)
  ·replace hc2 := of_decide_eq_true hc2
   have hz := where_neg0 (x := l0) (y := l1) (z := l2) hc2
   refine q4 (asg rfl rfl (OkL.nil (OkQ.then_ (OkC.ret (OkQ.in_ret ?_)))))
   exact OkQ.join1_ret (OkQ.in_ret (OkQ.then_ret (OkQ.then_ret (OkQ.in_ret (OkQ.then_ret (ret_one rfl (rd_tmp (v := (vI 0)) rfl) (fun w hw => ⟨by rw [← hl0, ← hl1, ← hl2, hz]; rfl, hw.out⟩)))))))
  ·replace hc2 := of_decide_eq_false hc2
   refine q4 (st (ex_eql (c := (decide (l0.num.sign = (0 : Int)))) rfl rfl rfl) (leB rfl) (asg rfl rfl (OkL.nil (OkQ.subF (sC 8 rfl (sC 9 rfl (sC 11 rfl (sC 23 rfl (sC 29 rfl (sC 32 rfl (sN))))))) (OkQ.then_ ?_)))))
   refine OkC.cond rfl (fun hc3 => ?_) (fun hc3 => ?_)
   ·replace hc3 := of_decide_eq_true hc3
    refine OkC.region (mv rfl rfl (st (ex_add (c := (2 : Int)) rfl rfl (by decide)) (leB rfl) (asg rfl rfl (OkL.nil (OkQ.subF (sC 8 rfl (sC 9 rfl (sC 11 rfl (sC 23 rfl (sC 29 rfl (sN)))))) ?_)))))
    exact OkQ.in_normal (OkQ.join1 2 (⟨by simp [zq_one hc3], hc2⟩) (sS rfl (sS rfl (sS rfl (sN)))) sr)
   ·replace hc3 := of_decide_eq_false hc3
    exact OkC.skip (OkQ.in_normal (OkQ.join1 1 (⟨by simp [zq_zero hc3], hc2⟩) (sS rfl (sS rfl (sS rfl (sN)))) sr))
 ·intro pl0 hJ
  replace hJ : pl0 = 1 + zq l0 ∧ ¬ l0.num.sign = -1 := hJ
  obtain ⟨e0, n0⟩ := hJ
  refine OkQ.sub (F' := [(9, (pP b5 0)), (23, (vI 0)), (11, (vN pl0))]) (L' := [blk b5 60 (fracL l0 ++ fracL l1 ++ fracL l2), blk b4 45 (ptL p), blk b3 45 (ptL c), blk b2 45 (ptL b), blk b1 45 (ptL a)]) (sF rfl) (List.Sublist.refl _) ?_
  have zz0 := zq_le l0
  refine OkQ.in_normal (OkQ.then_ (OkC.region (st (ex_add (c := (1 : Int)) rfl rfl (by decide)) (leB rfl) (mv rfl rfl (OkL.nil ?_)))))
  refine OkQ.subF (sC 9 rfl (sC 23 rfl (sC 11 rfl (sN)))) (OkQ.again (OkR.step (q4 (st (ex_lss (c := true) rfl rfl (by decide)) (leB rfl) (OkL.nil ?_)))))
  refine q1 (OkC.cond_true rfl (OkC.skip (q1 (OkC.block (q4 ?_)))))
  refine mv rfl rfl (asg rfl rfl (q3 (sC 9 rfl (sC 23 rfl (sC 11 rfl (sC 12 rfl (sN))))) (mv rfl rfl (st (v := (pP b5 5)) (ex_indexAddr_array (j := 1) rfl rfl Tryz.underlying60 Tryz.sizeOf43 rfl (by decide) rfl) (leB rfl) (ldA 0 (fracL l1) tA43 rfl rfl rfl rfl rfl ?_)))))
  refine cl Tryz.call40 (fun w hw => fSign_ok l1 w) rfl rfl rfl (OkL.nil (OkQ.subF (sC 9 rfl (sC 23 rfl (sC 11 rfl (sC 29 rfl (sN))))) (OkQ.then_ ?_)))
  refine OkC.join1 (J := fun (pl1 : Nat) => pl1 = pl0 + zq l1 ∧ ¬ l1.num.sign = -1) (FI := fun (pl1 : Nat) => [(9, (pP b5 0)), (23, (vI 1)), (11, (vN pl1))]) (LI := fun (pl1 : Nat) => [blk b5 60 (fracL l0 ++ fracL l1 ++ fracL l2), blk b4 45 (ptL p), blk b3 45 (ptL c), blk b2 45 (ptL b), blk b1 45 (ptL a)]) ?_ ?_
  ·skip
   refine OkC.block (q4 (st (ex_eql (c := (decide (l1.num.sign = (-1 : Int)))) rfl rfl rfl) (leB rfl) (asg rfl rfl (OkL.nil (OkQ.subF (sC 9 rfl (sC 23 rfl (sC 11 rfl (sC 29 rfl (sC 30 rfl (sN)))))) ?_)))))
   refine OkQ.then_ ?_
   refine OkC.cond rfl (fun hc2 => ?_) (fun hc2 => ?_)
   ·replace hc2 := of_decide_eq_true hc2
    have hz := where_neg1 (x := l0) (y := l1) (z := l2) hc2
    refine q4 (asg rfl rfl (OkL.nil (OkQ.then_ (OkC.ret (OkQ.in_ret ?_)))))
    exact OkQ.join1_ret (OkQ.in_ret (OkQ.then_ret (OkQ.then_ret (OkQ.in_ret (OkQ.then_ret (ret_one rfl (rd_tmp (v := (vI 0)) rfl) (fun w hw => ⟨by rw [← hl0, ← hl1, ← hl2, hz]; rfl, hw.out⟩)))))))
   ·replace hc2 := of_decide_eq_false hc2
    refine q4 (st (ex_eql (c := (decide (l1.num.sign = (0 : Int)))) rfl rfl rfl) (leB rfl) (asg rfl rfl (OkL.nil (OkQ.subF (sC 9 rfl (sC 23 rfl (sC 11 rfl (sC 29 rfl (sC 32 rfl (sN)))))) (OkQ.then_ ?_)))))
    refine OkC.cond rfl (fun hc3 => ?_) (fun hc3 => ?_)
    ·replace hc3 := of_decide_eq_true hc3
     refine OkC.region (mv rfl rfl (st (ex_add (c := ((pl0 + 1 : Nat) : Int)) rfl rfl (addN_i64 (a := pl0) (b := 1) (by omega))) (leB rfl) (asg rfl rfl (OkL.nil (OkQ.subF (sC 9 rfl (sC 23 rfl (sC 11 rfl (sC 29 rfl (sN))))) ?_)))))
     exact OkQ.in_normal (OkQ.join1 (pl0 + 1) (⟨by simp [zq_one hc3], hc2⟩) (sS rfl (sS rfl (sS rfl (sN)))) sr)
    ·replace hc3 := of_decide_eq_false hc3
     exact OkC.skip (OkQ.in_normal (OkQ.join1 pl0 (⟨by simp [zq_zero hc3], hc2⟩) (sS rfl (sS rfl (sS rfl (sN)))) sr))
  ·intro pl1 hJ
   replace hJ : pl1 = pl0 + zq l1 ∧ ¬ l1.num.sign = -1 := hJ
   obtain ⟨e1, n1⟩ := hJ
   refine OkQ.sub (F' := [(9, (pP b5 0)), (23, (vI 1)), (11, (vN pl1))]) (L' := [blk b5 60 (fracL l0 ++ fracL l1 ++ fracL l2), blk b4 45 (ptL p), blk b3 45 (ptL c), blk b2 45 (ptL b), blk b1 45 (ptL a)]) (sF rfl) (List.Sublist.refl _) ?_
   have zz1 := zq_le l1
   refine OkQ.in_normal (OkQ.then_ (OkC.region (st (ex_add (c := (2 : Int)) rfl rfl (by decide)) (leB rfl) (mv rfl rfl (OkL.nil ?_)))))
   refine OkQ.subF (sC 9 rfl (sC 23 rfl (sC 11 rfl (sN)))) (OkQ.again (OkR.step (q4 (st (ex_lss (c := true) rfl rfl (by decide)) (leB rfl) (OkL.nil ?_)))))
   refine q1 (OkC.cond_true rfl (OkC.skip (q1 (OkC.block (q4 ?_)))))
   refine mv rfl rfl (asg rfl rfl (q3 (sC 9 rfl (sC 23 rfl (sC 11 rfl (sC 12 rfl (sN))))) (mv rfl rfl (st (v := (pP b5 10)) (ex_indexAddr_array (j := 2) rfl rfl Tryz.underlying60 Tryz.sizeOf43 rfl (by decide) rfl) (leB rfl) (ldA 0 (fracL l2) tA43 rfl rfl rfl rfl rfl ?_)))))
   refine cl Tryz.call40 (fun w hw => fSign_ok l2 w) rfl rfl rfl (OkL.nil (OkQ.subF (sC 9 rfl (sC 23 rfl (sC 11 rfl (sC 29 rfl (sN))))) (OkQ.then_ ?_)))
   refine OkC.join1 (J := fun (pl2 : Nat) => pl2 = pl1 + zq l2 ∧ ¬ l2.num.sign = -1) (FI := fun (pl2 : Nat) => [(9, (pP b5 0)), (23, (vI 2)), (11, (vN pl2))]) (LI := fun (pl2 : Nat) => [blk b5 60 (fracL l0 ++ fracL l1 ++ fracL l2), blk b4 45 (ptL p), blk b3 45 (ptL c), blk b2 45 (ptL b), blk b1 45 (ptL a)]) ?_ ?_
   ·skip
    refine OkC.block (q4 (st (ex_eql (c := (decide (l2.num.sign = (-1 : Int)))) rfl rfl rfl) (leB rfl) (asg rfl rfl (OkL.nil (OkQ.subF (sC 9 rfl (sC 23 rfl (sC 11 rfl (sC 29 rfl (sC 30 rfl (sN)))))) ?_)))))
    refine OkQ.then_ ?_
    refine OkC.cond rfl (fun hc2 => ?_) (fun hc2 => ?_)
    ·replace hc2 := of_decide_eq_true hc2
     have hz := where_neg2 (x := l0) (y := l1) (z := l2) hc2
     refine q4 (asg rfl rfl (OkL.nil (OkQ.then_ (OkC.ret (OkQ.in_ret ?_)))))
     exact OkQ.join1_ret (OkQ.in_ret (OkQ.then_ret (OkQ.then_ret (OkQ.in_ret (OkQ.then_ret (ret_one rfl (rd_tmp (v := (vI 0)) rfl) (fun w hw => ⟨by rw [← hl0, ← hl1, ← hl2, hz]; rfl, hw.out⟩)))))))
    ·replace hc2 := of_decide_eq_false hc2
     refine q4 (st (ex_eql (c := (decide (l2.num.sign = (0 : Int)))) rfl rfl rfl) (leB rfl) (asg rfl rfl (OkL.nil (OkQ.subF (sC 9 rfl (sC 23 rfl (sC 11 rfl (sC 29 rfl (sC 32 rfl (sN)))))) (OkQ.then_ ?_)))))
     refine OkC.cond rfl (fun hc3 => ?_) (fun hc3 => ?_)
     ·replace hc3 := of_decide_eq_true hc3
      refine OkC.region (mv rfl rfl (st (ex_add (c := ((pl1 + 1 : Nat) : Int)) rfl rfl (addN_i64 (a := pl1) (b := 1) (by omega))) (leB rfl) (asg rfl rfl (OkL.nil (OkQ.subF (sC 9 rfl (sC 23 rfl (sC 11 rfl (sC 29 rfl (sN))))) ?_)))))
      exact OkQ.in_normal (OkQ.join1 (pl1 + 1) (⟨by simp [zq_one hc3], hc2⟩) (sS rfl (sS rfl (sS rfl (sN)))) sr)
     ·replace hc3 := of_decide_eq_false hc3
      exact OkC.skip (OkQ.in_normal (OkQ.join1 pl1 (⟨by simp [zq_zero hc3], hc2⟩) (sS rfl (sS rfl (sS rfl (sN)))) sr))
   ·intro pl2 hJ
    replace hJ : pl2 = pl1 + zq l2 ∧ ¬ l2.num.sign = -1 := hJ
    obtain ⟨e2, n2⟩ := hJ
    refine OkQ.sub (F' := [(9, (pP b5 0)), (23, (vI 2)), (11, (vN pl2))]) (L' := [blk b5 60 (fracL l0 ++ fracL l1 ++ fracL l2), blk b4 45 (ptL p), blk b3 45 (ptL c), blk b2 45 (ptL b), blk b1 45 (ptL a)]) (sF rfl) (List.Sublist.refl _) ?_
    have zz2 := zq_le l2
    refine OkQ.in_normal (OkQ.then_ (OkC.region (st (ex_add (c := (3 : Int)) rfl rfl (by decide)) (leB rfl) (mv rfl rfl (OkL.nil ?_)))))
    refine OkQ.subF (sC 9 rfl (sC 23 rfl (sC 11 rfl (sN)))) (OkQ.again (OkR.step (q4 (st (ex_lss (c := false) rfl rfl (by decide)) (leB rfl) (OkL.nil ?_)))))
    refine q1 (OkC.cond_false rfl (OkC.exit (OkQ.then_exit (OkQ.then_exit (OkQ.in_exit ?_)))))
    refine q2 (mv rfl rfl (asg rfl rfl (OkL.nil (OkQ.subF (sC 9 rfl (sC 23 rfl (sC 11 rfl (sC 8 rfl (sN))))) (OkQ.then_ ?_)))))
    exact OkC.ret (ret_one rfl (rd_tmp (v := (vN pl2)) rfl) (fun w hw => ⟨by rw [← hl0, ← hl1, ← hl2, where_ok n0 n1 n2, e2, e1, e0], hw.out⟩))
theorem Where0_ok (a b c p : Pt) (hs : SzP a + SzP b + SzP c + SzP p ≤ 268435456) (h : turnP a b c = 0) (w : World)  : Calls Tryz.prog 17 #[(aG (ptL a)), (aG (ptL b)), (aG (ptL c)), (aG (ptL p))] w (Gives w (vI 0)) := by
 refine calls_of (args := [(aG (ptL a)), (aG (ptL b)), (aG (ptL c)), (aG (ptL p))]) Tryz.func17 rfl rfl (leB rfl) (OkC.subF (sC 0 rfl (sC 1 rfl (sC 2 rfl (sC 3 rfl (sN))))) (q4 (bx (cs := ptL a) rfl rfl rfl fun b1 => bx (cs := ptL b) rfl rfl rfl fun b2 => bx (cs := ptL c) rfl rfl rfl fun b3 => ?_)))
 refine bx (cs := ptL p) rfl rfl rfl fun b4 => asg rfl rfl (q3 (sC 4 rfl (sC 5 rfl (sC 6 rfl (sC 7 rfl (sC 8 rfl (sN)))))) (ldW 3 tA45 rfl rfl rfl rfl (ldW 2 tA45 rfl rfl rfl rfl (ldW 1 tA45 rfl rfl rfl rfl ?_))))
 refine ldW 0 tA45 rfl rfl rfl rfl (cl Tryz.call39 (fun w hw => Bary0_ok a b c p (by omega) h w) rfl rfl rfl (mv rfl rfl (st (ex_extract (v := (aG (fracL (0 : Rat) ++ fracL (0 : Rat) ++ fracL (0 : Rat)))) rfl rfl) (leB rfl) (st (ex_extract (v := (vI 1)) rfl rfl) (leB rfl) (al tZ60 rfl fun b5 => ?_)))))
 refine stW0 rfl rfl rfl Tryz.sizeOf60 rfl rfl (asg rfl rfl (q6 (sC 8 rfl (sC 9 rfl (sC 10 rfl (sN)))) (q4 (mv rfl rfl (st (ex_neq (c := true) rfl rfl (by decide)) (leB rfl) ?_)))))
 refine OkL.nil (OkQ.subF (sC 8 rfl (sC 9 rfl (sC 22 rfl (sN)))) (OkQ.then_ (OkC.cond_true rfl (q4 (asg rfl rfl ?_)))))
 exact OkL.nil (OkQ.subF (sC 8 rfl (sC 9 rfl (sN))) (OkQ.then_ (OkC.ret (OkQ.then_ret (ret_one rfl (rd_tmp (v := (vI 0)) rfl) (fun w hw => ⟨rfl, hw.out⟩))))))
end
section
set_option maxRecDepth 100000
end
section
section
variable {P : Program} {n : Nat} {F : List (Nat × Value)} {w0 : Base} {L : List As} {v : Value} {x : Operand} {d : Option Tmp} {t : TypeId} {p : String} {af : Array Edge} {g : Option (Nat × Bool)}
theorem ex_slice_array {tx e : TypeId} {b len k : Nat} (hx : evF F x = some (.pointer (some ⟨b, 0, none⟩))) (hu : P.underlying tx = some (.array len e)) (hs : ∀ w, (sizeOf e).run P w = .ok k w) (h0 : 0 < len) :
    Ex P n F w0 L ⟨d, .slice tx x none none none, t, p, af, g⟩ (.slice (some ⟨b, 0, none⟩) len len) := fun A w ha _ => by
  have e1 : ¬ len = 0 := by omega
  simp [execOp, ha.ev hx, Instr.sliceAt, run_underlying hu, Instr.sureAddr, Instr.sliceBounds, Instr.sliceBound, hs, e1, Addr.add_lit]
end
end
section
set_option maxRecDepth 100000
end
end Go.Proofs.YtmjbiebmgffleaaGreatDoor
