import Derived.Test.YtmejjgmpkelaiaaGreatDoorPart05
import Derived.Test.YtmejjgmpkelaiaaGreatDoorPart21
namespace Go.Proofs.YtmejjgmpkelaiaaGreatDoor
open Go Go.RowKit
set_option linter.unusedVariables false
set_option linter.unusedSimpArgs false
section
set_option maxRecDepth 100000
theorem At_ok (a b c : Pt) (x y z : Rat) (hs : SzP a + SzP b + SzP c ≤ 268435456) (hx : Sz x + Sz y + Sz z ≤ 268435456) (w : World)  : Calls Tryz.prog 11 #[(aG (ptL a)), (aG (ptL b)), (aG (ptL c)), (aG (fracL x ++ fracL y ++ fracL z))] w (Gives w (aG (ptL (scaleP a x + scaleP b y + scaleP c z)))) := by
 refine calls_of (args := [(aG (ptL a)), (aG (ptL b)), (aG (ptL c)), (aG (fracL x ++ fracL y ++ fracL z))]) Tryz.func11 rfl rfl (leB rfl) (OkC.subF (sC 0 rfl (sC 1 rfl (sC 2 rfl (sC 3 rfl (sN))))) (q4 (bx (cs := ptL a) rfl rfl rfl fun b1 => bx (cs := ptL b) rfl rfl rfl fun b2 => bx (cs := ptL c) rfl rfl rfl fun b3 => ?_)))
 refine bx (cs := fracL x ++ fracL y ++ fracL z) rfl rfl rfl fun b4 => al tZ49 rfl fun b5 => q6 (sC 4 rfl (sC 5 rfl (sC 6 rfl (sC 7 rfl (sC 8 rfl (sN)))))) (rG [(0, true), (1, true), (2, true), (4, true), (5, true), (6, true), (9, true), (10, true), (11, true), (3, false), (7, false), (8, false), (12, false), (13, false), (14, false)] (sl sr) (by kernel_rfl) (fun _ _ d _ _ h => by cases d <;> exact h) (pW 3 tA49 rfl rfl rfl rfl rfl (pE (v := (pP b4 0)) rfl (ex_indexAddr_array (j := 0) rfl rfl Tryz.underlying61 Tryz.sizeOf47 rfl (by decide) rfl) rfl ?_)))
 refine pA 0 (fracL x) tA47 rfl rfl rfl rfl rfl rfl (pW 2 tA49 rfl rfl rfl rfl rfl (pE (v := (pP b4 5)) rfl (ex_indexAddr_array (j := 1) rfl rfl Tryz.underlying61 Tryz.sizeOf47 rfl (by decide) rfl) rfl (pA 0 (fracL y) tA47 rfl rfl rfl rfl rfl rfl (pW 1 tA49 rfl rfl rfl rfl rfl (pE (v := (pP b4 10)) rfl (ex_indexAddr_array (j := 2) rfl rfl Tryz.underlying61 Tryz.sizeOf47 rfl (by decide) rfl) rfl ?_)))))
 refine pA 0 (fracL z) tA47 rfl rfl rfl rfl rfl rfl (OkE.imp rfl ?_)
 have hz1 := SzP_scale a x
 refine cl Tryz.call31 (fun w hw => pScale_ok a x (by omega) w) rfl rfl rfl (OkE.back (sl sr) (OkE.imp rfl ?_))
 have hz2 := SzP_scale b y
 refine cl Tryz.call31 (fun w hw => pScale_ok b y (by omega) w) rfl rfl rfl (OkE.back (sl sr) (OkE.imp rfl ?_))
 have hz3 := SzP_add (scaleP a x) (scaleP b y)
 refine cl Tryz.call30 (fun w hw => pAdd_ok (scaleP a x) (scaleP b y) (by omega) w) rfl rfl rfl (OkE.back (sl sr) (OkE.imp rfl ?_))
 have hz4 := SzP_scale c z
 refine cl Tryz.call31 (fun w hw => pScale_ok c z (by omega) w) rfl rfl rfl (OkE.back (sl sr) (OkE.imp rfl ?_))
 have hz5 := SzP_add ((scaleP a x) + (scaleP b y)) (scaleP c z)
 refine cl Tryz.call30 (fun w hw => pAdd_ok ((scaleP a x) + (scaleP b y)) (scaleP c z) (by omega) w) rfl rfl rfl (OkE.back (sl sr) (OkE.imp rfl (stW0 rfl rfl rfl Tryz.sizeOf49 rfl rfl (OkE.back (sl sr) (OkE.nil ?_)))))
 exact OkQ.subF (sC 8 rfl (sN)) (OkQ.then_ (OkC.ret (ret_one rfl (rd_agg (i := 0) (cs := ptL (((scaleP a x) + (scaleP b y)) + (scaleP c z))) rfl rfl Tryz.isAgg49 Tryz.sizeOf49 rfl) (fun w hw => ⟨rfl, hw.out⟩))))
theorem fill_numo_61_0fracL_1fracL_2fracL (x0 : Rat) (x1 : Rat) (x2 : Rat) : Instr.fill (fun i => some (i * 5, 5)) (fracL (0 : Rat) ++ fracL (0 : Rat) ++ fracL (0 : Rat)).toArray [(0, .agg (fracL x0).toArray), (1, .agg (fracL x1).toArray), (2, .agg (fracL x2).toArray)] = some (fracL x0 ++ fracL x1 ++ fracL x2).toArray := by kernel_rfl
theorem Bary_ok (a b c p : Pt) (hs : SzP a + SzP b + SzP c + SzP p ≤ 268435456) (h : turnP a b c ≠ 0) (w : World)  : Calls Tryz.prog 37 #[(aG (ptL a)), (aG (ptL b)), (aG (ptL c)), (aG (ptL p))] w (Gives w (Value.tuple #[(aG (fracL (turnP p b c / turnP a b c) ++ fracL (turnP a p c / turnP a b c) ++ fracL (turnP a b p / turnP a b c))), (vI 0)])) := by
 refine calls_of (args := [(aG (ptL a)), (aG (ptL b)), (aG (ptL c)), (aG (ptL p))]) Tryz.func37 rfl rfl (leB rfl) (OkC.subF (sC 0 rfl (sC 1 rfl (sC 2 rfl (sC 3 rfl (sN))))) (q4 (bx (cs := ptL a) rfl rfl rfl fun b1 => bx (cs := ptL b) rfl rfl rfl fun b2 => bx (cs := ptL c) rfl rfl rfl fun b3 => ?_)))
 refine bx (cs := ptL p) rfl rfl rfl fun b4 => al tZ61 rfl fun b5 => asg rfl rfl (q3 (sC 4 rfl (sC 5 rfl (sC 6 rfl (sC 7 rfl (sC 8 rfl (sC 9 rfl (sN))))))) (ldW 4 tA49 rfl rfl rfl rfl (ldW 3 tA49 rfl rfl rfl rfl ?_)))
 refine ldW 2 tA49 rfl rfl rfl rfl ?_
 have hz1 := Sz_turn a b c
 refine cl Tryz.call62 (fun w hw => twice_ok a b c (by omega) w) rfl rfl rfl (al tZ47 rfl fun b6 => stW0 rfl rfl rfl Tryz.sizeOf47 rfl rfl (q6 (sC 4 rfl (sC 5 rfl (sC 6 rfl (sC 7 rfl (sC 8 rfl (sC 9 rfl (sC 10 rfl (sN)))))))) (rN [(0, true), (1, true), (2, true), (4, true), (5, true), (6, true), (8, true), (9, true), (10, true), (3, false), (7, false), (11, false), (12, true)] [⟨13, 11, 61, fracL (0 : Rat) ++ fracL (0 : Rat) ++ fracL (0 : Rat)⟩] [(14, false)] sr (by kernel_rfl) (fun _ _ d _ _ h => by cases d <;> exact h) (newC rfl rfl tZ61 rfl (newN)) rfl (uW 2 tA49 rfl rfl rfl rfl rfl rfl ?_))))
 refine uW 4 tA49 rfl rfl rfl rfl rfl rfl (uW 3 tA49 rfl rfl rfl rfl rfl rfl (uW 5 tA49 rfl rfl rfl rfl rfl rfl (uW 2 tA49 rfl rfl rfl rfl rfl rfl (uW 3 tA49 rfl rfl rfl rfl rfl rfl (uW 5 tA49 rfl rfl rfl rfl rfl rfl ?_)))))
 refine uW 4 tA49 rfl rfl rfl rfl rfl rfl (uW 2 tA49 rfl rfl rfl rfl rfl rfl (OkN.imp rfl fun EF EL => ?_))
 have hz2 := Sz_turn p b c
 refine cl Tryz.call62 (fun w hw => twice_ok p b c (by omega) w) rfl rfl rfl (OkN.back0 sr rfl (OkN.imp rfl fun EF EL => ?_))
 have hz3 := Sz_turn a p c
 refine cl Tryz.call62 (fun w hw => twice_ok a p c (by omega) w) rfl rfl rfl (OkN.back0 sr rfl (OkN.imp rfl fun EF EL => ?_))
 have hz4 := Sz_turn a b p
 refine cl Tryz.call62 (fun w hw => twice_ok a b p (by omega) w) rfl rfl rfl (OkN.back0 sr rfl (uE (v := (aG (fracL (turnP p b c) ++ fracL (turnP a p c) ++ fracL (turnP a b p)))) rfl (ex_build_array (zs := fracL (0 : Rat) ++ fracL (0 : Rat) ++ fracL (0 : Rat)) (vs := fracL (turnP p b c) ++ fracL (turnP a p c) ++ fracL (turnP a b p)) (pv := [(0, (aG (fracL (turnP p b c)))), (1, (aG (fracL (turnP a p c)))), (2, (aG (fracL (turnP a b p))))]) Tryz.zeroValue61 Tryz.underlying61 Tryz.sizeOf47 rfl (fill_numo_61_0fracL_1fracL_2fracL (turnP p b c) (turnP a p c) (turnP a b p))) rfl rfl (OkN.news1 fun b7 => OkE.imp rfl (stW0 rfl rfl rfl Tryz.sizeOf61 rfl rfl ?_))))
 refine OkE.back (sl sr) (OkE.nil (OkQ.subF (sC 4 rfl (sC 5 rfl (sC 6 rfl (sC 8 rfl (sC 9 rfl (sC 10 rfl (sC 11 rfl (sN)))))))) (q1 (q4 (mv rfl rfl ?_)))))
 refine OkL.nil (OkQ.then_ (OkC.block (OkC.unroll 5 (OkR.step (q4 ?_)))))
 refine st (ex_lss (c := true) rfl rfl (by decide)) (leB rfl) (OkL.nil (q1 (OkC.cond_true rfl (OkC.skip (q1 ?_)))))
 refine OkC.block (q4 (mv rfl rfl (asg rfl rfl (q6 (sC 4 rfl (sC 5 rfl (sC 6 rfl (sC 8 rfl (sC 9 rfl (sC 10 rfl (sC 11 rfl (sC 32 rfl (sC 12 rfl (sN)))))))))) (rN [(0, true), (1, true), (2, true), (3, true), (4, false), (5, true), (6, true), (7, true)] [⟨8, 13, 47, fracL (0 : Rat)⟩] [(9, false), (10, true)] sr (by kernel_rfl) (fun _ _ d _ _ h => by cases d <;> exact h) (newC rfl rfl tZ47 rfl (newN)) rfl ?_)))))
 refine uM rfl rfl rfl rfl (uE (v := (pP b7 0)) rfl (ex_indexAddr_array (j := 0) rfl rfl Tryz.underlying61 Tryz.sizeOf47 rfl (by decide) rfl) rfl rfl (uA 0 (fracL (turnP p b c)) tA47 rfl rfl rfl rfl rfl rfl rfl (uW 1 tA47 rfl rfl rfl rfl rfl rfl (OkN.imp rfl fun EF EL => ?_))))
 have hz5 := Sz_div (a := turnP p b c) (b := turnP a b c) (by assumption)
 refine cl Tryz.call9 (fun w hw => fDiv_ok (turnP p b c) (turnP a b c) (by omega) (by assumption) w) rfl rfl rfl (OkN.back0 sr rfl (uM rfl rfl rfl rfl (uE rfl (ex_extract (v := (aG (fracL ((turnP p b c) / (turnP a b c))))) rfl rfl) rfl rfl (uE rfl (ex_extract (v := (vI 0)) rfl rfl) rfl rfl (OkN.news1 fun b8 => ?_)))))
 refine OkE.imp rfl (stW0 rfl rfl rfl Tryz.sizeOf47 rfl rfl (OkE.back (sl sr) (pS rfl rfl rfl (OkE.nil (OkQ.subF (sC 4 rfl (sC 5 rfl (sC 6 rfl (sC 8 rfl (sC 9 rfl (sC 10 rfl (sC 11 rfl (sC 32 rfl (sC 12 rfl (sC 13 rfl (sC 14 rfl (sN)))))))))))) ?_)))))
 refine q1 (q4 (mv rfl rfl (st (ex_neq (c := false) rfl rfl (by decide)) (leB rfl) (OkL.nil (OkQ.subF (sC 4 rfl (sC 5 rfl (sC 6 rfl (sC 8 rfl (sC 9 rfl (sC 10 rfl (sC 11 rfl (sC 32 rfl (sC 12 rfl (sC 13 rfl (sC 44 rfl (sN)))))))))))) ?_)))))
 refine OkQ.then_ (OkC.cond_false rfl (OkC.skip (OkQ.then_ (OkC.region (mv rfl rfl ?_)))))
 refine ldW 0 tA47 rfl rfl rfl rfl (st (v := (pP b7 0)) (ex_indexAddr_array (j := 0) rfl rfl Tryz.underlying61 Tryz.sizeOf47 rfl (by decide) rfl) (leB rfl) (OkL.store' (i := 1) (off := 0) (vs := fracL ((turnP p b c) / (turnP a b c))) (cs' := fracL ((turnP p b c) / (turnP a b c)) ++ fracL (turnP a p c) ++ fracL (turnP a b p)) (L' := [blk b8 47 (fracL ((turnP p b c) / (turnP a b c))), blk b7 61 (fracL ((turnP p b c) / (turnP a b c)) ++ fracL (turnP a p c) ++ fracL (turnP a b p)), blk b6 47 (fracL (turnP a b c)), blk b5 61 (fracL (0 : Rat) ++ fracL (0 : Rat) ++ fracL (0 : Rat)), blk b4 49 (ptL p), blk b3 49 (ptL c), blk b2 49 (ptL b), blk b1 49 (ptL a)]) (wt_none rfl) rfl rfl rfl rfl rfl Tryz.sizeOf47 rfl rfl rfl rfl (OkL.nil (OkQ.subF (sC 4 rfl (sC 5 rfl (sC 6 rfl (sC 8 rfl (sC 9 rfl (sC 10 rfl (sC 11 rfl (sC 32 rfl (sC 12 rfl (sC 13 rfl (sN))))))))))) (OkQ.in_normal ?_)))))
 refine OkQ.then_ (OkC.region (st (ex_add (c := (1 : Int)) rfl rfl (by decide)) (leB rfl) (mv rfl rfl (OkL.nil (OkQ.subF (sC 4 rfl (sC 5 rfl (sC 6 rfl (sC 8 rfl (sC 9 rfl (sC 10 rfl (sC 11 rfl (sC 32 rfl (sC 12 rfl (sC 13 rfl (sN))))))))))) ?_)))))
 refine OkQ.again (OkR.step (q4 (st (ex_lss (c := true) rfl rfl (by decide)) (leB rfl) (OkL.nil (q1 ?_)))))
 refine OkC.cond_true rfl (OkC.skip (q1 (OkC.block (q4 (mv rfl rfl ?_)))))
 refine asg rfl rfl (q6 (sC 4 rfl (sC 5 rfl (sC 6 rfl (sC 8 rfl (sC 9 rfl (sC 10 rfl (sC 11 rfl (sC 32 rfl (sC 12 rfl (sC 13 rfl (sN))))))))))) (OkC.subF (sC 4 rfl (sC 5 rfl (sC 6 rfl (sC 8 rfl (sC 9 rfl (sC 10 rfl (sC 11 rfl (sC 32 rfl (sC 12 rfl (sN)))))))))) (rN [(0, true), (1, true), (2, true), (3, true), (4, false), (5, true), (6, true), (7, true)] [⟨8, 13, 47, fracL (0 : Rat)⟩] [(9, false), (10, true)] sr (by kernel_rfl) (fun _ _ d _ _ h => by cases d <;> exact h) (newC rfl rfl tZ47 rfl (newN)) rfl (uM rfl rfl rfl rfl (uE (v := (pP b7 5)) rfl (ex_indexAddr_array (j := 1) rfl rfl Tryz.underlying61 Tryz.sizeOf47 rfl (by decide) rfl) rfl rfl ?_)))))
 refine uA 1 (fracL (turnP a p c)) tA47 rfl rfl rfl rfl rfl rfl rfl (uW 2 tA47 rfl rfl rfl rfl rfl rfl (OkN.imp rfl fun EF EL => ?_))
 have hz6 := Sz_div (a := turnP a p c) (b := turnP a b c) (by assumption)
 refine cl Tryz.call9 (fun w hw => fDiv_ok (turnP a p c) (turnP a b c) (by omega) (by assumption) w) rfl rfl rfl (OkN.back0 sr rfl (uM rfl rfl rfl rfl (uE rfl (ex_extract (v := (aG (fracL ((turnP a p c) / (turnP a b c))))) rfl rfl) rfl rfl (uE rfl (ex_extract (v := (vI 0)) rfl rfl) rfl rfl (OkN.news1 fun b9 => ?_)))))
 refine OkE.imp rfl (stW0 rfl rfl rfl Tryz.sizeOf47 rfl rfl (OkE.back (sl sr) (pS rfl rfl rfl (OkE.nil (OkQ.subF (sC 4 rfl (sC 5 rfl (sC 6 rfl (sC 8 rfl (sC 9 rfl (sC 10 rfl (sC 11 rfl (sC 32 rfl (sC 12 rfl (sC 13 rfl (sC 14 rfl (sN)))))))))))) ?_)))))
 refine q1 (q4 (mv rfl rfl (st (ex_neq (c := false) rfl rfl (by decide)) (leB rfl) (OkL.nil (OkQ.subF (sC 4 rfl (sC 5 rfl (sC 6 rfl (sC 8 rfl (sC 9 rfl (sC 10 rfl (sC 11 rfl (sC 32 rfl (sC 12 rfl (sC 13 rfl (sC 44 rfl (sN)))))))))))) ?_)))))
 refine OkQ.then_ (OkC.cond_false rfl (OkC.skip (OkQ.then_ (OkC.region (mv rfl rfl ?_)))))
 refine ldW 0 tA47 rfl rfl rfl rfl (st (v := (pP b7 5)) (ex_indexAddr_array (j := 1) rfl rfl Tryz.underlying61 Tryz.sizeOf47 rfl (by decide) rfl) (leB rfl) (OkL.store' (i := 2) (off := 5) (vs := fracL ((turnP a p c) / (turnP a b c))) (cs' := fracL ((turnP p b c) / (turnP a b c)) ++ fracL ((turnP a p c) / (turnP a b c)) ++ fracL (turnP a b p)) (L' := [blk b9 47 (fracL ((turnP a p c) / (turnP a b c))), blk b8 47 (fracL ((turnP p b c) / (turnP a b c))), blk b7 61 (fracL ((turnP p b c) / (turnP a b c)) ++ fracL ((turnP a p c) / (turnP a b c)) ++ fracL (turnP a b p)), blk b6 47 (fracL (turnP a b c)), blk b5 61 (fracL (0 : Rat) ++ fracL (0 : Rat) ++ fracL (0 : Rat)), blk b4 49 (ptL p), blk b3 49 (ptL c), blk b2 49 (ptL b), blk b1 49 (ptL a)]) (wt_none rfl) rfl rfl rfl rfl rfl Tryz.sizeOf47 rfl rfl rfl rfl (OkL.nil (OkQ.subF (sC 4 rfl (sC 5 rfl (sC 6 rfl (sC 8 rfl (sC 9 rfl (sC 10 rfl (sC 11 rfl (sC 32 rfl (sC 12 rfl (sC 13 rfl (sN))))))))))) (OkQ.in_normal ?_)))))
 refine OkQ.then_ (OkC.region (st (ex_add (c := (2 : Int)) rfl rfl (by decide)) (leB rfl) (mv rfl rfl (OkL.nil (OkQ.subF (sC 4 rfl (sC 5 rfl (sC 6 rfl (sC 8 rfl (sC 9 rfl (sC 10 rfl (sC 11 rfl (sC 32 rfl (sC 12 rfl (sC 13 rfl (sN))))))))))) ?_)))))
 refine OkQ.again (OkR.step (q4 (st (ex_lss (c := true) rfl rfl (by decide)) (leB rfl) (OkL.nil (q1 ?_)))))
 refine OkC.cond_true rfl (OkC.skip (q1 (OkC.block (q4 (mv rfl rfl ?_)))))
 refine asg rfl rfl (q6 (sC 4 rfl (sC 5 rfl (sC 6 rfl (sC 8 rfl (sC 9 rfl (sC 10 rfl (sC 11 rfl (sC 32 rfl (sC 12 rfl (sC 13 rfl (sN))))))))))) (OkC.subF (sC 4 rfl (sC 5 rfl (sC 6 rfl (sC 8 rfl (sC 9 rfl (sC 10 rfl (sC 11 rfl (sC 32 rfl (sC 12 rfl (sN)))))))))) (rN [(0, true), (1, true), (2, true), (3, true), (4, false), (5, true), (6, true), (7, true)] [⟨8, 13, 47, fracL (0 : Rat)⟩] [(9, false), (10, true)] sr (by kernel_rfl) (fun _ _ d _ _ h => by cases d <;> exact h) (newC rfl rfl tZ47 rfl (newN)) rfl (uM rfl rfl rfl rfl (uE (v := (pP b7 10)) rfl (ex_indexAddr_array (j := 2) rfl rfl Tryz.underlying61 Tryz.sizeOf47 rfl (by decide) rfl) rfl rfl ?_)))))
 refine uA 2 (fracL (turnP a b p)) tA47 rfl rfl rfl rfl rfl rfl rfl (uW 3 tA47 rfl rfl rfl rfl rfl rfl (OkN.imp rfl fun EF EL => ?_))
 have hz7 := Sz_div (a := turnP a b p) (b := turnP a b c) (by assumption)
 refine cl Tryz.call9 (fun w hw => fDiv_ok (turnP a b p) (turnP a b c) (by omega) (by assumption) w) rfl rfl rfl (OkN.back0 sr rfl (uM rfl rfl rfl rfl (uE rfl (ex_extract (v := (aG (fracL ((turnP a b p) / (turnP a b c))))) rfl rfl) rfl rfl (uE rfl (ex_extract (v := (vI 0)) rfl rfl) rfl rfl (OkN.news1 fun b10 => ?_)))))
 refine OkE.imp rfl (stW0 rfl rfl rfl Tryz.sizeOf47 rfl rfl (OkE.back (sl sr) (pS rfl rfl rfl (OkE.nil (OkQ.subF (sC 4 rfl (sC 5 rfl (sC 6 rfl (sC 8 rfl (sC 9 rfl (sC 10 rfl (sC 11 rfl (sC 32 rfl (sC 12 rfl (sC 13 rfl (sC 14 rfl (sN)))))))))))) ?_)))))
 refine q1 (q4 (mv rfl rfl (st (ex_neq (c := false) rfl rfl (by decide)) (leB rfl) (OkL.nil (OkQ.subF (sC 4 rfl (sC 5 rfl (sC 6 rfl (sC 8 rfl (sC 9 rfl (sC 10 rfl (sC 11 rfl (sC 32 rfl (sC 12 rfl (sC 13 rfl (sC 44 rfl (sN)))))))))))) ?_)))))
 refine OkQ.then_ (OkC.cond_false rfl (OkC.skip (OkQ.then_ (OkC.region (mv rfl rfl ?_)))))
 refine ldW 0 tA47 rfl rfl rfl rfl (st (v := (pP b7 10)) (ex_indexAddr_array (j := 2) rfl rfl Tryz.underlying61 Tryz.sizeOf47 rfl (by decide) rfl) (leB rfl) (OkL.store' (i := 3) (off := 10) (vs := fracL ((turnP a b p) / (turnP a b c))) (cs' := fracL ((turnP p b c) / (turnP a b c)) ++ fracL ((turnP a p c) / (turnP a b c)) ++ fracL ((turnP a b p) / (turnP a b c))) (L' := [blk b10 47 (fracL ((turnP a b p) / (turnP a b c))), blk b9 47 (fracL ((turnP a p c) / (turnP a b c))), blk b8 47 (fracL ((turnP p b c) / (turnP a b c))), blk b7 61 (fracL ((turnP p b c) / (turnP a b c)) ++ fracL ((turnP a p c) / (turnP a b c)) ++ fracL ((turnP a b p) / (turnP a b c))), blk b6 47 (fracL (turnP a b c)), blk b5 61 (fracL (0 : Rat) ++ fracL (0 : Rat) ++ fracL (0 : Rat)), blk b4 49 (ptL p), blk b3 49 (ptL c), blk b2 49 (ptL b), blk b1 49 (ptL a)]) (wt_none rfl) rfl rfl rfl rfl rfl Tryz.sizeOf47 rfl rfl rfl rfl (OkL.nil (OkQ.subF (sC 4 rfl (sC 5 rfl (sC 6 rfl (sC 8 rfl (sC 9 rfl (sC 10 rfl (sC 11 rfl (sC 32 rfl (sC 12 rfl (sC 13 rfl (sN))))))))))) (OkQ.in_normal ?_)))))
 refine OkQ.then_ (OkC.region (st (ex_add (c := (3 : Int)) rfl rfl (by decide)) (leB rfl) (mv rfl rfl (OkL.nil (OkQ.subF (sC 4 rfl (sC 5 rfl (sC 6 rfl (sC 8 rfl (sC 9 rfl (sC 10 rfl (sC 11 rfl (sC 32 rfl (sC 12 rfl (sC 13 rfl (sN))))))))))) ?_)))))
 refine OkQ.again (OkR.step (q4 (st (ex_lss (c := false) rfl rfl (by decide)) (leB rfl) (OkL.nil (q1 ?_)))))
 refine OkC.cond_false rfl (OkC.exit (OkQ.then_exit (OkQ.then_exit (OkQ.in_exit (q2 ?_)))))
 refine ldW 3 tA61 rfl rfl rfl rfl (OkL.store' (i := 5) (off := 0) (vs := fracL ((turnP p b c) / (turnP a b c)) ++ fracL ((turnP a p c) / (turnP a b c)) ++ fracL ((turnP a b p) / (turnP a b c))) (cs' := fracL ((turnP p b c) / (turnP a b c)) ++ fracL ((turnP a p c) / (turnP a b c)) ++ fracL ((turnP a b p) / (turnP a b c))) (L' := [blk b10 47 (fracL ((turnP a b p) / (turnP a b c))), blk b9 47 (fracL ((turnP a p c) / (turnP a b c))), blk b8 47 (fracL ((turnP p b c) / (turnP a b c))), blk b7 61 (fracL ((turnP p b c) / (turnP a b c)) ++ fracL ((turnP a p c) / (turnP a b c)) ++ fracL ((turnP a b p) / (turnP a b c))), blk b6 47 (fracL (turnP a b c)), blk b5 61 (fracL ((turnP p b c) / (turnP a b c)) ++ fracL ((turnP a p c) / (turnP a b c)) ++ fracL ((turnP a b p) / (turnP a b c))), blk b4 49 (ptL p), blk b3 49 (ptL c), blk b2 49 (ptL b), blk b1 49 (ptL a)]) (wt_none rfl) rfl rfl rfl rfl rfl Tryz.sizeOf61 rfl rfl rfl rfl (asg rfl rfl (OkL.nil (OkQ.subF (sC 4 rfl (sC 5 rfl (sC 6 rfl (sC 8 rfl (sC 9 rfl (sC 10 rfl (sC 11 rfl (sC 32 rfl (sC 12 rfl (sC 13 rfl (sN))))))))))) (OkQ.then_ ?_)))))
 exact OkC.ret (ret_two rfl (rd_agg (i := 5) (cs := fracL ((turnP p b c) / (turnP a b c)) ++ fracL ((turnP a p c) / (turnP a b c)) ++ fracL ((turnP a b p) / (turnP a b c))) rfl rfl Tryz.isAgg61 Tryz.sizeOf61 rfl) (rd_tmp (v := (vI 0)) rfl) (fun w hw => ⟨rfl, hw.out⟩))
theorem fill_numo_61_  : Instr.fill (fun i => some (i * 5, 5)) (fracL (0 : Rat) ++ fracL (0 : Rat) ++ fracL (0 : Rat)).toArray [] = some (fracL (0 : Rat) ++ fracL (0 : Rat) ++ fracL (0 : Rat)).toArray := by kernel_rfl
theorem Bary0_ok (a b c p : Pt) (hs : SzP a + SzP b + SzP c + SzP p ≤ 268435456) (h : turnP a b c = 0) (w : World)  : Calls Tryz.prog 37 #[(aG (ptL a)), (aG (ptL b)), (aG (ptL c)), (aG (ptL p))] w (Gives w (Value.tuple #[(aG (fracL (0 : Rat) ++ fracL (0 : Rat) ++ fracL (0 : Rat))), (vI 1)])) := by
 refine calls_of (args := [(aG (ptL a)), (aG (ptL b)), (aG (ptL c)), (aG (ptL p))]) Tryz.func37 rfl rfl (leB rfl) (OkC.subF (sC 0 rfl (sC 1 rfl (sC 2 rfl (sC 3 rfl (sN))))) (q4 (bx (cs := ptL a) rfl rfl rfl fun b1 => bx (cs := ptL b) rfl rfl rfl fun b2 => bx (cs := ptL c) rfl rfl rfl fun b3 => ?_)))
 refine bx (cs := ptL p) rfl rfl rfl fun b4 => al tZ61 rfl fun b5 => asg rfl rfl (q3 (sC 4 rfl (sC 5 rfl (sC 6 rfl (sC 7 rfl (sC 8 rfl (sC 9 rfl (sN))))))) (ldW 4 tA49 rfl rfl rfl rfl (ldW 3 tA49 rfl rfl rfl rfl ?_)))
 refine ldW 2 tA49 rfl rfl rfl rfl ?_
 have hz1 := Sz_turn a b c
 refine cl Tryz.call62 (fun w hw => twice_ok a b c (by omega) w) rfl rfl rfl (al tZ47 rfl fun b6 => stW0 rfl rfl rfl Tryz.sizeOf47 rfl rfl (q6 (sC 4 rfl (sC 5 rfl (sC 6 rfl (sC 7 rfl (sC 8 rfl (sC 9 rfl (sC 10 rfl (sN)))))))) (rN [(0, true), (1, true), (2, true), (4, true), (5, true), (6, true), (8, true), (9, true), (10, true), (3, false), (7, false), (11, false), (12, true)] [⟨13, 11, 61, fracL (0 : Rat) ++ fracL (0 : Rat) ++ fracL (0 : Rat)⟩] [(14, false)] sr (by kernel_rfl) (fun _ _ d _ _ h => by cases d <;> exact h) (newC rfl rfl tZ61 rfl (newN)) rfl (uW 2 tA49 rfl rfl rfl rfl rfl rfl ?_))))
 refine uW 4 tA49 rfl rfl rfl rfl rfl rfl (uW 3 tA49 rfl rfl rfl rfl rfl rfl (uW 5 tA49 rfl rfl rfl rfl rfl rfl (uW 2 tA49 rfl rfl rfl rfl rfl rfl (uW 3 tA49 rfl rfl rfl rfl rfl rfl (uW 5 tA49 rfl rfl rfl rfl rfl rfl ?_)))))
 refine uW 4 tA49 rfl rfl rfl rfl rfl rfl (uW 2 tA49 rfl rfl rfl rfl rfl rfl (OkN.imp rfl fun EF EL => ?_))
 have hz2 := Sz_turn p b c
 refine cl Tryz.call62 (fun w hw => twice_ok p b c (by omega) w) rfl rfl rfl (OkN.back0 sr rfl (OkN.imp rfl fun EF EL => ?_))
 have hz3 := Sz_turn a p c
 refine cl Tryz.call62 (fun w hw => twice_ok a p c (by omega) w) rfl rfl rfl (OkN.back0 sr rfl (OkN.imp rfl fun EF EL => ?_))
 have hz4 := Sz_turn a b p
 refine cl Tryz.call62 (fun w hw => twice_ok a b p (by omega) w) rfl rfl rfl (OkN.back0 sr rfl (uE (v := (aG (fracL (turnP p b c) ++ fracL (turnP a p c) ++ fracL (turnP a b p)))) rfl (ex_build_array (zs := fracL (0 : Rat) ++ fracL (0 : Rat) ++ fracL (0 : Rat)) (vs := fracL (turnP p b c) ++ fracL (turnP a p c) ++ fracL (turnP a b p)) (pv := [(0, (aG (fracL (turnP p b c)))), (1, (aG (fracL (turnP a p c)))), (2, (aG (fracL (turnP a b p))))]) Tryz.zeroValue61 Tryz.underlying61 Tryz.sizeOf47 rfl (fill_numo_61_0fracL_1fracL_2fracL (turnP p b c) (turnP a p c) (turnP a b p))) rfl rfl (OkN.news1 fun b7 => OkE.imp rfl (stW0 rfl rfl rfl Tryz.sizeOf61 rfl rfl ?_))))
 refine OkE.back (sl sr) (OkE.nil (OkQ.subF (sC 4 rfl (sC 5 rfl (sC 6 rfl (sC 8 rfl (sC 9 rfl (sC 10 rfl (sC 11 rfl (sN)))))))) (q1 (q4 (mv rfl rfl ?_)))))
 refine OkL.nil (OkQ.then_ (OkC.block (OkC.unroll 5 (OkR.step (q4 ?_)))))
 refine st (ex_lss (c := true) rfl rfl (by decide)) (leB rfl) (OkL.nil (q1 (OkC.cond_true rfl (OkC.skip (q1 ?_)))))
 refine OkC.block (q4 (mv rfl rfl (asg rfl rfl (q6 (sC 4 rfl (sC 5 rfl (sC 6 rfl (sC 8 rfl (sC 9 rfl (sC 10 rfl (sC 11 rfl (sC 32 rfl (sC 12 rfl (sN)))))))))) (rN [(0, true), (1, true), (2, true), (3, true), (4, false), (5, true), (6, true), (7, true)] [⟨8, 13, 47, fracL (0 : Rat)⟩] [(9, false), (10, true)] sr (by kernel_rfl) (fun _ _ d _ _ h => by cases d <;> exact h) (newC rfl rfl tZ47 rfl (newN)) rfl ?_)))))
 refine uM rfl rfl rfl rfl (uE (v := (pP b7 0)) rfl (ex_indexAddr_array (j := 0) rfl rfl Tryz.underlying61 Tryz.sizeOf47 rfl (by decide) rfl) rfl rfl (uA 0 (fracL (turnP p b c)) tA47 rfl rfl rfl rfl rfl rfl rfl (uW 1 tA47 rfl rfl rfl rfl rfl rfl (OkN.imp rfl fun EF EL => cl (args := [(aG (fracL (turnP p b c))), (aG (fracL (turnP a b c)))]) (v := (Value.tuple #[(aG (fracL (0 : Rat))), (vI 5)])) Tryz.call9 (fun w hw => (by rw [h]; exact fDiv0_ok _ w)) rfl rfl rfl ?_))))
 refine OkN.back0 sr rfl (uM rfl rfl rfl rfl (uE rfl (ex_extract (v := (aG (fracL (0 : Rat)))) rfl rfl) rfl rfl (uE rfl (ex_extract (v := (vI 5)) rfl rfl) rfl rfl (OkN.news1 fun b8 => OkE.imp rfl ?_))))
 refine stW0 rfl rfl rfl Tryz.sizeOf47 rfl rfl (OkE.back (sl sr) (pS rfl rfl rfl (OkE.nil (OkQ.subF (sC 4 rfl (sC 5 rfl (sC 6 rfl (sC 8 rfl (sC 9 rfl (sC 10 rfl (sC 11 rfl (sC 32 rfl (sC 12 rfl (sC 13 rfl (sC 14 rfl (sN)))))))))))) (q1 ?_)))))
 refine q4 (mv rfl rfl (st (ex_neq (c := true) rfl rfl (by decide)) (leB rfl) (OkL.nil (OkQ.subF (sC 4 rfl (sC 5 rfl (sC 6 rfl (sC 8 rfl (sC 9 rfl (sC 10 rfl (sC 11 rfl (sC 32 rfl (sC 12 rfl (sC 13 rfl (sC 44 rfl (sN)))))))))))) (OkQ.then_ ?_)))))
 refine OkC.cond_true rfl (q4 (st (v := (aG (fracL (0 : Rat) ++ fracL (0 : Rat) ++ fracL (0 : Rat)))) (ex_build_array (zs := fracL (0 : Rat) ++ fracL (0 : Rat) ++ fracL (0 : Rat)) (vs := fracL (0 : Rat) ++ fracL (0 : Rat) ++ fracL (0 : Rat)) (pv := []) Tryz.zeroValue61 Tryz.underlying61 Tryz.sizeOf47 rfl (fill_numo_61_ )) (leB rfl) (stW3 rfl rfl rfl Tryz.sizeOf61 rfl rfl (asg rfl rfl (OkL.nil ?_)))))
 refine OkQ.subF (sC 4 rfl (sC 5 rfl (sC 6 rfl (sC 8 rfl (sC 9 rfl (sC 10 rfl (sC 11 rfl (sC 32 rfl (sC 12 rfl (sC 13 rfl (sN))))))))))) (OkQ.then_ (OkC.ret (OkQ.then_ret (OkQ.in_ret (OkQ.then_ret ?_)))))
 exact OkQ.then_ret (OkQ.in_ret (OkQ.then_ret (ret_two rfl (rd_agg (i := 3) (cs := fracL (0 : Rat) ++ fracL (0 : Rat) ++ fracL (0 : Rat)) rfl rfl Tryz.isAgg61 Tryz.sizeOf61 rfl) (rd_tmp (v := (vI 1)) rfl) (fun w hw => ⟨rfl, hw.out⟩))))
end
def absQ (a : Rat) : Rat := if a.num < 0 then -a else a
theorem absQ_num (a : Rat) : (absQ a).num = mkI false a.num.natAbs := by
  unfold absQ mkI
  by_cases h : a.num < 0
  · simp [h, Rat.neg_num]; omega
  · simp [h]; omega
theorem absQ_den (a : Rat) : (absQ a).den = a.den := by
  unfold absQ
  by_cases h : a.num < 0
  · simp [h, Rat.neg_den]
  · simp [h]
theorem Sz_abs (a : Rat) : Sz (absQ a) = Sz a := by
  unfold Sz
  rw [absQ_num, absQ_den, mkI_natAbs]
def zq (q : Rat) : Nat := if q.num.sign = 0 then 1 else 0
def whereN (x y z : Rat) : Nat := if x.num.sign = -1 ∨ y.num.sign = -1 ∨ z.num.sign = -1 then 0 else 1 + zq x + zq y + zq z
theorem where_neg0 {x y z : Rat} (h : x.num.sign = -1) : whereN x y z = 0 := if_pos (.inl h)
theorem where_neg1 {x y z : Rat} (h : y.num.sign = -1) : whereN x y z = 0 := if_pos (.inr (.inl h))
theorem where_neg2 {x y z : Rat} (h : z.num.sign = -1) : whereN x y z = 0 := if_pos (.inr (.inr h))
theorem where_ok {x y z : Rat} (h1 : ¬ x.num.sign = -1) (h2 : ¬ y.num.sign = -1) (h3 : ¬ z.num.sign = -1) : whereN x y z = 1 + zq x + zq y + zq z := if_neg (by simp [h1, h2, h3])
theorem zq_one {x : Rat} (h : x.num.sign = 0) : zq x = 1 := if_pos h
theorem zq_zero {x : Rat} (h : ¬ x.num.sign = 0) : zq x = 0 := if_neg h
theorem zq_le (x : Rat) : zq x ≤ 1 := by unfold zq; split <;> omega
section
set_option maxRecDepth 100000
theorem fill_nump_47_0intL_1natL (x0 : Int) (x1 : Nat) : Instr.fill ([(0, 3), (3, 2)].toArray[·]?) (fracL (0 : Rat)).toArray [(0, .agg (intL x0).toArray), (1, .agg (natL x1).toArray)] = some (intL x0 ++ natL x1).toArray := by kernel_rfl
theorem fAbs_ok (a : Rat) (w : World)  : Calls Tryz.prog 6 #[(aG (fracL a))] w (Gives w (aG (fracL (absQ a)))) := by
 refine calls_of (args := [(aG (fracL a))]) Tryz.func6 rfl rfl (leB rfl) (OkC.subF (sC 0 rfl (sN)) (q4 (bx (cs := fracL a) rfl rfl rfl fun b1 => al tZ47 rfl fun b2 => q6 (sC 1 rfl (sC 2 rfl (sN))) ?_)))
 refine rG [(0, true), (1, true), (4, true), (5, true), (2, false), (3, false), (6, true), (7, false)] (sl sr) (by kernel_rfl) (fun _ _ d _ _ h => by cases d <;> exact h) (pE (v := (pP b1 0)) rfl (ex_fieldAddr rfl Tryz.underlying47 rfl Tryz.sizeOf45 rfl) rfl (pA 0 (intL a.num) tA45 rfl rfl rfl rfl rfl rfl (pE (v := (pP b1 3)) rfl (ex_fieldAddr rfl Tryz.underlying47 rfl Tryz.sizeOf41 rfl) rfl (pA 0 (natL (a.den - 1)) tA41 rfl rfl rfl rfl rfl rfl (OkE.imp rfl ?_)))))
 refine cl Tryz.call22 (fun w hw => iAbs_ok a.num w) rfl rfl rfl (OkE.back (sl sr) (OkE.imp rfl (cl Tryz.call21 (fun w hw => From_ok false a.num.natAbs w) rfl rfl rfl (OkE.back (sl sr) (pE (v := (aG (intL (mkI false a.num.natAbs) ++ natL (a.den - 1)))) rfl (ex_build_struct (zs := fracL (0 : Rat)) (vs := intL (mkI false a.num.natAbs) ++ natL (a.den - 1)) (pv := [(0, (aG (intL (mkI false a.num.natAbs)))), (1, (aG (natL (a.den - 1))))]) (places := [(0, 3), (3, 2)]) Tryz.zeroValue47 Tryz.underlying47 (fun w => by simp [Tryz.sizeOf41, Tryz.sizeOf45]) rfl (fill_nump_47_0intL_1natL (mkI false a.num.natAbs) (a.den - 1))) rfl ?_)))))
 refine OkE.imp rfl (stW0 rfl rfl rfl Tryz.sizeOf47 rfl rfl (OkE.back (sl sr) (OkE.nil (OkQ.subF (sC 2 rfl (sN)) (OkQ.then_ ?_)))))
 exact OkC.ret (ret_one rfl (rd_agg (i := 0) (cs := intL (mkI false a.num.natAbs) ++ natL (a.den - 1)) rfl rfl Tryz.isAgg47 Tryz.sizeOf47 rfl) (fun w hw => ⟨by rw [fracL_parts, absQ_num, absQ_den], hw.out⟩))
end
section
set_option maxRecDepth 100000
end
end Go.Proofs.YtmejjgmpkelaiaaGreatDoor
