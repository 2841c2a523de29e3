import Derived.Test.YtpkoldfmbebmgaaGreatDoorPart07
import Derived.Test.YtpkoldfmbebmgaaGreatDoorPart11
import Derived.Test.YtpkoldfmbebmgaaGreatDoorPart21
namespace Go.Proofs.YtpkoldfmbebmgaaGreatDoor
open Go Go.RowKit
set_option linter.unusedVariables false
set_option linter.unusedSimpArgs false
section
set_option maxRecDepth 100000
theorem fill_numm_38_0fracL_1fracL (x0 : Rat) (x1 : Rat) : Instr.fill ([(0, 5), (5, 5)].toArray[·]?) (ptL (⟨0, 0⟩ : Pt)).toArray [(0, .agg (fracL x0).toArray), (1, .agg (fracL x1).toArray)] = some (fracL x0 ++ fracL x1).toArray := by kernel_rfl
theorem both_add_ok (a b : Pt) (hs : SzP a + SzP b ≤ 68719476736) (w : World)  : Calls Tryz.prog 79 #[(aG (ptL a)), (aG (ptL b)), (Value.func (.func 41) #[] #[])] w (Gives w (aG (ptL (a + b)))) := by
 have p1 := SzP_x a
 have p2 := SzP_y a
 have p3 := SzP_x b
 have p4 := SzP_y b
 refine calls_of (args := [(aG (ptL a)), (aG (ptL b)), (Value.func (.func 41) #[] #[])]) Tryz.func79 rfl rfl (leB rfl) (OkC.subF (sC 0 rfl (sC 1 rfl (sC 2 rfl (sN)))) (q4 (bx (cs := ptL a) rfl rfl rfl fun b1 => bx (cs := ptL b) rfl rfl rfl fun b2 => al tZ38 rfl fun b3 => ?_)))
 refine q6 (sC 2 rfl (sC 3 rfl (sC 4 rfl (sC 6 rfl (sN))))) (rG [(0, true), (1, true), (2, true), (3, true), (4, true), (6, true), (7, true), (8, true), (9, true), (10, true), (5, false), (11, false), (12, true), (13, false)] (sl sr) (by kernel_rfl) (fun _ _ d _ _ h => by cases d <;> exact h) (pM rfl rfl rfl (pE (v := (pP b1 0)) rfl (ex_fieldAddr rfl Tryz.underlying38 rfl Tryz.sizeOf36 rfl) rfl (pA 1 (fracL a.x) tA36 rfl rfl rfl rfl rfl rfl (pE (v := (pP b2 0)) rfl (ex_fieldAddr rfl Tryz.underlying38 rfl Tryz.sizeOf36 rfl) rfl ?_)))))
 refine pA 0 (fracL b.x) tA36 rfl rfl rfl rfl rfl rfl (pM rfl rfl rfl (pE (v := (pP b1 5)) rfl (ex_fieldAddr rfl Tryz.underlying38 rfl Tryz.sizeOf36 rfl) rfl (pA 1 (fracL a.y) tA36 rfl rfl rfl rfl rfl rfl (pE (v := (pP b2 5)) rfl (ex_fieldAddr rfl Tryz.underlying38 rfl Tryz.sizeOf36 rfl) rfl (pA 0 (fracL b.y) tA36 rfl rfl rfl rfl rfl rfl ?_)))))
 refine OkE.imp rfl ?_
 have hz1 := Sz_add a.x b.x
 refine cl Tryz.call41 (fun w hw => fAdd_ok a.x b.x (by (try simp only [Sz_neg]); omega) w) rfl rfl rfl (OkE.back (sl sr) (OkE.imp rfl ?_))
 have hz2 := Sz_add a.y b.y
 refine cl Tryz.call41 (fun w hw => fAdd_ok a.y b.y (by (try simp only [Sz_neg]); omega) w) rfl rfl rfl (OkE.back (sl sr) (pE (v := (aG (fracL (a.x + b.x) ++ fracL (a.y + b.y)))) rfl (ex_build_struct (zs := ptL (⟨0, 0⟩ : Pt)) (vs := fracL (a.x + b.x) ++ fracL (a.y + b.y)) (pv := [(0, (aG (fracL (a.x + b.x)))), (1, (aG (fracL (a.y + b.y))))]) (places := [(0, 5), (5, 5)]) Tryz.zeroValue38 Tryz.underlying38 (fun w => by simp [Tryz.sizeOf36]) rfl (fill_numm_38_0fracL_1fracL (a.x + b.x) (a.y + b.y))) rfl (OkE.imp rfl (stW0 rfl rfl rfl Tryz.sizeOf38 rfl rfl (OkE.back (sl sr) ?_)))))
 exact OkE.nil (OkQ.subF (sC 6 rfl (sN)) (OkQ.then_ (OkC.ret (ret_one rfl (rd_agg (i := 0) (cs := fracL (a.x + b.x) ++ fracL (a.y + b.y)) rfl rfl Tryz.isAgg38 Tryz.sizeOf38 rfl) (fun w hw => ⟨by rw [ptL_add], hw.out⟩)))))
theorem both_sub_ok (a b : Pt) (hs : SzP a + SzP b ≤ 68719476736) (w : World)  : Calls Tryz.prog 79 #[(aG (ptL a)), (aG (ptL b)), (Value.func (.func 39) #[] #[])] w (Gives w (aG (ptL (a - b)))) := by
 have p1 := SzP_x a
 have p2 := SzP_y a
 have p3 := SzP_x b
 have p4 := SzP_y b
 refine calls_of (args := [(aG (ptL a)), (aG (ptL b)), (Value.func (.func 39) #[] #[])]) Tryz.func79 rfl rfl (leB rfl) (OkC.subF (sC 0 rfl (sC 1 rfl (sC 2 rfl (sN)))) (q4 (bx (cs := ptL a) rfl rfl rfl fun b1 => bx (cs := ptL b) rfl rfl rfl fun b2 => al tZ38 rfl fun b3 => ?_)))
 refine q6 (sC 2 rfl (sC 3 rfl (sC 4 rfl (sC 6 rfl (sN))))) (rG [(0, true), (1, true), (2, true), (3, true), (4, true), (6, true), (7, true), (8, true), (9, true), (10, true), (5, false), (11, false), (12, true), (13, false)] (sl sr) (by kernel_rfl) (fun _ _ d _ _ h => by cases d <;> exact h) (pM rfl rfl rfl (pE (v := (pP b1 0)) rfl (ex_fieldAddr rfl Tryz.underlying38 rfl Tryz.sizeOf36 rfl) rfl (pA 1 (fracL a.x) tA36 rfl rfl rfl rfl rfl rfl (pE (v := (pP b2 0)) rfl (ex_fieldAddr rfl Tryz.underlying38 rfl Tryz.sizeOf36 rfl) rfl ?_)))))
 refine pA 0 (fracL b.x) tA36 rfl rfl rfl rfl rfl rfl (pM rfl rfl rfl (pE (v := (pP b1 5)) rfl (ex_fieldAddr rfl Tryz.underlying38 rfl Tryz.sizeOf36 rfl) rfl (pA 1 (fracL a.y) tA36 rfl rfl rfl rfl rfl rfl (pE (v := (pP b2 5)) rfl (ex_fieldAddr rfl Tryz.underlying38 rfl Tryz.sizeOf36 rfl) rfl (pA 0 (fracL b.y) tA36 rfl rfl rfl rfl rfl rfl ?_)))))
 refine OkE.imp rfl ?_
 have hz1 := Sz_sub a.x b.x
 refine cl Tryz.call39 (fun w hw => fSub_ok a.x b.x (by (try simp only [Sz_neg]); omega) w) rfl rfl rfl (OkE.back (sl sr) (OkE.imp rfl ?_))
 have hz2 := Sz_sub a.y b.y
 refine cl Tryz.call39 (fun w hw => fSub_ok a.y b.y (by (try simp only [Sz_neg]); omega) w) rfl rfl rfl (OkE.back (sl sr) (pE (v := (aG (fracL (a.x - b.x) ++ fracL (a.y - b.y)))) rfl (ex_build_struct (zs := ptL (⟨0, 0⟩ : Pt)) (vs := fracL (a.x - b.x) ++ fracL (a.y - b.y)) (pv := [(0, (aG (fracL (a.x - b.x)))), (1, (aG (fracL (a.y - b.y))))]) (places := [(0, 5), (5, 5)]) Tryz.zeroValue38 Tryz.underlying38 (fun w => by simp [Tryz.sizeOf36]) rfl (fill_numm_38_0fracL_1fracL (a.x - b.x) (a.y - b.y))) rfl (OkE.imp rfl (stW0 rfl rfl rfl Tryz.sizeOf38 rfl rfl (OkE.back (sl sr) ?_)))))
 exact OkE.nil (OkQ.subF (sC 6 rfl (sN)) (OkQ.then_ (OkC.ret (ret_one rfl (rd_agg (i := 0) (cs := fracL (a.x - b.x) ++ fracL (a.y - b.y)) rfl rfl Tryz.isAgg38 Tryz.sizeOf38 rfl) (fun w hw => ⟨by rw [ptL_sub], hw.out⟩)))))
theorem scale1_ok (x y k : Rat) (bk : Nat) (hs : Sz x + Sz k ≤ 137438953472) (w : World) (hk : w.heap[bk]? = some (.cells (fracL k).toArray 36 (0, 0))) : Calls Tryz.prog 104 #[(aG (fracL x)), (aG (fracL y)), (pP bk 0)] w (Gives w (aG (fracL (x * k)))) := by
 refine calls_of (args := [(aG (fracL x)), (aG (fracL y)), (pP bk 0)]) Tryz.func104 rfl rfl (leB rfl) (OkC.subF (sC 0 rfl (sC 1 rfl (sC 2 rfl (sN)))) (q4 (bx (cs := fracL x) rfl rfl rfl fun b1 => bx (cs := fracL y) rfl rfl rfl fun b2 => al tZ36 rfl fun b3 => ?_)))
 refine q3 (sC 2 rfl (sC 3 rfl (sC 5 rfl (sN)))) (ldW 2 tA36 rfl rfl rfl rfl (st (v := (aG (fracL k))) (ex_load_agg_at (vs := fracL k) rfl (fun w' hw => hw.oldCA (by simp) (ca_blk hk)) Tryz.isAgg36 Tryz.sizeOf36 rfl) (leB rfl) ?_))
 have hz1 := Sz_mul x k
 exact cl Tryz.call40 (fun w hw => fMul_ok x k (by (try simp only [Sz_neg]); omega) w) rfl rfl rfl (stW0 rfl rfl rfl Tryz.sizeOf36 rfl rfl (OkL.nil (OkQ.subF (sC 5 rfl (sN)) (OkQ.then_ (OkC.ret (ret_one rfl (rd_agg (i := 0) (cs := fracL (x * k)) rfl rfl Tryz.isAgg36 Tryz.sizeOf36 rfl) (fun w hw => ⟨rfl, hw.out⟩)))))))
theorem both_scale_ok (a : Pt) (k : Rat) (bk : Nat) (hs : SzP a + Sz k ≤ 137438953472) (w : World) (hk : w.heap[bk]? = some (.cells (fracL k).toArray 36 (0, 0))) : Calls Tryz.prog 79 #[(aG (ptL a)), (aG (ptL a)), (Value.func (.func 104) #[] #[(pP bk 0)])] w (Gives w (aG (ptL (scaleP a k)))) := by
 have p1 := SzP_x a
 have p2 := SzP_y a
 refine calls_of (args := [(aG (ptL a)), (aG (ptL a)), (Value.func (.func 104) #[] #[(pP bk 0)])]) Tryz.func79 rfl rfl (leB rfl) (OkC.subF (sC 0 rfl (sC 1 rfl (sC 2 rfl (sN)))) (q4 (bx (cs := ptL a) rfl rfl rfl fun b1 => bx (cs := ptL a) rfl rfl rfl fun b2 => al tZ38 rfl fun b3 => ?_)))
 refine q6 (sC 2 rfl (sC 3 rfl (sC 4 rfl (sC 6 rfl (sN))))) (rG [(0, true), (1, true), (2, true), (3, true), (4, true), (6, true), (7, true), (8, true), (9, true), (10, true), (5, false), (11, false), (12, true), (13, false)] (sl sr) (by kernel_rfl) (fun _ _ d _ _ h => by cases d <;> exact h) (pM rfl rfl rfl (pE (v := (pP b1 0)) rfl (ex_fieldAddr rfl Tryz.underlying38 rfl Tryz.sizeOf36 rfl) rfl (pA 1 (fracL a.x) tA36 rfl rfl rfl rfl rfl rfl (pE (v := (pP b2 0)) rfl (ex_fieldAddr rfl Tryz.underlying38 rfl Tryz.sizeOf36 rfl) rfl ?_)))))
 refine pA 0 (fracL a.x) tA36 rfl rfl rfl rfl rfl rfl (pM rfl rfl rfl (pE (v := (pP b1 5)) rfl (ex_fieldAddr rfl Tryz.underlying38 rfl Tryz.sizeOf36 rfl) rfl (pA 1 (fracL a.y) tA36 rfl rfl rfl rfl rfl rfl (pE (v := (pP b2 5)) rfl (ex_fieldAddr rfl Tryz.underlying38 rfl Tryz.sizeOf36 rfl) rfl (pA 0 (fracL a.y) tA36 rfl rfl rfl rfl rfl rfl ?_)))))
 refine OkE.imp rfl (OkL.call (v := (aG (fracL (a.x * k)))) (wt_none rfl) (op_call (args := [(aG (fracL a.x)), (aG (fracL a.x))]) (caps := [(pP bk 0)]) (all := [(aG (fracL a.x)), (aG (fracL a.x)), (pP bk 0)]) rfl rfl rfl Tryz.call104) (fun w hw => scale1_ok a.x a.x k bk (by omega) w (hw.old (by simp) hk)) rfl (leB rfl) (OkE.back (sl sr) (OkE.imp rfl (OkL.call (v := (aG (fracL (a.y * k)))) (wt_none rfl) (op_call (args := [(aG (fracL a.y)), (aG (fracL a.y))]) (caps := [(pP bk 0)]) (all := [(aG (fracL a.y)), (aG (fracL a.y)), (pP bk 0)]) rfl rfl rfl Tryz.call104) (fun w hw => scale1_ok a.y a.y k bk (by omega) w (hw.old (by simp) hk)) rfl (leB rfl) (OkE.back (sl sr) ?_)))))
 refine pE (v := (aG (fracL (a.x * k) ++ fracL (a.y * k)))) rfl (ex_build_struct (zs := ptL (⟨0, 0⟩ : Pt)) (vs := fracL (a.x * k) ++ fracL (a.y * k)) (pv := [(0, (aG (fracL (a.x * k)))), (1, (aG (fracL (a.y * k))))]) (places := [(0, 5), (5, 5)]) Tryz.zeroValue38 Tryz.underlying38 (fun w => by simp [Tryz.sizeOf36]) rfl (fill_numm_38_0fracL_1fracL (a.x * k) (a.y * k))) rfl (OkE.imp rfl (stW0 rfl rfl rfl Tryz.sizeOf38 rfl rfl (OkE.back (sl sr) (OkE.nil (OkQ.subF (sC 6 rfl (sN)) ?_)))))
 exact OkQ.then_ (OkC.ret (ret_one rfl (rd_agg (i := 0) (cs := fracL (a.x * k) ++ fracL (a.y * k)) rfl rfl Tryz.isAgg38 Tryz.sizeOf38 rfl) (fun w hw => ⟨by rw [ptL_scale], hw.out⟩)))
theorem pAdd_ok (a b : Pt) (hs : SzP a + SzP b ≤ 68719476736) (w : World)  : Calls Tryz.prog 38 #[(aG (ptL a)), (aG (ptL b))] w (Gives w (aG (ptL (a + b)))) := by
 refine calls_of (args := [(aG (ptL a)), (aG (ptL b))]) Tryz.func38 rfl rfl (leB rfl) (OkC.subF (sC 0 rfl (sC 1 rfl (sN))) (q4 (bx (cs := ptL a) rfl rfl rfl fun b1 => bx (cs := ptL b) rfl rfl rfl fun b2 => al tZ38 rfl fun b3 => ?_)))
 refine q3 (sC 2 rfl (sC 3 rfl (sC 4 rfl (sN)))) (ldW 2 tA38 rfl rfl rfl rfl (ldW 1 tA38 rfl rfl rfl rfl (cl Tryz.call79 (fun w hw => both_add_ok a b (by omega) w) rfl rfl rfl (stW0 rfl rfl rfl Tryz.sizeOf38 rfl rfl (OkL.nil ?_)))))
 exact OkQ.subF (sC 4 rfl (sN)) (OkQ.then_ (OkC.ret (ret_one rfl (rd_agg (i := 0) (cs := ptL (a + b)) rfl rfl Tryz.isAgg38 Tryz.sizeOf38 rfl) (fun w hw => ⟨rfl, hw.out⟩))))
theorem pSub_ok (a b : Pt) (hs : SzP a + SzP b ≤ 68719476736) (w : World)  : Calls Tryz.prog 48 #[(aG (ptL a)), (aG (ptL b))] w (Gives w (aG (ptL (a - b)))) := by
 refine calls_of (args := [(aG (ptL a)), (aG (ptL b))]) Tryz.func48 rfl rfl (leB rfl) (OkC.subF (sC 0 rfl (sC 1 rfl (sN))) (q4 (bx (cs := ptL a) rfl rfl rfl fun b1 => bx (cs := ptL b) rfl rfl rfl fun b2 => al tZ38 rfl fun b3 => ?_)))
 refine q3 (sC 2 rfl (sC 3 rfl (sC 4 rfl (sN)))) (ldW 2 tA38 rfl rfl rfl rfl (ldW 1 tA38 rfl rfl rfl rfl (cl Tryz.call79 (fun w hw => both_sub_ok a b (by omega) w) rfl rfl rfl (stW0 rfl rfl rfl Tryz.sizeOf38 rfl rfl (OkL.nil ?_)))))
 exact OkQ.subF (sC 4 rfl (sN)) (OkQ.then_ (OkC.ret (ret_one rfl (rd_agg (i := 0) (cs := ptL (a - b)) rfl rfl Tryz.isAgg38 Tryz.sizeOf38 rfl) (fun w hw => ⟨rfl, hw.out⟩))))
theorem pScale_ok (a : Pt) (k : Rat) (hs : SzP a + Sz k ≤ 137438953472) (w : World)  : Calls Tryz.prog 64 #[(aG (ptL a)), (aG (fracL k))] w (Gives w (aG (ptL (scaleP a k)))) := by
 refine calls_of (args := [(aG (ptL a)), (aG (fracL k))]) Tryz.func64 rfl rfl (leB rfl) (OkC.subF (sC 0 rfl (sC 1 rfl (sN))) (q4 (bx (cs := ptL a) rfl rfl rfl fun b1 => bx (cs := fracL k) rfl rfl rfl fun b2 => al tZ38 rfl fun b3 => ?_)))
 refine q3 (sC 2 rfl (sC 3 rfl (sC 4 rfl (sN)))) (ldW 2 tA38 rfl rfl rfl rfl (ldW 2 tA38 rfl rfl rfl rfl (st (v := (Value.func (.func 104) #[] #[(pP b2 0)])) (ex_makeFunc (vs := []) (us := [(pP b2 0)]) rfl rfl) (leB rfl) (cl Tryz.call79 (fun w hw => both_scale_ok a k b2 (by omega) w (hw.get (i := 1) rfl)) rfl rfl rfl (stW0 rfl rfl rfl Tryz.sizeOf38 rfl rfl ?_)))))
 exact OkL.nil (OkQ.subF (sC 4 rfl (sN)) (OkQ.then_ (OkC.ret (ret_one rfl (rd_agg (i := 0) (cs := ptL (scaleP a k)) rfl rfl Tryz.isAgg38 Tryz.sizeOf38 rfl) (fun w hw => ⟨rfl, hw.out⟩)))))
theorem pCross_ok (a b : Pt) (hs : SzP a + SzP b ≤ 68719476736) (w : World)  : Calls Tryz.prog 63 #[(aG (ptL a)), (aG (ptL b))] w (Gives w (aG (fracL (crossP a b)))) := by
 have p1 := SzP_x a
 have p2 := SzP_y a
 have p3 := SzP_x b
 have p4 := SzP_y b
 refine calls_of (args := [(aG (ptL a)), (aG (ptL b))]) Tryz.func63 rfl rfl (leB rfl) (OkC.subF (sC 0 rfl (sC 1 rfl (sN))) (q4 (bx (cs := ptL a) rfl rfl rfl fun b1 => bx (cs := ptL b) rfl rfl rfl fun b2 => al tZ36 rfl fun b3 => ?_)))
 refine q6 (sC 2 rfl (sC 3 rfl (sC 4 rfl (sN)))) (rG [(0, true), (1, true), (2, true), (3, true), (5, true), (6, true), (7, true), (8, true), (4, false), (9, false), (10, false), (11, false)] (sl sr) (by kernel_rfl) (fun _ _ d _ _ h => by cases d <;> exact h) (pE (v := (pP b1 0)) rfl (ex_fieldAddr rfl Tryz.underlying38 rfl Tryz.sizeOf36 rfl) rfl (pA 1 (fracL a.x) tA36 rfl rfl rfl rfl rfl rfl (pE (v := (pP b2 5)) rfl (ex_fieldAddr rfl Tryz.underlying38 rfl Tryz.sizeOf36 rfl) rfl (pA 0 (fracL b.y) tA36 rfl rfl rfl rfl rfl rfl ?_)))))
 refine pE (v := (pP b1 5)) rfl (ex_fieldAddr rfl Tryz.underlying38 rfl Tryz.sizeOf36 rfl) rfl (pA 1 (fracL a.y) tA36 rfl rfl rfl rfl rfl rfl (pE (v := (pP b2 0)) rfl (ex_fieldAddr rfl Tryz.underlying38 rfl Tryz.sizeOf36 rfl) rfl (pA 0 (fracL b.x) tA36 rfl rfl rfl rfl rfl rfl (OkE.imp rfl ?_))))
 have hz1 := Sz_mul a.x b.y
 refine cl Tryz.call40 (fun w hw => fMul_ok a.x b.y (by (try simp only [Sz_neg]); omega) w) rfl rfl rfl (OkE.back (sl sr) (OkE.imp rfl ?_))
 have hz2 := Sz_mul a.y b.x
 refine cl Tryz.call40 (fun w hw => fMul_ok a.y b.x (by (try simp only [Sz_neg]); omega) w) rfl rfl rfl (OkE.back (sl sr) (OkE.imp rfl ?_))
 have hz3 := Sz_sub (a.x * b.y) (a.y * b.x)
 refine cl Tryz.call39 (fun w hw => fSub_ok (a.x * b.y) (a.y * b.x) (by (try simp only [Sz_neg]); omega) w) rfl rfl rfl (OkE.back (sl sr) (OkE.imp rfl (stW0 rfl rfl rfl Tryz.sizeOf36 rfl rfl (OkE.back (sl sr) (OkE.nil ?_)))))
 exact OkQ.subF (sC 4 rfl (sN)) (OkQ.then_ (OkC.ret (ret_one rfl (rd_agg (i := 0) (cs := fracL ((a.x * b.y) - (a.y * b.x))) rfl rfl Tryz.isAgg36 Tryz.sizeOf36 rfl) (fun w hw => ⟨rfl, hw.out⟩))))
theorem pDot_ok (a b : Pt) (hs : SzP a + SzP b ≤ 68719476736) (w : World)  : Calls Tryz.prog 47 #[(aG (ptL a)), (aG (ptL b))] w (Gives w (aG (fracL (dotP a b)))) := by
 have p1 := SzP_x a
 have p2 := SzP_y a
 have p3 := SzP_x b
 have p4 := SzP_y b
 refine calls_of (args := [(aG (ptL a)), (aG (ptL b))]) Tryz.func47 rfl rfl (leB rfl) (OkC.subF (sC 0 rfl (sC 1 rfl (sN))) (q4 (bx (cs := ptL a) rfl rfl rfl fun b1 => bx (cs := ptL b) rfl rfl rfl fun b2 => al tZ36 rfl fun b3 => ?_)))
 refine q6 (sC 2 rfl (sC 3 rfl (sC 4 rfl (sN)))) (rG [(0, true), (1, true), (2, true), (3, true), (5, true), (6, true), (7, true), (8, true), (4, false), (9, false), (10, false), (11, false)] (sl sr) (by kernel_rfl) (fun _ _ d _ _ h => by cases d <;> exact h) (pE (v := (pP b1 0)) rfl (ex_fieldAddr rfl Tryz.underlying38 rfl Tryz.sizeOf36 rfl) rfl (pA 1 (fracL a.x) tA36 rfl rfl rfl rfl rfl rfl (pE (v := (pP b2 0)) rfl (ex_fieldAddr rfl Tryz.underlying38 rfl Tryz.sizeOf36 rfl) rfl (pA 0 (fracL b.x) tA36 rfl rfl rfl rfl rfl rfl ?_)))))
 refine pE (v := (pP b1 5)) rfl (ex_fieldAddr rfl Tryz.underlying38 rfl Tryz.sizeOf36 rfl) rfl (pA 1 (fracL a.y) tA36 rfl rfl rfl rfl rfl rfl (pE (v := (pP b2 5)) rfl (ex_fieldAddr rfl Tryz.underlying38 rfl Tryz.sizeOf36 rfl) rfl (pA 0 (fracL b.y) tA36 rfl rfl rfl rfl rfl rfl (OkE.imp rfl ?_))))
 have hz1 := Sz_mul a.x b.x
 refine cl Tryz.call40 (fun w hw => fMul_ok a.x b.x (by (try simp only [Sz_neg]); omega) w) rfl rfl rfl (OkE.back (sl sr) (OkE.imp rfl ?_))
 have hz2 := Sz_mul a.y b.y
 refine cl Tryz.call40 (fun w hw => fMul_ok a.y b.y (by (try simp only [Sz_neg]); omega) w) rfl rfl rfl (OkE.back (sl sr) (OkE.imp rfl ?_))
 have hz3 := Sz_add (a.x * b.x) (a.y * b.y)
 refine cl Tryz.call41 (fun w hw => fAdd_ok (a.x * b.x) (a.y * b.y) (by (try simp only [Sz_neg]); omega) w) rfl rfl rfl (OkE.back (sl sr) (OkE.imp rfl (stW0 rfl rfl rfl Tryz.sizeOf36 rfl rfl (OkE.back (sl sr) (OkE.nil ?_)))))
 exact OkQ.subF (sC 4 rfl (sN)) (OkQ.then_ (OkC.ret (ret_one rfl (rd_agg (i := 0) (cs := fracL ((a.x * b.x) + (a.y * b.y))) rfl rfl Tryz.isAgg36 Tryz.sizeOf36 rfl) (fun w hw => ⟨rfl, hw.out⟩))))
theorem pSquare_ok (a b : Pt) (hs : SzP a + SzP b ≤ 17179869184) (w : World)  : Calls Tryz.prog 51 #[(aG (ptL a)), (aG (ptL b))] w (Gives w (aG (fracL (dotP (b - a) (b - a))))) := by
 refine calls_of (args := [(aG (ptL a)), (aG (ptL b))]) Tryz.func51 rfl rfl (leB rfl) (OkC.subF (sC 0 rfl (sC 1 rfl (sN))) (q4 (bx (cs := ptL a) rfl rfl rfl fun b1 => bx (cs := ptL b) rfl rfl rfl fun b2 => al tZ36 rfl fun b3 => ?_)))
 refine q3 (sC 2 rfl (sC 3 rfl (sC 4 rfl (sN)))) (ldW 1 tA38 rfl rfl rfl rfl (ldW 2 tA38 rfl rfl rfl rfl ?_))
 have hz1 := SzP_sub b a
 refine cl Tryz.call48 (fun w hw => pSub_ok b a (by omega) w) rfl rfl rfl (al tZ38 rfl fun b4 => stW0 rfl rfl rfl Tryz.sizeOf38 rfl rfl (q3 (sC 4 rfl (sC 5 rfl (sN))) (ldW 0 tA38 rfl rfl rfl rfl (ldW 0 tA38 rfl rfl rfl rfl ?_))))
 have hz2 := Sz_dot (b - a) (b - a)
 exact cl Tryz.call47 (fun w hw => pDot_ok (b - a) (b - a) (by omega) w) rfl rfl rfl (stW1 rfl rfl rfl Tryz.sizeOf36 rfl rfl (OkL.nil (OkQ.subF (sC 4 rfl (sC 5 rfl (sN))) (OkQ.then_ (OkC.ret (ret_one rfl (rd_agg (i := 1) (cs := fracL (dotP (b - a) (b - a))) rfl rfl Tryz.isAgg36 Tryz.sizeOf36 rfl) (fun w hw => ⟨rfl, hw.out⟩)))))))
theorem pInt_ok (x y : Int) (h1 : -9223372036854775808 ≤ x) (h2 : x < 9223372036854775808) (h3 : -9223372036854775808 ≤ y) (h4 : y < 9223372036854775808) (w : World)  : Calls Tryz.prog 36 #[(vI x), (vI y)] w (Gives w (aG (ptL (⟨((x : Int) : Rat), ((y : Int) : Rat)⟩ : Pt)))) := by
 refine calls_of (args := [(vI x), (vI y)]) Tryz.func36 rfl rfl (leB rfl) (OkC.subF (sC 0 rfl (sC 1 rfl (sN))) (q4 (al tZ38 rfl fun b1 => OkL.nil (q2 ?_))))
 refine mv rfl rfl (cl Tryz.call44 (fun w hw => fInt_ok x (by omega) (by omega) w) rfl rfl rfl (mv rfl rfl (cl Tryz.call44 (fun w hw => fInt_ok y (by omega) (by omega) w) rfl rfl rfl (st (v := (aG (fracL ((x : Int) : Rat) ++ fracL ((y : Int) : Rat)))) (ex_build_struct (zs := ptL (⟨0, 0⟩ : Pt)) (vs := fracL ((x : Int) : Rat) ++ fracL ((y : Int) : Rat)) (pv := [(0, (aG (fracL ((x : Int) : Rat)))), (1, (aG (fracL ((y : Int) : Rat))))]) (places := [(0, 5), (5, 5)]) Tryz.zeroValue38 Tryz.underlying38 (fun w => by simp [Tryz.sizeOf36]) rfl (fill_numm_38_0fracL_1fracL ((x : Int) : Rat) ((y : Int) : Rat))) (leB rfl) (stW0 rfl rfl rfl Tryz.sizeOf38 rfl rfl ?_)))))
 exact OkL.nil (OkQ.subF (sC 4 rfl (sN)) (OkQ.then_ (OkC.ret (ret_one rfl (rd_agg (i := 0) (cs := fracL ((x : Int) : Rat) ++ fracL ((y : Int) : Rat)) rfl rfl Tryz.isAgg38 Tryz.sizeOf38 rfl) (fun w hw => ⟨by rw [ptL_mk], hw.out⟩)))))
end
section
set_option maxRecDepth 100000
theorem fOf_ok (x y : Int) (h1 : -9223372036854775808 ≤ x) (h2 : x < 9223372036854775808) (h3 : -9223372036854775808 ≤ y) (h4 : y < 9223372036854775808) (hy : y ≠ 0) (w : World)  : Calls Tryz.prog 46 #[(vI x), (vI y)] w (Gives w (Value.tuple #[(aG (fracL (((x : Int) : Rat) / ((y : Int) : Rat)))), (vI 0)])) := by
 have hb : ((y : Int) : Rat) ≠ 0 := fun e => hy (by exact_mod_cast e)
 have s1 := Sz_int h1 h2
 have s2 := Sz_int h3 h4
 refine calls_of (args := [(vI x), (vI y)]) Tryz.func46 rfl rfl (leB rfl) (OkC.subF (sC 0 rfl (sC 1 rfl (sN))) (q4 (al tZ36 rfl fun b1 => asg rfl rfl (OkL.nil ?_))))
 refine q2 (mv rfl rfl (cl Tryz.call44 (fun w hw => fInt_ok x (by omega) (by omega) w) rfl rfl rfl (mv rfl rfl (cl Tryz.call44 (fun w hw => fInt_ok y (by omega) (by omega) w) rfl rfl rfl ?_))))
 have hz1 := Sz_div (a := ((x : Int) : Rat)) (b := ((y : Int) : Rat)) (by assumption)
 refine cl Tryz.call54 (fun w hw => fDiv_ok ((x : Int) : Rat) ((y : Int) : Rat) (by omega) (by assumption) w) rfl rfl rfl (st (ex_extract (v := (aG (fracL (((x : Int) : Rat) / ((y : Int) : Rat))))) rfl rfl) (leB rfl) (st (ex_extract (v := (vI 0)) rfl rfl) (leB rfl) (stW0 rfl rfl rfl Tryz.sizeOf36 rfl rfl (asg rfl rfl (OkL.nil ?_)))))
 exact OkQ.subF (sC 4 rfl (sC 5 rfl (sN))) (OkQ.then_ (OkC.ret (ret_two rfl (rd_agg (i := 0) (cs := fracL (((x : Int) : Rat) / ((y : Int) : Rat))) rfl rfl Tryz.isAgg36 Tryz.sizeOf36 rfl) (rd_tmp (v := (vI 0)) rfl) (fun w hw => ⟨rfl, hw.out⟩))))
theorem thalf_ok (x : Rat) (hs : Sz x ≤ 137438953472) (w : World)  : Calls Tryz.prog 74 #[(aG (fracL x))] w (Gives w (aG (fracL (x * (1 / 2))))) := by
 have sh := Sz_half
 refine calls_of (args := [(aG (fracL x))]) Tryz.func74 rfl rfl (leB rfl) (OkC.subF (sC 0 rfl (sN)) (q4 (bx (cs := fracL x) rfl rfl rfl fun b1 => al tZ36 rfl fun b2 => q3 (sC 1 rfl (sC 2 rfl (sN))) ?_)))
 refine cl Tryz.call46 (fun w hw => fOf_ok (1 : Int) (2 : Int) (by omega) (by omega) (by omega) (by omega) (by omega) w) rfl rfl rfl (mv rfl rfl (st (ex_extract (v := (aG (fracL (((1 : Int) : Rat) / ((2 : Int) : Rat))))) rfl rfl) (leB rfl) (OkL.retell (k := 7) (u := (aG (fracL ((1 : Rat) / 2)))) rfl (by rw [half_of]) (st (ex_extract (v := (vI 0)) rfl rfl) (leB rfl) (al tZ36 rfl fun b3 => ?_)))))
 refine stW0 rfl rfl rfl Tryz.sizeOf36 rfl rfl (asg rfl rfl (q3 (sC 1 rfl (sC 2 rfl (sC 3 rfl (sN)))) (ldW 2 tA36 rfl rfl rfl rfl (ldW 0 tA36 rfl rfl rfl rfl ?_))))
 have hz1 := Sz_mul x ((1 : Rat) / 2)
 exact cl Tryz.call40 (fun w hw => fMul_ok x ((1 : Rat) / 2) (by (try simp only [Sz_neg]); omega) w) rfl rfl rfl (stW1 rfl rfl rfl Tryz.sizeOf36 rfl rfl (OkL.nil (OkQ.subF (sC 2 rfl (sC 3 rfl (sN))) (OkQ.then_ (OkC.ret (ret_one rfl (rd_agg (i := 1) (cs := fracL (x * ((1 : Rat) / 2))) rfl rfl Tryz.isAgg36 Tryz.sizeOf36 rfl) (fun w hw => ⟨rfl, hw.out⟩)))))))
theorem twice_ok (a b c : Pt) (hs : SzP a + SzP b + SzP c ≤ 8589934592) (w : World)  : Calls Tryz.prog 53 #[(aG (ptL a)), (aG (ptL b)), (aG (ptL c))] w (Gives w (aG (fracL (turnP a b c)))) := by
 refine calls_of (args := [(aG (ptL a)), (aG (ptL b)), (aG (ptL c))]) Tryz.func53 rfl rfl (leB rfl) (OkC.subF (sC 0 rfl (sC 1 rfl (sC 2 rfl (sN)))) (q4 (bx (cs := ptL a) rfl rfl rfl fun b1 => bx (cs := ptL b) rfl rfl rfl fun b2 => bx (cs := ptL c) rfl rfl rfl fun b3 => ?_)))
 refine al tZ36 rfl fun b4 => q6 (sC 3 rfl (sC 4 rfl (sC 5 rfl (sC 6 rfl (sN))))) (rG [(0, true), (1, true), (3, true), (4, true), (2, false), (5, false), (6, false), (7, false)] (sl sr) (by kernel_rfl) (fun _ _ d _ _ h => by cases d <;> exact h) (pW 1 tA38 rfl rfl rfl rfl rfl (pW 2 tA38 rfl rfl rfl rfl rfl (pW 0 tA38 rfl rfl rfl rfl rfl ?_))))
 refine pW 2 tA38 rfl rfl rfl rfl rfl (OkE.imp rfl ?_)
 have hz1 := SzP_sub b a
 refine cl Tryz.call48 (fun w hw => pSub_ok b a (by omega) w) rfl rfl rfl (OkE.back (sl sr) (OkE.imp rfl ?_))
 have hz2 := SzP_sub c a
 refine cl Tryz.call48 (fun w hw => pSub_ok c a (by omega) w) rfl rfl rfl (OkE.back (sl sr) (OkE.imp rfl ?_))
 have hz3 := Sz_cross (b - a) (c - a)
 refine cl Tryz.call63 (fun w hw => pCross_ok (b - a) (c - a) (by omega) w) rfl rfl rfl (OkE.back (sl sr) (OkE.imp rfl (stW0 rfl rfl rfl Tryz.sizeOf36 rfl rfl (OkE.back (sl sr) (OkE.nil ?_)))))
 exact OkQ.subF (sC 6 rfl (sN)) (OkQ.then_ (OkC.ret (ret_one rfl (rd_agg (i := 0) (cs := fracL (crossP (b - a) (c - a))) rfl rfl Tryz.isAgg36 Tryz.sizeOf36 rfl) (fun w hw => ⟨rfl, hw.out⟩))))
theorem Area_ok (a b c : Pt) (hs : SzP a + SzP b + SzP c ≤ 8589934592) (w : World)  : Calls Tryz.prog 32 #[(aG (ptL a)), (aG (ptL b)), (aG (ptL c))] w (Gives w (aG (fracL (turnP a b c * (1 / 2))))) := by
 refine calls_of (args := [(aG (ptL a)), (aG (ptL b)), (aG (ptL c))]) Tryz.func32 rfl rfl (leB rfl) (OkC.subF (sC 0 rfl (sC 1 rfl (sC 2 rfl (sN)))) (q4 (bx (cs := ptL a) rfl rfl rfl fun b1 => bx (cs := ptL b) rfl rfl rfl fun b2 => bx (cs := ptL c) rfl rfl rfl fun b3 => ?_)))
 refine al tZ36 rfl fun b4 => q3 (sC 3 rfl (sC 4 rfl (sC 5 rfl (sC 6 rfl (sN))))) (ldW 3 tA38 rfl rfl rfl rfl (ldW 2 tA38 rfl rfl rfl rfl (ldW 1 tA38 rfl rfl rfl rfl ?_)))
 have hz1 := Sz_turn a b c
 refine cl Tryz.call53 (fun w hw => twice_ok a b c (by omega) w) rfl rfl rfl ?_
 have hz2 := Sz_mul (turnP a b c) (1 / 2)
 exact cl Tryz.call74 (fun w hw => thalf_ok (turnP a b c) (by omega) w) rfl rfl rfl (stW0 rfl rfl rfl Tryz.sizeOf36 rfl rfl (OkL.nil (OkQ.subF (sC 6 rfl (sN)) (OkQ.then_ (OkC.ret (ret_one rfl (rd_agg (i := 0) (cs := fracL ((turnP a b c) * (1 / 2))) rfl rfl Tryz.isAgg36 Tryz.sizeOf36 rfl) (fun w hw => ⟨rfl, hw.out⟩)))))))
end
end Go.Proofs.YtpkoldfmbebmgaaGreatDoor
