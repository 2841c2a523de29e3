import Derived.Test.YtpkoldfmbebmgaaGreatDoorPart07
import Derived.Test.YtpkoldfmbebmgaaGreatDoorPart11
import Derived.Test.YtpkoldfmbebmgaaGreatDoorPart21
namespace Go.Proofs.YtpkoldfmbebmgaaGreatDoor
open Go Go.RowKit
set_option linter.unusedVariables false
set_option linter.unusedSimpArgs false
section
set_option maxRecDepth 100000
theorem fill_numm_38_0fracL_1fracL (x0 : Rat) (x1 : Rat) : Instr.fill ([(0, 5), (5, 5)].toArray[·]?) (ptL (⟨0, 0⟩ : Pt)).toArray [(0, .agg (fracL x0).toArray), (1, .agg (fracL x1).toArray)] = some (fracL x0 ++ fracL x1).toArray := by kernel_rfl
theorem both_add_ok (a b : Pt) (hs : SzP a + SzP b ≤ 68719476736) (w : World)  : Calls Tryz.prog 79 #[(aG (ptL a)), (aG (ptL b)), (Value.func (.func 41) #[] #[])] w (Gives w (aG (ptL (a + b)))) := by
 have p1 := SzP_x a
 have p2 := SzP_y a
 have p3 := SzP_x b
 have p4 := SzP_y b
 refine calls_of (args := [(aG (ptL a)), (aG (ptL b)), (Value.func (.func 41) #[] #[])]) Tryz.func79 rfl rfl (leB rfl) (OkC.subF (sC 0 rfl (sC 1 rfl (sC 2 rfl (sN)))) (q4 (bx (cs := ptL a) rfl rfl rfl fun b1 => bx (cs := ptL b) rfl rfl rfl fun b2 => al tZ38 rfl fun b3 => ?_)))
 refine q6 (sC 2 rfl (sC 3 rfl (sC 4 rfl (sC 6 rfl (sN))))) (rG [(0, true), (1, true), (2, true), (3, true), (4, true), (6, true), (7, true), (8, true), (9, true), (10, true), (5, false), (11, false), (12, true), (13, false)] (sl sr) (by kernel_rfl) (fun _ _ d _ _ h => by cases d <;> exact h) (pM rfl rfl rfl (pE (v := (pP b1 0)) rfl (ex_fieldAddr rfl Tryz.underlying38 rfl Tryz.sizeOf36 rfl) rfl (pA 1 (fracL a.x) tA36 rfl rfl rfl rfl rfl rfl (pE (v := (pP b2 0)) rfl (ex_fieldAddr rfl Tryz.underlying38 rfl Tryz.sizeOf36 rfl) rfl ?_)))))
 refine pA 0 (fracL b.x) tA36 rfl rfl rfl rfl rfl rfl (pM rfl rfl rfl (pE (v := (pP b1 5)) rfl (ex_fieldAddr rfl Tryz.underlying38 rfl Tryz.sizeOf36 rfl) rfl (pA 1 (fracL a.y) tA36 rfl rfl rfl rfl rfl rfl (pE (v := (pP b2 5)) rfl (ex_fieldAddr rfl Tryz.underlying38 rfl Tryz.sizeOf36 rfl) rfl (pA 0 (fracL b.y) tA36 rfl rfl rfl rfl rfl rfl ?_)))))
 refine OkE.imp rfl ?_
 have hz1 := Sz_add a.x b.x
 refine cl Tryz.call41 (fun w hw => fAdd_ok a.x b.x (by (try simp only [Sz_neg]); omega) w) rfl rfl rfl (OkE.back (sl sr) (OkE.imp rfl ?_))
 have hz2 := Sz_add a.y b.y
 refine cl Tryz.call41 (fun w hw => fAdd_ok a.y b.y (by (try simp only [Sz_neg]); omega) w) rfl rfl rfl (OkE.back (sl sr) (pE (v := (aG (fracL (a.x + b.x) ++ fracL (a.y + b.y)))) rfl (ex_build_struct (zs := ptL (⟨0, 0⟩ : Pt)) (vs := fracL (a.x + b.x) ++ fracL (a.y + b.y)) (pv := [(0, (aG (fracL (a.x + b.x)))), (1, (aG (fracL (a.y + b.y))))]) (places := [(0, 5), (5, 5)]) Tryz.zeroValue38 Tryz.underlying38 (fun w => by simp [Tryz.sizeOf36]) rfl (fill_numm_38_0fracL_1fracL (a.x + b.x) (a.y + b.y))) rfl (OkE.imp rfl (stW0 rfl rfl rfl Tryz.sizeOf38 rfl rfl (OkE.back (sl sr) ?_)))))
 exact OkE.nil (OkQ.subF (sC 6 rfl (sN)) (OkQ.then_ (OkC.ret (ret_one rfl (rd_agg (i := 0) (cs := fracL (a.x + b.x) ++ fracL (a.y + b.y)) rfl rfl Tryz.isAgg38 Tryz.sizeOf38 rfl) (fun w hw => ⟨by rw [ptL_add], hw.out⟩)))))
theorem both_sub_ok (a b : Pt) (hs : SzP a + SzP b ≤ 68719476736) (w : World)  : Calls Tryz.prog 79 #[(aG (ptL a)), (aG (ptL b)), (Value.func (.func 39) #[] #[])] w (Gives w (aG (ptL (a - b)))) := by
 have p1 := SzP_x a
 have p2 := SzP_y a
 have p3 := SzP_x b
 have p4 := SzP_y b
 refine calls_of (args := [(aG (ptL a)), (aG (ptL b)), (Value.func (.func 39) #[] #[])]) Tryz.func79 rfl rfl (leB rfl) (OkC.subF (sC 0 rfl (sC 1 rfl (sC 2 rfl (sN)))) (q4 (bx (cs := ptL a) rfl rfl rfl fun b1 => bx (cs := ptL b) rfl rfl rfl fun b2 => al tZ38 rfl fun b3 => ?_)))
 refine q6 (sC 2 rfl (sC 3 rfl (sC 4 rfl (sC 6 rfl (sN))))) (rG [(0, true), (1, true), (2, true), (3, true), (4, true), (6, true), (7, true), (8, true), (9, true), (10, true), (5, false), (11, false), (12, true), (13, false)] (sl sr) (by kernel_rfl) (fun _ _ d _ _ h => by cases d <;> exact h) (pM rfl rfl rfl (pE (v := (pP b1 0)) rfl (ex_fieldAddr rfl Tryz.underlying38 rfl Tryz.sizeOf36 rfl) rfl (pA 1 (fracL a.x) tA36 rfl rfl rfl rfl rfl rfl (pE (v := (pP b2 0)) rfl (ex_fieldAddr rfl Tryz.underlying38 rfl Tryz.sizeOf36 rfl) rfl ?_)))))
 refine pA 0 (fracL b.x) tA36 rfl rfl rfl rfl rfl rfl (pM rfl rfl rfl (pE (v := (pP b1 5)) rfl (ex_fieldAddr rfl Tryz.underlying38 rfl Tryz.sizeOf36 rfl) rfl (pA 1 (fracL a.y) tA36 rfl rfl rfl rfl rfl rfl (pE (v := (pP b2 5)) rfl (ex_fieldAddr rfl Tryz.underlying38 rfl Tryz.sizeOf36 rfl) rfl (pA 0 (fracL b.y) tA36 rfl rfl rfl rfl rfl rfl ?_)))))
 refine OkE.imp rfl ?_
 have hz1 := Sz_sub a.x b.x
 refine cl Tryz.call39 (fun w hw => fSub_ok a.x b.x (by (try simp only [Sz_neg]); omega) w) rfl rfl rfl (OkE.back (sl sr) (OkE.imp rfl ?_))
 have hz2 := Sz_sub a.y b.y
 refine cl Tryz.call39 (fun w hw => fSub_ok a.y b.y (by (try simp only [Sz_neg]); omega) w) rfl rfl rfl (OkE.back (sl sr) (pE (v := (aG (fracL (a.x - b.x) ++ fracL (a.y - b.y)))) rfl (ex_build_struct (zs := ptL (⟨0, 0⟩ : Pt)) (vs := fracL (a.x - b.x) ++ fracL (a.y - b.y)) (pv := [(0, (aG (fracL (a.x - b.x)))), (1, (aG (fracL (a.y - b.y))))]) (places := [(0, 5), (5, 5)]) Tryz.zeroValue38 Tryz.underlying38 (fun w => by simp [Tryz.sizeOf36]) rfl (fill_numm_38_0fracL_1fracL (a.x - b.x) (a.y - b.y))) rfl (OkE.imp rfl (stW0 rfl rfl rfl Tryz.sizeOf38 rfl rfl (OkE.back (sl sr) ?_)))))
 exact OkE.nil (OkQ.subF (sC 6 rfl (sN)) (OkQ.then_ (OkC.ret (ret_one rfl (rd_agg (i := 0) (cs := fracL (a.x - b.x) ++ fracL (a.y - b.y)) rfl rfl Tryz.isAgg38 Tryz.sizeOf38 rfl) (fun w hw => ⟨by rw [ptL_sub], hw.out⟩)))))
theorem scale1_ok (x y k : Rat) (bk : Nat) (hs : Sz x + Sz k ≤ 137438953472) (w : World) (hk : w.heap[bk]? = some (.cells (fracL k).toArray 36 (0, 0))) : Calls Tryz.prog 104 #[(aG (fracL x)), (aG (fracL y)), (pP bk 0)] w (Gives w (aG (fracL (x * k)))) := by
 refine calls_of (args := [(aG (fracL x)), (aG (fracL y)), (pP bk 0)]) Tryz.func104 rfl rfl (leB rfl) (OkC.subF (sC 0 rfl (sC 1 rfl (sC 2 rfl (sN)))) (q4 (bx (cs := fracL x) rfl rfl rfl fun b1 => bx (cs := fracL y) rfl rfl rfl fun b2 => al tZ36 rfl fun b3 => ?_)))
 refine q3 (sC 2 rfl (sC 3 rfl (sC 5 rfl (sN)))) (ldW 2 tA36 rfl rfl rfl rfl (st (v := (aG (fracL k))) (ex_load_agg_at (vs := fracL k) rfl (fun w' hw => hw.oldCA (by simp) (ca_blk hk)) Tryz.isAgg36 Tryz.sizeOf36 rfl) (leB rfl) ?_))
 have hz1 := Sz_mul x k
 exact cl Tryz.call40 (fun w hw => fMul_ok x k (by (try simp only [Sz_neg]); omega) w) rfl rfl rfl (stW0 rfl rfl rfl Tryz.sizeOf36 rfl rfl (OkL.nil (OkQ.subF (sC 5 rfl (sN)) (OkQ.then_ (OkC.ret (ret_one rfl (rd_agg (i := 0) (cs := fracL (x * k)) rfl rfl Tryz.isAgg36 Tryz.sizeOf36 rfl) (fun w hw => ⟨rfl, hw.out⟩)))))))
theorem both_scale_ok (a : Pt) (k : Rat) (bk : Nat) (hs : SzP a + Sz k ≤ 137438953472) (w : World) (hk : w.heap[bk]? = some (.cells (fracL k).toArray 36 (0, 0))) : Calls Tryz.prog 79 #[(aG (ptL a)), (aG (ptL a)), (Value.func (.func 104) #[] #[(pP bk 0)])] w (Gives w (aG (ptL (scaleP a k)))) := by
 have p1 := SzP_x a
 have p2 := SzP_y a
 refine calls_of (args := [(aG (ptL a)), (aG (ptL a)), (Value.func (.func 104) #[] #[(pP bk 0)])]) Tryz.func79 rfl rfl (leB rfl) (OkC.subF (sC 0 rfl (sC 1 rfl (sC 2 rfl (sN)))) (q4 (bx (cs := ptL a) rfl rfl rfl fun b1 => bx (cs := ptL a) rfl rfl rfl fun b2 => al tZ38 rfl fun b3 => ?_)))
 refine q6 (sC 2 rfl (sC 3 rfl (sC 4 rfl (sC 6 rfl (sN))))) (rG [(0, true), (1, true), (2, true), (3, true), (4, true), (6, true), (7, true), (8, true), (9, true), (10, true), (5, false), (11, false), (12, true), (13, false)] (sl sr) (by kernel_rfl) (fun _ _ d _ _ h => by cases d <;> exact h) (pM rfl rfl rfl (pE (v := (pP b1 0)) rfl (ex_fieldAddr rfl Tryz.underlying38 rfl Tryz.sizeOf36 rfl) rfl (pA 1 (fracL a.x) tA36 rfl rfl rfl rfl rfl rfl (pE (v := (pP b2 0)) rfl (ex_fieldAddr rfl Tryz.underlying38 rfl Tryz.sizeOf36 rfl) rfl ?_)))))
 refine pA 0 (fracL a.x) tA36 rfl rfl rfl rfl rfl rfl (pM rfl rfl rfl (pE (v := (pP b1 5)) rfl (ex_fieldAddr rfl Tryz.underlying38 rfl Tryz.sizeOf36 rfl) rfl (pA 1 (fracL a.y) tA36 rfl rfl rfl rfl rfl rfl (pE (v := (pP b2 5)) rfl (ex_fieldAddr rfl Tryz.underlying38 rfl Tryz.sizeOf36 rfl) rfl (pA 0 (fracL a.y) tA36 rfl rfl rfl rfl rfl rfl ?_)))))
 refine OkE.imp rfl (OkL.call (v := (aG (fracL (a.x * k)))) (wt_none rfl) (op_call (args := [(aG (fracL a.x)), (aG (fracL a.x))]) (caps := [(pP bk 0)]) (all := [(aG (fracL a.x)), (aG (fracL a.x)), (pP bk 0)]) rfl rfl rfl Tryz.call104) (fun w hw => scale1_ok a.x a.x k bk (by omega) w (hw.old (by simp) hk)) rfl (leB rfl) (OkE.back (sl sr) (OkE.imp rfl (OkL.call (v := (aG (fracL (a.y * k)))) (wt_none rfl) (op_call (args := [(aG (fracL a.y)), (aG (fracL a.y))]) (caps := [(pP bk 0)]) (all := [(aG (fracL a.y)), (aG (fracL a.y)), (pP bk 0)]) rfl rfl rfl Tryz.call104) (fun w hw => scale1_ok a.y a.y k bk (by omega) w (hw.old (by simp) hk)) rfl (leB rfl) (OkE.back (sl sr) ?_)))))
 refine pE (v := (aG (fracL (a.x * k) ++ fracL (a.y * k)))) rfl (ex_build_struct (zs := ptL (⟨0, 0⟩ : Pt)) (vs := fracL (a.x * k) ++ fracL (a.y * k)) (pv := [(0, (aG (fracL (a.x * k)))), (1, (aG (fracL (a.y * k))))]) (places := [(0, 5), (5, 5)]) Tryz.zeroValue38 Tryz.underlying38 (fun w => by simp [Tryz.sizeOf36]) rfl (fill_numm_38_0fracL_1fracL (a.x * k) (a.y * k))) rfl (OkE.imp rfl (stW0 rfl rfl rfl Tryz.sizeOf38 rfl rfl (OkE.back (sl sr) (OkE.nil (OkQ.subF (sC 6 rfl (sN)) ?_)))))
 exact OkQ.then_ (OkC.ret (ret_one rfl (rd_agg (i := 0) (cs := fracL (a.x * k) ++ fracL (a.y * k)) rfl rfl Tryz.isAgg38 Tryz.sizeOf38 rfl) (fun w hw => ⟨by rw [ptL_scale], hw.out⟩)))
theorem pAdd_ok (a b : Pt) (hs : SzP a + SzP b ≤ 68719476736) (w : World)  : Calls Tryz.prog 38 #[(aG (ptL a)), (aG (ptL b))] w (Gives w (aG (ptL (a + b)))) := by
 refine calls_of (args := [(aG (ptL a)), (aG (ptL b))]) Tryz.func38 rfl rfl (leB rfl) (OkC.subF (sC 0 rfl (sC 1 rfl (sN))) (q4 (bx (cs := ptL a) rfl rfl rfl fun b1 => bx (cs := ptL b) rfl rfl rfl fun b2 => al tZ38 rfl fun b3 => ?_)))
 refine q3 (sC 2 rfl (sC 3 rfl (sC 4 rfl (sN)))) (ldW 2 tA38 rfl rfl rfl rfl (ldW 1 tA38 rfl rfl rfl rfl (cl Tryz.call79 (fun w hw => both_add_ok a b (by omega) w) rfl rfl rfl (stW0 rfl rfl rfl Tryz.sizeOf38 rfl rfl (OkL.nil ?_)))))
 exact OkQ.subF (sC 4 rfl (sN)) (OkQ.then_ (OkC.ret (ret_one rfl (rd_agg (i := 0) (cs := ptL (a + b)) rfl rfl Tryz.isAgg38 Tryz.sizeOf38 rfl) (fun w hw => ⟨rfl, hw.out⟩))))
theorem pSub_ok (a b : Pt) (hs : SzP a + SzP b ≤ 68719476736) (w : World)  : Calls Tryz.prog 48 #[(aG (ptL a)), (aG (ptL b))] w (Gives w (aG (ptL (a - b)))) := by
 refine calls_of (args := [(aG (ptL a)), (aG (ptL b))]) Tryz.func48 rfl rfl (leB rfl) (OkC.subF (sC 0 rfl (sC 1 rfl (sN))) (q4 (bx (cs := ptL a) rfl rfl rfl fun b1 => bx (cs := ptL b) rfl rfl rfl fun b2 => al tZ38 rfl fun b3 => ?_)))
 refine q3 (sC 2 rfl (sC 3 rfl (sC 4 rfl (sN)))) (ldW 2 tA38 rfl rfl rfl rfl (ldW 1 tA38 rfl rfl rfl rfl (cl Tryz.call79 (fun w hw => both_sub_ok a b (by omega) w) rfl rfl rfl (stW0 rfl rfl rfl Tryz.sizeOf38 rfl rfl (OkL.nil ?_)))))
 exact OkQ.subF (sC 4 rfl (sN)) (OkQ.then_ (OkC.ret (ret_one rfl (rd_agg (i := 0) (cs := ptL (a - b)) rfl rfl Tryz.isAgg38 Tryz.sizeOf38 rfl) (fun w hw => ⟨rfl, hw.out⟩))))
theorem pScale_ok (a : Pt) (k : Rat) (hs : SzP a + Sz k ≤ 137438953472) (w : World)  : Calls Tryz.prog 64 #[(aG (ptL a)), (aG (fracL k))] w (Gives w (aG (ptL (scaleP a k)))) := by
 refine calls_of (args := [(aG (ptL a)), (aG (fracL k))]) Tryz.func64 rfl rfl (leB rfl) (OkC.subF (sC 0 rfl (sC 1 rfl (sN))) (q4 (bx (cs := ptL a) rfl rfl rfl fun b1 => bx (cs := fracL k) rfl rfl rfl fun b2 => al tZ38 rfl fun b3 => ?_)))
 refine q3 (sC 2 rfl (sC 3 rfl (sC 4 rfl (sN)))) (ldW 2 tA38 rfl rfl rfl rfl (ldW 2 tA38 rfl rfl rfl rfl (st (v := (Value.func (.func 104) #[] #[(pP b2 0)])) (ex_makeFunc (vs := []) (us := [(pP b2 0)]) rfl rfl) (leB rfl) (cl Tryz.call79 (fun w hw => both_scale_ok a k b2 (by omega) w (hw.get (i := 1) rfl)) rfl rfl rfl (stW0 rfl rfl rfl Tryz.sizeOf38 rfl rfl ?_)))))
 exact OkL.nil (OkQ.subF (sC 4 rfl (sN)) (OkQ.then_ (OkC.ret (ret_one rfl (rd_agg (i := 0) (cs := ptL (scaleP a k)) rfl rfl Tryz.isAgg38 Tryz.sizeOf38 rfl) (fun w hw => ⟨rfl, hw.out⟩)))))
theorem pCross_ok (a b : Pt) (hs : SzP a + SzP b ≤ 68719476736) (w : World)  : Calls Tryz.prog 63 #[(aG (ptL a)), (aG (ptL b))] w (Gives w (aG (fracL (crossP a b)))) := by
 have p1 := SzP_x a
 have p2 := SzP_y a
 have p3 := SzP_x b
 have p4 := SzP_y b
 refine calls_of (args := [(aG (ptL a)), (aG (ptL b))]) Tryz.func63 rfl rfl (leB rfl) (OkC.subF (sC 0 rfl (sC 1 rfl (sN))) (q4 (bx (cs := ptL a) rfl rfl rfl fun b1 => bx (cs := ptL b) rfl rfl rfl fun b2 => al tZ36 rfl fun b3 => ?_)))
 refine q6 (sC 2 rfl (sC 3 rfl (sC 4 rfl (sN)))) (rG [(0, true), (1, true), (2, true), (3, true), (5, true), (6, true), (7, true), (8, true), (4, false), (9, false), (10, false), (11, false)] (sl sr) (by kernel_rfl) (fun _ _ d _ _ h => by cases d <;> exact h) (pE (v := (pP b1 0)) rfl (ex_fieldAddr rfl Tryz.underlying38 rfl Tryz.sizeOf36 rfl) rfl (pA 1 (fracL a.x) tA36 rfl rfl rfl rfl rfl rfl (pE (v := (pP b2 5)) rfl (ex_fieldAddr rfl Tryz.underlying38 rfl Tryz.sizeOf36 rfl) rfl (pA 0 (fracL b.y) tA36 rfl rfl rfl rfl rfl rfl ?_)))))
 refine pE (v := (pP b1 5)) rfl (ex_fieldAddr rfl Tryz.underlying38 rfl Tryz.sizeOf36 rfl) rfl (pA 1 (fracL a.y) tA36 rfl rfl rfl rfl rfl rfl (pE (v := (pP b2 0)) rfl (ex_fieldAddr rfl Tryz.underlying38 rfl Tryz.sizeOf36 rfl) rfl (pA 0 (fracL b.x) tA36 rfl rfl rfl rfl rfl rfl (OkE.imp rfl ?_))))
 have hz1 := Sz_mul a.x b.y
 refine cl Tryz.call40 (fun w hw => fMul_ok a.x b.y (by (try simp only [Sz_neg]); omega) w) rfl rfl rfl (OkE.back (sl sr) (OkE.imp rfl ?_))
 have hz2 := Sz_mul a.y b.x
 refine cl Tryz.call40 (fun w hw => fMul_ok a.y b.x (by (try simp only [Sz_neg]); omega) w) rfl rfl rfl (OkE.back (sl sr) (OkE.imp rfl ?_))
 have hz3 := Sz_sub (a.x * b.y) (a.y * b.x)
 refine cl Tryz.call39 (fun w hw => fSub_ok (a.x * b.y) (a.y * b.x) (by (try simp only [Sz_neg]); omega) w) rfl rfl rfl (OkE.back (sl sr) (OkE.imp rfl (stW0 rfl rfl rfl Tryz.sizeOf36 rfl rfl (OkE.back (sl sr) (OkE.nil ?_)))))
 exact OkQ.subF (sC 4 rfl (sN)) (OkQ.then_ (OkC.ret (ret_one rfl (rd_agg (i := 0) (cs := fracL ((a.x * b.y) - (a.y * b.x))) rfl rfl Tryz.isAgg36 Tryz.sizeOf36 rfl) (fun w hw => ⟨rfl, hw.out⟩))))
theorem pDot_ok (a b : Pt) (hs : SzP a + SzP b ≤ 68719476736) (w : World)  : Calls Tryz.prog 47 #[(aG (ptL a)), (aG (ptL b))] w (Gives w (aG (fracL (dotP a b)))) := by
 have p1 := SzP_x a
 have p2 := SzP_y a
 have p3 := SzP_x b
 have p4 := SzP_y b
 refine calls_of (args := [(aG (ptL a)), (aG (ptL b))]) Tryz.func47 rfl rfl (leB rfl) (OkC.subF (sC 0 rfl (sC 1 rfl (sN))) (q4 (bx (cs := ptL a) rfl rfl rfl fun b1 => bx (cs := ptL b) rfl rfl rfl fun b2 => al tZ36 rfl fun b3 => ?_)))
 refine q6 (sC 2 rfl (sC 3 rfl (sC 4 rfl (sN)))) (rG [(0, true), (1, true), (2, true), (3, true), (5, true), (6, true), (7, true), (8, true), (4, false), (9, false), (10, false), (11, false)] (sl sr) (by kernel_rfl) (fun _ _ d _ _ h => by cases d <;> exact h) (pE (v := (pP b1 0)) rfl (ex_fieldAddr rfl Tryz.underlying38 rfl Tryz.sizeOf36 rfl) rfl (pA 1 (fracL a.x) tA36 rfl rfl rfl rfl rfl rfl (pE (v := (pP b2 0)) rfl (ex_fieldAddr rfl Tryz.underlying38 rfl Tryz.sizeOf36 rfl) rfl (pA 0 (fracL b.x) tA36 rfl rfl rfl rfl rfl rfl ?_)))))
 refine pE (v := (pP b1 5)) rfl (ex_fieldAddr rfl Tryz.underlying38 rfl Tryz.sizeOf36 rfl) rfl (pA 1 (fracL a.y) tA36 rfl rfl rfl rfl rfl rfl (pE (v := (pP b2 5)) rfl (ex_fieldAddr rfl Tryz.underlying38 rfl Tryz.sizeOf36 rfl) rfl (pA 0 (fracL b.y) tA36 rfl rfl rfl rfl rfl rfl (OkE.imp rfl ?_))))
 have hz1 := Sz_mul a.x b.x
 refine cl Tryz.call40 (fun w hw => fMul_ok a.x b.x (by (try simp only [Sz_neg]); omega) w) rfl rfl rfl (OkE.back (sl sr) (OkE.imp rfl ?_))
 have hz2 := Sz_mul a.y b.y
 refine cl Tryz.call40 (fun w hw => fMul_ok a.y b.y (by (try simp only [Sz_neg]); omega) w) rfl rfl rfl (OkE.back (sl sr) (OkE.imp rfl ?_))
 have hz3 := Sz_add (a.x * b.x) (a.y * b.y)
 refine cl Tryz.call41 (fun w hw => fAdd_ok (a.x * b.x) (a.y * b.y) (by (try simp only [Sz_neg]); omega) w) rfl rfl rfl (OkE.back (sl sr) (OkE.imp rfl (stW0 rfl rfl rfl Tryz.sizeOf36 rfl rfl (OkE.back (sl sr) (OkE.nil ?_)))))
 exact OkQ.subF (sC 4 rfl (sN)) (OkQ.then_ (OkC.ret (ret_one rfl (rd_agg (i := 0) (cs := fracL ((a.x * b.x) + (a.y * b.y))) rfl rfl Tryz.isAgg36 Tryz.sizeOf36 rfl) (fun w hw => ⟨rfl, hw.out⟩))))
theorem pSquare_ok (a b : Pt) (hs : SzP a + SzP b ≤ 17179869184) (w : World)  : Calls Tryz.prog 51 #[(aG (ptL a)), (aG (ptL b))] w (Gives w (aG (fracL (dotP (b - a) (b - a))))) := by
 refine calls_of (args := [(aG (ptL a)), (aG (ptL b))]) Tryz.func51 rfl rfl (leB rfl) (OkC.subF (sC 0 rfl (sC 1 rfl (sN))) (q4 (bx (cs := ptL a) rfl rfl rfl fun b1 => bx (cs := ptL b) rfl rfl rfl fun b2 => al tZ36 rfl fun b3 => ?_)))
 refine q3 (sC 2 rfl (sC 3 rfl (sC 4 rfl (sN)))) (ldW 1 tA38 rfl rfl rfl rfl (ldW 2 tA38 rfl rfl rfl rfl ?_))
 have hz1 := SzP_sub b a
 refine cl Tryz.call48 (fun w hw => pSub_ok b a (by omega) w) rfl rfl rfl (al tZ38 rfl fun b4 => stW0 rfl rfl rfl Tryz.sizeOf38 rfl rfl (q3 (sC 4 rfl (sC 5 rfl (sN))) (ldW 0 tA38 rfl rfl rfl rfl (ldW 0 tA38 rfl rfl rfl rfl ?_))))
 have hz2 := Sz_dot (b - a) (b - a)
 exact cl Tryz.call47 (fun w hw => pDot_ok (b - a) (b - a) (by omega) w) rfl rfl rfl (stW1 rfl rfl rfl Tryz.sizeOf36 rfl rfl (OkL.nil (OkQ.subF (sC 4 rfl (sC 5 rfl (sN))) (OkQ.then_ (OkC.ret (ret_one rfl (rd_agg (i := 1) (cs := fracL (dotP (b - a) (b - a))) rfl rfl Tryz.isAgg36 Tryz.sizeOf36 rfl) (fun w hw => ⟨rfl, hw.out⟩)))))))
theorem pInt_ok (x y : Int) (h1 : -9223372036854775808 ≤ x) (h2 : x < 9223372036854775808) (h3 : -9223372036854775808 ≤ y) (h4 : y < 9223372036854775808) (w : World)  : Calls Tryz.prog 36 #[(vI x), (vI y)] w (Gives w (aG (ptL (⟨((x : Int) : Rat), ((y : Int) : Rat)⟩ : Pt)))) := by
 refine calls_of (args := [(vI x), (vI y)]) Tryz.func36 rfl rfl (leB rfl) (OkC.subF (sC 0 rfl (sC 1 rfl (sN))) (q4 (al tZ38 rfl fun b1 => OkL.nil (q2 ?_))))
 refine mv rfl rfl (cl Tryz.call44 (fun w hw => fInt_ok x (by omega) (by omega) w) rfl rfl rfl (mv rfl rfl (cl Tryz.call44 (fun w hw => fInt_ok y (by omega) (by omega) w) rfl rfl rfl (st (v := (aG (fracL ((x : Int) : Rat) ++ fracL ((y : Int) : Rat)))) (ex_build_struct (zs := ptL (⟨0, 0⟩ : Pt)) (vs := fracL ((x : Int) : Rat) ++ fracL ((y : Int) : Rat)) (pv := [(0, (aG (fracL ((x : Int) : Rat)))), (1, (aG (fracL ((y : Int) : Rat))))]) (places := [(0, 5), (5, 5)]) Tryz.zeroValue38 Tryz.underlying38 (fun w => by simp [Tryz.sizeOf36]) rfl (fill_numm_38_0fracL_1fracL ((x : Int) : Rat) ((y : Int) : Rat))) (leB rfl) (stW0 rfl rfl rfl Tryz.sizeOf38 rfl rfl ?_)))))
 exact OkL.nil (OkQ.subF (sC 4 rfl (sN)) (OkQ.then_ (OkC.ret (ret_one rfl (rd_agg (i := 0) (cs := fracL ((x : Int) : Rat) ++ fracL ((y : Int) : Rat)) rfl rfl Tryz.isAgg38 Tryz.sizeOf38 rfl) (fun w hw => ⟨by rw [ptL_mk], hw.out⟩)))))
end
section
set_option maxRecDepth 100000
theorem fOf_ok (x y : Int) (h1 : -9223372036854775808 ≤ x) (h2 : x < 9223372036854775808) (h3 : -9223372036854775808 ≤ y) (h4 : y < 9223372036854775808) (hy : y ≠ 0) (w : World)  : Calls Tryz.prog 46 #[(vI x), (vI y)] w (Gives w (Value.tuple #[(aG (fracL (((x : Int) : Rat) / ((y : Int) : Rat)))), (vI 0)])) := by
 have hb : ((y : Int) : Rat) ≠ 0 := fun e => hy (by exact_mod_cast e)
 have s1 := Sz_int h1 h2
 have s2 := Sz_int h3 h4
 refine calls_of (args := [(vI x), (vI y)]) Tryz.func46 rfl rfl (leB rfl) (OkC.subF (sC 0 rfl (sC 1 rfl (sN))) (q4 (al tZ36 rfl fun b1 => asg rfl rfl (OkL.nil ?_))))
 refine q2 (mv rfl rfl (cl Tryz.call44 (fun w hw => fInt_ok x (by omega) (by omega) w) rfl rfl rfl (mv rfl rfl (cl Tryz.call44 (fun w hw => fInt_ok y (by omega) (by omega) w) rfl rfl rfl ?_))))
 have hz1 := Sz_div (a := ((x : Int) : Rat)) (b := ((y : Int) : Rat)) (by assumption)
 refine cl Tryz.call54 (fun w hw => fDiv_ok ((x : Int) : Rat) ((y : Int) : Rat) (by omega) (by assumption) w) rfl rfl rfl (st (ex_extract (v := (aG (fracL (((x : Int) : Rat) / ((y : Int) : Rat))))) rfl rfl) (leB rfl) (st (ex_extract (v := (vI 0)) rfl rfl) (leB rfl) (stW0 rfl rfl rfl Tryz.sizeOf36 rfl rfl (asg rfl rfl (OkL.nil ?_)))))
 exact OkQ.subF (sC 4 rfl (sC 5 rfl (sN))) (OkQ.then_ (OkC.ret (ret_two rfl (rd_agg (i := 0) (cs := fracL (((x : Int) : Rat) / ((y : Int) : Rat))) rfl rfl Tryz.isAgg36 Tryz.sizeOf36 rfl) (rd_tmp (v := (vI 0)) rfl) (fun w hw => ⟨rfl, hw.out⟩))))
theorem thalf_ok (x : Rat) (hs : Sz x ≤ 137438953472) (w : World)  : Calls Tryz.prog 74 #[(aG (fracL x))] w (Gives w (aG (fracL (x * (1 / 2))))) := by
 have sh := Sz_half
 refine calls_of (args := [(aG (fracL x))]) Tryz.func74 rfl rfl (leB rfl) (OkC.subF (sC 0 rfl (sN)) (q4 (bx (cs := fracL x) rfl rfl rfl fun b1 => al tZ36 rfl fun b2 => q3 (sC 1 rfl (sC 2 rfl (sN))) ?_)))
 refine cl Tryz.call46 (fun w hw => fOf_ok (1 : Int) (2 : Int) (by omega) (by omega) (by omega) (by omega) (by omega) w) rfl rfl rfl (mv rfl rfl (st (ex_extract (v := (aG (fracL (((1 : Int) : Rat) / ((2 : Int) : Rat))))) rfl rfl) (leB rfl) (OkL.retell (k := 7) (u := (aG (fracL ((1 : Rat) / 2)))) rfl (by rw [half_of]) (st (ex_extract (v := (vI 0)) rfl rfl) (leB rfl) (al tZ36 rfl fun b3 => ?_)))))
 refine stW0 rfl rfl rfl Tryz.sizeOf36 rfl rfl (asg rfl rfl (q3 (sC 1 rfl (sC 2 rfl (sC 3 rfl (sN)))) (ldW 2 tA36 rfl rfl rfl rfl (ldW 0 tA36 rfl rfl rfl rfl ?_))))
 have hz1 := Sz_mul x ((1 : Rat) / 2)
 exact cl Tryz.call40 (fun w hw => fMul_ok x ((1 : Rat) / 2) (by (try simp only [Sz_neg]); omega) w) rfl rfl rfl (stW1 rfl rfl rfl Tryz.sizeOf36 rfl rfl (OkL.nil (OkQ.subF (sC 2 rfl (sC 3 rfl (sN))) (OkQ.then_ (OkC.ret (ret_one rfl (rd_agg (i := 1) (cs := fracL (x * ((1 : Rat) / 2))) rfl rfl Tryz.isAgg36 Tryz.sizeOf36 rfl) (fun w hw => ⟨rfl, hw.out⟩)))))))
theorem twice_ok (a b c : Pt) (hs : SzP a + SzP b + SzP c ≤ 8589934592) (w : World)  : Calls Tryz.prog 53 #[(aG (ptL a)), (aG (ptL b)), (aG (ptL c))] w (Gives w (aG (fracL (turnP a b c)))) := by
 refine calls_of (args := [(aG (ptL a)), (aG (ptL b)), (aG (ptL c))]) Tryz.func53 rfl rfl (leB rfl) (OkC.subF (sC 0 rfl (sC 1 rfl (sC 2 rfl (sN)))) (q4 (bx (cs := ptL a) rfl rfl rfl fun b1 => bx (cs := ptL b) rfl rfl rfl fun b2 => bx (cs := ptL c) rfl rfl rfl fun b3 => ?_)))
 refine al tZ36 rfl fun b4 => q6 (sC 3 rfl (sC 4 rfl (sC 5 rfl (sC 6 rfl (sN))))) (rG [(0, true), (1, true), (3, true), (4, true), (2, false), (5, false), (6, false), (7, false)] (sl sr) (by kernel_rfl) (fun _ _ d _ _ h => by cases d <;> exact h) (pW 1 tA38 rfl rfl rfl rfl rfl (pW 2 tA38 rfl rfl rfl rfl rfl (pW 0 tA38 rfl rfl rfl rfl rfl ?_))))
 refine pW 2 tA38 rfl rfl rfl rfl rfl (OkE.imp rfl ?_)
 have hz1 := SzP_sub b a
 refine cl Tryz.call48 (fun w hw => pSub_ok b a (by omega) w) rfl rfl rfl (OkE.back (sl sr) (OkE.imp rfl ?_))
 have hz2 := SzP_sub c a
 refine cl Tryz.call48 (fun w hw => pSub_ok c a (by omega) w) rfl rfl rfl (OkE.back (sl sr) (OkE.imp rfl ?_))
 have hz3 := Sz_cross (b - a) (c - a)
 refine cl Tryz.call63 (fun w hw => pCross_ok (b - a) (c - a) (by omega) w) rfl rfl rfl (OkE.back (sl sr) (OkE.imp rfl (stW0 rfl rfl rfl Tryz.sizeOf36 rfl rfl (OkE.back (sl sr) (OkE.nil ?_)))))
 exact OkQ.subF (sC 6 rfl (sN)) (OkQ.then_ (OkC.ret (ret_one rfl (rd_agg (i := 0) (cs := fracL (crossP (b - a) (c - a))) rfl rfl Tryz.isAgg36 Tryz.sizeOf36 rfl) (fun w hw => ⟨rfl, hw.out⟩))))
theorem Area_ok (a b c : Pt) (hs : SzP a + SzP b + SzP c ≤ 8589934592) (w : World)  : Calls Tryz.prog 32 #[(aG (ptL a)), (aG (ptL b)), (aG (ptL c))] w (Gives w (aG (fracL (turnP a b c * (1 / 2))))) := by
 refine calls_of (args := [(aG (ptL a)), (aG (ptL b)), (aG (ptL c))]) Tryz.func32 rfl rfl (leB rfl) (OkC.subF (sC 0 rfl (sC 1 rfl (sC 2 rfl (sN)))) (q4 (bx (cs := ptL a) rfl rfl rfl fun b1 => bx (cs := ptL b) rfl rfl rfl fun b2 => bx (cs := ptL c) rfl rfl rfl fun b3 => ?_)))
 refine al tZ36 rfl fun b4 => q3 (sC 3 rfl (sC 4 rfl (sC 5 rfl (sC 6 rfl (sN))))) (ldW 3 tA38 rfl rfl rfl rfl (ldW 2 tA38 rfl rfl rfl rfl (ldW 1 tA38 rfl rfl rfl rfl ?_)))
 have hz1 := Sz_turn a b c
 refine cl Tryz.call53 (fun w hw => twice_ok a b c (by omega) w) rfl rfl rfl ?_
 have hz2 := Sz_mul (turnP a b c) (1 / 2)
 exact cl Tryz.call74 (fun w hw => thalf_ok (turnP a b c) (by omega) w) rfl rfl rfl (stW0 rfl rfl rfl Tryz.sizeOf36 rfl rfl (OkL.nil (OkQ.subF (sC 6 rfl (sN)) (OkQ.then_ (OkC.ret (ret_one rfl (rd_agg (i := 0) (cs := fracL ((turnP a b c) * (1 / 2))) rfl rfl Tryz.isAgg36 Tryz.sizeOf36 rfl) (fun w hw => ⟨rfl, hw.out⟩)))))))
end
section
set_option maxRecDepth 100000
theorem fill_numo_56_0fracL_1fracL_2fracL (x0 : Rat) (x1 : Rat) (x2 : Rat) : Instr.fill (fun i => some (i * 5, 5)) (fracL (0 : Rat) ++ fracL (0 : Rat) ++ fracL (0 : Rat)).toArray [(0, .agg (fracL x0).toArray), (1, .agg (fracL x1).toArray), (2, .agg (fracL x2).toArray)] = some (fracL x0 ++ fracL x1 ++ fracL x2).toArray := by kernel_rfl
theorem Bary_ok (a b c p : Pt) (hs : SzP a + SzP b + SzP c + SzP p ≤ 268435456) (h : turnP a b c ≠ 0) (w : World)  : Calls Tryz.prog 26 #[(aG (ptL a)), (aG (ptL b)), (aG (ptL c)), (aG (ptL p))] w (Gives w (Value.tuple #[(aG (fracL (turnP p b c / turnP a b c) ++ fracL (turnP a p c / turnP a b c) ++ fracL (turnP a b p / turnP a b c))), (vI 0)])) := by
 refine calls_of (args := [(aG (ptL a)), (aG (ptL b)), (aG (ptL c)), (aG (ptL p))]) Tryz.func26 rfl rfl (leB rfl) (OkC.subF (sC 0 rfl (sC 1 rfl (sC 2 rfl (sC 3 rfl (sN))))) (q4 (bx (cs := ptL a) rfl rfl rfl fun b1 => bx (cs := ptL b) rfl rfl rfl fun b2 => bx (cs := ptL c) rfl rfl rfl fun b3 => ?_)))
 refine bx (cs := ptL p) rfl rfl rfl fun b4 => al tZ56 rfl fun b5 => asg rfl rfl (q3 (sC 4 rfl (sC 5 rfl (sC 6 rfl (sC 7 rfl (sC 8 rfl (sC 9 rfl (sN))))))) (ldW 4 tA38 rfl rfl rfl rfl (ldW 3 tA38 rfl rfl rfl rfl ?_)))
 refine ldW 2 tA38 rfl rfl rfl rfl ?_
 have hz1 := Sz_turn a b c
 refine cl Tryz.call53 (fun w hw => twice_ok a b c (by omega) w) rfl rfl rfl (al tZ36 rfl fun b6 => stW0 rfl rfl rfl Tryz.sizeOf36 rfl rfl (q6 (sC 4 rfl (sC 5 rfl (sC 6 rfl (sC 7 rfl (sC 8 rfl (sC 9 rfl (sC 10 rfl (sN)))))))) (rN [(0, true), (1, true), (2, true), (4, true), (5, true), (6, true), (8, true), (9, true), (10, true), (3, false), (7, false), (11, false), (12, true)] [⟨13, 11, 56, fracL (0 : Rat) ++ fracL (0 : Rat) ++ fracL (0 : Rat)⟩] [(14, false)] sr (by kernel_rfl) (fun _ _ d _ _ h => by cases d <;> exact h) (newC rfl rfl tZ56 rfl (newN)) rfl (uW 2 tA38 rfl rfl rfl rfl rfl rfl ?_))))
 refine uW 4 tA38 rfl rfl rfl rfl rfl rfl (uW 3 tA38 rfl rfl rfl rfl rfl rfl (uW 5 tA38 rfl rfl rfl rfl rfl rfl (uW 2 tA38 rfl rfl rfl rfl rfl rfl (uW 3 tA38 rfl rfl rfl rfl rfl rfl (uW 5 tA38 rfl rfl rfl rfl rfl rfl ?_)))))
 refine uW 4 tA38 rfl rfl rfl rfl rfl rfl (uW 2 tA38 rfl rfl rfl rfl rfl rfl (OkN.imp rfl fun EF EL => ?_))
 have hz2 := Sz_turn p b c
 refine cl Tryz.call53 (fun w hw => twice_ok p b c (by omega) w) rfl rfl rfl (OkN.back0 sr rfl (OkN.imp rfl fun EF EL => ?_))
 have hz3 := Sz_turn a p c
 refine cl Tryz.call53 (fun w hw => twice_ok a p c (by omega) w) rfl rfl rfl (OkN.back0 sr rfl (OkN.imp rfl fun EF EL => ?_))
 have hz4 := Sz_turn a b p
 refine cl Tryz.call53 (fun w hw => twice_ok a b p (by omega) w) rfl rfl rfl (OkN.back0 sr rfl (uE (v := (aG (fracL (turnP p b c) ++ fracL (turnP a p c) ++ fracL (turnP a b p)))) rfl (ex_build_array (zs := fracL (0 : Rat) ++ fracL (0 : Rat) ++ fracL (0 : Rat)) (vs := fracL (turnP p b c) ++ fracL (turnP a p c) ++ fracL (turnP a b p)) (pv := [(0, (aG (fracL (turnP p b c)))), (1, (aG (fracL (turnP a p c)))), (2, (aG (fracL (turnP a b p))))]) Tryz.zeroValue56 Tryz.underlying56 Tryz.sizeOf36 rfl (fill_numo_56_0fracL_1fracL_2fracL (turnP p b c) (turnP a p c) (turnP a b p))) rfl rfl (OkN.news1 fun b7 => OkE.imp rfl (stW0 rfl rfl rfl Tryz.sizeOf56 rfl rfl ?_))))
 refine OkE.back (sl sr) (OkE.nil (OkQ.subF (sC 4 rfl (sC 5 rfl (sC 6 rfl (sC 8 rfl (sC 9 rfl (sC 10 rfl (sC 11 rfl (sN)))))))) (q1 (q4 (mv rfl rfl ?_)))))
 refine OkL.nil (OkQ.then_ (OkC.block (OkC.unroll 5 (OkR.step (q4 ?_)))))
 refine st (ex_lss (c := true) rfl rfl (by decide)) (leB rfl) (OkL.nil (q1 (OkC.cond_true rfl (OkC.skip (q1 ?_)))))
 refine OkC.block (q4 (mv rfl rfl (asg rfl rfl (OkL.nil (q1 ?_)))))
 refine rN [(0, true), (1, true), (2, true), (3, true), (4, false), (5, true), (6, true), (7, true)] [⟨8, 13, 36, fracL (0 : Rat)⟩] [(9, false), (10, true)] sr (by kernel_rfl) (fun _ _ d _ _ h => by cases d <;> exact h) (newC rfl rfl tZ36 rfl (newN)) rfl (uM rfl rfl rfl rfl (uE (v := (pP b7 0)) rfl (ex_indexAddr_array (j := 0) rfl rfl Tryz.underlying56 Tryz.sizeOf36 rfl (by decide) rfl) rfl rfl (uA 0 (fracL (turnP p b c)) tA36 rfl rfl rfl rfl rfl rfl rfl (uW 1 tA36 rfl rfl rfl rfl rfl rfl (OkN.imp rfl fun EF EL => ?_)))))
 have hz5 := Sz_div (a := turnP p b c) (b := turnP a b c) (by assumption)
 refine cl Tryz.call54 (fun w hw => fDiv_ok (turnP p b c) (turnP a b c) (by omega) (by assumption) w) rfl rfl rfl (OkN.back0 sr rfl (uM rfl rfl rfl rfl (uE rfl (ex_extract (v := (aG (fracL ((turnP p b c) / (turnP a b c))))) rfl rfl) rfl rfl (uE rfl (ex_extract (v := (vI 0)) rfl rfl) rfl rfl (OkN.news1 fun b8 => ?_)))))
 refine OkE.imp rfl (stW0 rfl rfl rfl Tryz.sizeOf36 rfl rfl (OkE.back (sl sr) (pS rfl rfl rfl (OkE.nil (q1 ?_)))))
 refine q4 (mv rfl rfl (st (ex_neq (c := false) rfl rfl (by decide)) (leB rfl) (OkL.nil (OkQ.then_ (OkC.cond_false rfl ?_)))))
 refine OkC.skip (OkQ.then_ (OkC.region (mv rfl rfl (ldW 0 tA36 rfl rfl rfl rfl (st (v := (pP b7 0)) (ex_indexAddr_array (j := 0) rfl rfl Tryz.underlying56 Tryz.sizeOf36 rfl (by decide) rfl) (leB rfl) ?_)))))
 refine OkL.store' (i := 1) (off := 0) (vs := fracL ((turnP p b c) / (turnP a b c))) (cs' := fracL ((turnP p b c) / (turnP a b c)) ++ fracL (turnP a p c) ++ fracL (turnP a b p)) (L' := [blk b8 36 (fracL ((turnP p b c) / (turnP a b c))), blk b7 56 (fracL ((turnP p b c) / (turnP a b c)) ++ fracL (turnP a p c) ++ fracL (turnP a b p)), blk b6 36 (fracL (turnP a b c)), blk b5 56 (fracL (0 : Rat) ++ fracL (0 : Rat) ++ fracL (0 : Rat)), blk b4 38 (ptL p), blk b3 38 (ptL c), blk b2 38 (ptL b), blk b1 38 (ptL a)]) (wt_none rfl) rfl rfl rfl rfl rfl Tryz.sizeOf36 rfl rfl rfl rfl (OkL.nil (OkQ.in_normal (OkQ.then_ (OkC.region (st (ex_add (c := (1 : Int)) rfl rfl (by decide)) (leB rfl) ?_)))))
 refine mv rfl rfl (OkL.nil (OkQ.again (OkR.step (q4 (st (ex_lss (c := true) rfl rfl (by decide)) (leB rfl) ?_)))))
 refine OkL.nil (q1 (OkC.cond_true rfl (OkC.skip (q1 (OkC.block ?_)))))
 refine q4 (mv rfl rfl (asg rfl rfl (OkL.nil (q1 (OkC.subF (sC 4 rfl (sC 5 rfl (sC 6 rfl (sC 8 rfl (sC 9 rfl (sC 10 rfl (sC 11 rfl (sC 32 rfl (sC 33 rfl (sC 34 rfl (sC 12 rfl (sC 36 rfl (sC 37 rfl (sC 38 rfl (sC 39 rfl (sC 40 rfl (sC 35 rfl (sC 41 rfl (sC 42 rfl (sC 14 rfl (sC 43 rfl (sC 44 rfl (sC 46 rfl (sC 47 rfl (sC 48 rfl (sC 49 rfl (sN))))))))))))))))))))))))))) ?_)))))
 refine rN [(0, true), (1, true), (2, true), (3, true), (4, false), (5, true), (6, true), (7, true)] [⟨8, 13, 36, fracL (0 : Rat)⟩] [(9, false), (10, true)] sr (by kernel_rfl) (fun _ _ d _ _ h => by cases d <;> exact h) (newC rfl rfl tZ36 rfl (newN)) rfl (uM rfl rfl rfl rfl (uE (v := (pP b7 5)) rfl (ex_indexAddr_array (j := 1) rfl rfl Tryz.underlying56 Tryz.sizeOf36 rfl (by decide) rfl) rfl rfl (uA 1 (fracL (turnP a p c)) tA36 rfl rfl rfl rfl rfl rfl rfl (uW 2 tA36 rfl rfl rfl rfl rfl rfl (OkN.imp rfl fun EF EL => ?_)))))
 have hz6 := Sz_div (a := turnP a p c) (b := turnP a b c) (by assumption)
 refine cl Tryz.call54 (fun w hw => fDiv_ok (turnP a p c) (turnP a b c) (by omega) (by assumption) w) rfl rfl rfl (OkN.back0 sr rfl (uM rfl rfl rfl rfl (uE rfl (ex_extract (v := (aG (fracL ((turnP a p c) / (turnP a b c))))) rfl rfl) rfl rfl (uE rfl (ex_extract (v := (vI 0)) rfl rfl) rfl rfl (OkN.news1 fun b9 => ?_)))))
 refine OkE.imp rfl (stW0 rfl rfl rfl Tryz.sizeOf36 rfl rfl (OkE.back (sl sr) (pS rfl rfl rfl (OkE.nil (q1 ?_)))))
 refine q4 (mv rfl rfl (st (ex_neq (c := false) rfl rfl (by decide)) (leB rfl) (OkL.nil (OkQ.then_ (OkC.cond_false rfl ?_)))))
 refine OkC.skip (OkQ.then_ (OkC.region (mv rfl rfl (ldW 0 tA36 rfl rfl rfl rfl (st (v := (pP b7 5)) (ex_indexAddr_array (j := 1) rfl rfl Tryz.underlying56 Tryz.sizeOf36 rfl (by decide) rfl) (leB rfl) ?_)))))
 refine OkL.store' (i := 2) (off := 5) (vs := fracL ((turnP a p c) / (turnP a b c))) (cs' := fracL ((turnP p b c) / (turnP a b c)) ++ fracL ((turnP a p c) / (turnP a b c)) ++ fracL (turnP a b p)) (L' := [blk b9 36 (fracL ((turnP a p c) / (turnP a b c))), blk b8 36 (fracL ((turnP p b c) / (turnP a b c))), blk b7 56 (fracL ((turnP p b c) / (turnP a b c)) ++ fracL ((turnP a p c) / (turnP a b c)) ++ fracL (turnP a b p)), blk b6 36 (fracL (turnP a b c)), blk b5 56 (fracL (0 : Rat) ++ fracL (0 : Rat) ++ fracL (0 : Rat)), blk b4 38 (ptL p), blk b3 38 (ptL c), blk b2 38 (ptL b), blk b1 38 (ptL a)]) (wt_none rfl) rfl rfl rfl rfl rfl Tryz.sizeOf36 rfl rfl rfl rfl (OkL.nil (OkQ.in_normal (OkQ.then_ (OkC.region (st (ex_add (c := (2 : Int)) rfl rfl (by decide)) (leB rfl) ?_)))))
 refine mv rfl rfl (OkL.nil (OkQ.again (OkR.step (q4 (st (ex_lss (c := true) rfl rfl (by decide)) (leB rfl) ?_)))))
 refine OkL.nil (q1 (OkC.cond_true rfl (OkC.skip (q1 (OkC.block ?_)))))
 refine q4 (mv rfl rfl (asg rfl rfl (OkL.nil (q1 (OkC.subF (sC 4 rfl (sC 5 rfl (sC 6 rfl (sC 8 rfl (sC 9 rfl (sC 10 rfl (sC 11 rfl (sC 32 rfl (sC 33 rfl (sC 34 rfl (sC 12 rfl (sC 36 rfl (sC 37 rfl (sC 38 rfl (sC 39 rfl (sC 40 rfl (sC 35 rfl (sC 41 rfl (sC 42 rfl (sC 14 rfl (sC 43 rfl (sC 44 rfl (sC 46 rfl (sC 47 rfl (sC 48 rfl (sC 49 rfl (sN))))))))))))))))))))))))))) ?_)))))
 refine rN [(0, true), (1, true), (2, true), (3, true), (4, false), (5, true), (6, true), (7, true)] [⟨8, 13, 36, fracL (0 : Rat)⟩] [(9, false), (10, true)] sr (by kernel_rfl) (fun _ _ d _ _ h => by cases d <;> exact h) (newC rfl rfl tZ36 rfl (newN)) rfl (uM rfl rfl rfl rfl (uE (v := (pP b7 10)) rfl (ex_indexAddr_array (j := 2) rfl rfl Tryz.underlying56 Tryz.sizeOf36 rfl (by decide) rfl) rfl rfl (uA 2 (fracL (turnP a b p)) tA36 rfl rfl rfl rfl rfl rfl rfl (uW 3 tA36 rfl rfl rfl rfl rfl rfl (OkN.imp rfl fun EF EL => ?_)))))
 have hz7 := Sz_div (a := turnP a b p) (b := turnP a b c) (by assumption)
 refine cl Tryz.call54 (fun w hw => fDiv_ok (turnP a b p) (turnP a b c) (by omega) (by assumption) w) rfl rfl rfl (OkN.back0 sr rfl (uM rfl rfl rfl rfl (uE rfl (ex_extract (v := (aG (fracL ((turnP a b p) / (turnP a b c))))) rfl rfl) rfl rfl (uE rfl (ex_extract (v := (vI 0)) rfl rfl) rfl rfl (OkN.news1 fun b10 => ?_)))))
 refine OkE.imp rfl (stW0 rfl rfl rfl Tryz.sizeOf36 rfl rfl (OkE.back (sl sr) (pS rfl rfl rfl (OkE.nil (q1 ?_)))))
 refine q4 (mv rfl rfl (st (ex_neq (c := false) rfl rfl (by decide)) (leB rfl) (OkL.nil (OkQ.then_ (OkC.cond_false rfl ?_)))))
 refine OkC.skip (OkQ.then_ (OkC.region (mv rfl rfl (ldW 0 tA36 rfl rfl rfl rfl (st (v := (pP b7 10)) (ex_indexAddr_array (j := 2) rfl rfl Tryz.underlying56 Tryz.sizeOf36 rfl (by decide) rfl) (leB rfl) ?_)))))
 refine OkL.store' (i := 3) (off := 10) (vs := fracL ((turnP a b p) / (turnP a b c))) (cs' := fracL ((turnP p b c) / (turnP a b c)) ++ fracL ((turnP a p c) / (turnP a b c)) ++ fracL ((turnP a b p) / (turnP a b c))) (L' := [blk b10 36 (fracL ((turnP a b p) / (turnP a b c))), blk b9 36 (fracL ((turnP a p c) / (turnP a b c))), blk b8 36 (fracL ((turnP p b c) / (turnP a b c))), blk b7 56 (fracL ((turnP p b c) / (turnP a b c)) ++ fracL ((turnP a p c) / (turnP a b c)) ++ fracL ((turnP a b p) / (turnP a b c))), blk b6 36 (fracL (turnP a b c)), blk b5 56 (fracL (0 : Rat) ++ fracL (0 : Rat) ++ fracL (0 : Rat)), blk b4 38 (ptL p), blk b3 38 (ptL c), blk b2 38 (ptL b), blk b1 38 (ptL a)]) (wt_none rfl) rfl rfl rfl rfl rfl Tryz.sizeOf36 rfl rfl rfl rfl (OkL.nil (OkQ.in_normal (OkQ.then_ (OkC.region (st (ex_add (c := (3 : Int)) rfl rfl (by decide)) (leB rfl) ?_)))))
 refine mv rfl rfl (OkL.nil (OkQ.again (OkR.step (q4 (st (ex_lss (c := false) rfl rfl (by decide)) (leB rfl) ?_)))))
 refine OkL.nil (q1 (OkC.cond_false rfl (OkC.exit (OkQ.then_exit (OkQ.then_exit ?_)))))
 refine OkQ.in_exit (q2 (ldW 3 tA56 rfl rfl rfl rfl (OkL.store' (i := 5) (off := 0) (vs := fracL ((turnP p b c) / (turnP a b c)) ++ fracL ((turnP a p c) / (turnP a b c)) ++ fracL ((turnP a b p) / (turnP a b c))) (cs' := fracL ((turnP p b c) / (turnP a b c)) ++ fracL ((turnP a p c) / (turnP a b c)) ++ fracL ((turnP a b p) / (turnP a b c))) (L' := [blk b10 36 (fracL ((turnP a b p) / (turnP a b c))), blk b9 36 (fracL ((turnP a p c) / (turnP a b c))), blk b8 36 (fracL ((turnP p b c) / (turnP a b c))), blk b7 56 (fracL ((turnP p b c) / (turnP a b c)) ++ fracL ((turnP a p c) / (turnP a b c)) ++ fracL ((turnP a b p) / (turnP a b c))), blk b6 36 (fracL (turnP a b c)), blk b5 56 (fracL ((turnP p b c) / (turnP a b c)) ++ fracL ((turnP a p c) / (turnP a b c)) ++ fracL ((turnP a b p) / (turnP a b c))), blk b4 38 (ptL p), blk b3 38 (ptL c), blk b2 38 (ptL b), blk b1 38 (ptL a)]) (wt_none rfl) rfl rfl rfl rfl rfl Tryz.sizeOf56 rfl rfl rfl rfl (asg rfl rfl (OkL.nil ?_)))))
 exact OkQ.subF (sC 4 rfl (sC 5 rfl (sC 6 rfl (sC 8 rfl (sC 9 rfl (sC 10 rfl (sC 11 rfl (sC 32 rfl (sC 33 rfl (sC 34 rfl (sC 12 rfl (sC 36 rfl (sC 37 rfl (sC 38 rfl (sC 39 rfl (sC 40 rfl (sC 35 rfl (sC 41 rfl (sC 42 rfl (sC 14 rfl (sC 43 rfl (sC 44 rfl (sC 46 rfl (sC 47 rfl (sC 48 rfl (sC 49 rfl (sC 13 rfl (sN)))))))))))))))))))))))))))) (OkQ.then_ (OkC.ret (ret_two rfl (rd_agg (i := 5) (cs := fracL ((turnP p b c) / (turnP a b c)) ++ fracL ((turnP a p c) / (turnP a b c)) ++ fracL ((turnP a b p) / (turnP a b c))) rfl rfl Tryz.isAgg56 Tryz.sizeOf56 rfl) (rd_tmp (v := (vI 0)) rfl) (fun w hw => ⟨rfl, hw.out⟩))))
end
end Go.Proofs.YtpkoldfmbebmgaaGreatDoor
