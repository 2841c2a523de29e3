import Derived.ChangeKeysEq
import Derived.Test.YtgiacpkjnikjdaaGreatRows
import Derived.Test.YtgiacpkjnikjdaaGreatPart06
import Derived.Test.YtgiacpkjnikjdaaGreatPart20
namespace Go.Proofs.YtgiacpkjnikjdaaGreat
open Go Go.RowKit
set_option linter.unusedVariables false
set_option linter.unusedSimpArgs false
section
set_option maxRecDepth 100000
theorem fill_numm_83_0fracL_1fracL (x0 : Rat) (x1 : Rat) : Instr.fill ([(0, 5), (5, 5)].toArray[·]?) (ptL (⟨0, 0⟩ : Pt)).toArray [(0, .agg (fracL x0).toArray), (1, .agg (fracL x1).toArray)] = some (fracL x0 ++ fracL x1).toArray := by kernel_rfl
theorem both_add_ok (a b : Pt) (hs : SzP a + SzP b ≤ 68719476736) (w : World)  : Calls Tryz.prog 132 #[(aG (ptL a)), (aG (ptL b)), (Value.func (.func 40) #[] #[])] w (Gives w (aG (ptL (a + b)))) := by
 have p1 := SzP_x a
 have p2 := SzP_y a
 have p3 := SzP_x b
 have p4 := SzP_y b
 refine calls_of (args := [(aG (ptL a)), (aG (ptL b)), (Value.func (.func 40) #[] #[])]) Tryz.func132 rfl rfl (leB rfl) (OkC.subF (sL [0, 1, 2] rfl) (q4 (bx' (cs := ptL a) rfl fun b1 => bx' (cs := ptL b) rfl fun b2 => al tZ83 rfl fun b3 => ?_)))
 refine q6 (sL [2, 3, 4, 6] rfl) (rG' [(0, true), (1, true), (2, true), (3, true), (4, true), (6, true), (7, true), (8, true), (9, true), (10, true), (5, false), (11, false), (12, true), (13, false)] (sl sr) (pM' rfl (pE' (v := (pP b1 0)) rfl (ex_fieldAddr rfl Tryz.underlying83 rfl Tryz.sizeOf81 rfl) (pA' 1 (fracL a.x) tA81 rfl (pE' (v := (pP b2 0)) rfl (ex_fieldAddr rfl Tryz.underlying83 rfl Tryz.sizeOf81 rfl) ?_)))))
 refine pA' 0 (fracL b.x) tA81 rfl (pM' rfl (pE' (v := (pP b1 5)) rfl (ex_fieldAddr rfl Tryz.underlying83 rfl Tryz.sizeOf81 rfl) (pA' 1 (fracL a.y) tA81 rfl (pE' (v := (pP b2 5)) rfl (ex_fieldAddr rfl Tryz.underlying83 rfl Tryz.sizeOf81 rfl) (pA' 0 (fracL b.y) tA81 rfl ?_)))))
 refine OkE.imp rfl ?_
 have hz1 := Sz_add a.x b.x
 refine ck' Tryz.call40 (fAdd_ok a.x b.x (by (try simp only [Sz_neg]); omega)) rfl (OkE.back (sl sr) (OkE.imp rfl ?_))
 have hz2 := Sz_add a.y b.y
 refine ck' Tryz.call40 (fAdd_ok a.y b.y (by (try simp only [Sz_neg]); omega)) rfl (OkE.back (sl sr) (pE' (v := (aG (fracL (a.x + b.x) ++ fracL (a.y + b.y)))) rfl (ex_build_struct (zs := ptL (⟨0, 0⟩ : Pt)) (vs := fracL (a.x + b.x) ++ fracL (a.y + b.y)) (pv := [(0, (aG (fracL (a.x + b.x)))), (1, (aG (fracL (a.y + b.y))))]) (places := [(0, 5), (5, 5)]) Tryz.zeroValue83 Tryz.underlying83 (fun w => by simp [Tryz.sizeOf81]) rfl (fill_numm_83_0fracL_1fracL (a.x + b.x) (a.y + b.y))) (OkE.imp rfl (stW0' rfl Tryz.sizeOf83 rfl (OkE.back (sl sr) ?_)))))
 exact OkE.nil (OkQ.subF (sL [6] rfl) (OkQ.then_ (OkC.ret (ret_one rfl (rd_agg (i := 0) (cs := fracL (a.x + b.x) ++ fracL (a.y + b.y)) rfl rfl Tryz.isAgg83 Tryz.sizeOf83 rfl) (fun w hw => ⟨by rw [ptL_add], hw.out⟩)))))
theorem both_sub_ok (a b : Pt) (hs : SzP a + SzP b ≤ 68719476736) (w : World)  : Calls Tryz.prog 132 #[(aG (ptL a)), (aG (ptL b)), (Value.func (.func 97) #[] #[])] w (Gives w (aG (ptL (a - b)))) := by
 have p1 := SzP_x a
 have p2 := SzP_y a
 have p3 := SzP_x b
 have p4 := SzP_y b
 refine calls_of (args := [(aG (ptL a)), (aG (ptL b)), (Value.func (.func 97) #[] #[])]) Tryz.func132 rfl rfl (leB rfl) (OkC.subF (sL [0, 1, 2] rfl) (q4 (bx' (cs := ptL a) rfl fun b1 => bx' (cs := ptL b) rfl fun b2 => al tZ83 rfl fun b3 => ?_)))
 refine q6 (sL [2, 3, 4, 6] rfl) (rG' [(0, true), (1, true), (2, true), (3, true), (4, true), (6, true), (7, true), (8, true), (9, true), (10, true), (5, false), (11, false), (12, true), (13, false)] (sl sr) (pM' rfl (pE' (v := (pP b1 0)) rfl (ex_fieldAddr rfl Tryz.underlying83 rfl Tryz.sizeOf81 rfl) (pA' 1 (fracL a.x) tA81 rfl (pE' (v := (pP b2 0)) rfl (ex_fieldAddr rfl Tryz.underlying83 rfl Tryz.sizeOf81 rfl) ?_)))))
 refine pA' 0 (fracL b.x) tA81 rfl (pM' rfl (pE' (v := (pP b1 5)) rfl (ex_fieldAddr rfl Tryz.underlying83 rfl Tryz.sizeOf81 rfl) (pA' 1 (fracL a.y) tA81 rfl (pE' (v := (pP b2 5)) rfl (ex_fieldAddr rfl Tryz.underlying83 rfl Tryz.sizeOf81 rfl) (pA' 0 (fracL b.y) tA81 rfl ?_)))))
 refine OkE.imp rfl ?_
 have hz1 := Sz_sub a.x b.x
 refine ck' Tryz.call97 (fSub_ok a.x b.x (by (try simp only [Sz_neg]); omega)) rfl (OkE.back (sl sr) (OkE.imp rfl ?_))
 have hz2 := Sz_sub a.y b.y
 refine ck' Tryz.call97 (fSub_ok a.y b.y (by (try simp only [Sz_neg]); omega)) rfl (OkE.back (sl sr) (pE' (v := (aG (fracL (a.x - b.x) ++ fracL (a.y - b.y)))) rfl (ex_build_struct (zs := ptL (⟨0, 0⟩ : Pt)) (vs := fracL (a.x - b.x) ++ fracL (a.y - b.y)) (pv := [(0, (aG (fracL (a.x - b.x)))), (1, (aG (fracL (a.y - b.y))))]) (places := [(0, 5), (5, 5)]) Tryz.zeroValue83 Tryz.underlying83 (fun w => by simp [Tryz.sizeOf81]) rfl (fill_numm_83_0fracL_1fracL (a.x - b.x) (a.y - b.y))) (OkE.imp rfl (stW0' rfl Tryz.sizeOf83 rfl (OkE.back (sl sr) ?_)))))
 exact OkE.nil (OkQ.subF (sL [6] rfl) (OkQ.then_ (OkC.ret (ret_one rfl (rd_agg (i := 0) (cs := fracL (a.x - b.x) ++ fracL (a.y - b.y)) rfl rfl Tryz.isAgg83 Tryz.sizeOf83 rfl) (fun w hw => ⟨by rw [ptL_sub], hw.out⟩)))))
theorem scale1_ok (x y k : Rat) (bk : Nat) (hs : Sz x + Sz k ≤ 137438953472) (w : World) (hk : w.heap[bk]? = some (.cells (fracL k).toArray 81 (0, 0))) : Calls Tryz.prog 195 #[(aG (fracL x)), (aG (fracL y)), (pP bk 0)] w (Gives w (aG (fracL (x * k)))) := by
 refine calls_of (args := [(aG (fracL x)), (aG (fracL y)), (pP bk 0)]) Tryz.func195 rfl rfl (leB rfl) (OkC.subF (sL [0, 1, 2] rfl) (q4 (bx' (cs := fracL x) rfl fun b1 => bx' (cs := fracL y) rfl fun b2 => al tZ81 rfl fun b3 => ?_)))
 refine q3 (sL [2, 3, 5] rfl) (ldW' 2 tA81 rfl (st' (v := (aG (fracL k))) (ex_load_agg_at (vs := fracL k) rfl (fun w' hw => hw.oldCA (by simp) (ca_blk hk)) Tryz.isAgg81 Tryz.sizeOf81 rfl) rfl ?_))
 have hz1 := Sz_mul x k
 exact ck' Tryz.call33 (fMul_ok x k (by (try simp only [Sz_neg]); omega)) rfl (stW0' rfl Tryz.sizeOf81 rfl (OkL.nil (OkQ.subF (sL [5] rfl) (OkQ.then_ (OkC.ret (ret_one rfl (rd_agg (i := 0) (cs := fracL (x * k)) rfl rfl Tryz.isAgg81 Tryz.sizeOf81 rfl) (fun w hw => ⟨rfl, hw.out⟩)))))))
theorem both_scale_ok (a : Pt) (k : Rat) (bk : Nat) (hs : SzP a + Sz k ≤ 137438953472) (w : World) (hk : w.heap[bk]? = some (.cells (fracL k).toArray 81 (0, 0))) : Calls Tryz.prog 132 #[(aG (ptL a)), (aG (ptL a)), (Value.func (.func 195) #[] #[(pP bk 0)])] w (Gives w (aG (ptL (scaleP a k)))) := by
 have p1 := SzP_x a
 have p2 := SzP_y a
 refine calls_of (args := [(aG (ptL a)), (aG (ptL a)), (Value.func (.func 195) #[] #[(pP bk 0)])]) Tryz.func132 rfl rfl (leB rfl) (OkC.subF (sL [0, 1, 2] rfl) (q4 (bx' (cs := ptL a) rfl fun b1 => bx' (cs := ptL a) rfl fun b2 => al tZ83 rfl fun b3 => ?_)))
 refine q6 (sL [2, 3, 4, 6] rfl) (rG' [(0, true), (1, true), (2, true), (3, true), (4, true), (6, true), (7, true), (8, true), (9, true), (10, true), (5, false), (11, false), (12, true), (13, false)] (sl sr) (pM' rfl (pE' (v := (pP b1 0)) rfl (ex_fieldAddr rfl Tryz.underlying83 rfl Tryz.sizeOf81 rfl) (pA' 1 (fracL a.x) tA81 rfl (pE' (v := (pP b2 0)) rfl (ex_fieldAddr rfl Tryz.underlying83 rfl Tryz.sizeOf81 rfl) ?_)))))
 refine pA' 0 (fracL a.x) tA81 rfl (pM' rfl (pE' (v := (pP b1 5)) rfl (ex_fieldAddr rfl Tryz.underlying83 rfl Tryz.sizeOf81 rfl) (pA' 1 (fracL a.y) tA81 rfl (pE' (v := (pP b2 5)) rfl (ex_fieldAddr rfl Tryz.underlying83 rfl Tryz.sizeOf81 rfl) (pA' 0 (fracL a.y) tA81 rfl ?_)))))
 refine OkE.imp rfl (OkL.call (v := (aG (fracL (a.x * k)))) (wt_none rfl) (op_call (args := [(aG (fracL a.x)), (aG (fracL a.x))]) (caps := [(pP bk 0)]) (all := [(aG (fracL a.x)), (aG (fracL a.x)), (pP bk 0)]) rfl rfl rfl Tryz.call195) (fun w hw => scale1_ok a.x a.x k bk (by omega) w (hw.old (by simp) hk)) rfl (leB rfl) (OkE.back (sl sr) (OkE.imp rfl (OkL.call (v := (aG (fracL (a.y * k)))) (wt_none rfl) (op_call (args := [(aG (fracL a.y)), (aG (fracL a.y))]) (caps := [(pP bk 0)]) (all := [(aG (fracL a.y)), (aG (fracL a.y)), (pP bk 0)]) rfl rfl rfl Tryz.call195) (fun w hw => scale1_ok a.y a.y k bk (by omega) w (hw.old (by simp) hk)) rfl (leB rfl) (OkE.back (sl sr) ?_)))))
 refine pE' (v := (aG (fracL (a.x * k) ++ fracL (a.y * k)))) rfl (ex_build_struct (zs := ptL (⟨0, 0⟩ : Pt)) (vs := fracL (a.x * k) ++ fracL (a.y * k)) (pv := [(0, (aG (fracL (a.x * k)))), (1, (aG (fracL (a.y * k))))]) (places := [(0, 5), (5, 5)]) Tryz.zeroValue83 Tryz.underlying83 (fun w => by simp [Tryz.sizeOf81]) rfl (fill_numm_83_0fracL_1fracL (a.x * k) (a.y * k))) (OkE.imp rfl (stW0' rfl Tryz.sizeOf83 rfl (OkE.back (sl sr) (OkE.nil (OkQ.subF (sL [6] rfl) ?_)))))
 exact OkQ.then_ (OkC.ret (ret_one rfl (rd_agg (i := 0) (cs := fracL (a.x * k) ++ fracL (a.y * k)) rfl rfl Tryz.isAgg83 Tryz.sizeOf83 rfl) (fun w hw => ⟨by rw [ptL_scale], hw.out⟩)))
theorem pAdd_ok (a b : Pt) (hs : SzP a + SzP b ≤ 68719476736) (w : World)  : Calls Tryz.prog 158 #[(aG (ptL a)), (aG (ptL b))] w (Gives w (aG (ptL (a + b)))) := by
 refine calls_of (args := [(aG (ptL a)), (aG (ptL b))]) Tryz.func158 rfl rfl (leB rfl) (OkC.subF (sL [0, 1] rfl) (q4 (bx' (cs := ptL a) rfl fun b1 => bx' (cs := ptL b) rfl fun b2 => al tZ83 rfl fun b3 => ?_)))
 refine q3 (sL [2, 3, 4] rfl) (ldW' 2 tA83 rfl (ldW' 1 tA83 rfl (ck' Tryz.call132 (both_add_ok a b (by omega)) rfl (stW0' rfl Tryz.sizeOf83 rfl (OkL.nil ?_)))))
 exact OkQ.subF (sL [4] rfl) (OkQ.then_ (OkC.ret (ret_one rfl (rd_agg (i := 0) (cs := ptL (a + b)) rfl rfl Tryz.isAgg83 Tryz.sizeOf83 rfl) (fun w hw => ⟨rfl, hw.out⟩))))
theorem pSub_ok (a b : Pt) (hs : SzP a + SzP b ≤ 68719476736) (w : World)  : Calls Tryz.prog 83 #[(aG (ptL a)), (aG (ptL b))] w (Gives w (aG (ptL (a - b)))) := by
 refine calls_of (args := [(aG (ptL a)), (aG (ptL b))]) Tryz.func83 rfl rfl (leB rfl) (OkC.subF (sL [0, 1] rfl) (q4 (bx' (cs := ptL a) rfl fun b1 => bx' (cs := ptL b) rfl fun b2 => al tZ83 rfl fun b3 => ?_)))
 refine q3 (sL [2, 3, 4] rfl) (ldW' 2 tA83 rfl (ldW' 1 tA83 rfl (ck' Tryz.call132 (both_sub_ok a b (by omega)) rfl (stW0' rfl Tryz.sizeOf83 rfl (OkL.nil ?_)))))
 exact OkQ.subF (sL [4] rfl) (OkQ.then_ (OkC.ret (ret_one rfl (rd_agg (i := 0) (cs := ptL (a - b)) rfl rfl Tryz.isAgg83 Tryz.sizeOf83 rfl) (fun w hw => ⟨rfl, hw.out⟩))))
theorem pScale_ok (a : Pt) (k : Rat) (hs : SzP a + Sz k ≤ 137438953472) (w : World)  : Calls Tryz.prog 157 #[(aG (ptL a)), (aG (fracL k))] w (Gives w (aG (ptL (scaleP a k)))) := by
 refine calls_of (args := [(aG (ptL a)), (aG (fracL k))]) Tryz.func157 rfl rfl (leB rfl) (OkC.subF (sL [0, 1] rfl) (q4 (bx' (cs := ptL a) rfl fun b1 => bx' (cs := fracL k) rfl fun b2 => al tZ83 rfl fun b3 => ?_)))
 refine q3 (sL [2, 3, 4] rfl) (ldW' 2 tA83 rfl (ldW' 2 tA83 rfl (st' (v := (Value.func (.func 195) #[] #[(pP b2 0)])) (ex_makeFunc (vs := []) (us := [(pP b2 0)]) rfl rfl) rfl (cl' Tryz.call132 (fun w hw => both_scale_ok a k b2 (by omega) w (hw.get (i := 1) rfl)) rfl (stW0' rfl Tryz.sizeOf83 rfl ?_)))))
 exact OkL.nil (OkQ.subF (sL [4] rfl) (OkQ.then_ (OkC.ret (ret_one rfl (rd_agg (i := 0) (cs := ptL (scaleP a k)) rfl rfl Tryz.isAgg83 Tryz.sizeOf83 rfl) (fun w hw => ⟨rfl, hw.out⟩)))))
theorem pCross_ok (a b : Pt) (hs : SzP a + SzP b ≤ 68719476736) (w : World)  : Calls Tryz.prog 41 #[(aG (ptL a)), (aG (ptL b))] w (Gives w (aG (fracL (crossP a b)))) := by
 have p1 := SzP_x a
 have p2 := SzP_y a
 have p3 := SzP_x b
 have p4 := SzP_y b
 refine calls_of (args := [(aG (ptL a)), (aG (ptL b))]) Tryz.func41 rfl rfl (leB rfl) (OkC.subF (sL [0, 1] rfl) (q4 (bx' (cs := ptL a) rfl fun b1 => bx' (cs := ptL b) rfl fun b2 => al tZ81 rfl fun b3 => ?_)))
 refine q6 (sL [2, 3, 4] rfl) (rG' [(0, true), (1, true), (2, true), (3, true), (5, true), (6, true), (7, true), (8, true), (4, false), (9, false), (10, false), (11, false)] (sl sr) (pE' (v := (pP b1 0)) rfl (ex_fieldAddr rfl Tryz.underlying83 rfl Tryz.sizeOf81 rfl) (pA' 1 (fracL a.x) tA81 rfl (pE' (v := (pP b2 5)) rfl (ex_fieldAddr rfl Tryz.underlying83 rfl Tryz.sizeOf81 rfl) (pA' 0 (fracL b.y) tA81 rfl ?_)))))
 refine pE' (v := (pP b1 5)) rfl (ex_fieldAddr rfl Tryz.underlying83 rfl Tryz.sizeOf81 rfl) (pA' 1 (fracL a.y) tA81 rfl (pE' (v := (pP b2 0)) rfl (ex_fieldAddr rfl Tryz.underlying83 rfl Tryz.sizeOf81 rfl) (pA' 0 (fracL b.x) tA81 rfl (OkE.imp rfl ?_))))
 have hz1 := Sz_mul a.x b.y
 refine ck' Tryz.call33 (fMul_ok a.x b.y (by (try simp only [Sz_neg]); omega)) rfl (OkE.back (sl sr) (OkE.imp rfl ?_))
 have hz2 := Sz_mul a.y b.x
 refine ck' Tryz.call33 (fMul_ok a.y b.x (by (try simp only [Sz_neg]); omega)) rfl (OkE.back (sl sr) (OkE.imp rfl ?_))
 have hz3 := Sz_sub (a.x * b.y) (a.y * b.x)
 refine ck' Tryz.call97 (fSub_ok (a.x * b.y) (a.y * b.x) (by (try simp only [Sz_neg]); omega)) rfl (OkE.back (sl sr) (OkE.imp rfl (stW0' rfl Tryz.sizeOf81 rfl (OkE.back (sl sr) (OkE.nil ?_)))))
 exact OkQ.subF (sL [4] rfl) (OkQ.then_ (OkC.ret (ret_one rfl (rd_agg (i := 0) (cs := fracL ((a.x * b.y) - (a.y * b.x))) rfl rfl Tryz.isAgg81 Tryz.sizeOf81 rfl) (fun w hw => ⟨rfl, hw.out⟩))))
theorem pDot_ok (a b : Pt) (hs : SzP a + SzP b ≤ 68719476736) (w : World)  : Calls Tryz.prog 84 #[(aG (ptL a)), (aG (ptL b))] w (Gives w (aG (fracL (dotP a b)))) := by
 have p1 := SzP_x a
 have p2 := SzP_y a
 have p3 := SzP_x b
 have p4 := SzP_y b
 refine calls_of (args := [(aG (ptL a)), (aG (ptL b))]) Tryz.func84 rfl rfl (leB rfl) (OkC.subF (sL [0, 1] rfl) (q4 (bx' (cs := ptL a) rfl fun b1 => bx' (cs := ptL b) rfl fun b2 => al tZ81 rfl fun b3 => ?_)))
 refine q6 (sL [2, 3, 4] rfl) (rG' [(0, true), (1, true), (2, true), (3, true), (5, true), (6, true), (7, true), (8, true), (4, false), (9, false), (10, false), (11, false)] (sl sr) (pE' (v := (pP b1 0)) rfl (ex_fieldAddr rfl Tryz.underlying83 rfl Tryz.sizeOf81 rfl) (pA' 1 (fracL a.x) tA81 rfl (pE' (v := (pP b2 0)) rfl (ex_fieldAddr rfl Tryz.underlying83 rfl Tryz.sizeOf81 rfl) (pA' 0 (fracL b.x) tA81 rfl ?_)))))
 refine pE' (v := (pP b1 5)) rfl (ex_fieldAddr rfl Tryz.underlying83 rfl Tryz.sizeOf81 rfl) (pA' 1 (fracL a.y) tA81 rfl (pE' (v := (pP b2 5)) rfl (ex_fieldAddr rfl Tryz.underlying83 rfl Tryz.sizeOf81 rfl) (pA' 0 (fracL b.y) tA81 rfl (OkE.imp rfl ?_))))
 have hz1 := Sz_mul a.x b.x
 refine ck' Tryz.call33 (fMul_ok a.x b.x (by (try simp only [Sz_neg]); omega)) rfl (OkE.back (sl sr) (OkE.imp rfl ?_))
 have hz2 := Sz_mul a.y b.y
 refine ck' Tryz.call33 (fMul_ok a.y b.y (by (try simp only [Sz_neg]); omega)) rfl (OkE.back (sl sr) (OkE.imp rfl ?_))
 have hz3 := Sz_add (a.x * b.x) (a.y * b.y)
 refine ck' Tryz.call40 (fAdd_ok (a.x * b.x) (a.y * b.y) (by (try simp only [Sz_neg]); omega)) rfl (OkE.back (sl sr) (OkE.imp rfl (stW0' rfl Tryz.sizeOf81 rfl (OkE.back (sl sr) (OkE.nil ?_)))))
 exact OkQ.subF (sL [4] rfl) (OkQ.then_ (OkC.ret (ret_one rfl (rd_agg (i := 0) (cs := fracL ((a.x * b.x) + (a.y * b.y))) rfl rfl Tryz.isAgg81 Tryz.sizeOf81 rfl) (fun w hw => ⟨rfl, hw.out⟩))))
theorem pTurn_ok (a b c : Pt) (hs : SzP a + SzP b + SzP c ≤ 17179869184) (w : World)  : Calls Tryz.prog 79 #[(aG (ptL a)), (aG (ptL b)), (aG (ptL c))] w (Gives w (vI ((turnP a b c).num.sign))) := by
 refine calls_of (args := [(aG (ptL a)), (aG (ptL b)), (aG (ptL c))]) Tryz.func79 rfl rfl (leB rfl) (OkC.subF (sL [0, 1, 2] rfl) (q4 (bx' (cs := ptL a) rfl fun b1 => bx' (cs := ptL b) rfl fun b2 => bx' (cs := ptL c) rfl fun b3 => ?_)))
 refine asg' rfl (q6 (sL [3, 4, 5, 6] rfl) (rG' [(0, true), (1, true), (3, true), (4, true), (2, false), (5, false), (6, false), (7, false), (8, true)] sr (pW' 1 tA83 rfl (pW' 2 tA83 rfl (pW' 0 tA83 rfl ?_)))))
 refine pW' 2 tA83 rfl (OkE.imp rfl ?_)
 have hz1 := SzP_sub b a
 refine ck' Tryz.call83 (pSub_ok b a (by omega)) rfl (OkE.back sr (OkE.imp rfl ?_))
 have hz2 := SzP_sub c a
 refine ck' Tryz.call83 (pSub_ok c a (by omega)) rfl (OkE.back sr (OkE.imp rfl ?_))
 have hz3 := Sz_cross (b - a) (c - a)
 refine ck' Tryz.call41 (pCross_ok (b - a) (c - a) (by omega)) rfl (OkE.back sr (OkE.imp rfl (ck' Tryz.call100 (fSign_ok (crossP (b - a) (c - a))) rfl (OkE.back sr (pS' rfl ?_)))))
 exact OkE.nil (OkQ.subF (sL [6] rfl) (OkQ.then_ (OkC.ret (ret_one rfl (rd_tmp (v := (vI ((crossP (b - a) (c - a)).num.sign))) rfl) (fun w hw => ⟨rfl, hw.out⟩)))))
theorem pSquare_ok (a b : Pt) (hs : SzP a + SzP b ≤ 17179869184) (w : World)  : Calls Tryz.prog 32 #[(aG (ptL a)), (aG (ptL b))] w (Gives w (aG (fracL (dotP (b - a) (b - a))))) := by
 refine calls_of (args := [(aG (ptL a)), (aG (ptL b))]) Tryz.func32 rfl rfl (leB rfl) (OkC.subF (sL [0, 1] rfl) (q4 (bx' (cs := ptL a) rfl fun b1 => bx' (cs := ptL b) rfl fun b2 => al tZ81 rfl fun b3 => ?_)))
 refine q3 (sL [2, 3, 4] rfl) (ldW' 1 tA83 rfl (ldW' 2 tA83 rfl ?_))
 have hz1 := SzP_sub b a
 refine ck' Tryz.call83 (pSub_ok b a (by omega)) rfl (al tZ83 rfl fun b4 => stW0' rfl Tryz.sizeOf83 rfl (q3 (sL [4, 5] rfl) (ldW' 0 tA83 rfl (ldW' 0 tA83 rfl ?_))))
 have hz2 := Sz_dot (b - a) (b - a)
 exact ck' Tryz.call84 (pDot_ok (b - a) (b - a) (by omega)) rfl (stW1' rfl Tryz.sizeOf81 rfl (OkL.nil (OkQ.subF (sL [4, 5] rfl) (OkQ.then_ (OkC.ret (ret_one rfl (rd_agg (i := 1) (cs := fracL (dotP (b - a) (b - a))) rfl rfl Tryz.isAgg81 Tryz.sizeOf81 rfl) (fun w hw => ⟨rfl, hw.out⟩)))))))
theorem pInt_ok (x y : Int) (h1 : -9223372036854775808 ≤ x) (h2 : x < 9223372036854775808) (h3 : -9223372036854775808 ≤ y) (h4 : y < 9223372036854775808) (w : World)  : Calls Tryz.prog 47 #[(vI x), (vI y)] w (Gives w (aG (ptL (⟨((x : Int) : Rat), ((y : Int) : Rat)⟩ : Pt)))) := by
 refine calls_of (args := [(vI x), (vI y)]) Tryz.func47 rfl rfl (leB rfl) (OkC.subF (sL [0, 1] rfl) (q4 (al tZ83 rfl fun b1 => OkL.nil (q2 ?_))))
 refine mv' rfl (ck' Tryz.call34 (fInt_ok x (by omega) (by omega)) rfl (mv' rfl (ck' Tryz.call34 (fInt_ok y (by omega) (by omega)) rfl (st' (v := (aG (fracL ((x : Int) : Rat) ++ fracL ((y : Int) : Rat)))) (ex_build_struct (zs := ptL (⟨0, 0⟩ : Pt)) (vs := fracL ((x : Int) : Rat) ++ fracL ((y : Int) : Rat)) (pv := [(0, (aG (fracL ((x : Int) : Rat)))), (1, (aG (fracL ((y : Int) : Rat))))]) (places := [(0, 5), (5, 5)]) Tryz.zeroValue83 Tryz.underlying83 (fun w => by simp [Tryz.sizeOf81]) rfl (fill_numm_83_0fracL_1fracL ((x : Int) : Rat) ((y : Int) : Rat))) rfl (stW0' rfl Tryz.sizeOf83 rfl ?_)))))
 exact OkL.nil (OkQ.subF (sL [4] rfl) (OkQ.then_ (OkC.ret (ret_one rfl (rd_agg (i := 0) (cs := fracL ((x : Int) : Rat) ++ fracL ((y : Int) : Rat)) rfl rfl Tryz.isAgg83 Tryz.sizeOf83 rfl) (fun w hw => ⟨by rw [ptL_mk], hw.out⟩)))))
end
section
set_option maxRecDepth 100000
theorem fOf_ok (x y : Int) (h1 : -9223372036854775808 ≤ x) (h2 : x < 9223372036854775808) (h3 : -9223372036854775808 ≤ y) (h4 : y < 9223372036854775808) (hy : y ≠ 0) (w : World)  : Calls Tryz.prog 154 #[(vI x), (vI y)] w (Gives w (Value.tuple #[(aG (fracL (((x : Int) : Rat) / ((y : Int) : Rat)))), (vI 0)])) := by
 have hb : ((y : Int) : Rat) ≠ 0 := fun e => hy (by exact_mod_cast e)
 have s1 := Sz_int h1 h2
 have s2 := Sz_int h3 h4
 refine calls_of (args := [(vI x), (vI y)]) Tryz.func154 rfl rfl (leB rfl) (OkC.subF (sL [0, 1] rfl) (q4 (al tZ81 rfl fun b1 => asg' rfl (OkL.nil ?_))))
 refine q2 (mv' rfl (ck' Tryz.call34 (fInt_ok x (by omega) (by omega)) rfl (mv' rfl (ck' Tryz.call34 (fInt_ok y (by omega) (by omega)) rfl ?_))))
 have hz1 := Sz_div (a := ((x : Int) : Rat)) (b := ((y : Int) : Rat)) (by assumption)
 refine ck' Tryz.call104 (fDiv_ok ((x : Int) : Rat) ((y : Int) : Rat) (by omega) (by assumption)) rfl (st' (ex_extract (v := (aG (fracL (((x : Int) : Rat) / ((y : Int) : Rat))))) rfl rfl) rfl (st' (ex_extract (v := (vI 0)) rfl rfl) rfl (stW0' rfl Tryz.sizeOf81 rfl (asg' rfl (OkL.nil ?_)))))
 exact OkQ.subF (sL [4, 5] rfl) (OkQ.then_ (OkC.ret (ret_two rfl (rd_agg (i := 0) (cs := fracL (((x : Int) : Rat) / ((y : Int) : Rat))) rfl rfl Tryz.isAgg81 Tryz.sizeOf81 rfl) (rd_tmp (v := (vI 0)) rfl) (fun w hw => ⟨rfl, hw.out⟩))))
theorem phalf_ok  (w : World)  : Calls Tryz.prog 159 #[] w (Gives w (aG (fracL ((1 : Rat) / 2)))) := by
 refine calls_of (args := []) Tryz.func159 rfl rfl (leB rfl) (OkC.subF sN (q4 (al tZ81 rfl fun b1 => OkL.nil (q2 ?_))))
 refine ck' Tryz.call154 (fOf_ok (1 : Int) (2 : Int) (by omega) (by omega) (by omega) (by omega) (by omega)) rfl (mv' rfl (st' (ex_extract (v := (aG (fracL (((1 : Int) : Rat) / ((2 : Int) : Rat))))) rfl rfl) rfl (OkL.retell (k := 5) (u := (aG (fracL ((1 : Rat) / 2)))) rfl (by rw [half_of]) (st' (ex_extract (v := (vI 0)) rfl rfl) rfl (al tZ81 rfl fun b2 => ?_)))))
 refine stW0' rfl Tryz.sizeOf81 rfl (asg' rfl (q3 (sL [0, 1] rfl) (ldW' 0 tA81 rfl (stW1' rfl Tryz.sizeOf81 rfl (OkL.nil ?_)))))
 exact OkQ.subF (sL [0, 1] rfl) (OkQ.then_ (OkC.ret (ret_one rfl (rd_agg (i := 1) (cs := fracL ((1 : Rat) / 2)) rfl rfl Tryz.isAgg81 Tryz.sizeOf81 rfl) (fun w hw => ⟨rfl, hw.out⟩))))
theorem pMid_ok (a b : Pt) (hs : SzP a + SzP b ≤ 17179869184) (w : World)  : Calls Tryz.prog 116 #[(aG (ptL a)), (aG (ptL b))] w (Gives w (aG (ptL (scaleP (a + b) (1 / 2))))) := by
 have sh := Sz_half
 refine calls_of (args := [(aG (ptL a)), (aG (ptL b))]) Tryz.func116 rfl rfl (leB rfl) (OkC.subF (sL [0, 1] rfl) (q4 (bx' (cs := ptL a) rfl fun b1 => bx' (cs := ptL b) rfl fun b2 => al tZ83 rfl fun b3 => ?_)))
 refine q3 (sL [2, 3, 4] rfl) (ldW' 2 tA83 rfl (ldW' 1 tA83 rfl ?_))
 have hz1 := SzP_add a b
 refine ck' Tryz.call158 (pAdd_ok a b (by omega)) rfl (ck' Tryz.call159 (phalf_ok) rfl ?_)
 have hz2 := SzP_scale (a + b) ((1 : Rat) / 2)
 exact ck' Tryz.call157 (pScale_ok (a + b) ((1 : Rat) / 2) (by omega)) rfl (stW0' rfl Tryz.sizeOf83 rfl (OkL.nil (OkQ.subF (sL [4] rfl) (OkQ.then_ (OkC.ret (ret_one rfl (rd_agg (i := 0) (cs := ptL (scaleP (a + b) ((1 : Rat) / 2))) rfl rfl Tryz.isAgg83 Tryz.sizeOf83 rfl) (fun w hw => ⟨rfl, hw.out⟩)))))))
end
section
set_option maxRecDepth 100000
end

section
set_option maxRecDepth 100000
end
section
set_option maxRecDepth 100000
end
section
set_option maxRecDepth 100000
end
section
set_option maxRecDepth 100000
end
section
theorem fracL_length (q : Rat) : (fracL q).length = 5 := rfl
section
variable {P : Program} {n : Nat} {F : List (Nat × Value)} {w0 : Base} {L : List As} {v : Value} {x : Operand} {d : Option Tmp} {t : TypeId} {p : String} {af : Array Edge} {g : Option (Nat × Bool)}
end
end
section
set_option maxRecDepth 100000
end
section
set_option maxRecDepth 100000
end
section
set_option maxRecDepth 100000
end
section
set_option maxRecDepth 100000
end
section
set_option maxRecDepth 100000
end
section
set_option maxRecDepth 100000
end
section
section
variable {P : Program} {n : Nat} {F : List (Nat × Value)} {w0 : Base} {L : List As} {v : Value} {x lo hi : Operand} {d : Option Tmp} {t : TypeId} {p : String} {af : Array Edge} {g : Option (Nat × Bool)}
end
end
section
set_option maxRecDepth 100000
end
theorem add_x (a b : Pt) : (a + b).x = a.x + b.x := rfl
theorem add_y (a b : Pt) : (a + b).y = a.y + b.y := rfl
theorem sub_x (a b : Pt) : (a - b).x = a.x - b.x := rfl
theorem sub_y (a b : Pt) : (a - b).y = a.y - b.y := rfl
theorem scale_x (a : Pt) (k : Rat) : (scaleP a k).x = a.x * k := rfl
theorem scale_y (a : Pt) (k : Rat) : (scaleP a k).y = a.y * k := rfl
theorem turn_def (a b c : Pt) : turnP a b c = (b.x - a.x) * (c.y - a.y) - (b.y - a.y) * (c.x - a.x) := rfl
theorem sgn_zero {q : Rat} (h : q = 0) : q.num.sign = 0 := by subst h; rfl
theorem turn_cyc (a b c : Pt) : turnP b c a = turnP a b c := by simp only [turn_def]; grind
section
theorem eq_intL (a b : Int) : (decide (a.natAbs = b.natAbs) && ((decide (a < 0) == decide (b < 0)) && true)) = decide (a = b) := by
  by_cases e : a = b
  · subst e; simp
  · rw [decide_eq_false e]
    by_cases h1 : a < 0 <;> by_cases h2 : b < 0 <;> simp [h1, h2] <;> omega
theorem eqB_int (D : Nat) (a b : Int) : EqB Tryz.prog (D + 4) 79 (.agg (intL a).toArray) (.agg (intL b).toArray) (decide (a = b)) := by
  rw [← eq_intL]
  exact EqB.struct Tryz.underlying79 Tryz.stoodInHeld79 (EqF.agg (us := natL a.natAbs) (bs := natL b.natAbs) (by decide) Tryz.isAgg77 Tryz.sizeOf77 rfl rfl (eqB_size D _ _) (EqF.one (by decide) Tryz.isAgg4 rfl rfl (EqB.bool Tryz.underlying4) EqF.nil))
theorem eq_fracL (a b : Rat) : (decide (a.num = b.num) && (decide (a.den - 1 = b.den - 1) && true)) = decide (a = b) := by
  by_cases e : a = b
  · subst e; simp
  · rw [decide_eq_false e]
    have h1 := a.den_pos
    have h2 := b.den_pos
    simp only [Bool.and_true, Bool.and_eq_false_iff, decide_eq_false_iff_not]
    apply Classical.byContradiction
    intro h
    refine e (Rat.ext ?_ ?_)
    · exact Classical.byContradiction fun k => h (.inl k)
    · exact Classical.byContradiction fun k => h (.inr (by omega))
theorem eqB_frac (D : Nat) (a b : Rat) : EqB Tryz.prog (D + 5) 81 (.agg (fracL a).toArray) (.agg (fracL b).toArray) (decide (a = b)) := by
  rw [← eq_fracL]
  exact EqB.struct Tryz.underlying81 Tryz.stoodInHeld81 (EqF.agg (us := intL a.num) (bs := intL b.num) (by decide) Tryz.isAgg79 Tryz.sizeOf79 rfl rfl (eqB_int D _ _) (EqF.agg (us := natL (a.den - 1)) (bs := natL (b.den - 1)) (by decide) Tryz.isAgg75 Tryz.sizeOf75 rfl rfl (eqB_nat (D + 2) _ _) EqF.nil))
instance : DecidableEq Pt := fun a b => decidable_of_iff (a.x = b.x ∧ a.y = b.y) ⟨fun h => Pt.ext h.1 h.2, fun h => h ▸ ⟨rfl, rfl⟩⟩
section
variable {P : Program}
def EqI (P : Program) (D : Nat) (e : TypeId) (c : Nat) (xs ys : List Value) (is : List Nat) (b : Bool) : Prop := ∀ w, (Go.Op.eqItems D e c xs.toArray ys.toArray is).run P w = .ok b w
theorem EqI.nil {D c : Nat} {e : TypeId} {xs ys : List Value} : EqI P D e c xs ys [] true := fun w => rfl
theorem EqI.cons {D c i : Nat} {e : TypeId} {is : List Nat} {xs ys us bs : List Value} {r s : Bool} (hg : ∀ w, (isAgg e).run P w = .ok true w) (hs : ∀ w, (sizeOf e).run P w = .ok c w)
    (ha : (xs.drop (i * c)).take c = us) (hb : (ys.drop (i * c)).take c = bs) (h : EqB P D e (.agg us.toArray) (.agg bs.toArray) r) (h2 : EqI P D e c xs ys is s) : EqI P D e c xs ys (i :: is) (r && s) := fun w => by
  have ex : ∀ l : List Value, l.toArray.extract (i * c) (i * c + c) = ((l.drop (i * c)).take c).toArray := fun l => by simp [List.extract_eq_take_drop]
  have e1 : (part e xs.toArray (i * c)).run P w = .ok (.agg us.toArray) w := by simp [part, hg, hs, ex, ha]
  have e2 : (part e ys.toArray (i * c)).run P w = .ok (.agg bs.toArray) w := by simp [part, hg, hs, ex, hb]
  simp only [Go.Op.eqItems, Sem.run_bind, e1, e2, Result.andThen_ok, h w]
  cases r
  · simp
  · simp [h2 w]
theorem EqB.array {D n c : Nat} {T e : TypeId} {xs ys : List Value} {b : Bool} (hu : P.underlying T = some (.array n e)) (hi : ∃ i, P.info? e = some i) (hc : P.cellsOf e = c) (h : EqI P D e c xs ys (List.range n) b) :
    EqB P (D + 1) T (.agg xs.toArray) (.agg ys.toArray) b := fun w => by
  obtain ⟨i, hi⟩ := hi
  rw [Go.run_equalIn_array w D xs.toArray ys.toArray hu hi, hc]
  exact h w
end
theorem eqB_frac_t (D : Nat) {a b : Rat} (h : a = b) : EqB Tryz.prog (D + 5) 81 (.agg (fracL a).toArray) (.agg (fracL b).toArray) true := by
  have := eqB_frac D a b; rwa [decide_eq_true h] at this
section
variable {P : Program} {n : Nat} {F : List (Nat × Value)} {w0 : Base} {L : List As} {x y : Operand} {d : Option Tmp} {t : TypeId} {p : String} {af : Array Edge} {g : Option (Nat × Bool)}
end
end
section
structure QD where
  n : Int
  d : Nat
structure PD where
  x : QD
  y : QD
def qdL (q : QD) : List Value := [.int .i64 q.n, .int .u32 (q.d : Nat)]
def pdL (p : PD) : List Value := qdL p.x ++ qdL p.y
def QD.ok (q : QD) : Prop := -9223372036854775808 ≤ q.n ∧ q.n < 9223372036854775808 ∧ q.d < 4294967296
def PD.ok (p : PD) : Prop := p.x.ok ∧ p.y.ok
def qOf (q : QD) : Rat := ((q.n : Int) : Rat) / (((max q.d 1 : Nat) : Int) : Rat)
def ptOf (p : PD) : Pt := ⟨qOf p.x, qOf p.y⟩
theorem Sz_qOf {q : QD} (h : q.ok) : Sz (qOf q) ≤ 4 := by
  obtain ⟨h1, h2, h3⟩ := h
  have s1 := Sz_int h1 h2
  have s2 := Sz_int (z := ((max q.d 1 : Nat) : Int)) (by omega) (by omega)
  have hb : (((max q.d 1 : Nat) : Int) : Rat) ≠ 0 := fun e => by
    have : ((max q.d 1 : Nat) : Int) = 0 := by exact_mod_cast e
    omega
  have := Sz_div (a := ((q.n : Int) : Rat)) hb
  unfold qOf
  omega
theorem SzP_ptOf {p : PD} (h : p.ok) : SzP (ptOf p) ≤ 4 := SzP_le (Sz_qOf h.1) (Sz_qOf h.2)
section
variable {P : Program} {w : World} {r : Reach} {base : Nat}
def zipV : List IntKind → List Int → List Value
  | k :: ks, n :: ns => .int k n :: zipV ks ns
  | _, _ => []
def AllHas : List IntKind → List Int → Prop
  | [], [] => True
  | k :: ks, n :: ns => k.has n ∧ AllHas ks ns
  | _, _ => False
theorem cells_ints : ∀ (ts : List TypeId) (ks : List IntKind) (cs : List Value), ts.map P.underlying = ks.map (fun k => some (.int k)) → cs.length = ts.length →
    (∀ (i : Nat) v, cs[i]? = some v → ∃ u, ts[i]? = some u ∧ Cell.okWide P w r base u v) → ∃ ns, cs = zipV ks ns ∧ AllHas ks ns
  | [], [], [], _, _, _ => ⟨[], rfl, trivial⟩
  | t :: ts, k :: ks, c :: cs, hk, hl, hc => by
    simp only [List.map_cons, List.cons.injEq] at hk
    obtain ⟨ns, hns, hh⟩ := cells_ints ts ks cs hk.2 (by simpa using hl) (fun i v hv => by simpa using hc (i + 1) v (by simpa using hv))
    obtain ⟨u, hu, ho⟩ := hc 0 c (by simp)
    simp only [List.getElem?_cons_zero, Option.some.injEq] at hu
    subst hu
    simp only [Cell.okWide, hk.1] at ho
    have ho' : ∃ n, c = .int k n ∧ k.has n := by
      unfold Cell.ok at ho
      rw [hk.1] at ho
      cases c <;> simp at ho
      exact ⟨_, by rw [ho.1], ho.2⟩
    obtain ⟨n, rfl, hn⟩ := ho'
    exact ⟨n :: ns, by rw [hns]; rfl, hn, hh⟩
  | [], _ :: _, _, hk, _, _ => by simp at hk
  | _ :: _, [], _, hk, _, _ => by simp at hk
  | _ :: _, _ :: _, [], _, hl, _ => by simp at hl
  | [], [], _ :: _, _, hl, _ => by simp at hl
theorem arg_ints {t : TypeId} {v : Value} {ts : List TypeId} (ks : List IntKind) (hag : (match P.underlying t with | some (.struct _) => true | some (.array _ _) => true | _ => false) = true) (hts : P.cellTypes P.depth t = some ts) (hsz : P.cellsOf t = ts.length)
    (hk : ts.map P.underlying = ks.map (fun k => some (.int k))) (hv : Value.okWide P w r base t v) : ∃ ns, v = .agg (zipV ks ns).toArray ∧ AllHas ks ns := by
  have h1 : ∃ cs, v = .agg cs ∧ cs.size = P.cellsOf t ∧ Row.okWide P w r base t cs := by
    unfold Value.okWide at hv
    split at hv
    · exact hv
    · exact hv
    · rename_i h2 h3
      split at hag
      · rename_i e; exact absurd e (h2 _)
      · rename_i e; exact absurd e (h3 _ _)
      · cases hag
  obtain ⟨cs, rfl, hs, ts', hts', ⟨n, hn⟩, hc⟩ := h1
  obtain rfl := Option.some.inj (hts.symm.trans hts')
  obtain ⟨ns, h2, h3⟩ := cells_ints (P := P) (w := w) (r := r) (base := base) ts ks cs.toList hk (by simp [hs, hsz]) (fun i v hv => by
    have hlt : i < ts.length := by
      rcases Nat.lt_or_ge i cs.toList.length with h | h
      · simpa [hs, hsz] using h
      · rw [List.getElem?_eq_none h] at hv; cases hv
    have := hc i v (by simpa using hv)
    rwa [Nat.mod_eq_of_lt hlt] at this)
  exact ⟨ns, by rw [← h2], h3⟩
end
section
variable {P : Program} {w : World} {r : Reach} {base : Nat} {t : TypeId} {v : Value} {ts : List TypeId}
end
end
end Go.Proofs.YtgiacpkjnikjdaaGreat
