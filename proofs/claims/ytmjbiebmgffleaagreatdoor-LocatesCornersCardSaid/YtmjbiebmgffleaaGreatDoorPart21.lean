import Derived.Test.YtmjbiebmgffleaaGreatDoorPart05
import Derived.Test.YtmjbiebmgffleaaGreatDoorPart19
import Derived.Test.YtmjbiebmgffleaaGreatDoorPart20
namespace Go.Proofs.YtmjbiebmgffleaaGreatDoor
open Go Go.RowKit
set_option linter.unusedVariables false
set_option linter.unusedSimpArgs false
section
instance : Add Pt := ⟨fun a b => ⟨a.x + b.x, a.y + b.y⟩⟩
instance : Sub Pt := ⟨fun a b => ⟨a.x - b.x, a.y - b.y⟩⟩
def scaleP (a : Pt) (k : Rat) : Pt := ⟨a.x * k, a.y * k⟩
def crossP (a b : Pt) : Rat := a.x * b.y - a.y * b.x
def dotP (a b : Pt) : Rat := a.x * b.x + a.y * b.y
def turnP (a b c : Pt) : Rat := crossP (b - a) (c - a)
def SzP (p : Pt) : Nat := max (Sz p.x) (Sz p.y)
theorem SzP_x (p : Pt) : Sz p.x ≤ SzP p := Nat.le_max_left ..
theorem SzP_y (p : Pt) : Sz p.y ≤ SzP p := Nat.le_max_right ..
theorem SzP_le {p : Pt} {k : Nat} (h1 : Sz p.x ≤ k) (h2 : Sz p.y ≤ k) : SzP p ≤ k := Nat.max_le.2 ⟨h1, h2⟩
theorem SzP_add (a b : Pt) : SzP (a + b) ≤ SzP a + SzP b + 1 := by
  have h1 := SzP_x a; have h2 := SzP_y a; have h3 := SzP_x b; have h4 := SzP_y b
  refine SzP_le ?_ ?_
  · exact Nat.le_trans (Sz_add a.x b.x) (by omega)
  · exact Nat.le_trans (Sz_add a.y b.y) (by omega)
theorem SzP_sub (a b : Pt) : SzP (a - b) ≤ SzP a + SzP b + 1 := by
  have h1 := SzP_x a; have h2 := SzP_y a; have h3 := SzP_x b; have h4 := SzP_y b
  refine SzP_le ?_ ?_
  · exact Nat.le_trans (Sz_sub a.x b.x) (by omega)
  · exact Nat.le_trans (Sz_sub a.y b.y) (by omega)
theorem SzP_scale (a : Pt) (k : Rat) : SzP (scaleP a k) ≤ SzP a + Sz k := by
  have h1 := SzP_x a; have h2 := SzP_y a
  refine SzP_le ?_ ?_
  · exact Nat.le_trans (Sz_mul a.x k) (by omega)
  · exact Nat.le_trans (Sz_mul a.y k) (by omega)
theorem Sz_cross (a b : Pt) : Sz (crossP a b) ≤ 2 * SzP a + 2 * SzP b + 1 := by
  have h1 := SzP_x a; have h2 := SzP_y a; have h3 := SzP_x b; have h4 := SzP_y b
  have h5 := Sz_mul a.x b.y; have h6 := Sz_mul a.y b.x
  exact Nat.le_trans (Sz_sub _ _) (by omega)
theorem Sz_dot (a b : Pt) : Sz (dotP a b) ≤ 2 * SzP a + 2 * SzP b + 1 := by
  have h1 := SzP_x a; have h2 := SzP_y a; have h3 := SzP_x b; have h4 := SzP_y b
  have h5 := Sz_mul a.x b.x; have h6 := Sz_mul a.y b.y
  exact Nat.le_trans (Sz_add _ _) (by omega)
theorem Sz_turn (a b c : Pt) : Sz (turnP a b c) ≤ 4 * SzP a + 2 * SzP b + 2 * SzP c + 5 := by
  have h1 := SzP_sub b a; have h2 := SzP_sub c a
  exact Nat.le_trans (Sz_cross _ _) (by omega)
theorem Sz_half : Sz (1 / 2 : Rat) ≤ 1 := by decide +kernel
theorem half_of : ((1 : Int) : Rat) / ((2 : Int) : Rat) = 1 / 2 := by decide +kernel
theorem Sz_int {z : Int} (h1 : -9223372036854775808 ≤ z) (h2 : z < 9223372036854775808) : Sz ((z : Int) : Rat) ≤ 2 := Sz_le (nw_small (by show z.natAbs < _; omega)) (by show nw 1 ≤ 2; rw [nw_one]; omega)
theorem ptL_add (a b : Pt) : ptL (a + b) = fracL (a.x + b.x) ++ fracL (a.y + b.y) := rfl
theorem ptL_sub (a b : Pt) : ptL (a - b) = fracL (a.x - b.x) ++ fracL (a.y - b.y) := rfl
theorem ptL_scale (a : Pt) (k : Rat) : ptL (scaleP a k) = fracL (a.x * k) ++ fracL (a.y * k) := rfl
theorem ptL_mk (x y : Rat) : ptL ⟨x, y⟩ = fracL x ++ fracL y := rfl
section
variable {P : Program} {Q : Exit → Act → World → Prop} {n : Nat} {F : List (Nat × Value)} {w0 : Base} {L : List As} {c : Code}
def OkR (P : Program) (c : Code) (Q : Exit → Act → World → Prop) (k n : Nat) (F : List (Nat × Value)) (w0 : Base) (L : List As) : Prop := ∀ a w, Frm n a F → Own w0 w L → Code.rounds P c Q k a w
theorem OkC.unroll (k : Nat) (h : OkR P c Q k n F w0 L) : OkC P (.loop c) Q n F w0 L := fun a w ha hw => wp_loop_rounds k (h a w ha hw)
theorem OkR.step {k : Nat} (h : OkC P c (Exit.then (Code.rounds P c Q k) Q) n F w0 L) : OkR P c Q (k + 1) n F w0 L := fun a w ha hw => by
  rw [rounds_succ]; exact h a w ha hw
theorem OkQ.again {k : Nat} (h : OkR P c Q k n F w0 L) : OkQ (Exit.then (Code.rounds P c Q k) Q) .normal n F w0 L := h
end
end
section
set_option maxRecDepth 100000
theorem fill_numm_45_0fracL_1fracL (x0 : Rat) (x1 : Rat) : Instr.fill ([(0, 5), (5, 5)].toArray[·]?) (ptL (⟨0, 0⟩ : Pt)).toArray [(0, .agg (fracL x0).toArray), (1, .agg (fracL x1).toArray)] = some (fracL x0 ++ fracL x1).toArray := by kernel_rfl
theorem both_add_ok (a b : Pt) (hs : SzP a + SzP b ≤ 68719476736) (w : World)  : Calls Tryz.prog 53 #[(aG (ptL a)), (aG (ptL b)), (Value.func (.func 56) #[] #[])] w (Gives w (aG (ptL (a + b)))) := by
 have p1 := SzP_x a
 have p2 := SzP_y a
 have p3 := SzP_x b
 have p4 := SzP_y b
 refine calls_of (args := [(aG (ptL a)), (aG (ptL b)), (Value.func (.func 56) #[] #[])]) Tryz.func53 rfl rfl (leB rfl) (OkC.subF (sC 0 rfl (sC 1 rfl (sC 2 rfl (sN)))) (q4 (bx (cs := ptL a) rfl rfl rfl fun b1 => bx (cs := ptL b) rfl rfl rfl fun b2 => al tZ45 rfl fun b3 => ?_)))
 refine q6 (sC 2 rfl (sC 3 rfl (sC 4 rfl (sC 6 rfl (sN))))) (rG [(0, true), (1, true), (2, true), (3, true), (4, true), (6, true), (7, true), (8, true), (9, true), (10, true), (5, false), (11, false), (12, true), (13, false)] (sl sr) (by kernel_rfl) (fun _ _ d _ _ h => by cases d <;> exact h) (pM rfl rfl rfl (pE (v := (pP b1 0)) rfl (ex_fieldAddr rfl Tryz.underlying45 rfl Tryz.sizeOf43 rfl) rfl (pA 1 (fracL a.x) tA43 rfl rfl rfl rfl rfl rfl (pE (v := (pP b2 0)) rfl (ex_fieldAddr rfl Tryz.underlying45 rfl Tryz.sizeOf43 rfl) rfl ?_)))))
 refine pA 0 (fracL b.x) tA43 rfl rfl rfl rfl rfl rfl (pM rfl rfl rfl (pE (v := (pP b1 5)) rfl (ex_fieldAddr rfl Tryz.underlying45 rfl Tryz.sizeOf43 rfl) rfl (pA 1 (fracL a.y) tA43 rfl rfl rfl rfl rfl rfl (pE (v := (pP b2 5)) rfl (ex_fieldAddr rfl Tryz.underlying45 rfl Tryz.sizeOf43 rfl) rfl (pA 0 (fracL b.y) tA43 rfl rfl rfl rfl rfl rfl ?_)))))
 refine OkE.imp rfl ?_
 have hz1 := Sz_add a.x b.x
 refine cl Tryz.call56 (fun w hw => fAdd_ok a.x b.x (by (try simp only [Sz_neg]); omega) w) rfl rfl rfl (OkE.back (sl sr) (OkE.imp rfl ?_))
 have hz2 := Sz_add a.y b.y
 refine cl Tryz.call56 (fun w hw => fAdd_ok a.y b.y (by (try simp only [Sz_neg]); omega) w) rfl rfl rfl (OkE.back (sl sr) (pE (v := (aG (fracL (a.x + b.x) ++ fracL (a.y + b.y)))) rfl (ex_build_struct (zs := ptL (⟨0, 0⟩ : Pt)) (vs := fracL (a.x + b.x) ++ fracL (a.y + b.y)) (pv := [(0, (aG (fracL (a.x + b.x)))), (1, (aG (fracL (a.y + b.y))))]) (places := [(0, 5), (5, 5)]) Tryz.zeroValue45 Tryz.underlying45 (fun w => by simp [Tryz.sizeOf43]) rfl (fill_numm_45_0fracL_1fracL (a.x + b.x) (a.y + b.y))) rfl (OkE.imp rfl (stW0 rfl rfl rfl Tryz.sizeOf45 rfl rfl (OkE.back (sl sr) ?_)))))
 exact OkE.nil (OkQ.subF (sC 6 rfl (sN)) (OkQ.then_ (OkC.ret (ret_one rfl (rd_agg (i := 0) (cs := fracL (a.x + b.x) ++ fracL (a.y + b.y)) rfl rfl Tryz.isAgg45 Tryz.sizeOf45 rfl) (fun w hw => ⟨by rw [ptL_add], hw.out⟩)))))
theorem both_sub_ok (a b : Pt) (hs : SzP a + SzP b ≤ 68719476736) (w : World)  : Calls Tryz.prog 53 #[(aG (ptL a)), (aG (ptL b)), (Value.func (.func 31) #[] #[])] w (Gives w (aG (ptL (a - b)))) := by
 have p1 := SzP_x a
 have p2 := SzP_y a
 have p3 := SzP_x b
 have p4 := SzP_y b
 refine calls_of (args := [(aG (ptL a)), (aG (ptL b)), (Value.func (.func 31) #[] #[])]) Tryz.func53 rfl rfl (leB rfl) (OkC.subF (sC 0 rfl (sC 1 rfl (sC 2 rfl (sN)))) (q4 (bx (cs := ptL a) rfl rfl rfl fun b1 => bx (cs := ptL b) rfl rfl rfl fun b2 => al tZ45 rfl fun b3 => ?_)))
 refine q6 (sC 2 rfl (sC 3 rfl (sC 4 rfl (sC 6 rfl (sN))))) (rG [(0, true), (1, true), (2, true), (3, true), (4, true), (6, true), (7, true), (8, true), (9, true), (10, true), (5, false), (11, false), (12, true), (13, false)] (sl sr) (by kernel_rfl) (fun _ _ d _ _ h => by cases d <;> exact h) (pM rfl rfl rfl (pE (v := (pP b1 0)) rfl (ex_fieldAddr rfl Tryz.underlying45 rfl Tryz.sizeOf43 rfl) rfl (pA 1 (fracL a.x) tA43 rfl rfl rfl rfl rfl rfl (pE (v := (pP b2 0)) rfl (ex_fieldAddr rfl Tryz.underlying45 rfl Tryz.sizeOf43 rfl) rfl ?_)))))
 refine pA 0 (fracL b.x) tA43 rfl rfl rfl rfl rfl rfl (pM rfl rfl rfl (pE (v := (pP b1 5)) rfl (ex_fieldAddr rfl Tryz.underlying45 rfl Tryz.sizeOf43 rfl) rfl (pA 1 (fracL a.y) tA43 rfl rfl rfl rfl rfl rfl (pE (v := (pP b2 5)) rfl (ex_fieldAddr rfl Tryz.underlying45 rfl Tryz.sizeOf43 rfl) rfl (pA 0 (fracL b.y) tA43 rfl rfl rfl rfl rfl rfl ?_)))))
 refine OkE.imp rfl ?_
 have hz1 := Sz_sub a.x b.x
 refine cl Tryz.call31 (fun w hw => fSub_ok a.x b.x (by (try simp only [Sz_neg]); omega) w) rfl rfl rfl (OkE.back (sl sr) (OkE.imp rfl ?_))
 have hz2 := Sz_sub a.y b.y
 refine cl Tryz.call31 (fun w hw => fSub_ok a.y b.y (by (try simp only [Sz_neg]); omega) w) rfl rfl rfl (OkE.back (sl sr) (pE (v := (aG (fracL (a.x - b.x) ++ fracL (a.y - b.y)))) rfl (ex_build_struct (zs := ptL (⟨0, 0⟩ : Pt)) (vs := fracL (a.x - b.x) ++ fracL (a.y - b.y)) (pv := [(0, (aG (fracL (a.x - b.x)))), (1, (aG (fracL (a.y - b.y))))]) (places := [(0, 5), (5, 5)]) Tryz.zeroValue45 Tryz.underlying45 (fun w => by simp [Tryz.sizeOf43]) rfl (fill_numm_45_0fracL_1fracL (a.x - b.x) (a.y - b.y))) rfl (OkE.imp rfl (stW0 rfl rfl rfl Tryz.sizeOf45 rfl rfl (OkE.back (sl sr) ?_)))))
 exact OkE.nil (OkQ.subF (sC 6 rfl (sN)) (OkQ.then_ (OkC.ret (ret_one rfl (rd_agg (i := 0) (cs := fracL (a.x - b.x) ++ fracL (a.y - b.y)) rfl rfl Tryz.isAgg45 Tryz.sizeOf45 rfl) (fun w hw => ⟨by rw [ptL_sub], hw.out⟩)))))
theorem scale1_ok (x y k : Rat) (bk : Nat) (hs : Sz x + Sz k ≤ 137438953472) (w : World) (hk : w.heap[bk]? = some (.cells (fracL k).toArray 43 (0, 0))) : Calls Tryz.prog 54 #[(aG (fracL x)), (aG (fracL y)), (pP bk 0)] w (Gives w (aG (fracL (x * k)))) := by
 refine calls_of (args := [(aG (fracL x)), (aG (fracL y)), (pP bk 0)]) Tryz.func54 rfl rfl (leB rfl) (OkC.subF (sC 0 rfl (sC 1 rfl (sC 2 rfl (sN)))) (q4 (bx (cs := fracL x) rfl rfl rfl fun b1 => bx (cs := fracL y) rfl rfl rfl fun b2 => al tZ43 rfl fun b3 => ?_)))
 refine q3 (sC 2 rfl (sC 3 rfl (sC 5 rfl (sN)))) (ldW 2 tA43 rfl rfl rfl rfl (st (v := (aG (fracL k))) (ex_load_agg_at (vs := fracL k) rfl (fun w' hw => hw.oldCA (by simp) (ca_blk hk)) Tryz.isAgg43 Tryz.sizeOf43 rfl) (leB rfl) ?_))
 have hz1 := Sz_mul x k
 exact cl Tryz.call55 (fun w hw => fMul_ok x k (by (try simp only [Sz_neg]); omega) w) rfl rfl rfl (stW0 rfl rfl rfl Tryz.sizeOf43 rfl rfl (OkL.nil (OkQ.subF (sC 5 rfl (sN)) (OkQ.then_ (OkC.ret (ret_one rfl (rd_agg (i := 0) (cs := fracL (x * k)) rfl rfl Tryz.isAgg43 Tryz.sizeOf43 rfl) (fun w hw => ⟨rfl, hw.out⟩)))))))
theorem both_scale_ok (a : Pt) (k : Rat) (bk : Nat) (hs : SzP a + Sz k ≤ 137438953472) (w : World) (hk : w.heap[bk]? = some (.cells (fracL k).toArray 43 (0, 0))) : Calls Tryz.prog 53 #[(aG (ptL a)), (aG (ptL a)), (Value.func (.func 54) #[] #[(pP bk 0)])] w (Gives w (aG (ptL (scaleP a k)))) := by
 have p1 := SzP_x a
 have p2 := SzP_y a
 refine calls_of (args := [(aG (ptL a)), (aG (ptL a)), (Value.func (.func 54) #[] #[(pP bk 0)])]) Tryz.func53 rfl rfl (leB rfl) (OkC.subF (sC 0 rfl (sC 1 rfl (sC 2 rfl (sN)))) (q4 (bx (cs := ptL a) rfl rfl rfl fun b1 => bx (cs := ptL a) rfl rfl rfl fun b2 => al tZ45 rfl fun b3 => ?_)))
 refine q6 (sC 2 rfl (sC 3 rfl (sC 4 rfl (sC 6 rfl (sN))))) (rG [(0, true), (1, true), (2, true), (3, true), (4, true), (6, true), (7, true), (8, true), (9, true), (10, true), (5, false), (11, false), (12, true), (13, false)] (sl sr) (by kernel_rfl) (fun _ _ d _ _ h => by cases d <;> exact h) (pM rfl rfl rfl (pE (v := (pP b1 0)) rfl (ex_fieldAddr rfl Tryz.underlying45 rfl Tryz.sizeOf43 rfl) rfl (pA 1 (fracL a.x) tA43 rfl rfl rfl rfl rfl rfl (pE (v := (pP b2 0)) rfl (ex_fieldAddr rfl Tryz.underlying45 rfl Tryz.sizeOf43 rfl) rfl ?_)))))
 refine pA 0 (fracL a.x) tA43 rfl rfl rfl rfl rfl rfl (pM rfl rfl rfl (pE (v := (pP b1 5)) rfl (ex_fieldAddr rfl Tryz.underlying45 rfl Tryz.sizeOf43 rfl) rfl (pA 1 (fracL a.y) tA43 rfl rfl rfl rfl rfl rfl (pE (v := (pP b2 5)) rfl (ex_fieldAddr rfl Tryz.underlying45 rfl Tryz.sizeOf43 rfl) rfl (pA 0 (fracL a.y) tA43 rfl rfl rfl rfl rfl rfl ?_)))))
 refine OkE.imp rfl (OkL.call (v := (aG (fracL (a.x * k)))) (wt_none rfl) (op_call (args := [(aG (fracL a.x)), (aG (fracL a.x))]) (caps := [(pP bk 0)]) (all := [(aG (fracL a.x)), (aG (fracL a.x)), (pP bk 0)]) rfl rfl rfl Tryz.call54) (fun w hw => scale1_ok a.x a.x k bk (by omega) w (hw.old (by simp) hk)) rfl (leB rfl) (OkE.back (sl sr) (OkE.imp rfl (OkL.call (v := (aG (fracL (a.y * k)))) (wt_none rfl) (op_call (args := [(aG (fracL a.y)), (aG (fracL a.y))]) (caps := [(pP bk 0)]) (all := [(aG (fracL a.y)), (aG (fracL a.y)), (pP bk 0)]) rfl rfl rfl Tryz.call54) (fun w hw => scale1_ok a.y a.y k bk (by omega) w (hw.old (by simp) hk)) rfl (leB rfl) (OkE.back (sl sr) ?_)))))
 refine pE (v := (aG (fracL (a.x * k) ++ fracL (a.y * k)))) rfl (ex_build_struct (zs := ptL (⟨0, 0⟩ : Pt)) (vs := fracL (a.x * k) ++ fracL (a.y * k)) (pv := [(0, (aG (fracL (a.x * k)))), (1, (aG (fracL (a.y * k))))]) (places := [(0, 5), (5, 5)]) Tryz.zeroValue45 Tryz.underlying45 (fun w => by simp [Tryz.sizeOf43]) rfl (fill_numm_45_0fracL_1fracL (a.x * k) (a.y * k))) rfl (OkE.imp rfl (stW0 rfl rfl rfl Tryz.sizeOf45 rfl rfl (OkE.back (sl sr) (OkE.nil (OkQ.subF (sC 6 rfl (sN)) ?_)))))
 exact OkQ.then_ (OkC.ret (ret_one rfl (rd_agg (i := 0) (cs := fracL (a.x * k) ++ fracL (a.y * k)) rfl rfl Tryz.isAgg45 Tryz.sizeOf45 rfl) (fun w hw => ⟨by rw [ptL_scale], hw.out⟩)))
theorem pAdd_ok (a b : Pt) (hs : SzP a + SzP b ≤ 68719476736) (w : World)  : Calls Tryz.prog 25 #[(aG (ptL a)), (aG (ptL b))] w (Gives w (aG (ptL (a + b)))) := by
 refine calls_of (args := [(aG (ptL a)), (aG (ptL b))]) Tryz.func25 rfl rfl (leB rfl) (OkC.subF (sC 0 rfl (sC 1 rfl (sN))) (q4 (bx (cs := ptL a) rfl rfl rfl fun b1 => bx (cs := ptL b) rfl rfl rfl fun b2 => al tZ45 rfl fun b3 => ?_)))
 refine q3 (sC 2 rfl (sC 3 rfl (sC 4 rfl (sN)))) (ldW 2 tA45 rfl rfl rfl rfl (ldW 1 tA45 rfl rfl rfl rfl (cl Tryz.call53 (fun w hw => both_add_ok a b (by omega) w) rfl rfl rfl (stW0 rfl rfl rfl Tryz.sizeOf45 rfl rfl (OkL.nil ?_)))))
 exact OkQ.subF (sC 4 rfl (sN)) (OkQ.then_ (OkC.ret (ret_one rfl (rd_agg (i := 0) (cs := ptL (a + b)) rfl rfl Tryz.isAgg45 Tryz.sizeOf45 rfl) (fun w hw => ⟨rfl, hw.out⟩))))
theorem pSub_ok (a b : Pt) (hs : SzP a + SzP b ≤ 68719476736) (w : World)  : Calls Tryz.prog 43 #[(aG (ptL a)), (aG (ptL b))] w (Gives w (aG (ptL (a - b)))) := by
 refine calls_of (args := [(aG (ptL a)), (aG (ptL b))]) Tryz.func43 rfl rfl (leB rfl) (OkC.subF (sC 0 rfl (sC 1 rfl (sN))) (q4 (bx (cs := ptL a) rfl rfl rfl fun b1 => bx (cs := ptL b) rfl rfl rfl fun b2 => al tZ45 rfl fun b3 => ?_)))
 refine q3 (sC 2 rfl (sC 3 rfl (sC 4 rfl (sN)))) (ldW 2 tA45 rfl rfl rfl rfl (ldW 1 tA45 rfl rfl rfl rfl (cl Tryz.call53 (fun w hw => both_sub_ok a b (by omega) w) rfl rfl rfl (stW0 rfl rfl rfl Tryz.sizeOf45 rfl rfl (OkL.nil ?_)))))
 exact OkQ.subF (sC 4 rfl (sN)) (OkQ.then_ (OkC.ret (ret_one rfl (rd_agg (i := 0) (cs := ptL (a - b)) rfl rfl Tryz.isAgg45 Tryz.sizeOf45 rfl) (fun w hw => ⟨rfl, hw.out⟩))))
theorem pScale_ok (a : Pt) (k : Rat) (hs : SzP a + Sz k ≤ 137438953472) (w : World)  : Calls Tryz.prog 24 #[(aG (ptL a)), (aG (fracL k))] w (Gives w (aG (ptL (scaleP a k)))) := by
 refine calls_of (args := [(aG (ptL a)), (aG (fracL k))]) Tryz.func24 rfl rfl (leB rfl) (OkC.subF (sC 0 rfl (sC 1 rfl (sN))) (q4 (bx (cs := ptL a) rfl rfl rfl fun b1 => bx (cs := fracL k) rfl rfl rfl fun b2 => al tZ45 rfl fun b3 => ?_)))
 refine q3 (sC 2 rfl (sC 3 rfl (sC 4 rfl (sN)))) (ldW 2 tA45 rfl rfl rfl rfl (ldW 2 tA45 rfl rfl rfl rfl (st (v := (Value.func (.func 54) #[] #[(pP b2 0)])) (ex_makeFunc (vs := []) (us := [(pP b2 0)]) rfl rfl) (leB rfl) (cl Tryz.call53 (fun w hw => both_scale_ok a k b2 (by omega) w (hw.get (i := 1) rfl)) rfl rfl rfl (stW0 rfl rfl rfl Tryz.sizeOf45 rfl rfl ?_)))))
 exact OkL.nil (OkQ.subF (sC 4 rfl (sN)) (OkQ.then_ (OkC.ret (ret_one rfl (rd_agg (i := 0) (cs := ptL (scaleP a k)) rfl rfl Tryz.isAgg45 Tryz.sizeOf45 rfl) (fun w hw => ⟨rfl, hw.out⟩)))))
theorem pCross_ok (a b : Pt) (hs : SzP a + SzP b ≤ 68719476736) (w : World)  : Calls Tryz.prog 100 #[(aG (ptL a)), (aG (ptL b))] w (Gives w (aG (fracL (crossP a b)))) := by
 have p1 := SzP_x a
 have p2 := SzP_y a
 have p3 := SzP_x b
 have p4 := SzP_y b
 refine calls_of (args := [(aG (ptL a)), (aG (ptL b))]) Tryz.func100 rfl rfl (leB rfl) (OkC.subF (sC 0 rfl (sC 1 rfl (sN))) (q4 (bx (cs := ptL a) rfl rfl rfl fun b1 => bx (cs := ptL b) rfl rfl rfl fun b2 => al tZ43 rfl fun b3 => ?_)))
 refine q6 (sC 2 rfl (sC 3 rfl (sC 4 rfl (sN)))) (rG [(0, true), (1, true), (2, true), (3, true), (5, true), (6, true), (7, true), (8, true), (4, false), (9, false), (10, false), (11, false)] (sl sr) (by kernel_rfl) (fun _ _ d _ _ h => by cases d <;> exact h) (pE (v := (pP b1 0)) rfl (ex_fieldAddr rfl Tryz.underlying45 rfl Tryz.sizeOf43 rfl) rfl (pA 1 (fracL a.x) tA43 rfl rfl rfl rfl rfl rfl (pE (v := (pP b2 5)) rfl (ex_fieldAddr rfl Tryz.underlying45 rfl Tryz.sizeOf43 rfl) rfl (pA 0 (fracL b.y) tA43 rfl rfl rfl rfl rfl rfl ?_)))))
 refine pE (v := (pP b1 5)) rfl (ex_fieldAddr rfl Tryz.underlying45 rfl Tryz.sizeOf43 rfl) rfl (pA 1 (fracL a.y) tA43 rfl rfl rfl rfl rfl rfl (pE (v := (pP b2 0)) rfl (ex_fieldAddr rfl Tryz.underlying45 rfl Tryz.sizeOf43 rfl) rfl (pA 0 (fracL b.x) tA43 rfl rfl rfl rfl rfl rfl (OkE.imp rfl ?_))))
 have hz1 := Sz_mul a.x b.y
 refine cl Tryz.call55 (fun w hw => fMul_ok a.x b.y (by (try simp only [Sz_neg]); omega) w) rfl rfl rfl (OkE.back (sl sr) (OkE.imp rfl ?_))
 have hz2 := Sz_mul a.y b.x
 refine cl Tryz.call55 (fun w hw => fMul_ok a.y b.x (by (try simp only [Sz_neg]); omega) w) rfl rfl rfl (OkE.back (sl sr) (OkE.imp rfl ?_))
 have hz3 := Sz_sub (a.x * b.y) (a.y * b.x)
 refine cl Tryz.call31 (fun w hw => fSub_ok (a.x * b.y) (a.y * b.x) (by (try simp only [Sz_neg]); omega) w) rfl rfl rfl (OkE.back (sl sr) (OkE.imp rfl (stW0 rfl rfl rfl Tryz.sizeOf43 rfl rfl (OkE.back (sl sr) (OkE.nil ?_)))))
 exact OkQ.subF (sC 4 rfl (sN)) (OkQ.then_ (OkC.ret (ret_one rfl (rd_agg (i := 0) (cs := fracL ((a.x * b.y) - (a.y * b.x))) rfl rfl Tryz.isAgg43 Tryz.sizeOf43 rfl) (fun w hw => ⟨rfl, hw.out⟩))))
theorem pDot_ok (a b : Pt) (hs : SzP a + SzP b ≤ 68719476736) (w : World)  : Calls Tryz.prog 44 #[(aG (ptL a)), (aG (ptL b))] w (Gives w (aG (fracL (dotP a b)))) := by
 have p1 := SzP_x a
 have p2 := SzP_y a
 have p3 := SzP_x b
 have p4 := SzP_y b
 refine calls_of (args := [(aG (ptL a)), (aG (ptL b))]) Tryz.func44 rfl rfl (leB rfl) (OkC.subF (sC 0 rfl (sC 1 rfl (sN))) (q4 (bx (cs := ptL a) rfl rfl rfl fun b1 => bx (cs := ptL b) rfl rfl rfl fun b2 => al tZ43 rfl fun b3 => ?_)))
 refine q6 (sC 2 rfl (sC 3 rfl (sC 4 rfl (sN)))) (rG [(0, true), (1, true), (2, true), (3, true), (5, true), (6, true), (7, true), (8, true), (4, false), (9, false), (10, false), (11, false)] (sl sr) (by kernel_rfl) (fun _ _ d _ _ h => by cases d <;> exact h) (pE (v := (pP b1 0)) rfl (ex_fieldAddr rfl Tryz.underlying45 rfl Tryz.sizeOf43 rfl) rfl (pA 1 (fracL a.x) tA43 rfl rfl rfl rfl rfl rfl (pE (v := (pP b2 0)) rfl (ex_fieldAddr rfl Tryz.underlying45 rfl Tryz.sizeOf43 rfl) rfl (pA 0 (fracL b.x) tA43 rfl rfl rfl rfl rfl rfl ?_)))))
 refine pE (v := (pP b1 5)) rfl (ex_fieldAddr rfl Tryz.underlying45 rfl Tryz.sizeOf43 rfl) rfl (pA 1 (fracL a.y) tA43 rfl rfl rfl rfl rfl rfl (pE (v := (pP b2 5)) rfl (ex_fieldAddr rfl Tryz.underlying45 rfl Tryz.sizeOf43 rfl) rfl (pA 0 (fracL b.y) tA43 rfl rfl rfl rfl rfl rfl (OkE.imp rfl ?_))))
 have hz1 := Sz_mul a.x b.x
 refine cl Tryz.call55 (fun w hw => fMul_ok a.x b.x (by (try simp only [Sz_neg]); omega) w) rfl rfl rfl (OkE.back (sl sr) (OkE.imp rfl ?_))
 have hz2 := Sz_mul a.y b.y
 refine cl Tryz.call55 (fun w hw => fMul_ok a.y b.y (by (try simp only [Sz_neg]); omega) w) rfl rfl rfl (OkE.back (sl sr) (OkE.imp rfl ?_))
 have hz3 := Sz_add (a.x * b.x) (a.y * b.y)
 refine cl Tryz.call56 (fun w hw => fAdd_ok (a.x * b.x) (a.y * b.y) (by (try simp only [Sz_neg]); omega) w) rfl rfl rfl (OkE.back (sl sr) (OkE.imp rfl (stW0 rfl rfl rfl Tryz.sizeOf43 rfl rfl (OkE.back (sl sr) (OkE.nil ?_)))))
 exact OkQ.subF (sC 4 rfl (sN)) (OkQ.then_ (OkC.ret (ret_one rfl (rd_agg (i := 0) (cs := fracL ((a.x * b.x) + (a.y * b.y))) rfl rfl Tryz.isAgg43 Tryz.sizeOf43 rfl) (fun w hw => ⟨rfl, hw.out⟩))))
theorem pSquare_ok (a b : Pt) (hs : SzP a + SzP b ≤ 17179869184) (w : World)  : Calls Tryz.prog 21 #[(aG (ptL a)), (aG (ptL b))] w (Gives w (aG (fracL (dotP (b - a) (b - a))))) := by
 refine calls_of (args := [(aG (ptL a)), (aG (ptL b))]) Tryz.func21 rfl rfl (leB rfl) (OkC.subF (sC 0 rfl (sC 1 rfl (sN))) (q4 (bx (cs := ptL a) rfl rfl rfl fun b1 => bx (cs := ptL b) rfl rfl rfl fun b2 => al tZ43 rfl fun b3 => ?_)))
 refine q3 (sC 2 rfl (sC 3 rfl (sC 4 rfl (sN)))) (ldW 1 tA45 rfl rfl rfl rfl (ldW 2 tA45 rfl rfl rfl rfl ?_))
 have hz1 := SzP_sub b a
 refine cl Tryz.call43 (fun w hw => pSub_ok b a (by omega) w) rfl rfl rfl (al tZ45 rfl fun b4 => stW0 rfl rfl rfl Tryz.sizeOf45 rfl rfl (q3 (sC 4 rfl (sC 5 rfl (sN))) (ldW 0 tA45 rfl rfl rfl rfl (ldW 0 tA45 rfl rfl rfl rfl ?_))))
 have hz2 := Sz_dot (b - a) (b - a)
 exact cl Tryz.call44 (fun w hw => pDot_ok (b - a) (b - a) (by omega) w) rfl rfl rfl (stW1 rfl rfl rfl Tryz.sizeOf43 rfl rfl (OkL.nil (OkQ.subF (sC 4 rfl (sC 5 rfl (sN))) (OkQ.then_ (OkC.ret (ret_one rfl (rd_agg (i := 1) (cs := fracL (dotP (b - a) (b - a))) rfl rfl Tryz.isAgg43 Tryz.sizeOf43 rfl) (fun w hw => ⟨rfl, hw.out⟩)))))))
theorem pInt_ok (x y : Int) (h1 : -9223372036854775808 ≤ x) (h2 : x < 9223372036854775808) (h3 : -9223372036854775808 ≤ y) (h4 : y < 9223372036854775808) (w : World)  : Calls Tryz.prog 30 #[(vI x), (vI y)] w (Gives w (aG (ptL (⟨((x : Int) : Rat), ((y : Int) : Rat)⟩ : Pt)))) := by
 refine calls_of (args := [(vI x), (vI y)]) Tryz.func30 rfl rfl (leB rfl) (OkC.subF (sC 0 rfl (sC 1 rfl (sN))) (q4 (al tZ45 rfl fun b1 => OkL.nil (q2 ?_))))
 refine mv rfl rfl (cl Tryz.call28 (fun w hw => fInt_ok x (by omega) (by omega) w) rfl rfl rfl (mv rfl rfl (cl Tryz.call28 (fun w hw => fInt_ok y (by omega) (by omega) w) rfl rfl rfl (st (v := (aG (fracL ((x : Int) : Rat) ++ fracL ((y : Int) : Rat)))) (ex_build_struct (zs := ptL (⟨0, 0⟩ : Pt)) (vs := fracL ((x : Int) : Rat) ++ fracL ((y : Int) : Rat)) (pv := [(0, (aG (fracL ((x : Int) : Rat)))), (1, (aG (fracL ((y : Int) : Rat))))]) (places := [(0, 5), (5, 5)]) Tryz.zeroValue45 Tryz.underlying45 (fun w => by simp [Tryz.sizeOf43]) rfl (fill_numm_45_0fracL_1fracL ((x : Int) : Rat) ((y : Int) : Rat))) (leB rfl) (stW0 rfl rfl rfl Tryz.sizeOf45 rfl rfl ?_)))))
 exact OkL.nil (OkQ.subF (sC 4 rfl (sN)) (OkQ.then_ (OkC.ret (ret_one rfl (rd_agg (i := 0) (cs := fracL ((x : Int) : Rat) ++ fracL ((y : Int) : Rat)) rfl rfl Tryz.isAgg45 Tryz.sizeOf45 rfl) (fun w hw => ⟨by rw [ptL_mk], hw.out⟩)))))
end
section
set_option maxRecDepth 100000
theorem fOf_ok (x y : Int) (h1 : -9223372036854775808 ≤ x) (h2 : x < 9223372036854775808) (h3 : -9223372036854775808 ≤ y) (h4 : y < 9223372036854775808) (hy : y ≠ 0) (w : World)  : Calls Tryz.prog 10 #[(vI x), (vI y)] w (Gives w (Value.tuple #[(aG (fracL (((x : Int) : Rat) / ((y : Int) : Rat)))), (vI 0)])) := by
 have hb : ((y : Int) : Rat) ≠ 0 := fun e => hy (by exact_mod_cast e)
 have s1 := Sz_int h1 h2
 have s2 := Sz_int h3 h4
 refine calls_of (args := [(vI x), (vI y)]) Tryz.func10 rfl rfl (leB rfl) (OkC.subF (sC 0 rfl (sC 1 rfl (sN))) (q4 (al tZ43 rfl fun b1 => asg rfl rfl (OkL.nil ?_))))
 refine q2 (mv rfl rfl (cl Tryz.call28 (fun w hw => fInt_ok x (by omega) (by omega) w) rfl rfl rfl (mv rfl rfl (cl Tryz.call28 (fun w hw => fInt_ok y (by omega) (by omega) w) rfl rfl rfl ?_))))
 have hz1 := Sz_div (a := ((x : Int) : Rat)) (b := ((y : Int) : Rat)) (by assumption)
 refine cl Tryz.call27 (fun w hw => fDiv_ok ((x : Int) : Rat) ((y : Int) : Rat) (by omega) (by assumption) w) rfl rfl rfl (st (ex_extract (v := (aG (fracL (((x : Int) : Rat) / ((y : Int) : Rat))))) rfl rfl) (leB rfl) (st (ex_extract (v := (vI 0)) rfl rfl) (leB rfl) (stW0 rfl rfl rfl Tryz.sizeOf43 rfl rfl (asg rfl rfl (OkL.nil ?_)))))
 exact OkQ.subF (sC 4 rfl (sC 5 rfl (sN))) (OkQ.then_ (OkC.ret (ret_two rfl (rd_agg (i := 0) (cs := fracL (((x : Int) : Rat) / ((y : Int) : Rat))) rfl rfl Tryz.isAgg43 Tryz.sizeOf43 rfl) (rd_tmp (v := (vI 0)) rfl) (fun w hw => ⟨rfl, hw.out⟩))))
theorem phalf_ok  (w : World)  : Calls Tryz.prog 26 #[] w (Gives w (aG (fracL ((1 : Rat) / 2)))) := by
 refine calls_of (args := []) Tryz.func26 rfl rfl (leB rfl) (OkC.subF (sN) (q4 (al tZ43 rfl fun b1 => OkL.nil (q2 ?_))))
 refine cl Tryz.call10 (fun w hw => fOf_ok (1 : Int) (2 : Int) (by omega) (by omega) (by omega) (by omega) (by omega) w) rfl rfl rfl (mv rfl rfl (st (ex_extract (v := (aG (fracL (((1 : Int) : Rat) / ((2 : Int) : Rat))))) rfl rfl) (leB rfl) (OkL.retell (k := 5) (u := (aG (fracL ((1 : Rat) / 2)))) rfl (by rw [half_of]) (st (ex_extract (v := (vI 0)) rfl rfl) (leB rfl) (al tZ43 rfl fun b2 => ?_)))))
 refine stW0 rfl rfl rfl Tryz.sizeOf43 rfl rfl (asg rfl rfl (q3 (sC 0 rfl (sC 1 rfl (sN))) (ldW 0 tA43 rfl rfl rfl rfl (stW1 rfl rfl rfl Tryz.sizeOf43 rfl rfl (OkL.nil ?_)))))
 exact OkQ.subF (sC 0 rfl (sC 1 rfl (sN))) (OkQ.then_ (OkC.ret (ret_one rfl (rd_agg (i := 1) (cs := fracL ((1 : Rat) / 2)) rfl rfl Tryz.isAgg43 Tryz.sizeOf43 rfl) (fun w hw => ⟨rfl, hw.out⟩))))
theorem pMid_ok (a b : Pt) (hs : SzP a + SzP b ≤ 17179869184) (w : World)  : Calls Tryz.prog 9 #[(aG (ptL a)), (aG (ptL b))] w (Gives w (aG (ptL (scaleP (a + b) (1 / 2))))) := by
 have sh := Sz_half
 refine calls_of (args := [(aG (ptL a)), (aG (ptL b))]) Tryz.func9 rfl rfl (leB rfl) (OkC.subF (sC 0 rfl (sC 1 rfl (sN))) (q4 (bx (cs := ptL a) rfl rfl rfl fun b1 => bx (cs := ptL b) rfl rfl rfl fun b2 => al tZ45 rfl fun b3 => ?_)))
 refine q3 (sC 2 rfl (sC 3 rfl (sC 4 rfl (sN)))) (ldW 2 tA45 rfl rfl rfl rfl (ldW 1 tA45 rfl rfl rfl rfl ?_))
 have hz1 := SzP_add a b
 refine cl Tryz.call25 (fun w hw => pAdd_ok a b (by omega) w) rfl rfl rfl (cl Tryz.call26 (fun w hw => phalf_ok w) rfl rfl rfl ?_)
 have hz2 := SzP_scale (a + b) ((1 : Rat) / 2)
 exact cl Tryz.call24 (fun w hw => pScale_ok (a + b) ((1 : Rat) / 2) (by omega) w) rfl rfl rfl (stW0 rfl rfl rfl Tryz.sizeOf45 rfl rfl (OkL.nil (OkQ.subF (sC 4 rfl (sN)) (OkQ.then_ (OkC.ret (ret_one rfl (rd_agg (i := 0) (cs := ptL (scaleP (a + b) ((1 : Rat) / 2))) rfl rfl Tryz.isAgg45 Tryz.sizeOf45 rfl) (fun w hw => ⟨rfl, hw.out⟩)))))))
theorem twice_ok (a b c : Pt) (hs : SzP a + SzP b + SzP c ≤ 8589934592) (w : World)  : Calls Tryz.prog 71 #[(aG (ptL a)), (aG (ptL b)), (aG (ptL c))] w (Gives w (aG (fracL (turnP a b c)))) := by
 refine calls_of (args := [(aG (ptL a)), (aG (ptL b)), (aG (ptL c))]) Tryz.func71 rfl rfl (leB rfl) (OkC.subF (sC 0 rfl (sC 1 rfl (sC 2 rfl (sN)))) (q4 (bx (cs := ptL a) rfl rfl rfl fun b1 => bx (cs := ptL b) rfl rfl rfl fun b2 => bx (cs := ptL c) rfl rfl rfl fun b3 => ?_)))
 refine al tZ43 rfl fun b4 => q6 (sC 3 rfl (sC 4 rfl (sC 5 rfl (sC 6 rfl (sN))))) (rG [(0, true), (1, true), (3, true), (4, true), (2, false), (5, false), (6, false), (7, false)] (sl sr) (by kernel_rfl) (fun _ _ d _ _ h => by cases d <;> exact h) (pW 1 tA45 rfl rfl rfl rfl rfl (pW 2 tA45 rfl rfl rfl rfl rfl (pW 0 tA45 rfl rfl rfl rfl rfl ?_))))
 refine pW 2 tA45 rfl rfl rfl rfl rfl (OkE.imp rfl ?_)
 have hz1 := SzP_sub b a
 refine cl Tryz.call43 (fun w hw => pSub_ok b a (by omega) w) rfl rfl rfl (OkE.back (sl sr) (OkE.imp rfl ?_))
 have hz2 := SzP_sub c a
 refine cl Tryz.call43 (fun w hw => pSub_ok c a (by omega) w) rfl rfl rfl (OkE.back (sl sr) (OkE.imp rfl ?_))
 have hz3 := Sz_cross (b - a) (c - a)
 refine cl Tryz.call100 (fun w hw => pCross_ok (b - a) (c - a) (by omega) w) rfl rfl rfl (OkE.back (sl sr) (OkE.imp rfl (stW0 rfl rfl rfl Tryz.sizeOf43 rfl rfl (OkE.back (sl sr) (OkE.nil ?_)))))
 exact OkQ.subF (sC 6 rfl (sN)) (OkQ.then_ (OkC.ret (ret_one rfl (rd_agg (i := 0) (cs := fracL (crossP (b - a) (c - a))) rfl rfl Tryz.isAgg43 Tryz.sizeOf43 rfl) (fun w hw => ⟨rfl, hw.out⟩))))
end
end Go.Proofs.YtmjbiebmgffleaaGreatDoor
