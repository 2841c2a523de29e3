import Derived.Test.YtnofgcpajmldkaaGreatDoorPart05
import Derived.Test.YtnofgcpajmldkaaGreatDoorPart18
import Derived.Test.YtnofgcpajmldkaaGreatDoorPart19
namespace Go.Proofs.YtnofgcpajmldkaaGreatDoor
open Go Go.RowKit
set_option linter.unusedVariables false
set_option linter.unusedSimpArgs false
section
instance : Add Pt := ⟨fun a b => ⟨a.x + b.x, a.y + b.y⟩⟩
instance : Sub Pt := ⟨fun a b => ⟨a.x - b.x, a.y - b.y⟩⟩
def scaleP (a : Pt) (k : Rat) : Pt := ⟨a.x * k, a.y * k⟩
def crossP (a b : Pt) : Rat := a.x * b.y - a.y * b.x
def turnP (a b c : Pt) : Rat := crossP (b - a) (c - a)
def SzP (p : Pt) : Nat := max (Sz p.x) (Sz p.y)
theorem SzP_x (p : Pt) : Sz p.x ≤ SzP p := Nat.le_max_left ..
theorem SzP_y (p : Pt) : Sz p.y ≤ SzP p := Nat.le_max_right ..
theorem SzP_le {p : Pt} {k : Nat} (h1 : Sz p.x ≤ k) (h2 : Sz p.y ≤ k) : SzP p ≤ k := Nat.max_le.2 ⟨h1, h2⟩
theorem SzP_add (a b : Pt) : SzP (a + b) ≤ SzP a + SzP b + 1 := by
  have h1 := SzP_x a; have h2 := SzP_y a; have h3 := SzP_x b; have h4 := SzP_y b
  refine SzP_le ?_ ?_
  · exact Nat.le_trans (Sz_add a.x b.x) (by omega)
  · exact Nat.le_trans (Sz_add a.y b.y) (by omega)
theorem SzP_sub (a b : Pt) : SzP (a - b) ≤ SzP a + SzP b + 1 := by
  have h1 := SzP_x a; have h2 := SzP_y a; have h3 := SzP_x b; have h4 := SzP_y b
  refine SzP_le ?_ ?_
  · exact Nat.le_trans (Sz_sub a.x b.x) (by omega)
  · exact Nat.le_trans (Sz_sub a.y b.y) (by omega)
theorem SzP_scale (a : Pt) (k : Rat) : SzP (scaleP a k) ≤ SzP a + Sz k := by
  have h1 := SzP_x a; have h2 := SzP_y a
  refine SzP_le ?_ ?_
  · exact Nat.le_trans (Sz_mul a.x k) (by omega)
  · exact Nat.le_trans (Sz_mul a.y k) (by omega)
theorem Sz_cross (a b : Pt) : Sz (crossP a b) ≤ 2 * SzP a + 2 * SzP b + 1 := by
  have h1 := SzP_x a; have h2 := SzP_y a; have h3 := SzP_x b; have h4 := SzP_y b
  have h5 := Sz_mul a.x b.y; have h6 := Sz_mul a.y b.x
  exact Nat.le_trans (Sz_sub _ _) (by omega)
theorem Sz_turn (a b c : Pt) : Sz (turnP a b c) ≤ 4 * SzP a + 2 * SzP b + 2 * SzP c + 5 := by
  have h1 := SzP_sub b a; have h2 := SzP_sub c a
  exact Nat.le_trans (Sz_cross _ _) (by omega)
theorem Sz_int {z : Int} (h1 : -9223372036854775808 ≤ z) (h2 : z < 9223372036854775808) : Sz ((z : Int) : Rat) ≤ 2 := Sz_le (nw_small (by show z.natAbs < _; omega)) (by show nw 1 ≤ 2; rw [nw_one]; omega)
theorem ptL_add (a b : Pt) : ptL (a + b) = fracL (a.x + b.x) ++ fracL (a.y + b.y) := rfl
theorem ptL_sub (a b : Pt) : ptL (a - b) = fracL (a.x - b.x) ++ fracL (a.y - b.y) := rfl
theorem ptL_scale (a : Pt) (k : Rat) : ptL (scaleP a k) = fracL (a.x * k) ++ fracL (a.y * k) := rfl
theorem ptL_mk (x y : Rat) : ptL ⟨x, y⟩ = fracL x ++ fracL y := rfl
section
variable {P : Program} {Q : Exit → Act → World → Prop} {n : Nat} {F : List (Nat × Value)} {w0 : Base} {L : List As} {c : Code}
def OkR (P : Program) (c : Code) (Q : Exit → Act → World → Prop) (k n : Nat) (F : List (Nat × Value)) (w0 : Base) (L : List As) : Prop := ∀ a w, Frm n a F → Own w0 w L → Code.rounds P c Q k a w
theorem OkC.unroll (k : Nat) (h : OkR P c Q k n F w0 L) : OkC P (.loop c) Q n F w0 L := fun a w ha hw => wp_loop_rounds k (h a w ha hw)
theorem OkR.step {k : Nat} (h : OkC P c (Exit.then (Code.rounds P c Q k) Q) n F w0 L) : OkR P c Q (k + 1) n F w0 L := fun a w ha hw => by
  rw [rounds_succ]; exact h a w ha hw
theorem OkQ.again {k : Nat} (h : OkR P c Q k n F w0 L) : OkQ (Exit.then (Code.rounds P c Q k) Q) .normal n F w0 L := h
end
end
section
set_option maxRecDepth 100000
theorem fill_numm_49_0fracL_1fracL (x0 : Rat) (x1 : Rat) : Instr.fill ([(0, 5), (5, 5)].toArray[·]?) (ptL (⟨0, 0⟩ : Pt)).toArray [(0, .agg (fracL x0).toArray), (1, .agg (fracL x1).toArray)] = some (fracL x0 ++ fracL x1).toArray := by kernel_rfl
theorem both_add_ok (a b : Pt) (hs : SzP a + SzP b ≤ 68719476736) (w : World)  : Calls Tryz.prog 49 #[(aG (ptL a)), (aG (ptL b)), (Value.func (.func 21) #[] #[])] w (Gives w (aG (ptL (a + b)))) := by
 have p1 := SzP_x a
 have p2 := SzP_y a
 have p3 := SzP_x b
 have p4 := SzP_y b
 refine calls_of (args := [(aG (ptL a)), (aG (ptL b)), (Value.func (.func 21) #[] #[])]) Tryz.func49 rfl rfl (leB rfl) (OkC.subF (sL [0, 1, 2] rfl) (q4 (bx' (cs := ptL a) rfl fun b1 => bx' (cs := ptL b) rfl fun b2 => al tZ49 rfl fun b3 => ?_)))
 refine q6 (sL [2, 3, 4, 6] rfl) (rG' [(0, true), (1, true), (2, true), (3, true), (4, true), (6, true), (7, true), (8, true), (9, true), (10, true), (5, false), (11, false), (12, true), (13, false)] (sl sr) (pM' rfl (pE' (v := (pP b1 0)) rfl (ex_fieldAddr rfl Tryz.underlying49 rfl Tryz.sizeOf47 rfl) (pA' 1 (fracL a.x) tA47 rfl (pE' (v := (pP b2 0)) rfl (ex_fieldAddr rfl Tryz.underlying49 rfl Tryz.sizeOf47 rfl) ?_)))))
 refine pA' 0 (fracL b.x) tA47 rfl (pM' rfl (pE' (v := (pP b1 5)) rfl (ex_fieldAddr rfl Tryz.underlying49 rfl Tryz.sizeOf47 rfl) (pA' 1 (fracL a.y) tA47 rfl (pE' (v := (pP b2 5)) rfl (ex_fieldAddr rfl Tryz.underlying49 rfl Tryz.sizeOf47 rfl) (pA' 0 (fracL b.y) tA47 rfl ?_)))))
 refine OkE.imp rfl ?_
 have hz1 := Sz_add a.x b.x
 refine ck' Tryz.call21 (fAdd_ok a.x b.x (by (try simp only [Sz_neg]); omega)) rfl (OkE.back (sl sr) (OkE.imp rfl ?_))
 have hz2 := Sz_add a.y b.y
 refine ck' Tryz.call21 (fAdd_ok a.y b.y (by (try simp only [Sz_neg]); omega)) rfl (OkE.back (sl sr) (pE' (v := (aG (fracL (a.x + b.x) ++ fracL (a.y + b.y)))) rfl (ex_build_struct (zs := ptL (⟨0, 0⟩ : Pt)) (vs := fracL (a.x + b.x) ++ fracL (a.y + b.y)) (pv := [(0, (aG (fracL (a.x + b.x)))), (1, (aG (fracL (a.y + b.y))))]) (places := [(0, 5), (5, 5)]) Tryz.zeroValue49 Tryz.underlying49 (fun w => by simp [Tryz.sizeOf47]) rfl (fill_numm_49_0fracL_1fracL (a.x + b.x) (a.y + b.y))) (OkE.imp rfl (stW0' rfl Tryz.sizeOf49 rfl (OkE.back (sl sr) ?_)))))
 exact OkE.nil (OkQ.subF (sL [6] rfl) (OkQ.then_ (OkC.ret (ret_one rfl (rd_agg (i := 0) (cs := fracL (a.x + b.x) ++ fracL (a.y + b.y)) rfl rfl Tryz.isAgg49 Tryz.sizeOf49 rfl) (fun w hw => ⟨by rw [ptL_add], hw.out⟩)))))
theorem both_sub_ok (a b : Pt) (hs : SzP a + SzP b ≤ 68719476736) (w : World)  : Calls Tryz.prog 49 #[(aG (ptL a)), (aG (ptL b)), (Value.func (.func 36) #[] #[])] w (Gives w (aG (ptL (a - b)))) := by
 have p1 := SzP_x a
 have p2 := SzP_y a
 have p3 := SzP_x b
 have p4 := SzP_y b
 refine calls_of (args := [(aG (ptL a)), (aG (ptL b)), (Value.func (.func 36) #[] #[])]) Tryz.func49 rfl rfl (leB rfl) (OkC.subF (sL [0, 1, 2] rfl) (q4 (bx' (cs := ptL a) rfl fun b1 => bx' (cs := ptL b) rfl fun b2 => al tZ49 rfl fun b3 => ?_)))
 refine q6 (sL [2, 3, 4, 6] rfl) (rG' [(0, true), (1, true), (2, true), (3, true), (4, true), (6, true), (7, true), (8, true), (9, true), (10, true), (5, false), (11, false), (12, true), (13, false)] (sl sr) (pM' rfl (pE' (v := (pP b1 0)) rfl (ex_fieldAddr rfl Tryz.underlying49 rfl Tryz.sizeOf47 rfl) (pA' 1 (fracL a.x) tA47 rfl (pE' (v := (pP b2 0)) rfl (ex_fieldAddr rfl Tryz.underlying49 rfl Tryz.sizeOf47 rfl) ?_)))))
 refine pA' 0 (fracL b.x) tA47 rfl (pM' rfl (pE' (v := (pP b1 5)) rfl (ex_fieldAddr rfl Tryz.underlying49 rfl Tryz.sizeOf47 rfl) (pA' 1 (fracL a.y) tA47 rfl (pE' (v := (pP b2 5)) rfl (ex_fieldAddr rfl Tryz.underlying49 rfl Tryz.sizeOf47 rfl) (pA' 0 (fracL b.y) tA47 rfl ?_)))))
 refine OkE.imp rfl ?_
 have hz1 := Sz_sub a.x b.x
 refine ck' Tryz.call36 (fSub_ok a.x b.x (by (try simp only [Sz_neg]); omega)) rfl (OkE.back (sl sr) (OkE.imp rfl ?_))
 have hz2 := Sz_sub a.y b.y
 refine ck' Tryz.call36 (fSub_ok a.y b.y (by (try simp only [Sz_neg]); omega)) rfl (OkE.back (sl sr) (pE' (v := (aG (fracL (a.x - b.x) ++ fracL (a.y - b.y)))) rfl (ex_build_struct (zs := ptL (⟨0, 0⟩ : Pt)) (vs := fracL (a.x - b.x) ++ fracL (a.y - b.y)) (pv := [(0, (aG (fracL (a.x - b.x)))), (1, (aG (fracL (a.y - b.y))))]) (places := [(0, 5), (5, 5)]) Tryz.zeroValue49 Tryz.underlying49 (fun w => by simp [Tryz.sizeOf47]) rfl (fill_numm_49_0fracL_1fracL (a.x - b.x) (a.y - b.y))) (OkE.imp rfl (stW0' rfl Tryz.sizeOf49 rfl (OkE.back (sl sr) ?_)))))
 exact OkE.nil (OkQ.subF (sL [6] rfl) (OkQ.then_ (OkC.ret (ret_one rfl (rd_agg (i := 0) (cs := fracL (a.x - b.x) ++ fracL (a.y - b.y)) rfl rfl Tryz.isAgg49 Tryz.sizeOf49 rfl) (fun w hw => ⟨by rw [ptL_sub], hw.out⟩)))))
theorem scale1_ok (x y k : Rat) (bk : Nat) (hs : Sz x + Sz k ≤ 137438953472) (w : World) (hk : w.heap[bk]? = some (.cells (fracL k).toArray 47 (0, 0))) : Calls Tryz.prog 50 #[(aG (fracL x)), (aG (fracL y)), (pP bk 0)] w (Gives w (aG (fracL (x * k)))) := by
 refine calls_of (args := [(aG (fracL x)), (aG (fracL y)), (pP bk 0)]) Tryz.func50 rfl rfl (leB rfl) (OkC.subF (sL [0, 1, 2] rfl) (q4 (bx' (cs := fracL x) rfl fun b1 => bx' (cs := fracL y) rfl fun b2 => al tZ47 rfl fun b3 => ?_)))
 refine q3 (sL [2, 3, 5] rfl) (ldW' 2 tA47 rfl (st' (v := (aG (fracL k))) (ex_load_agg_at (vs := fracL k) rfl (fun w' hw => hw.oldCA (by simp) (ca_blk hk)) Tryz.isAgg47 Tryz.sizeOf47 rfl) rfl ?_))
 have hz1 := Sz_mul x k
 exact ck' Tryz.call20 (fMul_ok x k (by (try simp only [Sz_neg]); omega)) rfl (stW0' rfl Tryz.sizeOf47 rfl (OkL.nil (OkQ.subF (sL [5] rfl) (OkQ.then_ (OkC.ret (ret_one rfl (rd_agg (i := 0) (cs := fracL (x * k)) rfl rfl Tryz.isAgg47 Tryz.sizeOf47 rfl) (fun w hw => ⟨rfl, hw.out⟩)))))))
theorem both_scale_ok (a : Pt) (k : Rat) (bk : Nat) (hs : SzP a + Sz k ≤ 137438953472) (w : World) (hk : w.heap[bk]? = some (.cells (fracL k).toArray 47 (0, 0))) : Calls Tryz.prog 49 #[(aG (ptL a)), (aG (ptL a)), (Value.func (.func 50) #[] #[(pP bk 0)])] w (Gives w (aG (ptL (scaleP a k)))) := by
 have p1 := SzP_x a
 have p2 := SzP_y a
 refine calls_of (args := [(aG (ptL a)), (aG (ptL a)), (Value.func (.func 50) #[] #[(pP bk 0)])]) Tryz.func49 rfl rfl (leB rfl) (OkC.subF (sL [0, 1, 2] rfl) (q4 (bx' (cs := ptL a) rfl fun b1 => bx' (cs := ptL a) rfl fun b2 => al tZ49 rfl fun b3 => ?_)))
 refine q6 (sL [2, 3, 4, 6] rfl) (rG' [(0, true), (1, true), (2, true), (3, true), (4, true), (6, true), (7, true), (8, true), (9, true), (10, true), (5, false), (11, false), (12, true), (13, false)] (sl sr) (pM' rfl (pE' (v := (pP b1 0)) rfl (ex_fieldAddr rfl Tryz.underlying49 rfl Tryz.sizeOf47 rfl) (pA' 1 (fracL a.x) tA47 rfl (pE' (v := (pP b2 0)) rfl (ex_fieldAddr rfl Tryz.underlying49 rfl Tryz.sizeOf47 rfl) ?_)))))
 refine pA' 0 (fracL a.x) tA47 rfl (pM' rfl (pE' (v := (pP b1 5)) rfl (ex_fieldAddr rfl Tryz.underlying49 rfl Tryz.sizeOf47 rfl) (pA' 1 (fracL a.y) tA47 rfl (pE' (v := (pP b2 5)) rfl (ex_fieldAddr rfl Tryz.underlying49 rfl Tryz.sizeOf47 rfl) (pA' 0 (fracL a.y) tA47 rfl ?_)))))
 refine OkE.imp rfl (OkL.call (v := (aG (fracL (a.x * k)))) (wt_none rfl) (op_call (args := [(aG (fracL a.x)), (aG (fracL a.x))]) (caps := [(pP bk 0)]) (all := [(aG (fracL a.x)), (aG (fracL a.x)), (pP bk 0)]) rfl rfl rfl Tryz.call50) (fun w hw => scale1_ok a.x a.x k bk (by omega) w (hw.old (by simp) hk)) rfl (leB rfl) (OkE.back (sl sr) (OkE.imp rfl (OkL.call (v := (aG (fracL (a.y * k)))) (wt_none rfl) (op_call (args := [(aG (fracL a.y)), (aG (fracL a.y))]) (caps := [(pP bk 0)]) (all := [(aG (fracL a.y)), (aG (fracL a.y)), (pP bk 0)]) rfl rfl rfl Tryz.call50) (fun w hw => scale1_ok a.y a.y k bk (by omega) w (hw.old (by simp) hk)) rfl (leB rfl) (OkE.back (sl sr) ?_)))))
 refine pE' (v := (aG (fracL (a.x * k) ++ fracL (a.y * k)))) rfl (ex_build_struct (zs := ptL (⟨0, 0⟩ : Pt)) (vs := fracL (a.x * k) ++ fracL (a.y * k)) (pv := [(0, (aG (fracL (a.x * k)))), (1, (aG (fracL (a.y * k))))]) (places := [(0, 5), (5, 5)]) Tryz.zeroValue49 Tryz.underlying49 (fun w => by simp [Tryz.sizeOf47]) rfl (fill_numm_49_0fracL_1fracL (a.x * k) (a.y * k))) (OkE.imp rfl (stW0' rfl Tryz.sizeOf49 rfl (OkE.back (sl sr) (OkE.nil (OkQ.subF (sL [6] rfl) ?_)))))
 exact OkQ.then_ (OkC.ret (ret_one rfl (rd_agg (i := 0) (cs := fracL (a.x * k) ++ fracL (a.y * k)) rfl rfl Tryz.isAgg49 Tryz.sizeOf49 rfl) (fun w hw => ⟨by rw [ptL_scale], hw.out⟩)))
theorem pAdd_ok (a b : Pt) (hs : SzP a + SzP b ≤ 68719476736) (w : World)  : Calls Tryz.prog 17 #[(aG (ptL a)), (aG (ptL b))] w (Gives w (aG (ptL (a + b)))) := by
 refine calls_of (args := [(aG (ptL a)), (aG (ptL b))]) Tryz.func17 rfl rfl (leB rfl) (OkC.subF (sL [0, 1] rfl) (q4 (bx' (cs := ptL a) rfl fun b1 => bx' (cs := ptL b) rfl fun b2 => al tZ49 rfl fun b3 => ?_)))
 refine q3 (sL [2, 3, 4] rfl) (ldW' 2 tA49 rfl (ldW' 1 tA49 rfl (ck' Tryz.call49 (both_add_ok a b (by omega)) rfl (stW0' rfl Tryz.sizeOf49 rfl (OkL.nil ?_)))))
 exact OkQ.subF (sL [4] rfl) (OkQ.then_ (OkC.ret (ret_one rfl (rd_agg (i := 0) (cs := ptL (a + b)) rfl rfl Tryz.isAgg49 Tryz.sizeOf49 rfl) (fun w hw => ⟨rfl, hw.out⟩))))
theorem pSub_ok (a b : Pt) (hs : SzP a + SzP b ≤ 68719476736) (w : World)  : Calls Tryz.prog 19 #[(aG (ptL a)), (aG (ptL b))] w (Gives w (aG (ptL (a - b)))) := by
 refine calls_of (args := [(aG (ptL a)), (aG (ptL b))]) Tryz.func19 rfl rfl (leB rfl) (OkC.subF (sL [0, 1] rfl) (q4 (bx' (cs := ptL a) rfl fun b1 => bx' (cs := ptL b) rfl fun b2 => al tZ49 rfl fun b3 => ?_)))
 refine q3 (sL [2, 3, 4] rfl) (ldW' 2 tA49 rfl (ldW' 1 tA49 rfl (ck' Tryz.call49 (both_sub_ok a b (by omega)) rfl (stW0' rfl Tryz.sizeOf49 rfl (OkL.nil ?_)))))
 exact OkQ.subF (sL [4] rfl) (OkQ.then_ (OkC.ret (ret_one rfl (rd_agg (i := 0) (cs := ptL (a - b)) rfl rfl Tryz.isAgg49 Tryz.sizeOf49 rfl) (fun w hw => ⟨rfl, hw.out⟩))))
theorem pScale_ok (a : Pt) (k : Rat) (hs : SzP a + Sz k ≤ 137438953472) (w : World)  : Calls Tryz.prog 18 #[(aG (ptL a)), (aG (fracL k))] w (Gives w (aG (ptL (scaleP a k)))) := by
 refine calls_of (args := [(aG (ptL a)), (aG (fracL k))]) Tryz.func18 rfl rfl (leB rfl) (OkC.subF (sL [0, 1] rfl) (q4 (bx' (cs := ptL a) rfl fun b1 => bx' (cs := fracL k) rfl fun b2 => al tZ49 rfl fun b3 => ?_)))
 refine q3 (sL [2, 3, 4] rfl) (ldW' 2 tA49 rfl (ldW' 2 tA49 rfl (st' (v := (Value.func (.func 50) #[] #[(pP b2 0)])) (ex_makeFunc (vs := []) (us := [(pP b2 0)]) rfl rfl) rfl (cl' Tryz.call49 (fun w hw => both_scale_ok a k b2 (by omega) w (hw.get (i := 1) rfl)) rfl (stW0' rfl Tryz.sizeOf49 rfl ?_)))))
 exact OkL.nil (OkQ.subF (sL [4] rfl) (OkQ.then_ (OkC.ret (ret_one rfl (rd_agg (i := 0) (cs := ptL (scaleP a k)) rfl rfl Tryz.isAgg49 Tryz.sizeOf49 rfl) (fun w hw => ⟨rfl, hw.out⟩)))))
theorem pCross_ok (a b : Pt) (hs : SzP a + SzP b ≤ 68719476736) (w : World)  : Calls Tryz.prog 34 #[(aG (ptL a)), (aG (ptL b))] w (Gives w (aG (fracL (crossP a b)))) := by
 have p1 := SzP_x a
 have p2 := SzP_y a
 have p3 := SzP_x b
 have p4 := SzP_y b
 refine calls_of (args := [(aG (ptL a)), (aG (ptL b))]) Tryz.func34 rfl rfl (leB rfl) (OkC.subF (sL [0, 1] rfl) (q4 (bx' (cs := ptL a) rfl fun b1 => bx' (cs := ptL b) rfl fun b2 => al tZ47 rfl fun b3 => ?_)))
 refine q6 (sL [2, 3, 4] rfl) (rG' [(0, true), (1, true), (2, true), (3, true), (5, true), (6, true), (7, true), (8, true), (4, false), (9, false), (10, false), (11, false)] (sl sr) (pE' (v := (pP b1 0)) rfl (ex_fieldAddr rfl Tryz.underlying49 rfl Tryz.sizeOf47 rfl) (pA' 1 (fracL a.x) tA47 rfl (pE' (v := (pP b2 5)) rfl (ex_fieldAddr rfl Tryz.underlying49 rfl Tryz.sizeOf47 rfl) (pA' 0 (fracL b.y) tA47 rfl ?_)))))
 refine pE' (v := (pP b1 5)) rfl (ex_fieldAddr rfl Tryz.underlying49 rfl Tryz.sizeOf47 rfl) (pA' 1 (fracL a.y) tA47 rfl (pE' (v := (pP b2 0)) rfl (ex_fieldAddr rfl Tryz.underlying49 rfl Tryz.sizeOf47 rfl) (pA' 0 (fracL b.x) tA47 rfl (OkE.imp rfl ?_))))
 have hz1 := Sz_mul a.x b.y
 refine ck' Tryz.call20 (fMul_ok a.x b.y (by (try simp only [Sz_neg]); omega)) rfl (OkE.back (sl sr) (OkE.imp rfl ?_))
 have hz2 := Sz_mul a.y b.x
 refine ck' Tryz.call20 (fMul_ok a.y b.x (by (try simp only [Sz_neg]); omega)) rfl (OkE.back (sl sr) (OkE.imp rfl ?_))
 have hz3 := Sz_sub (a.x * b.y) (a.y * b.x)
 refine ck' Tryz.call36 (fSub_ok (a.x * b.y) (a.y * b.x) (by (try simp only [Sz_neg]); omega)) rfl (OkE.back (sl sr) (OkE.imp rfl (stW0' rfl Tryz.sizeOf47 rfl (OkE.back (sl sr) (OkE.nil ?_)))))
 exact OkQ.subF (sL [4] rfl) (OkQ.then_ (OkC.ret (ret_one rfl (rd_agg (i := 0) (cs := fracL ((a.x * b.y) - (a.y * b.x))) rfl rfl Tryz.isAgg47 Tryz.sizeOf47 rfl) (fun w hw => ⟨rfl, hw.out⟩))))
theorem pTurn_ok (a b c : Pt) (hs : SzP a + SzP b + SzP c ≤ 17179869184) (w : World)  : Calls Tryz.prog 31 #[(aG (ptL a)), (aG (ptL b)), (aG (ptL c))] w (Gives w (vI ((turnP a b c).num.sign))) := by
 refine calls_of (args := [(aG (ptL a)), (aG (ptL b)), (aG (ptL c))]) Tryz.func31 rfl rfl (leB rfl) (OkC.subF (sL [0, 1, 2] rfl) (q4 (bx' (cs := ptL a) rfl fun b1 => bx' (cs := ptL b) rfl fun b2 => bx' (cs := ptL c) rfl fun b3 => ?_)))
 refine asg' rfl (q6 (sL [3, 4, 5, 6] rfl) (rG' [(0, true), (1, true), (3, true), (4, true), (2, false), (5, false), (6, false), (7, false), (8, true)] sr (pW' 1 tA49 rfl (pW' 2 tA49 rfl (pW' 0 tA49 rfl ?_)))))
 refine pW' 2 tA49 rfl (OkE.imp rfl ?_)
 have hz1 := SzP_sub b a
 refine ck' Tryz.call19 (pSub_ok b a (by omega)) rfl (OkE.back sr (OkE.imp rfl ?_))
 have hz2 := SzP_sub c a
 refine ck' Tryz.call19 (pSub_ok c a (by omega)) rfl (OkE.back sr (OkE.imp rfl ?_))
 have hz3 := Sz_cross (b - a) (c - a)
 refine ck' Tryz.call34 (pCross_ok (b - a) (c - a) (by omega)) rfl (OkE.back sr (OkE.imp rfl (ck' Tryz.call47 (fSign_ok (crossP (b - a) (c - a))) rfl (OkE.back sr (pS' rfl ?_)))))
 exact OkE.nil (OkQ.subF (sL [6] rfl) (OkQ.then_ (OkC.ret (ret_one rfl (rd_tmp (v := (vI ((crossP (b - a) (c - a)).num.sign))) rfl) (fun w hw => ⟨rfl, hw.out⟩)))))
theorem pInt_ok (x y : Int) (h1 : -9223372036854775808 ≤ x) (h2 : x < 9223372036854775808) (h3 : -9223372036854775808 ≤ y) (h4 : y < 9223372036854775808) (w : World)  : Calls Tryz.prog 35 #[(vI x), (vI y)] w (Gives w (aG (ptL (⟨((x : Int) : Rat), ((y : Int) : Rat)⟩ : Pt)))) := by
 refine calls_of (args := [(vI x), (vI y)]) Tryz.func35 rfl rfl (leB rfl) (OkC.subF (sL [0, 1] rfl) (q4 (al tZ49 rfl fun b1 => OkL.nil (q2 ?_))))
 refine mv' rfl (ck' Tryz.call11 (fInt_ok x (by omega) (by omega)) rfl (mv' rfl (ck' Tryz.call11 (fInt_ok y (by omega) (by omega)) rfl (st' (v := (aG (fracL ((x : Int) : Rat) ++ fracL ((y : Int) : Rat)))) (ex_build_struct (zs := ptL (⟨0, 0⟩ : Pt)) (vs := fracL ((x : Int) : Rat) ++ fracL ((y : Int) : Rat)) (pv := [(0, (aG (fracL ((x : Int) : Rat)))), (1, (aG (fracL ((y : Int) : Rat))))]) (places := [(0, 5), (5, 5)]) Tryz.zeroValue49 Tryz.underlying49 (fun w => by simp [Tryz.sizeOf47]) rfl (fill_numm_49_0fracL_1fracL ((x : Int) : Rat) ((y : Int) : Rat))) rfl (stW0' rfl Tryz.sizeOf49 rfl ?_)))))
 exact OkL.nil (OkQ.subF (sL [4] rfl) (OkQ.then_ (OkC.ret (ret_one rfl (rd_agg (i := 0) (cs := fracL ((x : Int) : Rat) ++ fracL ((y : Int) : Rat)) rfl rfl Tryz.isAgg49 Tryz.sizeOf49 rfl) (fun w hw => ⟨by rw [ptL_mk], hw.out⟩)))))
end
section
set_option maxRecDepth 100000
theorem fOf_ok (x y : Int) (h1 : -9223372036854775808 ≤ x) (h2 : x < 9223372036854775808) (h3 : -9223372036854775808 ≤ y) (h4 : y < 9223372036854775808) (hy : y ≠ 0) (w : World)  : Calls Tryz.prog 14 #[(vI x), (vI y)] w (Gives w (Value.tuple #[(aG (fracL (((x : Int) : Rat) / ((y : Int) : Rat)))), (vI 0)])) := by
 have hb : ((y : Int) : Rat) ≠ 0 := fun e => hy (by exact_mod_cast e)
 have s1 := Sz_int h1 h2
 have s2 := Sz_int h3 h4
 refine calls_of (args := [(vI x), (vI y)]) Tryz.func14 rfl rfl (leB rfl) (OkC.subF (sL [0, 1] rfl) (q4 (al tZ47 rfl fun b1 => asg' rfl (OkL.nil ?_))))
 refine q2 (mv' rfl (ck' Tryz.call11 (fInt_ok x (by omega) (by omega)) rfl (mv' rfl (ck' Tryz.call11 (fInt_ok y (by omega) (by omega)) rfl ?_))))
 have hz1 := Sz_div (a := ((x : Int) : Rat)) (b := ((y : Int) : Rat)) (by assumption)
 refine ck' Tryz.call33 (fDiv_ok ((x : Int) : Rat) ((y : Int) : Rat) (by omega) (by assumption)) rfl (st' (ex_extract (v := (aG (fracL (((x : Int) : Rat) / ((y : Int) : Rat))))) rfl rfl) rfl (st' (ex_extract (v := (vI 0)) rfl rfl) rfl (stW0' rfl Tryz.sizeOf47 rfl (asg' rfl (OkL.nil ?_)))))
 exact OkQ.subF (sL [4, 5] rfl) (OkQ.then_ (OkC.ret (ret_two rfl (rd_agg (i := 0) (cs := fracL (((x : Int) : Rat) / ((y : Int) : Rat))) rfl rfl Tryz.isAgg47 Tryz.sizeOf47 rfl) (rd_tmp (v := (vI 0)) rfl) (fun w hw => ⟨rfl, hw.out⟩))))
theorem twice_ok (a b c : Pt) (hs : SzP a + SzP b + SzP c ≤ 8589934592) (w : World)  : Calls Tryz.prog 75 #[(aG (ptL a)), (aG (ptL b)), (aG (ptL c))] w (Gives w (aG (fracL (turnP a b c)))) := by
 refine calls_of (args := [(aG (ptL a)), (aG (ptL b)), (aG (ptL c))]) Tryz.func75 rfl rfl (leB rfl) (OkC.subF (sL [0, 1, 2] rfl) (q4 (bx' (cs := ptL a) rfl fun b1 => bx' (cs := ptL b) rfl fun b2 => bx' (cs := ptL c) rfl fun b3 => ?_)))
 refine al tZ47 rfl fun b4 => q6 (sL [3, 4, 5, 6] rfl) (rG' [(0, true), (1, true), (3, true), (4, true), (2, false), (5, false), (6, false), (7, false)] (sl sr) (pW' 1 tA49 rfl (pW' 2 tA49 rfl (pW' 0 tA49 rfl ?_))))
 refine pW' 2 tA49 rfl (OkE.imp rfl ?_)
 have hz1 := SzP_sub b a
 refine ck' Tryz.call19 (pSub_ok b a (by omega)) rfl (OkE.back (sl sr) (OkE.imp rfl ?_))
 have hz2 := SzP_sub c a
 refine ck' Tryz.call19 (pSub_ok c a (by omega)) rfl (OkE.back (sl sr) (OkE.imp rfl ?_))
 have hz3 := Sz_cross (b - a) (c - a)
 refine ck' Tryz.call34 (pCross_ok (b - a) (c - a) (by omega)) rfl (OkE.back (sl sr) (OkE.imp rfl (stW0' rfl Tryz.sizeOf47 rfl (OkE.back (sl sr) (OkE.nil ?_)))))
 exact OkQ.subF (sL [6] rfl) (OkQ.then_ (OkC.ret (ret_one rfl (rd_agg (i := 0) (cs := fracL (crossP (b - a) (c - a))) rfl rfl Tryz.isAgg47 Tryz.sizeOf47 rfl) (fun w hw => ⟨rfl, hw.out⟩))))
end
section
set_option maxRecDepth 100000
theorem fill_numo_114_0fracL_1fracL_2fracL (x0 : Rat) (x1 : Rat) (x2 : Rat) : Instr.fill (fun i => some (i * 5, 5)) (fracL (0 : Rat) ++ fracL (0 : Rat) ++ fracL (0 : Rat)).toArray [(0, .agg (fracL x0).toArray), (1, .agg (fracL x1).toArray), (2, .agg (fracL x2).toArray)] = some (fracL x0 ++ fracL x1 ++ fracL x2).toArray := by kernel_rfl
theorem Bary_ok (a b c p : Pt) (hs : SzP a + SzP b + SzP c + SzP p ≤ 268435456) (h : turnP a b c ≠ 0) (w : World)  : Calls Tryz.prog 45 #[(aG (ptL a)), (aG (ptL b)), (aG (ptL c)), (aG (ptL p))] w (Gives w (Value.tuple #[(aG (fracL (turnP p b c / turnP a b c) ++ fracL (turnP a p c / turnP a b c) ++ fracL (turnP a b p / turnP a b c))), (vI 0)])) := by
 refine calls_of (args := [(aG (ptL a)), (aG (ptL b)), (aG (ptL c)), (aG (ptL p))]) Tryz.func45 rfl rfl (leB rfl) (OkC.subF (sL [0, 1, 2, 3] rfl) (q4 (bx' (cs := ptL a) rfl fun b1 => bx' (cs := ptL b) rfl fun b2 => bx' (cs := ptL c) rfl fun b3 => ?_)))
 refine bx' (cs := ptL p) rfl fun b4 => al tZ114 rfl fun b5 => asg' rfl (q3 (sL [4, 5, 6, 7, 8, 9] rfl) (ldW' 4 tA49 rfl (ldW' 3 tA49 rfl ?_)))
 refine ldW' 2 tA49 rfl ?_
 have hz1 := Sz_turn a b c
 refine ck' Tryz.call75 (twice_ok a b c (by omega)) rfl (al tZ47 rfl fun b6 => stW0' rfl Tryz.sizeOf47 rfl (q6 (sL [4, 5, 6, 7, 8, 9, 10] rfl) (rN [(0, true), (1, true), (2, true), (4, true), (5, true), (6, true), (8, true), (9, true), (10, true), (3, false), (7, false), (11, false), (12, true)] [⟨13, 11, 114, fracL (0 : Rat) ++ fracL (0 : Rat) ++ fracL (0 : Rat)⟩] [(14, false)] sr (by kernel_rfl) (fun _ _ d _ _ h => by cases d <;> exact h) (newC rfl rfl tZ114 rfl (newN)) rfl (uW' 2 tA49 rfl ?_))))
 refine uW' 4 tA49 rfl (uW' 3 tA49 rfl (uW' 5 tA49 rfl (uW' 2 tA49 rfl (uW' 3 tA49 rfl (uW' 5 tA49 rfl ?_)))))
 refine uW' 4 tA49 rfl (uW' 2 tA49 rfl (OkN.imp rfl fun EF EL => ?_))
 have hz2 := Sz_turn p b c
 refine ck' Tryz.call75 (twice_ok p b c (by omega)) rfl (OkN.back0 sr rfl (OkN.imp rfl fun EF EL => ?_))
 have hz3 := Sz_turn a p c
 refine ck' Tryz.call75 (twice_ok a p c (by omega)) rfl (OkN.back0 sr rfl (OkN.imp rfl fun EF EL => ?_))
 have hz4 := Sz_turn a b p
 refine ck' Tryz.call75 (twice_ok a b p (by omega)) rfl (OkN.back0 sr rfl (uE' (v := (aG (fracL (turnP p b c) ++ fracL (turnP a p c) ++ fracL (turnP a b p)))) rfl (ex_build_array (zs := fracL (0 : Rat) ++ fracL (0 : Rat) ++ fracL (0 : Rat)) (vs := fracL (turnP p b c) ++ fracL (turnP a p c) ++ fracL (turnP a b p)) (pv := [(0, (aG (fracL (turnP p b c)))), (1, (aG (fracL (turnP a p c)))), (2, (aG (fracL (turnP a b p))))]) Tryz.zeroValue114 Tryz.underlying114 Tryz.sizeOf47 rfl (fill_numo_114_0fracL_1fracL_2fracL (turnP p b c) (turnP a p c) (turnP a b p))) rfl (OkN.news1 fun b7 => OkE.imp rfl (stW0' rfl Tryz.sizeOf114 rfl ?_))))
 refine OkE.back (sl sr) (OkE.nil (OkQ.subF (sL [4, 5, 6, 8, 9, 10, 11] rfl) (q1 (q4 (mv' rfl ?_)))))
 refine OkL.nil (OkQ.then_ (OkC.block (OkC.unroll 5 (OkR.step (q4 ?_)))))
 refine st' (ex_lss (c := true) rfl rfl (by decide)) rfl (OkL.nil (q1 (OkC.cond_true rfl (OkC.skip (q1 ?_)))))
 refine OkC.block (q4 (mv' rfl (asg' rfl (q6 (sL [4, 5, 6, 8, 9, 10, 11, 32, 12] rfl) (rN [(0, true), (1, true), (2, true), (3, true), (4, false), (5, true), (6, true), (7, true)] [⟨8, 13, 47, fracL (0 : Rat)⟩] [(9, false), (10, true)] sr (by kernel_rfl) (fun _ _ d _ _ h => by cases d <;> exact h) (newC rfl rfl tZ47 rfl (newN)) rfl ?_)))))
 refine uM' rfl (uE' (v := (pP b7 0)) rfl (ex_indexAddr_array (j := 0) rfl rfl Tryz.underlying114 Tryz.sizeOf47 rfl (by decide) rfl) rfl (uA' 0 (fracL (turnP p b c)) tA47 rfl (uW' 1 tA47 rfl (OkN.imp rfl fun EF EL => ?_))))
 have hz5 := Sz_div (a := turnP p b c) (b := turnP a b c) (by assumption)
 refine ck' Tryz.call33 (fDiv_ok (turnP p b c) (turnP a b c) (by omega) (by assumption)) rfl (OkN.back0 sr rfl (uM' rfl (uE' rfl (ex_extract (v := (aG (fracL ((turnP p b c) / (turnP a b c))))) rfl rfl) rfl (uE' rfl (ex_extract (v := (vI 0)) rfl rfl) rfl (OkN.news1 fun b8 => ?_)))))
 refine OkE.imp rfl (stW0' rfl Tryz.sizeOf47 rfl (OkE.back (sl sr) (pS' rfl (OkE.nil (OkQ.subF (sL [4, 5, 6, 8, 9, 10, 11, 32, 12, 13, 14] rfl) ?_)))))
 refine q1 (q4 (mv' rfl (st' (ex_neq (c := false) rfl rfl (by decide)) rfl (OkL.nil (OkQ.subF (sL [4, 5, 6, 8, 9, 10, 11, 32, 12, 13, 44] rfl) ?_)))))
 refine OkQ.then_ (OkC.cond_false rfl (OkC.skip (OkQ.then_ (OkC.region (mv' rfl ?_)))))
 refine ldW' 0 tA47 rfl (st' (v := (pP b7 0)) (ex_indexAddr_array (j := 0) rfl rfl Tryz.underlying114 Tryz.sizeOf47 rfl (by decide) rfl) rfl (stX 1 (off := 0) (vs := fracL ((turnP p b c) / (turnP a b c))) (cs' := fracL ((turnP p b c) / (turnP a b c)) ++ fracL (turnP a p c) ++ fracL (turnP a b p)) (wt_none rfl) rfl Tryz.sizeOf47 rfl (OkL.nil (OkQ.subF (sL [4, 5, 6, 8, 9, 10, 11, 32, 12, 13] rfl) (OkQ.in_normal ?_)))))
 refine OkQ.then_ (OkC.region (st' (ex_add (c := (1 : Int)) rfl rfl (by decide)) rfl (mv' rfl (OkL.nil (OkQ.subF (sL [4, 5, 6, 8, 9, 10, 11, 32, 12, 13] rfl) ?_)))))
 refine OkQ.again (OkR.step (q4 (st' (ex_lss (c := true) rfl rfl (by decide)) rfl (OkL.nil (q1 ?_)))))
 refine OkC.cond_true rfl (OkC.skip (q1 (OkC.block (q4 (mv' rfl ?_)))))
 refine asg' rfl (q6 (sL [4, 5, 6, 8, 9, 10, 11, 32, 12, 13] rfl) (OkC.subF (sL [4, 5, 6, 8, 9, 10, 11, 32, 12] rfl) (rN [(0, true), (1, true), (2, true), (3, true), (4, false), (5, true), (6, true), (7, true)] [⟨8, 13, 47, fracL (0 : Rat)⟩] [(9, false), (10, true)] sr (by kernel_rfl) (fun _ _ d _ _ h => by cases d <;> exact h) (newC rfl rfl tZ47 rfl (newN)) rfl (uM' rfl (uE' (v := (pP b7 5)) rfl (ex_indexAddr_array (j := 1) rfl rfl Tryz.underlying114 Tryz.sizeOf47 rfl (by decide) rfl) rfl ?_)))))
 refine uA' 1 (fracL (turnP a p c)) tA47 rfl (uW' 2 tA47 rfl (OkN.imp rfl fun EF EL => ?_))
 have hz6 := Sz_div (a := turnP a p c) (b := turnP a b c) (by assumption)
 refine ck' Tryz.call33 (fDiv_ok (turnP a p c) (turnP a b c) (by omega) (by assumption)) rfl (OkN.back0 sr rfl (uM' rfl (uE' rfl (ex_extract (v := (aG (fracL ((turnP a p c) / (turnP a b c))))) rfl rfl) rfl (uE' rfl (ex_extract (v := (vI 0)) rfl rfl) rfl (OkN.news1 fun b9 => ?_)))))
 refine OkE.imp rfl (stW0' rfl Tryz.sizeOf47 rfl (OkE.back (sl sr) (pS' rfl (OkE.nil (OkQ.subF (sL [4, 5, 6, 8, 9, 10, 11, 32, 12, 13, 14] rfl) ?_)))))
 refine q1 (q4 (mv' rfl (st' (ex_neq (c := false) rfl rfl (by decide)) rfl (OkL.nil (OkQ.subF (sL [4, 5, 6, 8, 9, 10, 11, 32, 12, 13, 44] rfl) ?_)))))
 refine OkQ.then_ (OkC.cond_false rfl (OkC.skip (OkQ.then_ (OkC.region (mv' rfl ?_)))))
 refine ldW' 0 tA47 rfl (st' (v := (pP b7 5)) (ex_indexAddr_array (j := 1) rfl rfl Tryz.underlying114 Tryz.sizeOf47 rfl (by decide) rfl) rfl (stX 2 (off := 5) (vs := fracL ((turnP a p c) / (turnP a b c))) (cs' := fracL ((turnP p b c) / (turnP a b c)) ++ fracL ((turnP a p c) / (turnP a b c)) ++ fracL (turnP a b p)) (wt_none rfl) rfl Tryz.sizeOf47 rfl (OkL.nil (OkQ.subF (sL [4, 5, 6, 8, 9, 10, 11, 32, 12, 13] rfl) (OkQ.in_normal ?_)))))
 refine OkQ.then_ (OkC.region (st' (ex_add (c := (2 : Int)) rfl rfl (by decide)) rfl (mv' rfl (OkL.nil (OkQ.subF (sL [4, 5, 6, 8, 9, 10, 11, 32, 12, 13] rfl) ?_)))))
 refine OkQ.again (OkR.step (q4 (st' (ex_lss (c := true) rfl rfl (by decide)) rfl (OkL.nil (q1 ?_)))))
 refine OkC.cond_true rfl (OkC.skip (q1 (OkC.block (q4 (mv' rfl ?_)))))
 refine asg' rfl (q6 (sL [4, 5, 6, 8, 9, 10, 11, 32, 12, 13] rfl) (OkC.subF (sL [4, 5, 6, 8, 9, 10, 11, 32, 12] rfl) (rN [(0, true), (1, true), (2, true), (3, true), (4, false), (5, true), (6, true), (7, true)] [⟨8, 13, 47, fracL (0 : Rat)⟩] [(9, false), (10, true)] sr (by kernel_rfl) (fun _ _ d _ _ h => by cases d <;> exact h) (newC rfl rfl tZ47 rfl (newN)) rfl (uM' rfl (uE' (v := (pP b7 10)) rfl (ex_indexAddr_array (j := 2) rfl rfl Tryz.underlying114 Tryz.sizeOf47 rfl (by decide) rfl) rfl ?_)))))
 refine uA' 2 (fracL (turnP a b p)) tA47 rfl (uW' 3 tA47 rfl (OkN.imp rfl fun EF EL => ?_))
 have hz7 := Sz_div (a := turnP a b p) (b := turnP a b c) (by assumption)
 refine ck' Tryz.call33 (fDiv_ok (turnP a b p) (turnP a b c) (by omega) (by assumption)) rfl (OkN.back0 sr rfl (uM' rfl (uE' rfl (ex_extract (v := (aG (fracL ((turnP a b p) / (turnP a b c))))) rfl rfl) rfl (uE' rfl (ex_extract (v := (vI 0)) rfl rfl) rfl (OkN.news1 fun b10 => ?_)))))
 refine OkE.imp rfl (stW0' rfl Tryz.sizeOf47 rfl (OkE.back (sl sr) (pS' rfl (OkE.nil (OkQ.subF (sL [4, 5, 6, 8, 9, 10, 11, 32, 12, 13, 14] rfl) ?_)))))
 refine q1 (q4 (mv' rfl (st' (ex_neq (c := false) rfl rfl (by decide)) rfl (OkL.nil (OkQ.subF (sL [4, 5, 6, 8, 9, 10, 11, 32, 12, 13, 44] rfl) ?_)))))
 refine OkQ.then_ (OkC.cond_false rfl (OkC.skip (OkQ.then_ (OkC.region (mv' rfl ?_)))))
 refine ldW' 0 tA47 rfl (st' (v := (pP b7 10)) (ex_indexAddr_array (j := 2) rfl rfl Tryz.underlying114 Tryz.sizeOf47 rfl (by decide) rfl) rfl (stX 3 (off := 10) (vs := fracL ((turnP a b p) / (turnP a b c))) (cs' := fracL ((turnP p b c) / (turnP a b c)) ++ fracL ((turnP a p c) / (turnP a b c)) ++ fracL ((turnP a b p) / (turnP a b c))) (wt_none rfl) rfl Tryz.sizeOf47 rfl (OkL.nil (OkQ.subF (sL [4, 5, 6, 8, 9, 10, 11, 32, 12, 13] rfl) (OkQ.in_normal ?_)))))
 refine OkQ.then_ (OkC.region (st' (ex_add (c := (3 : Int)) rfl rfl (by decide)) rfl (mv' rfl (OkL.nil (OkQ.subF (sL [4, 5, 6, 8, 9, 10, 11, 32, 12, 13] rfl) ?_)))))
 refine OkQ.again (OkR.step (q4 (st' (ex_lss (c := false) rfl rfl (by decide)) rfl (OkL.nil (q1 ?_)))))
 refine OkC.cond_false rfl (OkC.exit (OkQ.then_exit (OkQ.then_exit (OkQ.in_exit (q2 ?_)))))
 refine ldW' 3 tA114 rfl (stX 5 (off := 0) (vs := fracL ((turnP p b c) / (turnP a b c)) ++ fracL ((turnP a p c) / (turnP a b c)) ++ fracL ((turnP a b p) / (turnP a b c))) (cs' := fracL ((turnP p b c) / (turnP a b c)) ++ fracL ((turnP a p c) / (turnP a b c)) ++ fracL ((turnP a b p) / (turnP a b c))) (wt_none rfl) rfl Tryz.sizeOf114 rfl (asg' rfl (OkL.nil (OkQ.subF (sL [4, 5, 6, 8, 9, 10, 11, 32, 12, 13] rfl) (OkQ.then_ ?_)))))
 exact OkC.ret (ret_two rfl (rd_agg (i := 5) (cs := fracL ((turnP p b c) / (turnP a b c)) ++ fracL ((turnP a p c) / (turnP a b c)) ++ fracL ((turnP a b p) / (turnP a b c))) rfl rfl Tryz.isAgg114 Tryz.sizeOf114 rfl) (rd_tmp (v := (vI 0)) rfl) (fun w hw => ⟨rfl, hw.out⟩))
theorem fill_numo_114_  : Instr.fill (fun i => some (i * 5, 5)) (fracL (0 : Rat) ++ fracL (0 : Rat) ++ fracL (0 : Rat)).toArray [] = some (fracL (0 : Rat) ++ fracL (0 : Rat) ++ fracL (0 : Rat)).toArray := by kernel_rfl
theorem Bary0_ok (a b c p : Pt) (hs : SzP a + SzP b + SzP c + SzP p ≤ 268435456) (h : turnP a b c = 0) (w : World)  : Calls Tryz.prog 45 #[(aG (ptL a)), (aG (ptL b)), (aG (ptL c)), (aG (ptL p))] w (Gives w (Value.tuple #[(aG (fracL (0 : Rat) ++ fracL (0 : Rat) ++ fracL (0 : Rat))), (vI 1)])) := by
 refine calls_of (args := [(aG (ptL a)), (aG (ptL b)), (aG (ptL c)), (aG (ptL p))]) Tryz.func45 rfl rfl (leB rfl) (OkC.subF (sL [0, 1, 2, 3] rfl) (q4 (bx' (cs := ptL a) rfl fun b1 => bx' (cs := ptL b) rfl fun b2 => bx' (cs := ptL c) rfl fun b3 => ?_)))
 refine bx' (cs := ptL p) rfl fun b4 => al tZ114 rfl fun b5 => asg' rfl (q3 (sL [4, 5, 6, 7, 8, 9] rfl) (ldW' 4 tA49 rfl (ldW' 3 tA49 rfl ?_)))
 refine ldW' 2 tA49 rfl ?_
 have hz1 := Sz_turn a b c
 refine ck' Tryz.call75 (twice_ok a b c (by omega)) rfl (al tZ47 rfl fun b6 => stW0' rfl Tryz.sizeOf47 rfl (q6 (sL [4, 5, 6, 7, 8, 9, 10] rfl) (rN [(0, true), (1, true), (2, true), (4, true), (5, true), (6, true), (8, true), (9, true), (10, true), (3, false), (7, false), (11, false), (12, true)] [⟨13, 11, 114, fracL (0 : Rat) ++ fracL (0 : Rat) ++ fracL (0 : Rat)⟩] [(14, false)] sr (by kernel_rfl) (fun _ _ d _ _ h => by cases d <;> exact h) (newC rfl rfl tZ114 rfl (newN)) rfl (uW' 2 tA49 rfl ?_))))
 refine uW' 4 tA49 rfl (uW' 3 tA49 rfl (uW' 5 tA49 rfl (uW' 2 tA49 rfl (uW' 3 tA49 rfl (uW' 5 tA49 rfl ?_)))))
 refine uW' 4 tA49 rfl (uW' 2 tA49 rfl (OkN.imp rfl fun EF EL => ?_))
 have hz2 := Sz_turn p b c
 refine ck' Tryz.call75 (twice_ok p b c (by omega)) rfl (OkN.back0 sr rfl (OkN.imp rfl fun EF EL => ?_))
 have hz3 := Sz_turn a p c
 refine ck' Tryz.call75 (twice_ok a p c (by omega)) rfl (OkN.back0 sr rfl (OkN.imp rfl fun EF EL => ?_))
 have hz4 := Sz_turn a b p
 refine ck' Tryz.call75 (twice_ok a b p (by omega)) rfl (OkN.back0 sr rfl (uE' (v := (aG (fracL (turnP p b c) ++ fracL (turnP a p c) ++ fracL (turnP a b p)))) rfl (ex_build_array (zs := fracL (0 : Rat) ++ fracL (0 : Rat) ++ fracL (0 : Rat)) (vs := fracL (turnP p b c) ++ fracL (turnP a p c) ++ fracL (turnP a b p)) (pv := [(0, (aG (fracL (turnP p b c)))), (1, (aG (fracL (turnP a p c)))), (2, (aG (fracL (turnP a b p))))]) Tryz.zeroValue114 Tryz.underlying114 Tryz.sizeOf47 rfl (fill_numo_114_0fracL_1fracL_2fracL (turnP p b c) (turnP a p c) (turnP a b p))) rfl (OkN.news1 fun b7 => OkE.imp rfl (stW0' rfl Tryz.sizeOf114 rfl ?_))))
 refine OkE.back (sl sr) (OkE.nil (OkQ.subF (sL [4, 5, 6, 8, 9, 10, 11] rfl) (q1 (q4 (mv' rfl ?_)))))
 refine OkL.nil (OkQ.then_ (OkC.block (OkC.unroll 5 (OkR.step (q4 ?_)))))
 refine st' (ex_lss (c := true) rfl rfl (by decide)) rfl (OkL.nil (q1 (OkC.cond_true rfl (OkC.skip (q1 ?_)))))
 refine OkC.block (q4 (mv' rfl (asg' rfl (q6 (sL [4, 5, 6, 8, 9, 10, 11, 32, 12] rfl) (rN [(0, true), (1, true), (2, true), (3, true), (4, false), (5, true), (6, true), (7, true)] [⟨8, 13, 47, fracL (0 : Rat)⟩] [(9, false), (10, true)] sr (by kernel_rfl) (fun _ _ d _ _ h => by cases d <;> exact h) (newC rfl rfl tZ47 rfl (newN)) rfl ?_)))))
 refine uM' rfl (uE' (v := (pP b7 0)) rfl (ex_indexAddr_array (j := 0) rfl rfl Tryz.underlying114 Tryz.sizeOf47 rfl (by decide) rfl) rfl (uA' 0 (fracL (turnP p b c)) tA47 rfl (uW' 1 tA47 rfl (OkN.imp rfl fun EF EL => cl' (args := [(aG (fracL (turnP p b c))), (aG (fracL (turnP a b c)))]) (v := (Value.tuple #[(aG (fracL (0 : Rat))), (vI 5)])) Tryz.call33 (fun w hw => (by rw [h]; exact fDiv0_ok _ w)) rfl ?_))))
 refine OkN.back0 sr rfl (uM' rfl (uE' rfl (ex_extract (v := (aG (fracL (0 : Rat)))) rfl rfl) rfl (uE' rfl (ex_extract (v := (vI 5)) rfl rfl) rfl (OkN.news1 fun b8 => OkE.imp rfl ?_))))
 refine stW0' rfl Tryz.sizeOf47 rfl (OkE.back (sl sr) (pS' rfl (OkE.nil (OkQ.subF (sL [4, 5, 6, 8, 9, 10, 11, 32, 12, 13, 14] rfl) (q1 ?_)))))
 refine q4 (mv' rfl (st' (ex_neq (c := true) rfl rfl (by decide)) rfl (OkL.nil (OkQ.subF (sL [4, 5, 6, 8, 9, 10, 11, 32, 12, 13, 44] rfl) (OkQ.then_ ?_)))))
 refine OkC.cond_true rfl (q4 (st' (v := (aG (fracL (0 : Rat) ++ fracL (0 : Rat) ++ fracL (0 : Rat)))) (ex_build_array (zs := fracL (0 : Rat) ++ fracL (0 : Rat) ++ fracL (0 : Rat)) (vs := fracL (0 : Rat) ++ fracL (0 : Rat) ++ fracL (0 : Rat)) (pv := []) Tryz.zeroValue114 Tryz.underlying114 Tryz.sizeOf47 rfl (fill_numo_114_ )) rfl (stW3' rfl Tryz.sizeOf114 rfl (asg' rfl (OkL.nil ?_)))))
 refine OkQ.subF (sL [4, 5, 6, 8, 9, 10, 11, 32, 12, 13] rfl) (OkQ.then_ (OkC.ret (OkQ.then_ret (OkQ.in_ret (OkQ.then_ret ?_)))))
 exact OkQ.then_ret (OkQ.in_ret (OkQ.then_ret (ret_two rfl (rd_agg (i := 3) (cs := fracL (0 : Rat) ++ fracL (0 : Rat) ++ fracL (0 : Rat)) rfl rfl Tryz.isAgg114 Tryz.sizeOf114 rfl) (rd_tmp (v := (vI 1)) rfl) (fun w hw => ⟨rfl, hw.out⟩))))
end
def zq (q : Rat) : Nat := if q.num.sign = 0 then 1 else 0
def whereN (x y z : Rat) : Nat := if x.num.sign = -1 ∨ y.num.sign = -1 ∨ z.num.sign = -1 then 0 else 1 + zq x + zq y + zq z
theorem where_neg0 {x y z : Rat} (h : x.num.sign = -1) : whereN x y z = 0 := if_pos (.inl h)
theorem where_neg1 {x y z : Rat} (h : y.num.sign = -1) : whereN x y z = 0 := if_pos (.inr (.inl h))
theorem where_neg2 {x y z : Rat} (h : z.num.sign = -1) : whereN x y z = 0 := if_pos (.inr (.inr h))
theorem where_ok {x y z : Rat} (h1 : ¬ x.num.sign = -1) (h2 : ¬ y.num.sign = -1) (h3 : ¬ z.num.sign = -1) : whereN x y z = 1 + zq x + zq y + zq z := if_neg (by simp [h1, h2, h3])
theorem zq_one {x : Rat} (h : x.num.sign = 0) : zq x = 1 := if_pos h
theorem zq_zero {x : Rat} (h : ¬ x.num.sign = 0) : zq x = 0 := if_neg h
theorem zq_le (x : Rat) : zq x ≤ 1 := by unfold zq; split <;> omega
section
set_option maxRecDepth 100000
end
section
set_option maxRecDepth 100000
end
end Go.Proofs.YtnofgcpajmldkaaGreatDoor
