import Derived.ChangeKeysEq
import Derived.Test.YtgiacpkjnikjdaaGreatRows
import Derived.Test.YtgiacpkjnikjdaaGreatPart06
import Derived.Test.YtgiacpkjnikjdaaGreatPart08
import Derived.Test.YtgiacpkjnikjdaaGreatPart20
namespace Go.Proofs.YtgiacpkjnikjdaaGreat
open Go Go.RowKit
set_option linter.unusedVariables false
set_option linter.unusedSimpArgs false
section
set_option maxRecDepth 100000
theorem fill_numm_83_0fracL_1fracL (x0 : Rat) (x1 : Rat) : Instr.fill ([(0, 5), (5, 5)].toArray[·]?) (ptL (⟨0, 0⟩ : Pt)).toArray [(0, .agg (fracL x0).toArray), (1, .agg (fracL x1).toArray)] = some (fracL x0 ++ fracL x1).toArray := by kernel_rfl
theorem both_add_ok (a b : Pt) (hs : SzP a + SzP b ≤ 68719476736) (w : World)  : Calls Tryz.prog 132 #[(aG (ptL a)), (aG (ptL b)), (Value.func (.func 40) #[] #[])] w (Gives w (aG (ptL (a + b)))) := by
 have p1 := SzP_x a
 have p2 := SzP_y a
 have p3 := SzP_x b
 have p4 := SzP_y b
 refine calls_of (args := [(aG (ptL a)), (aG (ptL b)), (Value.func (.func 40) #[] #[])]) Tryz.func132 rfl rfl (leB rfl) (OkC.subF (sL [0, 1, 2] rfl) (q4 (bx' (cs := ptL a) rfl fun b1 => bx' (cs := ptL b) rfl fun b2 => al tZ83 rfl fun b3 => ?_)))
 refine q6 (sL [2, 3, 4, 6] rfl) (rG' [(0, true), (1, true), (2, true), (3, true), (4, true), (6, true), (7, true), (8, true), (9, true), (10, true), (5, false), (11, false), (12, true), (13, false)] (sl sr) (pM' rfl (pE' (v := (pP b1 0)) rfl (ex_fieldAddr rfl Tryz.underlying83 rfl Tryz.sizeOf81 rfl) (pA' 1 (fracL a.x) tA81 rfl (pE' (v := (pP b2 0)) rfl (ex_fieldAddr rfl Tryz.underlying83 rfl Tryz.sizeOf81 rfl) ?_)))))
 refine pA' 0 (fracL b.x) tA81 rfl (pM' rfl (pE' (v := (pP b1 5)) rfl (ex_fieldAddr rfl Tryz.underlying83 rfl Tryz.sizeOf81 rfl) (pA' 1 (fracL a.y) tA81 rfl (pE' (v := (pP b2 5)) rfl (ex_fieldAddr rfl Tryz.underlying83 rfl Tryz.sizeOf81 rfl) (pA' 0 (fracL b.y) tA81 rfl ?_)))))
 refine OkE.imp rfl ?_
 have hz1 := Sz_add a.x b.x
 refine ck' Tryz.call40 (fAdd_ok a.x b.x (by (try simp only [Sz_neg]); omega)) rfl (OkE.back (sl sr) (OkE.imp rfl ?_))
 have hz2 := Sz_add a.y b.y
 refine ck' Tryz.call40 (fAdd_ok a.y b.y (by (try simp only [Sz_neg]); omega)) rfl (OkE.back (sl sr) (pE' (v := (aG (fracL (a.x + b.x) ++ fracL (a.y + b.y)))) rfl (ex_build_struct (zs := ptL (⟨0, 0⟩ : Pt)) (vs := fracL (a.x + b.x) ++ fracL (a.y + b.y)) (pv := [(0, (aG (fracL (a.x + b.x)))), (1, (aG (fracL (a.y + b.y))))]) (places := [(0, 5), (5, 5)]) Tryz.zeroValue83 Tryz.underlying83 (fun w => by simp [Tryz.sizeOf81]) rfl (fill_numm_83_0fracL_1fracL (a.x + b.x) (a.y + b.y))) (OkE.imp rfl (stW0' rfl Tryz.sizeOf83 rfl (OkE.back (sl sr) ?_)))))
 exact OkE.nil (OkQ.subF (sL [6] rfl) (OkQ.then_ (OkC.ret (ret_one rfl (rd_agg (i := 0) (cs := fracL (a.x + b.x) ++ fracL (a.y + b.y)) rfl rfl Tryz.isAgg83 Tryz.sizeOf83 rfl) (fun w hw => ⟨by rw [ptL_add], hw.out⟩)))))
theorem scale1_ok (x y k : Rat) (bk : Nat) (hs : Sz x + Sz k ≤ 137438953472) (w : World) (hk : w.heap[bk]? = some (.cells (fracL k).toArray 81 (0, 0))) : Calls Tryz.prog 195 #[(aG (fracL x)), (aG (fracL y)), (pP bk 0)] w (Gives w (aG (fracL (x * k)))) := by
 refine calls_of (args := [(aG (fracL x)), (aG (fracL y)), (pP bk 0)]) Tryz.func195 rfl rfl (leB rfl) (OkC.subF (sL [0, 1, 2] rfl) (q4 (bx' (cs := fracL x) rfl fun b1 => bx' (cs := fracL y) rfl fun b2 => al tZ81 rfl fun b3 => ?_)))
 refine q3 (sL [2, 3, 5] rfl) (ldW' 2 tA81 rfl (st' (v := (aG (fracL k))) (ex_load_agg_at (vs := fracL k) rfl (fun w' hw => hw.oldCA (by simp) (ca_blk hk)) Tryz.isAgg81 Tryz.sizeOf81 rfl) rfl ?_))
 have hz1 := Sz_mul x k
 exact ck' Tryz.call33 (fMul_ok x k (by (try simp only [Sz_neg]); omega)) rfl (stW0' rfl Tryz.sizeOf81 rfl (OkL.nil (OkQ.subF (sL [5] rfl) (OkQ.then_ (OkC.ret (ret_one rfl (rd_agg (i := 0) (cs := fracL (x * k)) rfl rfl Tryz.isAgg81 Tryz.sizeOf81 rfl) (fun w hw => ⟨rfl, hw.out⟩)))))))
theorem both_scale_ok (a : Pt) (k : Rat) (bk : Nat) (hs : SzP a + Sz k ≤ 137438953472) (w : World) (hk : w.heap[bk]? = some (.cells (fracL k).toArray 81 (0, 0))) : Calls Tryz.prog 132 #[(aG (ptL a)), (aG (ptL a)), (Value.func (.func 195) #[] #[(pP bk 0)])] w (Gives w (aG (ptL (scaleP a k)))) := by
 have p1 := SzP_x a
 have p2 := SzP_y a
 refine calls_of (args := [(aG (ptL a)), (aG (ptL a)), (Value.func (.func 195) #[] #[(pP bk 0)])]) Tryz.func132 rfl rfl (leB rfl) (OkC.subF (sL [0, 1, 2] rfl) (q4 (bx' (cs := ptL a) rfl fun b1 => bx' (cs := ptL a) rfl fun b2 => al tZ83 rfl fun b3 => ?_)))
 refine q6 (sL [2, 3, 4, 6] rfl) (rG' [(0, true), (1, true), (2, true), (3, true), (4, true), (6, true), (7, true), (8, true), (9, true), (10, true), (5, false), (11, false), (12, true), (13, false)] (sl sr) (pM' rfl (pE' (v := (pP b1 0)) rfl (ex_fieldAddr rfl Tryz.underlying83 rfl Tryz.sizeOf81 rfl) (pA' 1 (fracL a.x) tA81 rfl (pE' (v := (pP b2 0)) rfl (ex_fieldAddr rfl Tryz.underlying83 rfl Tryz.sizeOf81 rfl) ?_)))))
 refine pA' 0 (fracL a.x) tA81 rfl (pM' rfl (pE' (v := (pP b1 5)) rfl (ex_fieldAddr rfl Tryz.underlying83 rfl Tryz.sizeOf81 rfl) (pA' 1 (fracL a.y) tA81 rfl (pE' (v := (pP b2 5)) rfl (ex_fieldAddr rfl Tryz.underlying83 rfl Tryz.sizeOf81 rfl) (pA' 0 (fracL a.y) tA81 rfl ?_)))))
 refine OkE.imp rfl (OkL.call (v := (aG (fracL (a.x * k)))) (wt_none rfl) (op_call (args := [(aG (fracL a.x)), (aG (fracL a.x))]) (caps := [(pP bk 0)]) (all := [(aG (fracL a.x)), (aG (fracL a.x)), (pP bk 0)]) rfl rfl rfl Tryz.call195) (fun w hw => scale1_ok a.x a.x k bk (by omega) w (hw.old (by simp) hk)) rfl (leB rfl) (OkE.back (sl sr) (OkE.imp rfl (OkL.call (v := (aG (fracL (a.y * k)))) (wt_none rfl) (op_call (args := [(aG (fracL a.y)), (aG (fracL a.y))]) (caps := [(pP bk 0)]) (all := [(aG (fracL a.y)), (aG (fracL a.y)), (pP bk 0)]) rfl rfl rfl Tryz.call195) (fun w hw => scale1_ok a.y a.y k bk (by omega) w (hw.old (by simp) hk)) rfl (leB rfl) (OkE.back (sl sr) ?_)))))
 refine pE' (v := (aG (fracL (a.x * k) ++ fracL (a.y * k)))) rfl (ex_build_struct (zs := ptL (⟨0, 0⟩ : Pt)) (vs := fracL (a.x * k) ++ fracL (a.y * k)) (pv := [(0, (aG (fracL (a.x * k)))), (1, (aG (fracL (a.y * k))))]) (places := [(0, 5), (5, 5)]) Tryz.zeroValue83 Tryz.underlying83 (fun w => by simp [Tryz.sizeOf81]) rfl (fill_numm_83_0fracL_1fracL (a.x * k) (a.y * k))) (OkE.imp rfl (stW0' rfl Tryz.sizeOf83 rfl (OkE.back (sl sr) (OkE.nil (OkQ.subF (sL [6] rfl) ?_)))))
 exact OkQ.then_ (OkC.ret (ret_one rfl (rd_agg (i := 0) (cs := fracL (a.x * k) ++ fracL (a.y * k)) rfl rfl Tryz.isAgg83 Tryz.sizeOf83 rfl) (fun w hw => ⟨by rw [ptL_scale], hw.out⟩)))
theorem pAdd_ok (a b : Pt) (hs : SzP a + SzP b ≤ 68719476736) (w : World)  : Calls Tryz.prog 158 #[(aG (ptL a)), (aG (ptL b))] w (Gives w (aG (ptL (a + b)))) := by
 refine calls_of (args := [(aG (ptL a)), (aG (ptL b))]) Tryz.func158 rfl rfl (leB rfl) (OkC.subF (sL [0, 1] rfl) (q4 (bx' (cs := ptL a) rfl fun b1 => bx' (cs := ptL b) rfl fun b2 => al tZ83 rfl fun b3 => ?_)))
 refine q3 (sL [2, 3, 4] rfl) (ldW' 2 tA83 rfl (ldW' 1 tA83 rfl (ck' Tryz.call132 (both_add_ok a b (by omega)) rfl (stW0' rfl Tryz.sizeOf83 rfl (OkL.nil ?_)))))
 exact OkQ.subF (sL [4] rfl) (OkQ.then_ (OkC.ret (ret_one rfl (rd_agg (i := 0) (cs := ptL (a + b)) rfl rfl Tryz.isAgg83 Tryz.sizeOf83 rfl) (fun w hw => ⟨rfl, hw.out⟩))))
theorem pScale_ok (a : Pt) (k : Rat) (hs : SzP a + Sz k ≤ 137438953472) (w : World)  : Calls Tryz.prog 157 #[(aG (ptL a)), (aG (fracL k))] w (Gives w (aG (ptL (scaleP a k)))) := by
 refine calls_of (args := [(aG (ptL a)), (aG (fracL k))]) Tryz.func157 rfl rfl (leB rfl) (OkC.subF (sL [0, 1] rfl) (q4 (bx' (cs := ptL a) rfl fun b1 => bx' (cs := fracL k) rfl fun b2 => al tZ83 rfl fun b3 => ?_)))
 refine q3 (sL [2, 3, 4] rfl) (ldW' 2 tA83 rfl (ldW' 2 tA83 rfl (st' (v := (Value.func (.func 195) #[] #[(pP b2 0)])) (ex_makeFunc (vs := []) (us := [(pP b2 0)]) rfl rfl) rfl (cl' Tryz.call132 (fun w hw => both_scale_ok a k b2 (by omega) w (hw.get (i := 1) rfl)) rfl (stW0' rfl Tryz.sizeOf83 rfl ?_)))))
 exact OkL.nil (OkQ.subF (sL [4] rfl) (OkQ.then_ (OkC.ret (ret_one rfl (rd_agg (i := 0) (cs := ptL (scaleP a k)) rfl rfl Tryz.isAgg83 Tryz.sizeOf83 rfl) (fun w hw => ⟨rfl, hw.out⟩)))))
theorem pInt_ok (x y : Int) (h1 : -9223372036854775808 ≤ x) (h2 : x < 9223372036854775808) (h3 : -9223372036854775808 ≤ y) (h4 : y < 9223372036854775808) (w : World)  : Calls Tryz.prog 47 #[(vI x), (vI y)] w (Gives w (aG (ptL (⟨((x : Int) : Rat), ((y : Int) : Rat)⟩ : Pt)))) := by
 refine calls_of (args := [(vI x), (vI y)]) Tryz.func47 rfl rfl (leB rfl) (OkC.subF (sL [0, 1] rfl) (q4 (al tZ83 rfl fun b1 => OkL.nil (q2 ?_))))
 refine mv' rfl (ck' Tryz.call34 (fInt_ok x (by omega) (by omega)) rfl (mv' rfl (ck' Tryz.call34 (fInt_ok y (by omega) (by omega)) rfl (st' (v := (aG (fracL ((x : Int) : Rat) ++ fracL ((y : Int) : Rat)))) (ex_build_struct (zs := ptL (⟨0, 0⟩ : Pt)) (vs := fracL ((x : Int) : Rat) ++ fracL ((y : Int) : Rat)) (pv := [(0, (aG (fracL ((x : Int) : Rat)))), (1, (aG (fracL ((y : Int) : Rat))))]) (places := [(0, 5), (5, 5)]) Tryz.zeroValue83 Tryz.underlying83 (fun w => by simp [Tryz.sizeOf81]) rfl (fill_numm_83_0fracL_1fracL ((x : Int) : Rat) ((y : Int) : Rat))) rfl (stW0' rfl Tryz.sizeOf83 rfl ?_)))))
 exact OkL.nil (OkQ.subF (sL [4] rfl) (OkQ.then_ (OkC.ret (ret_one rfl (rd_agg (i := 0) (cs := fracL ((x : Int) : Rat) ++ fracL ((y : Int) : Rat)) rfl rfl Tryz.isAgg83 Tryz.sizeOf83 rfl) (fun w hw => ⟨by rw [ptL_mk], hw.out⟩)))))
end
section
set_option maxRecDepth 100000
theorem fOf_ok (x y : Int) (h1 : -9223372036854775808 ≤ x) (h2 : x < 9223372036854775808) (h3 : -9223372036854775808 ≤ y) (h4 : y < 9223372036854775808) (hy : y ≠ 0) (w : World)  : Calls Tryz.prog 154 #[(vI x), (vI y)] w (Gives w (Value.tuple #[(aG (fracL (((x : Int) : Rat) / ((y : Int) : Rat)))), (vI 0)])) := by
 have hb : ((y : Int) : Rat) ≠ 0 := fun e => hy (by exact_mod_cast e)
 have s1 := Sz_int h1 h2
 have s2 := Sz_int h3 h4
 refine calls_of (args := [(vI x), (vI y)]) Tryz.func154 rfl rfl (leB rfl) (OkC.subF (sL [0, 1] rfl) (q4 (al tZ81 rfl fun b1 => asg' rfl (OkL.nil ?_))))
 refine q2 (mv' rfl (ck' Tryz.call34 (fInt_ok x (by omega) (by omega)) rfl (mv' rfl (ck' Tryz.call34 (fInt_ok y (by omega) (by omega)) rfl ?_))))
 have hz1 := Sz_div (a := ((x : Int) : Rat)) (b := ((y : Int) : Rat)) (by assumption)
 refine ck' Tryz.call104 (fDiv_ok ((x : Int) : Rat) ((y : Int) : Rat) (by omega) (by assumption)) rfl (st' (ex_extract (v := (aG (fracL (((x : Int) : Rat) / ((y : Int) : Rat))))) rfl rfl) rfl (st' (ex_extract (v := (vI 0)) rfl rfl) rfl (stW0' rfl Tryz.sizeOf81 rfl (asg' rfl (OkL.nil ?_)))))
 exact OkQ.subF (sL [4, 5] rfl) (OkQ.then_ (OkC.ret (ret_two rfl (rd_agg (i := 0) (cs := fracL (((x : Int) : Rat) / ((y : Int) : Rat))) rfl rfl Tryz.isAgg81 Tryz.sizeOf81 rfl) (rd_tmp (v := (vI 0)) rfl) (fun w hw => ⟨rfl, hw.out⟩))))
theorem phalf_ok  (w : World)  : Calls Tryz.prog 159 #[] w (Gives w (aG (fracL ((1 : Rat) / 2)))) := by
 refine calls_of (args := []) Tryz.func159 rfl rfl (leB rfl) (OkC.subF sN (q4 (al tZ81 rfl fun b1 => OkL.nil (q2 ?_))))
 refine ck' Tryz.call154 (fOf_ok (1 : Int) (2 : Int) (by omega) (by omega) (by omega) (by omega) (by omega)) rfl (mv' rfl (st' (ex_extract (v := (aG (fracL (((1 : Int) : Rat) / ((2 : Int) : Rat))))) rfl rfl) rfl (OkL.retell (k := 5) (u := (aG (fracL ((1 : Rat) / 2)))) rfl (by rw [half_of]) (st' (ex_extract (v := (vI 0)) rfl rfl) rfl (al tZ81 rfl fun b2 => ?_)))))
 refine stW0' rfl Tryz.sizeOf81 rfl (asg' rfl (q3 (sL [0, 1] rfl) (ldW' 0 tA81 rfl (stW1' rfl Tryz.sizeOf81 rfl (OkL.nil ?_)))))
 exact OkQ.subF (sL [0, 1] rfl) (OkQ.then_ (OkC.ret (ret_one rfl (rd_agg (i := 1) (cs := fracL ((1 : Rat) / 2)) rfl rfl Tryz.isAgg81 Tryz.sizeOf81 rfl) (fun w hw => ⟨rfl, hw.out⟩))))
theorem pMid_ok (a b : Pt) (hs : SzP a + SzP b ≤ 17179869184) (w : World)  : Calls Tryz.prog 116 #[(aG (ptL a)), (aG (ptL b))] w (Gives w (aG (ptL (scaleP (a + b) (1 / 2))))) := by
 have sh := Sz_half
 refine calls_of (args := [(aG (ptL a)), (aG (ptL b))]) Tryz.func116 rfl rfl (leB rfl) (OkC.subF (sL [0, 1] rfl) (q4 (bx' (cs := ptL a) rfl fun b1 => bx' (cs := ptL b) rfl fun b2 => al tZ83 rfl fun b3 => ?_)))
 refine q3 (sL [2, 3, 4] rfl) (ldW' 2 tA83 rfl (ldW' 1 tA83 rfl ?_))
 have hz1 := SzP_add a b
 refine ck' Tryz.call158 (pAdd_ok a b (by omega)) rfl (ck' Tryz.call159 (phalf_ok) rfl ?_)
 have hz2 := SzP_scale (a + b) ((1 : Rat) / 2)
 exact ck' Tryz.call157 (pScale_ok (a + b) ((1 : Rat) / 2) (by omega)) rfl (stW0' rfl Tryz.sizeOf83 rfl (OkL.nil (OkQ.subF (sL [4] rfl) (OkQ.then_ (OkC.ret (ret_one rfl (rd_agg (i := 0) (cs := ptL (scaleP (a + b) ((1 : Rat) / 2))) rfl rfl Tryz.isAgg83 Tryz.sizeOf83 rfl) (fun w hw => ⟨rfl, hw.out⟩)))))))
end
section
set_option maxRecDepth 100000
end

section
set_option maxRecDepth 100000
end
section
set_option maxRecDepth 100000
end
section
set_option maxRecDepth 100000
end
section
set_option maxRecDepth 100000
end
section
section
variable {P : Program} {n : Nat} {F : List (Nat × Value)} {w0 : Base} {L : List As} {v : Value} {x : Operand} {d : Option Tmp} {t : TypeId} {p : String} {af : Array Edge} {g : Option (Nat × Bool)}
end
end
section
set_option maxRecDepth 100000
end
section
set_option maxRecDepth 100000
end
section
set_option maxRecDepth 100000
end
section
set_option maxRecDepth 100000
end
section
set_option maxRecDepth 100000
end
section
set_option maxRecDepth 100000
end
section
section
variable {P : Program} {n : Nat} {F : List (Nat × Value)} {w0 : Base} {L : List As} {v : Value} {x lo hi : Operand} {d : Option Tmp} {t : TypeId} {p : String} {af : Array Edge} {g : Option (Nat × Bool)}
end
end
section
set_option maxRecDepth 100000
end
theorem turn_def (a b c : Pt) : turnP a b c = (b.x - a.x) * (c.y - a.y) - (b.y - a.y) * (c.x - a.x) := rfl
theorem turn_cyc (a b c : Pt) : turnP b c a = turnP a b c := by simp only [turn_def]; grind
section
theorem eq_intL (a b : Int) : (decide (a.natAbs = b.natAbs) && ((decide (a < 0) == decide (b < 0)) && true)) = decide (a = b) := by
  by_cases e : a = b
  · subst e; simp
  · rw [decide_eq_false e]
    by_cases h1 : a < 0 <;> by_cases h2 : b < 0 <;> simp [h1, h2] <;> omega
theorem eqB_int (D : Nat) (a b : Int) : EqB Tryz.prog (D + 4) 79 (.agg (intL a).toArray) (.agg (intL b).toArray) (decide (a = b)) := by
  rw [← eq_intL]
  exact EqB.struct Tryz.underlying79 Tryz.stoodInHeld79 (EqF.agg (us := natL a.natAbs) (bs := natL b.natAbs) (by decide) Tryz.isAgg77 Tryz.sizeOf77 rfl rfl (eqB_size D _ _) (EqF.one (by decide) Tryz.isAgg4 rfl rfl (EqB.bool Tryz.underlying4) EqF.nil))
theorem eq_fracL (a b : Rat) : (decide (a.num = b.num) && (decide (a.den - 1 = b.den - 1) && true)) = decide (a = b) := by
  by_cases e : a = b
  · subst e; simp
  · rw [decide_eq_false e]
    have h1 := a.den_pos
    have h2 := b.den_pos
    simp only [Bool.and_true, Bool.and_eq_false_iff, decide_eq_false_iff_not]
    apply Classical.byContradiction
    intro h
    refine e (Rat.ext ?_ ?_)
    · exact Classical.byContradiction fun k => h (.inl k)
    · exact Classical.byContradiction fun k => h (.inr (by omega))
theorem eqB_frac (D : Nat) (a b : Rat) : EqB Tryz.prog (D + 5) 81 (.agg (fracL a).toArray) (.agg (fracL b).toArray) (decide (a = b)) := by
  rw [← eq_fracL]
  exact EqB.struct Tryz.underlying81 Tryz.stoodInHeld81 (EqF.agg (us := intL a.num) (bs := intL b.num) (by decide) Tryz.isAgg79 Tryz.sizeOf79 rfl rfl (eqB_int D _ _) (EqF.agg (us := natL (a.den - 1)) (bs := natL (b.den - 1)) (by decide) Tryz.isAgg75 Tryz.sizeOf75 rfl rfl (eqB_nat (D + 2) _ _) EqF.nil))
instance : DecidableEq Pt := fun a b => decidable_of_iff (a.x = b.x ∧ a.y = b.y) ⟨fun h => Pt.ext h.1 h.2, fun h => h ▸ ⟨rfl, rfl⟩⟩
theorem eq_ptL (a b : Pt) : (decide (a.x = b.x) && (decide (a.y = b.y) && true)) = decide (a = b) := by
  by_cases e : a = b
  · subst e; simp
  · rw [decide_eq_false e]
    simp only [Bool.and_true, Bool.and_eq_false_iff, decide_eq_false_iff_not]
    apply Classical.byContradiction
    intro h
    refine e (Pt.ext ?_ ?_)
    · exact Classical.byContradiction fun k => h (.inl k)
    · exact Classical.byContradiction fun k => h (.inr k)
theorem eqB_pt (D : Nat) (a b : Pt) : EqB Tryz.prog (D + 6) 83 (.agg (ptL a).toArray) (.agg (ptL b).toArray) (decide (a = b)) := by
  rw [← eq_ptL]
  exact EqB.struct Tryz.underlying83 Tryz.stoodInHeld83 (EqF.agg (us := fracL a.x) (bs := fracL b.x) (by decide) Tryz.isAgg81 Tryz.sizeOf81 rfl rfl (eqB_frac D _ _) (EqF.agg (us := fracL a.y) (bs := fracL b.y) (by decide) Tryz.isAgg81 Tryz.sizeOf81 rfl rfl (eqB_frac D _ _) EqF.nil))
section
variable {P : Program}
def EqI (P : Program) (D : Nat) (e : TypeId) (c : Nat) (xs ys : List Value) (is : List Nat) (b : Bool) : Prop := ∀ w, (Go.Op.eqItems D e c xs.toArray ys.toArray is).run P w = .ok b w
theorem EqI.nil {D c : Nat} {e : TypeId} {xs ys : List Value} : EqI P D e c xs ys [] true := fun w => rfl
theorem EqI.cons {D c i : Nat} {e : TypeId} {is : List Nat} {xs ys us bs : List Value} {r s : Bool} (hg : ∀ w, (isAgg e).run P w = .ok true w) (hs : ∀ w, (sizeOf e).run P w = .ok c w)
    (ha : (xs.drop (i * c)).take c = us) (hb : (ys.drop (i * c)).take c = bs) (h : EqB P D e (.agg us.toArray) (.agg bs.toArray) r) (h2 : EqI P D e c xs ys is s) : EqI P D e c xs ys (i :: is) (r && s) := fun w => by
  have ex : ∀ l : List Value, l.toArray.extract (i * c) (i * c + c) = ((l.drop (i * c)).take c).toArray := fun l => by simp [List.extract_eq_take_drop]
  have e1 : (part e xs.toArray (i * c)).run P w = .ok (.agg us.toArray) w := by simp [part, hg, hs, ex, ha]
  have e2 : (part e ys.toArray (i * c)).run P w = .ok (.agg bs.toArray) w := by simp [part, hg, hs, ex, hb]
  simp only [Go.Op.eqItems, Sem.run_bind, e1, e2, Result.andThen_ok, h w]
  cases r
  · simp
  · simp [h2 w]
theorem EqB.array {D n c : Nat} {T e : TypeId} {xs ys : List Value} {b : Bool} (hu : P.underlying T = some (.array n e)) (hi : ∃ i, P.info? e = some i) (hc : P.cellsOf e = c) (h : EqI P D e c xs ys (List.range n) b) :
    EqB P (D + 1) T (.agg xs.toArray) (.agg ys.toArray) b := fun w => by
  obtain ⟨i, hi⟩ := hi
  rw [Go.run_equalIn_array w D xs.toArray ys.toArray hu hi, hc]
  exact h w
end
theorem eqB_pt_t (D : Nat) {a b : Pt} (h : a = b) : EqB Tryz.prog (D + 6) 83 (.agg (ptL a).toArray) (.agg (ptL b).toArray) true := by
  have := eqB_pt D a b; rwa [decide_eq_true h] at this
section
variable {P : Program} {n : Nat} {F : List (Nat × Value)} {w0 : Base} {L : List As} {x y : Operand} {d : Option Tmp} {t : TypeId} {p : String} {af : Array Edge} {g : Option (Nat × Bool)}
end
end
section
structure QD where
  n : Int
  d : Nat
structure PD where
  x : QD
  y : QD
def qdL (q : QD) : List Value := [.int .i64 q.n, .int .u32 (q.d : Nat)]
def pdL (p : PD) : List Value := qdL p.x ++ qdL p.y
def QD.ok (q : QD) : Prop := -9223372036854775808 ≤ q.n ∧ q.n < 9223372036854775808 ∧ q.d < 4294967296
def PD.ok (p : PD) : Prop := p.x.ok ∧ p.y.ok
def qOf (q : QD) : Rat := ((q.n : Int) : Rat) / (((max q.d 1 : Nat) : Int) : Rat)
def ptOf (p : PD) : Pt := ⟨qOf p.x, qOf p.y⟩
theorem Sz_qOf {q : QD} (h : q.ok) : Sz (qOf q) ≤ 4 := by
  obtain ⟨h1, h2, h3⟩ := h
  have s1 := Sz_int h1 h2
  have s2 := Sz_int (z := ((max q.d 1 : Nat) : Int)) (by omega) (by omega)
  have hb : (((max q.d 1 : Nat) : Int) : Rat) ≠ 0 := fun e => by
    have : ((max q.d 1 : Nat) : Int) = 0 := by exact_mod_cast e
    omega
  have := Sz_div (a := ((q.n : Int) : Rat)) hb
  unfold qOf
  omega
theorem SzP_ptOf {p : PD} (h : p.ok) : SzP (ptOf p) ≤ 4 := SzP_le (Sz_qOf h.1) (Sz_qOf h.2)
section
variable {P : Program} {w : World} {r : Reach} {base : Nat}
end
section
variable {P : Program} {w : World} {r : Reach} {base : Nat} {t : TypeId} {v : Value} {ts : List TypeId}
end
end
section
def rowsL {α : Type} (enc : α → List Value) (xs : List α) : List Value := xs.flatMap enc
section
variable {α : Type} {enc : α → List Value} {z : Nat}
theorem rowsL_append (xs ys : List α) : rowsL enc (xs ++ ys) = rowsL enc xs ++ rowsL enc ys := by simp [rowsL]
theorem rowsL_length (h : ∀ x, (enc x).length = z) (xs : List α) : (rowsL enc xs).length = xs.length * z := by
  induction xs with
  | nil => simp [rowsL]
  | cons x r ih =>
    have e : rowsL enc (x :: r) = enc x ++ rowsL enc r := rfl
    rw [e, List.length_append, ih, h, List.length_cons, Nat.add_mul]; omega
theorem rowsL_get (h : ∀ x, (enc x).length = z) (d : α) : ∀ (xs : List α) (j : Nat), j < xs.length → ((rowsL enc xs).drop (j * z)).take z = enc (xs.getD j d)
  | x :: r, 0, _ => by
    have e : rowsL enc (x :: r) = enc x ++ rowsL enc r := rfl
    rw [e, Nat.zero_mul, List.drop_zero, List.take_append_of_le_length (by rw [h]; exact Nat.le_refl _), List.take_of_length_le (by rw [h]; exact Nat.le_refl _)]; rfl
  | x :: r, j + 1, hj => by
    have e : rowsL enc (x :: r) = enc x ++ rowsL enc r := rfl
    rw [e, show (j + 1) * z = (enc x).length + j * z by rw [h, Nat.add_mul]; omega, List.drop_append, List.drop_of_length_le (by omega), Nat.add_sub_cancel_left, List.nil_append, rowsL_get h d r j (by simpa using hj)]; rfl
end
structure RX (cs : List Value) (n : Nat) where
  p : Option Addr
  c : Nat
  ok : RowOk p n c
@[reducible] def RX.val {cs : List Value} {n : Nat} (a : RX cs n) : Value := .slice a.p n a.c
@[reducible] def RX.row {cs : List Value} {n : Nat} (a : RX cs n) : As := rowR a.p cs
instance {cs : List Value} {n : Nat} : Ref (RX cs n) := ⟨fun a => .slice a.p n a.c, fun a => [rowR a.p cs], fun a y hy => by rcases List.mem_singleton.1 hy with rfl; rfl⟩
theorem retX {S : Nat → Prop} {W w : World} {L : List As} (hw : Own ⟨W, none⟩ w L) (i : Nat) {p : Option Addr} {T : TypeId} {z n c : Nat} {cs : List Value} (hi : L[i]? = some (rowW p T z n c cs)) (ho : OwnOk p n c) (hl : cs.length = n * z) {v : Value} (hv : v = .slice p n c) : GivesR (RX cs n) S W (.returned v) w := by
  have hb := hw.newRow hi
  refine ⟨⟨p, c, ho.row⟩, by rw [hv]; rfl, hw.out, fun y hy => ?_⟩
  rcases List.mem_singleton.1 hy with rfl
  refine ⟨fun d e => ?_, fun d e => .inl (hb d e)⟩
  obtain ⟨_, o, ho2, hp⟩ := hw.2.1 _ (List.mem_of_getElem? hi) d e
  exact ⟨o, ho2, lies_of_rowW ho hl hp⟩
def bytL (xs : List Nat) : List Value := xs.map fun x => Value.int .u8 (x : Nat)
theorem bytL_get {xs : List Nat} {j : Nat} (h : j < xs.length) : (bytL xs)[j * 1]? = some (.int .u8 ((xs.getD j 0 : Nat) : Int)) := by rw [Nat.mul_one]; simp [bytL, h]
structure MQ where
  nx : Nat
  ny : Nat
  cs : List Nat
  p : Option Addr
  cap : Nat
  a : Int
  b : Int
  c : Int
  d : Int
  den : Nat
  fst : Nat
  hx : nx < 256
  hy : ny < 256
  ha : -128 ≤ a ∧ a ≤ 127
  hb : -128 ≤ b ∧ b ≤ 127
  hc : -128 ≤ c ∧ c ≤ 127
  hd : -128 ≤ d ∧ d ≤ 127
  hden : den < 256
  hfst : fst < 256
  hcs : ∀ x ∈ cs, x < 256
  ok : RowOk p cs.length cap
def mqL (m : MQ) : List Value := [.int .u8 m.nx, .int .u8 m.ny, .slice m.p m.cs.length m.cap, .int .i8 m.a, .int .i8 m.b, .int .i8 m.c, .int .i8 m.d, .int .u8 m.den, .int .u8 m.fst]
instance : Ref MQ := ⟨fun m => aG (mqL m), fun m => [rowR m.p (bytL m.cs)], fun a y hy => by rcases List.mem_singleton.1 hy with rfl; rfl⟩
theorem quoN_u8 {a b : Nat} (h : a < 256) : IntKind.u8.wrap ((a : Int).tdiv (b : Int)) = ((a / b : Nat) : Int) := by
  have : a / b ≤ a := Nat.div_le_self _ _
  rw [← Int.ofNat_tdiv]
  generalize a / b = q at *
  exact wrap_u8 (by omega) (by omega)
theorem addN_u8 {a b : Nat} (h : a + b < 256) : IntKind.u8.wrap ((a : Int) + (b : Int)) = ((a + b : Nat) : Int) := by rw [wrap_u8 (by omega) (by omega)]; omega
abbrev P2 := Nat × Nat
def cellT (nx way i : Nat) : List (P2 × P2 × P2) :=
  let x := 2 * (i % nx); let y := 2 * (i / nx)
  if way < 3 ∨ (way = 7 ∧ i = 0) then [((x, y), (x + 2, y), (x + 2, y + 2)), ((x, y), (x + 2, y + 2), (x, y + 2))]
  else if way < 5 then [((x, y), (x + 2, y), (x, y + 2)), ((x + 2, y), (x + 2, y + 2), (x, y + 2))]
  else if way < 7 then [((x, y), (x + 2, y), (x + 1, y + 1)), ((x + 2, y), (x + 2, y + 2), (x + 1, y + 1)), ((x + 2, y + 2), (x, y + 2), (x + 1, y + 1)), ((x, y + 2), (x, y), (x + 1, y + 1))] else []
def turn2 (p q r : P2) : Int := ((q.1 : Int) - p.1) * ((r.2 : Int) - p.2) - ((q.2 : Int) - p.2) * ((r.1 : Int) - p.1)
def TriOk (t : P2 × P2 × P2) : Prop := 0 < turn2 t.1 t.2.1 t.2.2 ∧ (t.1.1 ≤ 6 ∧ t.1.2 ≤ 6) ∧ (t.2.1.1 ≤ 6 ∧ t.2.1.2 ≤ 6) ∧ (t.2.2.1 ≤ 6 ∧ t.2.2.2 ≤ 6)
theorem cellT_ok {nx ny way i : Nat} (hx : nx ≤ 3) (hy : ny ≤ 3) (hi : i < nx * ny) : ∀ t ∈ cellT nx way i, TriOk t := by
  have h1 : i % nx ≤ 2 := by
    have : nx ≠ 0 := fun e => by subst e; omega
    have := Nat.mod_lt i (show 0 < nx by omega)
    omega
  have h2 : i / nx ≤ 2 := by
    have : i / nx < ny := Nat.div_lt_of_lt_mul (by rwa [Nat.mul_comm] at hi ⊢)
    omega
  intro t ht
  unfold cellT at ht
  generalize i % nx = u at *
  generalize i / nx = v at *
  have key : ∀ t : P2 × P2 × P2, t ∈ [((2*u, 2*v), (2*u + 2, 2*v), (2*u + 2, 2*v + 2)), ((2*u, 2*v), (2*u + 2, 2*v + 2), (2*u, 2*v + 2)), ((2*u, 2*v), (2*u + 2, 2*v), (2*u, 2*v + 2)), ((2*u + 2, 2*v), (2*u + 2, 2*v + 2), (2*u, 2*v + 2)),
      ((2*u, 2*v), (2*u + 2, 2*v), (2*u + 1, 2*v + 1)), ((2*u + 2, 2*v), (2*u + 2, 2*v + 2), (2*u + 1, 2*v + 1)), ((2*u + 2, 2*v + 2), (2*u, 2*v + 2), (2*u + 1, 2*v + 1)), ((2*u, 2*v + 2), (2*u, 2*v), (2*u + 1, 2*v + 1))] → TriOk t := by
    intro t ht
    simp only [List.mem_cons, List.not_mem_nil, or_false] at ht
    rcases ht with rfl | rfl | rfl | rfl | rfl | rfl | rfl | rfl <;> refine ⟨?_, ⟨?_, ?_⟩, ⟨?_, ?_⟩, ?_, ?_⟩ <;> dsimp only [turn2] <;> first | omega | grind
  refine key t ?_
  simp only at ht
  split at ht
  · simp only [List.mem_cons, List.not_mem_nil, or_false] at ht ⊢; rcases ht with h | h <;> simp [h]
  · split at ht
    · simp only [List.mem_cons, List.not_mem_nil, or_false] at ht ⊢; rcases ht with h | h <;> simp [h]
    · split at ht
      · simp only [List.mem_cons, List.not_mem_nil, or_false] at ht ⊢; rcases ht with h | h | h | h <;> simp [h]
      · cases ht
theorem cellT_len (nx way i : Nat) : (cellT nx way i).length ≤ 4 := by
  unfold cellT; simp only; split
  · simp
  · split
    · simp
    · split <;> simp
theorem cellT_first (nx way : Nat) (h : way < 8) : cellT nx way 0 ≠ [] := by
  unfold cellT; simp only; split
  · simp
  · split
    · simp
    · split
      · simp
      · rename_i h1 h2 h3; simp only [and_true, not_or] at h1; omega
section
variable {nx way i u v : Nat}
theorem cellT_0 (hu : u = i % nx) (hv : v = i / nx) (h : way < 3 ∨ (way = 7 ∧ i = 0)) : cellT nx way i = [((2 * u, 2 * v), (2 * u + 2, 2 * v), (2 * u + 2, 2 * v + 2)), ((2 * u, 2 * v), (2 * u + 2, 2 * v + 2), (2 * u, 2 * v + 2))] := by
  subst hu; subst hv; exact if_pos h
theorem cellT_1 (hu : u = i % nx) (hv : v = i / nx) (h0 : ¬ (way < 3 ∨ (way = 7 ∧ i = 0))) (h : way < 5) : cellT nx way i = [((2 * u, 2 * v), (2 * u + 2, 2 * v), (2 * u, 2 * v + 2)), ((2 * u + 2, 2 * v), (2 * u + 2, 2 * v + 2), (2 * u, 2 * v + 2))] := by
  subst hu; subst hv; exact (if_neg h0).trans (if_pos h)
theorem cellT_2 (hu : u = i % nx) (hv : v = i / nx) (h0 : ¬ (way < 3 ∨ (way = 7 ∧ i = 0))) (h1 : ¬ way < 5) (h : way < 7) : cellT nx way i = [((2 * u, 2 * v), (2 * u + 2, 2 * v), (2 * u + 1, 2 * v + 1)), ((2 * u + 2, 2 * v), (2 * u + 2, 2 * v + 2), (2 * u + 1, 2 * v + 1)), ((2 * u + 2, 2 * v + 2), (2 * u, 2 * v + 2), (2 * u + 1, 2 * v + 1)), ((2 * u, 2 * v + 2), (2 * u, 2 * v), (2 * u + 1, 2 * v + 1))] := by
  subst hu; subst hv; exact (if_neg h0).trans ((if_neg h1).trans (if_pos h))
theorem cellT_3 (h0 : ¬ (way < 3 ∨ (way = 7 ∧ i = 0))) (h1 : ¬ way < 5) (h : ¬ way < 7) : cellT nx way i = [] := (if_neg h0).trans ((if_neg h1).trans (if_neg h))
end
def posL (p : P2) : List Value := [vN p.1, vN p.2]
theorem posL_len (p : P2) : (posL p).length = 2 := rfl
def triPL (t : P2 × P2 × P2) : List Value := posL t.1 ++ posL t.2.1 ++ posL t.2.2
theorem triPL_len (t : P2 × P2 × P2) : (triPL t).length = 6 := rfl
def t3L (t : Nat × Nat × Nat) : List Value := [vN t.1, vN t.2.1, vN t.2.2]
theorem t3L_len (t : Nat × Nat × Nat) : (t3L t).length = 3 := rfl
def movL (z : Int × Int) : List Value := [.int .i64 z.1, .int .i64 z.2]
theorem movL_len (z : Int × Int) : (movL z).length = 2 := rfl
def wayM (m : MQ) (i : Nat) : Nat := if 0 < m.cs.length then m.cs.getD (i % m.cs.length) 0 % 8 else 0
theorem wayM_lt (m : MQ) (i : Nat) : wayM m i < 8 := by unfold wayM; split <;> omega
def nxM (m : MQ) : Nat := 1 + m.nx % 3
def nyM (m : MQ) : Nat := 1 + m.ny % 3
def cellsN (m : MQ) : Nat → List (P2 × P2 × P2)
  | 0 => []
  | i + 1 => cellsN m i ++ cellT (nxM m) (wayM m i) i
def cellsM (m : MQ) : List (P2 × P2 × P2) := cellsN m (nxM m * nyM m)
theorem nxM_le (m : MQ) : 1 ≤ nxM m ∧ nxM m ≤ 3 := by unfold nxM; omega
theorem nyM_le (m : MQ) : 1 ≤ nyM m ∧ nyM m ≤ 3 := by unfold nyM; omega
theorem cellsN_len (m : MQ) : ∀ i, (cellsN m i).length ≤ 4 * i
  | 0 => Nat.le_refl _
  | i + 1 => by
    have h1 := cellsN_len m i
    have h2 := cellT_len (nxM m) (wayM m i) i
    show (cellsN m i ++ cellT (nxM m) (wayM m i) i).length ≤ _
    rw [List.length_append]; omega
theorem cellsN_ok (m : MQ) : ∀ i, i ≤ nxM m * nyM m → ∀ t ∈ cellsN m i, TriOk t
  | 0, _, t, ht => by cases ht
  | i + 1, hi, t, ht => by
    rcases List.mem_append.1 ht with h | h
    · exact cellsN_ok m i (by omega) t h
    · exact cellT_ok (nxM_le m).2 (nyM_le m).2 (by omega) t h
theorem cellsN_ne (m : MQ) : ∀ i, 1 ≤ i → cellsN m i ≠ []
  | 1, _ => by
    show [] ++ cellT (nxM m) (wayM m 0) 0 ≠ []
    rw [List.nil_append]; exact cellT_first _ _ (wayM_lt m 0)
  | i + 2, _ => fun e => cellsN_ne m (i + 1) (by omega) (List.append_eq_nil_iff.1 e).1
theorem cellsM_ne (m : MQ) : cellsM m ≠ [] := cellsN_ne m _ (Nat.mul_pos (nxM_le m).1 (nyM_le m).1)
theorem cellsM_ok (m : MQ) : ∀ t ∈ cellsM m, TriOk t := cellsN_ok m _ (Nat.le_refl _)
theorem cells_bound (m : MQ) : nxM m * nyM m ≤ 9 := Nat.mul_le_mul (nxM_le m).2 (nyM_le m).2
theorem cellsM_len (m : MQ) : (cellsM m).length ≤ 36 := by
  have h1 := cellsN_len m (nxM m * nyM m)
  have h2 := cells_bound m
  unfold cellsM; omega
theorem mul_small {a b : Int} {k : Int} (ha : -3 ≤ a ∧ a ≤ 3) (hb : -k ≤ b ∧ b ≤ k) : -(3 * k) ≤ a * b ∧ a * b ≤ 3 * k := by
  obtain ⟨h3, h4⟩ := ha
  have e : a = -3 ∨ a = -2 ∨ a = -1 ∨ a = 0 ∨ a = 1 ∨ a = 2 ∨ a = 3 := by omega
  rcases e with rfl | rfl | rfl | rfl | rfl | rfl | rfl <;> omega
def i4L (k : Int × Int × Int × Int) : List Value := [.int .i64 k.1, .int .i64 k.2.1, .int .i64 k.2.2.1, .int .i64 k.2.2.2]
structure Map4 where
  a : Int
  b : Int
  c : Int
  d : Int
def Map4.det (k : Map4) : Int := k.a * k.d - k.b * k.c
structure Map4.Ok (k : Map4) : Prop where
  a : -3 ≤ k.a ∧ k.a ≤ 3
  b : -3 ≤ k.b ∧ k.b ≤ 3
  c : -3 ≤ k.c ∧ k.c ≤ 3
  d : -3 ≤ k.d ∧ k.d ≤ 3
  pos : 0 < k.det
def Map4.at_ (k : Map4) (p : P2) : Int × Int := (k.a * p.1 + k.b * p.2, k.c * p.1 + k.d * p.2)
def map4 (a b c d : Int) : Map4 :=
  let k : Map4 := ⟨a.tmod 4, b.tmod 4, c.tmod 4, d.tmod 4⟩
  if k.det = 0 then ⟨1, 0, 0, 1⟩ else if k.det < 0 then ⟨k.a, k.b, -k.c, -k.d⟩ else k
theorem tmod4 (a : Int) : -3 ≤ a.tmod 4 ∧ a.tmod 4 ≤ 3 := by
  have h := Int.tmod_eq_emod (a := a) (b := 4)
  have h1 := Int.emod_nonneg a (show (4 : Int) ≠ 0 by decide)
  have h2 := Int.emod_lt_of_pos a (show (0 : Int) < 4 by decide)
  rw [h]
  split <;> omega
theorem map4_z {a b c d A B C D : Int} (hA : A = a.tmod 4) (hB : B = b.tmod 4) (hC : C = c.tmod 4) (hD : D = d.tmod 4) (h : A * D - B * C = 0) : map4 a b c d = ⟨1, 0, 0, 1⟩ := by
  subst hA; subst hB; subst hC; subst hD; exact if_pos h
theorem map4_n {a b c d A B C D : Int} (hA : A = a.tmod 4) (hB : B = b.tmod 4) (hC : C = c.tmod 4) (hD : D = d.tmod 4) (h : A * D - B * C < 0) : map4 a b c d = ⟨A, B, -C, -D⟩ := by
  subst hA; subst hB; subst hC; subst hD; exact (if_neg (fun e : a.tmod 4 * d.tmod 4 - b.tmod 4 * c.tmod 4 = 0 => by rw [e] at h; omega)).trans (if_pos h)
theorem map4_p {a b c d A B C D : Int} (hA : A = a.tmod 4) (hB : B = b.tmod 4) (hC : C = c.tmod 4) (hD : D = d.tmod 4) (h0 : ¬ A * D - B * C = 0) (h : ¬ A * D - B * C < 0) : map4 a b c d = ⟨A, B, C, D⟩ := by
  subst hA; subst hB; subst hC; subst hD; exact (if_neg h0).trans (if_neg h)
theorem map4_ok (a b c d : Int) : (map4 a b c d).Ok := by
  have ha := tmod4 a; have hb := tmod4 b; have hc := tmod4 c; have hd := tmod4 d
  unfold map4
  generalize a.tmod 4 = a' at *
  generalize b.tmod 4 = b' at *
  generalize c.tmod 4 = c' at *
  generalize d.tmod 4 = d' at *
  show (if a' * d' - b' * c' = 0 then (⟨1, 0, 0, 1⟩ : Map4) else if a' * d' - b' * c' < 0 then ⟨a', b', -c', -d'⟩ else ⟨a', b', c', d'⟩).Ok
  by_cases h0 : a' * d' - b' * c' = 0
  · rw [if_pos h0]; exact ⟨by decide, by decide, by decide, by decide, by decide⟩
  · rw [if_neg h0]
    by_cases h : a' * d' - b' * c' < 0
    · rw [if_pos h]; exact ⟨ha, hb, by dsimp only; omega, by dsimp only; omega, by show 0 < a' * -d' - b' * -c'; rw [Int.mul_neg, Int.mul_neg]; omega⟩
    · rw [if_neg h]; exact ⟨ha, hb, hc, hd, by show 0 < a' * d' - b' * c'; omega⟩
theorem at_small {k : Map4} (h : k.Ok) {p : P2} (hp : p.1 ≤ 6 ∧ p.2 ≤ 6) : (-36 ≤ (k.at_ p).1 ∧ (k.at_ p).1 ≤ 36) ∧ -36 ≤ (k.at_ p).2 ∧ (k.at_ p).2 ≤ 36 := by
  obtain ⟨x, y⟩ := p
  have key : ∀ (z : Int) (n : Nat), -3 ≤ z ∧ z ≤ 3 → n ≤ 6 → -18 ≤ z * n ∧ z * n ≤ 18 := fun z n h1 h2 => by
    obtain ⟨h3, h4⟩ := h1
    have e : z = -3 ∨ z = -2 ∨ z = -1 ∨ z = 0 ∨ z = 1 ∨ z = 2 ∨ z = 3 := by omega
    rcases e with rfl | rfl | rfl | rfl | rfl | rfl | rfl <;> omega
  have h1 := key k.a x h.a hp.1; have h2 := key k.b y h.b hp.2; have h3 := key k.c x h.c hp.1; have h4 := key k.d y h.d hp.2
  simp only [Map4.at_]
  exact ⟨⟨by omega, by omega⟩, by omega, by omega⟩
def pdM (k : Map4) (den : Nat) (p : P2) : PD := ⟨⟨(k.at_ p).1, den⟩, ⟨(k.at_ p).2, den⟩⟩
theorem turn_pt {k : Map4} (h : k.Ok) (den : Nat) {p q r : P2} (ht : 0 < turn2 p q r) : 0 < turnP (ptOf (pdM k den p)) (ptOf (pdM k den q)) (ptOf (pdM k den r)) := by
  have hD : 0 < (((max den 1 : Nat) : Int) : Rat) := by exact_mod_cast (show (0 : Int) < ((max den 1 : Nat) : Int) by omega)
  have e : turnP (ptOf (pdM k den p)) (ptOf (pdM k den q)) (ptOf (pdM k den r)) = ((k.det * turn2 p q r : Int) : Rat) * ((((max den 1 : Nat) : Int) : Rat)⁻¹ * (((max den 1 : Nat) : Int) : Rat)⁻¹) := by
    simp only [turn_def, ptOf, pdM, qOf, Map4.at_, Map4.det, turn2, Rat.div_def, Rat.intCast_add, Rat.intCast_mul, Rat.intCast_sub]
    generalize (((max den 1 : Nat) : Int) : Rat)⁻¹ = D
    grind
  rw [e]
  have h1 : 0 < k.det * turn2 p q r := Int.mul_pos h.pos ht
  have h2 : (0 : Rat) < ((k.det * turn2 p q r : Int) : Rat) := by exact_mod_cast h1
  have h3 := Rat.inv_pos.2 hD
  exact Rat.mul_pos h2 (Rat.mul_pos h3 h3)
end
end Go.Proofs.YtgiacpkjnikjdaaGreat
