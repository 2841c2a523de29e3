import Derived.Test.YtpkoldfmbebmgaaGreatDoorPart07
import Derived.Test.YtpkoldfmbebmgaaGreatDoorPart34
namespace Go.Proofs.YtpkoldfmbebmgaaGreatDoor
open Go Go.RowKit
set_option linter.unusedVariables false
set_option linter.unusedSimpArgs false
section
set_option maxRecDepth 100000
theorem zFrom_ok {x : Nat} (neg : Bool) (n : NX x) (w : World) {S : Nat → Prop} (hn : Ro S w n)  : Calls Tryz.prog 102 #[(Value.bool neg), (nxV n)] w (GivesR (ZX (mkI neg x)) S w) := by
 have ln := atA (W := w) hn
 refine calls_ofR (args := [(Value.bool neg), (nxV n)]) (L := [nxR n]) Tryz.func102 rfl rfl (leB rfl) (sxN hn roL_nil) (OkC.subF (sC 0 rfl (sC 1 rfl (sN))) (q4 (al tZ43 rfl fun b1 => OkL.nil (q2 ?_))))
 refine mv rfl rfl (mv rfl rfl ?_)
 refine OkL.mid (FM := [(0, (Value.bool neg)), (1, (nxV n)), (4, (pP b1 0)), (5, (Value.bool neg)), (6, (Value.bool neg)), (10, (Value.bool (neg && (decide (0 < ((dg x).length))))))]) (LM := [blk b1 43 ([(Value.bool false), (Value.slice none 0 0)]), nxR n]) 4 ?_ ?_
 ·rcases Bool.eq_false_or_eq_true neg with hg1 | hg1
  ·skip
   refine OkL.retell (k := 6) (u := Value.bool true) rfl (by rw [hg1]) ?_
   have hg1' := hg1
   skip
   exact OkL.step (v := (nxV n)) (wt_some rfl rfl rfl) (ex_move rfl) rfl (leB rfl) (OkL.step (v := (vN ((dg x).length))) (wt_some rfl rfl rfl) (ex_len_slice rfl Tryz.underlying41) rfl (leB rfl) (OkL.step (v := (Value.bool (decide (0 < ((dg x).length))))) (wt_some rfl rfl rfl) (ex_gtr (c := (decide (0 < ((dg x).length)))) rfl rfl (ltN (a := 0) (b := (dg x).length))) rfl (leB rfl) (st (v := (Value.bool (decide (0 < ((dg x).length))))) (ex_pick_true rfl rfl) (leB rfl) (OkL.nil (OkQ.mid (sS rfl (sS rfl (sS rfl (sS rfl (sS (by first | rfl | (rw [hg1]; rfl) | rw [hg1]) (sS (by first | rfl | (rw [hg1]; rfl) | rw [hg1]) (sN))))))) (List.Sublist.refl _))))))
  ·skip
   refine OkL.retell (k := 6) (u := Value.bool false) rfl (by rw [hg1]) ?_
   have hg1' := hg1
   skip
   exact OkL.skip (wt_not rfl rfl rfl) rfl (leB rfl) (OkL.skip (wt_not rfl rfl rfl) rfl (leB rfl) (OkL.skip (wt_not rfl rfl rfl) rfl (leB rfl) (st (v := (Value.bool false)) (ex_pick_false rfl rfl) (leB rfl) (OkL.nil (OkQ.mid (sS rfl (sS rfl (sS rfl (sS rfl (sS (by first | rfl | (rw [hg1]; rfl) | rw [hg1]) (sS (by first | rfl | (rw [hg1]; rfl) | rw [hg1]) (sN))))))) (List.Sublist.refl _))))))
 refine mv rfl rfl (st (v := (aG ([(Value.bool (neg && (decide (0 < ((dg x).length))))), (nxV n)]))) (ex_build_struct (zs := [(Value.bool false), (Value.slice none 0 0)]) (vs := [(Value.bool (neg && (decide (0 < ((dg x).length))))), (nxV n)]) (pv := [(0, (Value.bool (neg && (decide (0 < ((dg x).length)))))), (1, (nxV n))]) (places := [(0, 1), (1, 1)]) Tryz.zeroValue43 Tryz.underlying43 (fun w => by simp [Tryz.sizeOf4, Tryz.sizeOf41]) rfl rfl) (leB rfl) (stW0 rfl rfl rfl Tryz.sizeOf43 rfl rfl (OkL.nil (OkQ.subF (sC 4 rfl (sN)) (OkQ.then_ ?_)))))
 exact OkC.ret (ret_one rfl (rd_agg (i := 0) (cs := [(Value.bool (neg && (decide (0 < ((dg x).length))))), (nxV n)]) rfl rfl Tryz.isAgg43 Tryz.sizeOf43 rfl) (fun w hw => retR (a := mkZX neg n) hw (mkZ (roCast (inS hw 1 rfl ln))) (by rw [← zxL_mk]; rfl)))
theorem zOf_ok (z : Int) (hz : -9223372036854775808 ≤ z) (hz2 : z < 9223372036854775808) (w : World) {S : Nat → Prop}  : Calls Tryz.prog 97 #[(vI z)] w (GivesR (ZX z) S w) := by
 refine calls_of (args := [(vI z)]) Tryz.func97 rfl rfl (leB rfl) (OkC.subF (sC 0 rfl (sN)) (q4 (al tZ43 rfl fun b1 => OkL.nil (q1 ?_))))
 refine q4 (mv rfl rfl (st (ex_lss (c := (decide (z < (0 : Int)))) rfl rfl rfl) (leB rfl) (OkL.nil (OkQ.subF (sC 0 rfl (sC 2 rfl (sC 4 rfl (sN)))) (OkQ.then_ ?_)))))
 refine OkC.cond rfl (fun hc0 => ?_) (fun hc0 => ?_)
 ·replace hc0 := of_decide_eq_true hc0
  refine q4 (mv rfl rfl (st (ex_add (c := (z + 1)) rfl rfl (wrap_i64 (by omega) (by omega))) (leB rfl) (st (ex_neg (c := (((-(z + 1)).toNat : Nat) : Int)) rfl (by rw [wrap_i64 (by omega) (by omega)]; omega)) (leB rfl) (st (ex_conv (c := (((-(z + 1)).toNat : Nat) : Int)) rfl Tryz.underlying2 Tryz.underlying28 (convN_u64 (by omega))) (leB rfl) (st (ex_add (c := ((z.natAbs : Nat) : Int)) rfl rfl (by rw [wrap_u64 (by omega) (by omega)]; omega)) (leB rfl) ?_)))))
  refine cN (S := S) (x := z.natAbs) (args := [(vK .u64 z.natAbs)]) Tryz.call128 (fun w hw => xOf_ok z.natAbs (by first | omega | (simp only [Int.natAbs_neg]; omega)) w) rfl rfl rfl fun g1 lg1 => cZ (S := S) (x := z) (args := [(Value.bool true), (nxV g1)]) Tryz.call102 (fun w hw => (GivesR.cast (T := fun i => ZX i) (mkI_natAbs_neg hc0) (zFrom_ok true g1 w (inS hw 0 rfl lg1)))) rfl rfl rfl fun g2 lg2 => stW2 rfl rfl rfl Tryz.sizeOf43 rfl rfl (OkL.nil (OkQ.subF (sC 0 rfl (sC 2 rfl (sN))) (OkQ.then_ ?_)))
  exact OkC.ret (OkQ.then_ret (ret_one rfl (rd_agg (i := 2) (cs := zxL g2) rfl rfl Tryz.isAgg43 Tryz.sizeOf43 rfl) (fun w hw => retR (a := (g2 : ZX z)) hw (inS hw 0 rfl lg2) rfl)))
 ·replace hc0 := of_decide_eq_false hc0
  refine OkC.skip (q2 (mv rfl rfl (st (ex_conv (c := ((z.natAbs : Nat) : Int)) rfl Tryz.underlying2 Tryz.underlying28 (by rw [wrap_u64 (by omega) (by omega)]; omega)) (leB rfl) (cN (S := S) (x := z.natAbs) (args := [(vK .u64 z.natAbs)]) Tryz.call128 (fun w hw => xOf_ok z.natAbs (by first | omega | (simp only [Int.natAbs_neg]; omega)) w) rfl rfl rfl fun g3 lg3 => cZ (S := S) (x := z) (args := [(Value.bool false), (nxV g3)]) Tryz.call102 (fun w hw => (GivesR.cast (T := fun i => ZX i) (mkI_toNat hc0) (zFrom_ok false g3 w (inS hw 0 rfl lg3)))) rfl rfl rfl fun g4 lg4 => ?_))))
  exact stW2 rfl rfl rfl Tryz.sizeOf43 rfl rfl (OkL.nil (OkQ.subF (sC 0 rfl (sC 2 rfl (sN))) (OkQ.then_ (OkC.ret (ret_one rfl (rd_agg (i := 2) (cs := zxL g4) rfl rfl Tryz.isAgg43 Tryz.sizeOf43 rfl) (fun w hw => retR (a := (g4 : ZX z)) hw (inS hw 0 rfl lg4) rfl))))))
theorem zSign_ok {x : Int} (a : ZX x) (w : World) {S : Nat → Prop} (ha : Ro S w a)  : Calls Tryz.prog 125 #[(aG (zxL a))] w (Gives w (vI x.sign)) := by
 have la := atA (W := w) ha
 refine calls_ofR (args := [(aG (zxL a))]) (L := [nxR a.n]) Tryz.func125 rfl rfl (leB rfl) (sxZ ha roL_nil) (OkC.subF (sC 0 rfl (sN)) (q4 (bx (cs := zxL a) rfl rfl rfl fun b1 => asg rfl rfl (q6 (sC 1 rfl (sC 2 rfl (sN))) ?_))))
 refine q4 (st (v := (pP b1 1)) (ex_fieldAddr rfl Tryz.underlying43 rfl Tryz.sizeOf41 rfl) (leB rfl) (ldO 0 (nxV a.n) tO41 rfl rfl rfl rfl (st (v := (vN ((dg x.natAbs).length))) (ex_len_slice rfl Tryz.underlying41) (leB rfl) (st (ex_eql (c := (decide (((dg x.natAbs).length) = 0))) rfl rfl (eqN (a := (dg x.natAbs).length) (b := 0))) (leB rfl) (OkL.nil ?_)))))
 refine OkQ.subF (sC 1 rfl (sC 2 rfl (sC 6 rfl (sN)))) (OkQ.then_ ?_)
 refine OkC.cond rfl (fun hc0 => ?_) (fun hc0 => ?_)
 ·replace hc0 := of_decide_eq_true hc0
  have he : x.sign = 0 := by rw [show x = 0 by have := len_zero hc0; omega]; rfl
  exact q4 (asg rfl rfl (OkL.nil (OkQ.then_ (OkC.ret (OkQ.then_ret (ret_one rfl (rd_tmp (v := (vI 0)) rfl) (fun w hw => ⟨by rw [he], hw.out⟩)))))))
 ·replace hc0 := of_decide_eq_false hc0
  have hx0 := len_not_zero hc0
  refine OkC.skip (q1 (q4 (st (v := (pP b1 0)) (ex_fieldAddr rfl Tryz.underlying43 rfl Tryz.sizeOf4 rfl) (leB rfl) (ldO 0 (Value.bool (decide (x < 0))) tO4 rfl rfl rfl rfl (OkL.nil ?_)))))
  refine OkQ.subF (sC 1 rfl (sC 2 rfl (sC 8 rfl (sN)))) (OkQ.then_ ?_)
  refine OkC.cond rfl (fun hc1 => ?_) (fun hc1 => ?_)
  ·replace hc1 := of_decide_eq_true hc1
   have he : x.sign = -1 := Int.sign_eq_neg_one_of_neg hc1
   exact q4 (asg rfl rfl (OkL.nil (OkQ.then_ (OkC.ret (OkQ.then_ret (ret_one rfl (rd_tmp (v := (vI (-1 : Int))) rfl) (fun w hw => ⟨by rw [he], hw.out⟩)))))))
  ·replace hc1 := of_decide_eq_false hc1
   have he : x.sign = 1 := Int.sign_eq_one_of_pos (by omega)
   exact OkC.skip (q2 (asg rfl rfl (OkL.nil (OkQ.then_ (OkC.ret (ret_one rfl (rd_tmp (v := (vI 1)) rfl) (fun w hw => ⟨by rw [he], hw.out⟩)))))))
theorem zNeg_ok {x : Int} (a : ZX x) (w : World) {S : Nat → Prop} (ha : Ro S w a)  : Calls Tryz.prog 129 #[(aG (zxL a))] w (GivesR (ZX (-x)) S w) := by
 have la := atA (W := w) ha
 refine calls_ofR (args := [(aG (zxL a))]) (L := [nxR a.n]) Tryz.func129 rfl rfl (leB rfl) (sxZ ha roL_nil) (OkC.subF (sC 0 rfl (sN)) (q4 (bx (cs := zxL a) rfl rfl rfl fun b1 => al tZ43 rfl fun b2 => q3 (sC 1 rfl (sC 2 rfl (sN))) ?_)))
 refine st (v := (pP b1 0)) (ex_fieldAddr rfl Tryz.underlying43 rfl Tryz.sizeOf4 rfl) (leB rfl) (ldO 1 (Value.bool (decide (x < 0))) tO4 rfl rfl rfl rfl (st (ex_not (c := (!(decide (x < 0)))) rfl rfl) (leB rfl) (st (v := (pP b1 1)) (ex_fieldAddr rfl Tryz.underlying43 rfl Tryz.sizeOf41 rfl) (leB rfl) (ldO 1 (nxV a.n) tO41 rfl rfl rfl rfl (cZ (S := S) (x := (-x)) (args := [(Value.bool (!(decide (x < 0)))), (nxV a.n)]) Tryz.call102 (fun w hw => (GivesR.cast (T := fun i => ZX i) (mkI_not x) (zFrom_ok (!(decide (x < 0))) a.n w (roN (inS hw 2 rfl la))))) rfl rfl rfl fun g1 lg1 => ?_)))))
 exact stW1 rfl rfl rfl Tryz.sizeOf43 rfl rfl (OkL.nil (OkQ.subF (sC 2 rfl (sN)) (OkQ.then_ (OkC.ret (ret_one rfl (rd_agg (i := 1) (cs := zxL g1) rfl rfl Tryz.isAgg43 Tryz.sizeOf43 rfl) (fun w hw => retR (a := (g1 : ZX (-x))) hw (inS hw 0 rfl lg1) rfl))))))
theorem zAdd_ok {x y : Int} (a : ZX x) (b : ZX y) (hx : nw x.natAbs ≤ 67108864) (hy : nw y.natAbs ≤ 67108864) (w : World) {S : Nat → Prop} (ha : Ro S w a) (hb : Ro S w b)  : Calls Tryz.prog 126 #[(aG (zxL a)), (aG (zxL b))] w (GivesR (ZX (x + y)) S w) := by
 have la := atA (W := w) ha
 have lb := atA (W := w) hb
 refine calls_ofR (args := [(aG (zxL a)), (aG (zxL b))]) (L := [nxR a.n, nxR b.n]) Tryz.func126 rfl rfl (leB rfl) (sxZ ha (sxZ hb roL_nil)) (OkC.subF (sC 0 rfl (sC 1 rfl (sN))) (q4 (bx (cs := zxL a) rfl rfl rfl fun b1 => bx (cs := zxL b) rfl rfl rfl fun b2 => al tZ43 rfl fun b3 => ?_)))
 refine q6 (sC 2 rfl (sC 3 rfl (sC 4 rfl (sN)))) (q4 (st (v := (pP b1 0)) (ex_fieldAddr rfl Tryz.underlying43 rfl Tryz.sizeOf4 rfl) (leB rfl) (ldO 2 (Value.bool (decide (x < 0))) tO4 rfl rfl rfl rfl (st (v := (pP b2 0)) (ex_fieldAddr rfl Tryz.underlying43 rfl Tryz.sizeOf4 rfl) (leB rfl) (ldO 1 (Value.bool (decide (y < 0))) tO4 rfl rfl rfl rfl ?_)))))
 refine st (ex_eql_bool (c := (decide (x < 0) == decide (y < 0))) rfl rfl Tryz.underlying4 rfl) (leB rfl) (OkL.nil (OkQ.subF (sC 2 rfl (sC 3 rfl (sC 4 rfl (sC 9 rfl (sN))))) (OkQ.then_ ?_)))
 refine OkC.cond rfl (fun hc0 => ?_) (fun hc0 => ?_)
 ·skip
  refine OkC.seq (rG [(0, true), (1, true), (2, true), (3, true), (4, true), (5, true), (6, false), (7, false), (8, false)] (sl sr) (by kernel_rfl) (fun _ _ d _ _ h => by cases d <;> exact h) (pE (v := (pP b1 0)) rfl (ex_fieldAddr rfl Tryz.underlying43 rfl Tryz.sizeOf4 rfl) rfl (pO' 1 (Value.bool (decide (x < 0))) tO4 rfl rfl rfl rfl rfl (pE (v := (pP b1 1)) rfl (ex_fieldAddr rfl Tryz.underlying43 rfl Tryz.sizeOf41 rfl) rfl (pO' 1 (nxV a.n) tO41 rfl rfl rfl rfl rfl ?_)))))
  refine pE (v := (pP b2 1)) rfl (ex_fieldAddr rfl Tryz.underlying43 rfl Tryz.sizeOf41 rfl) rfl (pO' 0 (nxV b.n) tO41 rfl rfl rfl rfl rfl (OkE.imp rfl (cN (S := S) (x := (x.natAbs + y.natAbs)) (args := [(nxV a.n), (nxV b.n)]) Tryz.call144 (fun w hw => xAdd_ok a.n b.n (by first | omega | (simp only [Int.natAbs_neg]; omega)) (by first | omega | (simp only [Int.natAbs_neg]; omega)) w (roN (inS hw 3 rfl la)) (roN (inS hw 4 rfl lb))) rfl rfl rfl fun g1 lg1 => OkE.back (sl (sl sr)) (OkE.imp rfl ?_))))
  refine cZ (S := S) (x := (x + y)) (args := [(Value.bool (decide (x < 0))), (nxV g1)]) Tryz.call102 (fun w hw => (GivesR.cast (T := fun i => ZX i) (mkI_add_same hc0) (zFrom_ok (decide (x < 0)) g1 w (inS hw 0 rfl lg1)))) rfl rfl rfl fun g2 lg2 => OkE.back (sl (sl (sl sr))) (OkE.imp rfl (stW2 rfl rfl rfl Tryz.sizeOf43 rfl rfl (OkE.back (sl (sl (sl sr))) (OkE.nil ?_))))
  exact OkQ.subF (sC 2 rfl (sC 3 rfl (sC 4 rfl (sN)))) (OkQ.then_ (OkC.ret (OkQ.then_ret (ret_one rfl (rd_agg (i := 2) (cs := zxL g2) rfl rfl Tryz.isAgg43 Tryz.sizeOf43 rfl) (fun w hw => retR (a := (g2 : ZX (x + y))) hw (inS hw 0 rfl lg2) rfl)))))
 ·skip
  have hc0 : (decide (x < 0) == decide (y < 0)) = false := by simpa using hc0
  refine OkC.skip (q1 (q4 (st (v := (pP b1 1)) (ex_fieldAddr rfl Tryz.underlying43 rfl Tryz.sizeOf41 rfl) (leB rfl) (ldO 2 (nxV a.n) tO41 rfl rfl rfl rfl (st (v := (pP b2 1)) (ex_fieldAddr rfl Tryz.underlying43 rfl Tryz.sizeOf41 rfl) (leB rfl) ?_)))))
  refine ldO 1 (nxV b.n) tO41 rfl rfl rfl rfl (cl Tryz.call160 (fun w hw => xCmp_ok a.n b.n (by first | omega | (simp only [Int.natAbs_neg]; omega)) (by first | omega | (simp only [Int.natAbs_neg]; omega)) w (roN (inS hw 3 rfl la)) (roN (inS hw 4 rfl lb))) rfl rfl rfl (st (ex_geq (c := (decide ((0 : Int) ≤ (cmpZ x.natAbs y.natAbs)))) rfl rfl rfl) (leB rfl) (OkL.nil (OkQ.subF (sC 2 rfl (sC 3 rfl (sC 4 rfl (sC 23 rfl (sN))))) (OkQ.then_ ?_)))))
  refine OkC.cond rfl (fun hc1 => ?_) (fun hc1 => ?_)
  ·replace hc1 := of_decide_eq_true hc1
   have hge : y.natAbs ≤ x.natAbs := by exact Nat.le_of_not_lt fun h => by have := (cmpZ_lt (a := x.natAbs) (b := y.natAbs)).2 h; omega
   refine OkC.seq (rG [(0, true), (1, true), (2, true), (3, true), (4, true), (5, true), (6, false), (7, false), (8, false)] (sl sr) (by kernel_rfl) (fun _ _ d _ _ h => by cases d <;> exact h) (pE (v := (pP b1 0)) rfl (ex_fieldAddr rfl Tryz.underlying43 rfl Tryz.sizeOf4 rfl) rfl (pO' 1 (Value.bool (decide (x < 0))) tO4 rfl rfl rfl rfl rfl (pE (v := (pP b1 1)) rfl (ex_fieldAddr rfl Tryz.underlying43 rfl Tryz.sizeOf41 rfl) rfl (pO' 1 (nxV a.n) tO41 rfl rfl rfl rfl rfl ?_)))))
   refine pE (v := (pP b2 1)) rfl (ex_fieldAddr rfl Tryz.underlying43 rfl Tryz.sizeOf41 rfl) rfl (pO' 0 (nxV b.n) tO41 rfl rfl rfl rfl rfl (OkE.imp rfl (cN (S := S) (x := (x.natAbs - y.natAbs)) (args := [(nxV a.n), (nxV b.n)]) Tryz.call142 (fun w hw => xSub_ok a.n b.n (by first | omega | (simp only [Int.natAbs_neg]; omega)) (by first | omega | (simp only [Int.natAbs_neg]; omega)) w (roN (inS hw 3 rfl la)) (roN (inS hw 4 rfl lb))) rfl rfl rfl fun g3 lg3 => OkE.back (sl (sl sr)) (OkE.imp rfl ?_))))
   refine cZ (S := S) (x := (x + y)) (args := [(Value.bool (decide (x < 0))), (nxV g3)]) Tryz.call102 (fun w hw => (GivesR.cast (T := fun i => ZX i) (mkI_add_ge hc0 hge) (zFrom_ok (decide (x < 0)) g3 w (inS hw 0 rfl lg3)))) rfl rfl rfl fun g4 lg4 => OkE.back (sl (sl (sl sr))) (OkE.imp rfl (stW2 rfl rfl rfl Tryz.sizeOf43 rfl rfl (OkE.back (sl (sl (sl sr))) (OkE.nil ?_))))
   exact OkQ.subF (sC 2 rfl (sC 3 rfl (sC 4 rfl (sN)))) (OkQ.then_ (OkC.ret (OkQ.then_ret (ret_one rfl (rd_agg (i := 2) (cs := zxL g4) rfl rfl Tryz.isAgg43 Tryz.sizeOf43 rfl) (fun w hw => retR (a := (g4 : ZX (x + y))) hw (inS hw 0 rfl lg4) rfl)))))
  ·replace hc1 := of_decide_eq_false hc1
   have hge : ¬ y.natAbs ≤ x.natAbs := by have := (cmpZ_lt (a := x.natAbs) (b := y.natAbs)).1 (by omega); omega
   refine OkC.skip (q1 (rG [(0, true), (1, true), (2, true), (3, true), (4, true), (5, true), (6, false), (7, false), (8, false)] (sl sr) (by kernel_rfl) (fun _ _ d _ _ h => by cases d <;> exact h) (pE (v := (pP b2 0)) rfl (ex_fieldAddr rfl Tryz.underlying43 rfl Tryz.sizeOf4 rfl) rfl (pO' 0 (Value.bool (decide (y < 0))) tO4 rfl rfl rfl rfl rfl (pE (v := (pP b2 1)) rfl (ex_fieldAddr rfl Tryz.underlying43 rfl Tryz.sizeOf41 rfl) rfl ?_)))))
   refine pO' 0 (nxV b.n) tO41 rfl rfl rfl rfl rfl (pE (v := (pP b1 1)) rfl (ex_fieldAddr rfl Tryz.underlying43 rfl Tryz.sizeOf41 rfl) rfl (pO' 1 (nxV a.n) tO41 rfl rfl rfl rfl rfl (OkE.imp rfl (cN (S := S) (x := (y.natAbs - x.natAbs)) (args := [(nxV b.n), (nxV a.n)]) Tryz.call142 (fun w hw => xSub_ok b.n a.n (by first | omega | (simp only [Int.natAbs_neg]; omega)) (by first | omega | (simp only [Int.natAbs_neg]; omega)) w (roN (inS hw 4 rfl lb)) (roN (inS hw 3 rfl la))) rfl rfl rfl fun g5 lg5 => OkE.back (sl (sl sr)) ?_))))
   refine OkE.imp rfl (cZ (S := S) (x := (x + y)) (args := [(Value.bool (decide (y < 0))), (nxV g5)]) Tryz.call102 (fun w hw => (GivesR.cast (T := fun i => ZX i) (mkI_add_lt hc0 hge) (zFrom_ok (decide (y < 0)) g5 w (inS hw 0 rfl lg5)))) rfl rfl rfl fun g6 lg6 => OkE.back (sl (sl (sl sr))) (OkE.imp rfl (stW2 rfl rfl rfl Tryz.sizeOf43 rfl rfl (OkE.back (sl (sl (sl sr))) ?_))))
   exact OkE.nil (OkQ.subF (sC 2 rfl (sC 3 rfl (sC 4 rfl (sN)))) (OkQ.then_ (OkC.ret (ret_one rfl (rd_agg (i := 2) (cs := zxL g6) rfl rfl Tryz.isAgg43 Tryz.sizeOf43 rfl) (fun w hw => retR (a := (g6 : ZX (x + y))) hw (inS hw 0 rfl lg6) rfl)))))
theorem zMul_ok {x y : Int} (a : ZX x) (b : ZX y) (hx : nw x.natAbs ≤ 67108864) (hy : nw y.natAbs ≤ 67108864) (w : World) {S : Nat → Prop} (ha : Ro S w a) (hb : Ro S w b)  : Calls Tryz.prog 108 #[(aG (zxL a)), (aG (zxL b))] w (GivesR (ZX (x * y)) S w) := by
 have la := atA (W := w) ha
 have lb := atA (W := w) hb
 refine calls_ofR (args := [(aG (zxL a)), (aG (zxL b))]) (L := [nxR a.n, nxR b.n]) Tryz.func108 rfl rfl (leB rfl) (sxZ ha (sxZ hb roL_nil)) (OkC.subF (sC 0 rfl (sC 1 rfl (sN))) (q4 (bx (cs := zxL a) rfl rfl rfl fun b1 => bx (cs := zxL b) rfl rfl rfl fun b2 => al tZ43 rfl fun b3 => ?_)))
 refine q6 (sC 2 rfl (sC 3 rfl (sC 4 rfl (sN)))) (rG [(0, true), (1, true), (2, true), (3, true), (4, true), (5, true), (6, true), (7, true), (8, true), (9, false), (10, false), (11, false)] (sl sr) (by kernel_rfl) (fun _ _ d _ _ h => by cases d <;> exact h) (pE (v := (pP b1 0)) rfl (ex_fieldAddr rfl Tryz.underlying43 rfl Tryz.sizeOf4 rfl) rfl (pO' 1 (Value.bool (decide (x < 0))) tO4 rfl rfl rfl rfl rfl (pE (v := (pP b2 0)) rfl (ex_fieldAddr rfl Tryz.underlying43 rfl Tryz.sizeOf4 rfl) rfl (pO' 0 (Value.bool (decide (y < 0))) tO4 rfl rfl rfl rfl rfl ?_)))))
 refine pE rfl (ex_neq_bool (c := (!(decide (x < 0) == decide (y < 0)))) rfl rfl Tryz.underlying4 rfl) rfl (pE (v := (pP b1 1)) rfl (ex_fieldAddr rfl Tryz.underlying43 rfl Tryz.sizeOf41 rfl) rfl (pO' 1 (nxV a.n) tO41 rfl rfl rfl rfl rfl (pE (v := (pP b2 1)) rfl (ex_fieldAddr rfl Tryz.underlying43 rfl Tryz.sizeOf41 rfl) rfl (pO' 0 (nxV b.n) tO41 rfl rfl rfl rfl rfl (OkE.imp rfl ?_)))))
 refine cN (S := S) (x := (x.natAbs * y.natAbs)) (args := [(nxV a.n), (nxV b.n)]) Tryz.call109 (fun w hw => xMul_ok a.n b.n (by first | omega | (simp only [Int.natAbs_neg]; omega)) (by first | omega | (simp only [Int.natAbs_neg]; omega)) w (roN (inS hw 3 rfl la)) (roN (inS hw 4 rfl lb))) rfl rfl rfl fun g1 lg1 => OkE.back (sl (sl sr)) (OkE.imp rfl (cZ (S := S) (x := (x * y)) (args := [(Value.bool (!(decide (x < 0) == decide (y < 0)))), (nxV g1)]) Tryz.call102 (fun w hw => (GivesR.cast (T := fun i => ZX i) (mkI_mul x y) (zFrom_ok (!(decide (x < 0) == decide (y < 0))) g1 w (inS hw 0 rfl lg1)))) rfl rfl rfl fun g2 lg2 => OkE.back (sl (sl (sl sr))) (OkE.imp rfl ?_)))
 exact stW2 rfl rfl rfl Tryz.sizeOf43 rfl rfl (OkE.back (sl (sl (sl sr))) (OkE.nil (OkQ.subF (sC 4 rfl (sN)) (OkQ.then_ (OkC.ret (ret_one rfl (rd_agg (i := 2) (cs := zxL g2) rfl rfl Tryz.isAgg43 Tryz.sizeOf43 rfl) (fun w hw => retR (a := (g2 : ZX (x * y))) hw (inS hw 0 rfl lg2) rfl)))))))
theorem zText_ok {x : Int} (a : ZX x) (hx : nw x.natAbs ≤ 67108864) (w : World) {S : Nat → Prop} (ha : Ro S w a)  : Calls Tryz.prog 110 #[(aG (zxL a))] w (Gives w (Value.string (txB (txI x)))) := by
 have la := atA (W := w) ha
 refine calls_ofR (args := [(aG (zxL a))]) (L := [nxR a.n]) Tryz.func110 rfl rfl (leB rfl) (sxZ ha roL_nil) (OkC.subF (sC 0 rfl (sN)) (q4 (bx (cs := zxL a) rfl rfl rfl fun b1 => asg rfl rfl (q6 (sC 1 rfl (sC 2 rfl (sN))) ?_))))
 refine q4 (st (v := (pP b1 0)) (ex_fieldAddr rfl Tryz.underlying43 rfl Tryz.sizeOf4 rfl) (leB rfl) (ldO 0 (Value.bool (decide (x < 0))) tO4 rfl rfl rfl rfl (OkL.nil (OkQ.subF (sC 1 rfl (sC 2 rfl (sC 4 rfl (sN)))) (OkQ.then_ ?_)))))
 refine OkC.cond rfl (fun hc0 => ?_) (fun hc0 => ?_)
 ·replace hc0 := of_decide_eq_true hc0
  have he : txI x = 45 :: Lib.decDigits x.natAbs := by unfold txI; rw [if_pos hc0]
  refine q4 (st (v := (pP b1 1)) (ex_fieldAddr rfl Tryz.underlying43 rfl Tryz.sizeOf41 rfl) (leB rfl) (ldO 0 (nxV a.n) tO41 rfl rfl rfl rfl (cl Tryz.call111 (fun w hw => xText_ok a.n (by first | omega | (simp only [Int.natAbs_neg]; omega)) w (roN (inS hw 1 rfl la))) rfl rfl rfl (st (v := (Value.string (txB (45 :: Lib.decDigits x.natAbs)))) (ex_add_string (r := (txB (45 :: Lib.decDigits x.natAbs))) rfl rfl (by have := dec_nw x.natAbs; rw [txB_size]; show 1 + _ ≤ _; omega) (txB_append [45] _)) (leB rfl) (asg rfl rfl ?_)))))
  exact OkL.nil (OkQ.subF (sC 1 rfl (sC 2 rfl (sN))) (OkQ.then_ (OkC.ret (OkQ.then_ret (ret_one rfl (rd_tmp (v := (Value.string (txB (45 :: Lib.decDigits x.natAbs)))) rfl) (fun w hw => ⟨by rw [he], hw.out⟩))))))
 ·replace hc0 := of_decide_eq_false hc0
  have he : txI x = Lib.decDigits x.natAbs := by unfold txI; rw [if_neg hc0]
  refine OkC.skip (q2 (st (v := (pP b1 1)) (ex_fieldAddr rfl Tryz.underlying43 rfl Tryz.sizeOf41 rfl) (leB rfl) (ldO 0 (nxV a.n) tO41 rfl rfl rfl rfl (cl Tryz.call111 (fun w hw => xText_ok a.n (by first | omega | (simp only [Int.natAbs_neg]; omega)) w (roN (inS hw 1 rfl la))) rfl rfl rfl (asg rfl rfl ?_)))))
  exact OkL.nil (OkQ.subF (sC 1 rfl (sC 2 rfl (sN))) (OkQ.then_ (OkC.ret (ret_one rfl (rd_tmp (v := (Value.string (txB (Lib.decDigits x.natAbs)))) rfl) (fun w hw => ⟨by rw [he], hw.out⟩)))))
end
theorem sign_ltB (n : Int) : decide (n.sign < 0) = decide (n < 0) := by
  rcases Int.lt_trichotomy n 0 with h | h | h
  · rw [Int.sign_eq_neg_one_of_neg h]; simp [h]
  · subst h; rfl
  · rw [Int.sign_eq_one_of_pos h]; simp; omega
theorem lowR_num {n : Int} {d : Nat} (hd : d ≠ 0) : mkI (decide (n < 0)) (n.natAbs / Nat.gcd n.natAbs d) = (mkRat n d).num := by rw [low_num hd, sign_ltB]
theorem lowR_den {n : Int} {d : Nat} (hd : d ≠ 0) : d / Nat.gcd n.natAbs d - 1 = (mkRat n d).den - 1 := by rw [low_den hd]
theorem invR {b : Rat} (h : b ≠ 0) : mkRat (mkI (decide (b.num < 0)) b.den) b.num.natAbs = b⁻¹ := by rw [← inv_mkRat h, sign_ltB]
theorem div_rel {a b : Rat} : a * b⁻¹ = a / b := (Rat.div_def a b).symm
theorem div_num0 {a b : Rat} (h : b.num.sign = 0) : (0 : Rat) = a / b := by
  have h1 : b = 0 := Rat.num_eq_zero.1 (Int.sign_eq_zero_iff_zero.1 h)
  rw [h1, Rat.div_def, Rat.inv_zero, Rat.mul_zero]
theorem cmpR (a b : Rat) : (a - b).num.sign = cmpQ a b := by
  rw [← cmpQ_cross]
  rw [Rat.sub_eq_add_neg, ← add_mkRat a (-b), Rat.neg_num, Rat.neg_den, Int.neg_mul, ← Int.sub_eq_add_neg]
  have hd : a.den * b.den ≠ 0 := Nat.mul_ne_zero a.den_nz b.den_nz
  rw [low_num hd]
  have h : ∀ z : Int, (mkI (decide (z.sign < 0)) (z.natAbs / Nat.gcd z.natAbs (a.den * b.den))).sign = z.sign := fun z => by
    rcases Int.lt_trichotomy z 0 with h | h | h
    · have hg : 0 < z.natAbs / Nat.gcd z.natAbs (a.den * b.den) := Nat.div_pos (Nat.gcd_le_left _ (by omega)) (Nat.gcd_pos_of_pos_left _ (by omega))
      rw [sign_ltB, Int.sign_eq_neg_one_of_neg h]
      exact Int.sign_eq_neg_one_of_neg (by unfold mkI; simp [h]; omega)
    · subst h; simp [mkI]
    · have hg : 0 < z.natAbs / Nat.gcd z.natAbs (a.den * b.den) := Nat.div_pos (Nat.gcd_le_left _ (by omega)) (Nat.gcd_pos_of_pos_left _ (by omega))
      rw [sign_ltB, Int.sign_eq_one_of_pos h]
      refine Int.sign_eq_one_of_pos ?_
      have : ¬ z < 0 := by omega
      unfold mkI; simp [this]; omega
  exact h _
def FX.cast {a b : Rat} (h : a = b) (f : FX a) : FX b := h ▸ f
def FX.zero : FX 0 := ⟨⟨NX.zero⟩, NX.zero⟩
def txQ (q : Rat) : List UInt8 := if q.den - 1 = 0 then txI q.num else txI q.num ++ 47 :: Lib.decDigits q.den
theorem txI_len (z : Int) : (txI z).length ≤ 10 * nw z.natAbs + 2 := by
  have := dec_nw z.natAbs
  unfold txI; split <;> simp <;> omega
end Go.Proofs.YtpkoldfmbebmgaaGreatDoor
