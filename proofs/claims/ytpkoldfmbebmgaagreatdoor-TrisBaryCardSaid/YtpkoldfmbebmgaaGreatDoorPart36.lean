import Derived.Test.YtpkoldfmbebmgaaGreatDoorPart07
import Derived.Test.YtpkoldfmbebmgaaGreatDoorPart23
import Derived.Test.YtpkoldfmbebmgaaGreatDoorPart34
import Derived.Test.YtpkoldfmbebmgaaGreatDoorPart35
namespace Go.Proofs.YtpkoldfmbebmgaaGreatDoor
open Go Go.RowKit
set_option linter.unusedVariables false
set_option linter.unusedSimpArgs false
section
set_option maxRecDepth 100000
def sameR (a b : Pt) : Bool := decide (a.x = b.x) && decide (a.y = b.y)
def onR (a b p : Pt) : Bool := decide ((turnP a b p).num.sign = 0) && decide ((dotP (a - p) (b - p)).num.sign ≤ 0)
theorem rpSame_ok {x y : Pt} (a : PX x) (b : PX y) (hs : SzP x + SzP y ≤ 2097152) (w : World) {S : Nat → Prop} (ha : Ro S w a) (hb : Ro S w b)  : Calls Tryz.prog 75 #[(aG (pxL a)), (aG (pxL b))] w (Gives w (Value.bool (sameR x y))) := by
 have sxx := SzP_x x
 have sxy := SzP_y x
 have syx := SzP_x y
 have syy := SzP_y y
 have la := atA (W := w) ha
 have lb := atA (W := w) hb
 refine calls_ofR (args := [(aG (pxL a)), (aG (pxL b))]) (L := [nxR a.x.z.n, nxR a.x.m, nxR a.y.z.n, nxR a.y.m, nxR b.x.z.n, nxR b.x.m, nxR b.y.z.n, nxR b.y.m]) Tryz.func75 rfl rfl (leB rfl) (sxP ha (sxP hb roL_nil)) (OkC.subF (sC 0 rfl (sC 1 rfl (sN))) (q4 (bx (cs := pxL a) rfl rfl rfl fun b1 => bx (cs := pxL b) rfl rfl rfl fun b2 => asg rfl rfl ?_)))
 refine q3 (sC 2 rfl (sC 3 rfl (sC 4 rfl (sN)))) (st (v := (pP b1 0)) (ex_fieldAddr rfl Tryz.underlying47 rfl Tryz.sizeOf45 rfl) (leB rfl) (ldA 1 (fxL a.x) tA45 rfl rfl rfl rfl rfl (st (v := (pP b2 0)) (ex_fieldAddr rfl Tryz.underlying47 rfl Tryz.sizeOf45 rfl) (leB rfl) (ldA 0 (fxL b.x) tA45 rfl rfl rfl rfl rfl (cl Tryz.call112 (fun w hw => qSame_ok a.x b.x (by omega) w (roX (inS hw 2 rfl la)) (roX (inS hw 6 rfl lb))) rfl rfl rfl ?_)))))
 refine mv rfl rfl ?_
 refine OkL.mid (FM := [(2, (pP b1 0)), (3, (pP b2 0)), (4, (Value.bool false)), (5, (pP b1 0)), (6, (aG (fxL a.x))), (7, (pP b2 0)), (8, (aG (fxL b.x))), (9, (Value.bool (decide (x.x = y.x)))), (10, (Value.bool (decide (x.x = y.x)))), (16, (Value.bool ((decide (x.x = y.x)) && (decide (x.y = y.y)))))]) (LM := [blk b2 47 (pxL b), blk b1 47 (pxL a), nxR a.x.z.n, nxR a.x.m, nxR a.y.z.n, nxR a.y.m, nxR b.x.z.n, nxR b.x.m, nxR b.y.z.n, nxR b.y.m]) 6 ?_ ?_
 ·rcases Bool.eq_false_or_eq_true (decide (x.x = y.x)) with hg1 | hg1
  ·skip
   refine OkL.retell (k := 10) (u := Value.bool true) rfl (by rw [hg1]) ?_
   have hg1' := hg1
   replace hg1' := of_decide_eq_true hg1'
   refine OkL.step (v := (pP b1 3)) (wt_some rfl rfl rfl) (ex_fieldAddr rfl Tryz.underlying47 rfl Tryz.sizeOf45 rfl) rfl (leB rfl) (OkL.step (v := (aG (fxL a.y))) (wt_some rfl rfl rfl) (ex_load_agg (i := 1) (vs := fxL a.y) rfl rfl tA45.a tA45.s rfl rfl) rfl (leB rfl) (OkL.step (v := (pP b2 3)) (wt_some rfl rfl rfl) (ex_fieldAddr rfl Tryz.underlying47 rfl Tryz.sizeOf45 rfl) rfl (leB rfl) (OkL.step (v := (aG (fxL b.y))) (wt_some rfl rfl rfl) (ex_load_agg (i := 0) (vs := fxL b.y) rfl rfl tA45.a tA45.s rfl rfl) rfl (leB rfl) (OkL.call (v := (Value.bool (decide (x.y = y.y)))) (wt_some rfl rfl rfl) (op_call0 (args := [(aG (fxL a.y)), (aG (fxL b.y))]) rfl rfl Tryz.call112) (fun w hw => qSame_ok a.y b.y (by omega) w (roY (inS hw 2 rfl la)) (roY (inS hw 6 rfl lb))) rfl (leB rfl) (st (v := (Value.bool (decide (x.y = y.y)))) (ex_pick_true rfl rfl) (leB rfl) ?_)))))
   exact OkL.nil (OkQ.mid (sS rfl (sS rfl (sS rfl (sS rfl (sS rfl (sS rfl (sS rfl (sS rfl (sS (by first | rfl | (rw [hg1]; rfl) | rw [hg1]) (sS (by first | rfl | (rw [hg1]; rfl) | rw [hg1]) (sN))))))))))) (List.Sublist.refl _))
  ·skip
   refine OkL.retell (k := 10) (u := Value.bool false) rfl (by rw [hg1]) ?_
   have hg1' := hg1
   replace hg1' := of_decide_eq_false hg1'
   refine OkL.skip (wt_not rfl rfl rfl) rfl (leB rfl) (OkL.skip (wt_not rfl rfl rfl) rfl (leB rfl) (OkL.skip (wt_not rfl rfl rfl) rfl (leB rfl) (OkL.skip (wt_not rfl rfl rfl) rfl (leB rfl) (OkL.skip (wt_not rfl rfl rfl) rfl (leB rfl) (st (v := (Value.bool false)) (ex_pick_false rfl rfl) (leB rfl) ?_)))))
   exact OkL.nil (OkQ.mid (sS rfl (sS rfl (sS rfl (sS rfl (sS rfl (sS rfl (sS rfl (sS rfl (sS (by first | rfl | (rw [hg1]; rfl) | rw [hg1]) (sS (by first | rfl | (rw [hg1]; rfl) | rw [hg1]) (sN))))))))))) (List.Sublist.refl _))
 exact asg rfl rfl (OkL.nil (OkQ.subF (sC 4 rfl (sN)) (OkQ.then_ (OkC.ret (ret_one rfl (rd_tmp (v := (Value.bool ((decide (x.x = y.x)) && (decide (x.y = y.y))))) rfl) (fun w hw => ⟨rfl, hw.out⟩))))))
theorem fill_numsc_47_0fxL_1fxL {r0 : Rat} (x0 : FX r0) {r1 : Rat} (x1 : FX r1) : Instr.fill ([(0, 3), (3, 3)].toArray[·]?) ([(Value.bool false), (Value.slice none 0 0), (Value.slice none 0 0), (Value.bool false), (Value.slice none 0 0), (Value.slice none 0 0)]).toArray [(0, .agg (fxL x0).toArray), (1, .agg (fxL x1).toArray)] = some (fxL x0 ++ fxL x1).toArray := by kernel_rfl
theorem rpAdd_ok {x y : Pt} (a : PX x) (b : PX y) (hs : SzP x + SzP y ≤ 2097152) (w : World) {S : Nat → Prop} (ha : Ro S w a) (hb : Ro S w b)  : Calls Tryz.prog 56 #[(aG (pxL a)), (aG (pxL b))] w (GivesR (PX (x + y)) S w) := by
 have sxx := SzP_x x
 have sxy := SzP_y x
 have syx := SzP_x y
 have syy := SzP_y y
 have la := atA (W := w) ha
 have lb := atA (W := w) hb
 refine calls_ofR (args := [(aG (pxL a)), (aG (pxL b))]) (L := [nxR a.x.z.n, nxR a.x.m, nxR a.y.z.n, nxR a.y.m, nxR b.x.z.n, nxR b.x.m, nxR b.y.z.n, nxR b.y.m]) Tryz.func56 rfl rfl (leB rfl) (sxP ha (sxP hb roL_nil)) (OkC.subF (sC 0 rfl (sC 1 rfl (sN))) (q4 (bx (cs := pxL a) rfl rfl rfl fun b1 => bx (cs := pxL b) rfl rfl rfl fun b2 => al tZ47 rfl fun b3 => ?_)))
 refine q6 (sC 2 rfl (sC 3 rfl (sC 4 rfl (sN)))) (rG [(0, true), (1, true), (2, true), (3, true), (5, true), (6, true), (7, true), (8, true), (4, false), (9, false), (10, true), (11, false)] (sl sr) (by kernel_rfl) (fun _ _ d _ _ h => by cases d <;> exact h) (pE (v := (pP b1 0)) rfl (ex_fieldAddr rfl Tryz.underlying47 rfl Tryz.sizeOf45 rfl) rfl (pA 1 (fxL a.x) tA45 rfl rfl rfl rfl rfl rfl (pE (v := (pP b2 0)) rfl (ex_fieldAddr rfl Tryz.underlying47 rfl Tryz.sizeOf45 rfl) rfl (pA 0 (fxL b.x) tA45 rfl rfl rfl rfl rfl rfl ?_)))))
 refine pE (v := (pP b1 3)) rfl (ex_fieldAddr rfl Tryz.underlying47 rfl Tryz.sizeOf45 rfl) rfl (pA 1 (fxL a.y) tA45 rfl rfl rfl rfl rfl rfl (pE (v := (pP b2 3)) rfl (ex_fieldAddr rfl Tryz.underlying47 rfl Tryz.sizeOf45 rfl) rfl (pA 0 (fxL b.y) tA45 rfl rfl rfl rfl rfl rfl (OkE.imp rfl ?_))))
 have hz1 := Sz_add x.x y.x
 refine cF (S := S) (x := (x.x + y.x)) (args := [(aG (fxL a.x)), (aG (fxL b.x))]) Tryz.call96 (fun w hw => qAdd_ok a.x b.x (by (try simp only [Sz_neg]); omega) w (roX (inS hw 3 rfl la)) (roX (inS hw 7 rfl lb))) rfl rfl rfl fun g1 lg1 => OkE.back (sl (sl (sl sr))) (OkE.imp rfl ?_)
 have hz2 := Sz_add x.y y.y
 refine cF (S := S) (x := (x.y + y.y)) (args := [(aG (fxL a.y)), (aG (fxL b.y))]) Tryz.call96 (fun w hw => qAdd_ok a.y b.y (by (try simp only [Sz_neg]); omega) w (roY (inS hw 5 rfl la)) (roY (inS hw 9 rfl lb))) rfl rfl rfl fun g2 lg2 => OkE.back (sl (sl (sl (sl (sl sr))))) (pE (v := (aG (fxL g1 ++ fxL g2))) rfl (ex_build_struct (zs := [(Value.bool false), (Value.slice none 0 0), (Value.slice none 0 0), (Value.bool false), (Value.slice none 0 0), (Value.slice none 0 0)]) (vs := fxL g1 ++ fxL g2) (pv := [(0, (aG (fxL g1))), (1, (aG (fxL g2)))]) (places := [(0, 3), (3, 3)]) Tryz.zeroValue47 Tryz.underlying47 (fun w => by simp [Tryz.sizeOf45]) rfl (fill_numsc_47_0fxL_1fxL g1 g2)) rfl (OkE.imp rfl (OkL.store' (i := 4) (off := 0) (vs := fxL g1 ++ fxL g2) (cs' := fxL g1 ++ fxL g2) (L' := [nxR g2.z.n, nxR g2.m, nxR g1.z.n, nxR g1.m, blk b3 47 (fxL g1 ++ fxL g2), blk b2 47 (pxL b), blk b1 47 (pxL a), nxR a.x.z.n, nxR a.x.m, nxR a.y.z.n, nxR a.y.m, nxR b.x.z.n, nxR b.x.m, nxR b.y.z.n, nxR b.y.m]) (wt_none rfl) rfl rfl rfl rfl rfl Tryz.sizeOf47 rfl rfl rfl rfl (OkE.back (sl (sl (sl (sl (sl sr))))) ?_))))
 exact OkE.nil (OkQ.subF (sC 4 rfl (sN)) (OkQ.then_ (OkC.ret (ret_one rfl (rd_agg (i := 4) (cs := fxL g1 ++ fxL g2) rfl rfl Tryz.isAgg47 Tryz.sizeOf47 rfl) (fun w hw => retR (a := ((PX.mk g1 g2) : PX (x + y))) hw (mkP (inS hw 2 rfl lg1) (inS hw 0 rfl lg2)) rfl)))))
theorem rpSub_ok {x y : Pt} (a : PX x) (b : PX y) (hs : SzP x + SzP y ≤ 2097152) (w : World) {S : Nat → Prop} (ha : Ro S w a) (hb : Ro S w b)  : Calls Tryz.prog 67 #[(aG (pxL a)), (aG (pxL b))] w (GivesR (PX (x - y)) S w) := by
 have sxx := SzP_x x
 have sxy := SzP_y x
 have syx := SzP_x y
 have syy := SzP_y y
 have la := atA (W := w) ha
 have lb := atA (W := w) hb
 refine calls_ofR (args := [(aG (pxL a)), (aG (pxL b))]) (L := [nxR a.x.z.n, nxR a.x.m, nxR a.y.z.n, nxR a.y.m, nxR b.x.z.n, nxR b.x.m, nxR b.y.z.n, nxR b.y.m]) Tryz.func67 rfl rfl (leB rfl) (sxP ha (sxP hb roL_nil)) (OkC.subF (sC 0 rfl (sC 1 rfl (sN))) (q4 (bx (cs := pxL a) rfl rfl rfl fun b1 => bx (cs := pxL b) rfl rfl rfl fun b2 => al tZ47 rfl fun b3 => ?_)))
 refine q6 (sC 2 rfl (sC 3 rfl (sC 4 rfl (sN)))) (rG [(0, true), (1, true), (2, true), (3, true), (5, true), (6, true), (7, true), (8, true), (4, false), (9, false), (10, true), (11, false)] (sl sr) (by kernel_rfl) (fun _ _ d _ _ h => by cases d <;> exact h) (pE (v := (pP b1 0)) rfl (ex_fieldAddr rfl Tryz.underlying47 rfl Tryz.sizeOf45 rfl) rfl (pA 1 (fxL a.x) tA45 rfl rfl rfl rfl rfl rfl (pE (v := (pP b2 0)) rfl (ex_fieldAddr rfl Tryz.underlying47 rfl Tryz.sizeOf45 rfl) rfl (pA 0 (fxL b.x) tA45 rfl rfl rfl rfl rfl rfl ?_)))))
 refine pE (v := (pP b1 3)) rfl (ex_fieldAddr rfl Tryz.underlying47 rfl Tryz.sizeOf45 rfl) rfl (pA 1 (fxL a.y) tA45 rfl rfl rfl rfl rfl rfl (pE (v := (pP b2 3)) rfl (ex_fieldAddr rfl Tryz.underlying47 rfl Tryz.sizeOf45 rfl) rfl (pA 0 (fxL b.y) tA45 rfl rfl rfl rfl rfl rfl (OkE.imp rfl ?_))))
 have hz1 := Sz_sub x.x y.x
 refine cF (S := S) (x := (x.x - y.x)) (args := [(aG (fxL a.x)), (aG (fxL b.x))]) Tryz.call58 (fun w hw => qSub_ok a.x b.x (by (try simp only [Sz_neg]); omega) w (roX (inS hw 3 rfl la)) (roX (inS hw 7 rfl lb))) rfl rfl rfl fun g1 lg1 => OkE.back (sl (sl (sl sr))) (OkE.imp rfl ?_)
 have hz2 := Sz_sub x.y y.y
 refine cF (S := S) (x := (x.y - y.y)) (args := [(aG (fxL a.y)), (aG (fxL b.y))]) Tryz.call58 (fun w hw => qSub_ok a.y b.y (by (try simp only [Sz_neg]); omega) w (roY (inS hw 5 rfl la)) (roY (inS hw 9 rfl lb))) rfl rfl rfl fun g2 lg2 => OkE.back (sl (sl (sl (sl (sl sr))))) (pE (v := (aG (fxL g1 ++ fxL g2))) rfl (ex_build_struct (zs := [(Value.bool false), (Value.slice none 0 0), (Value.slice none 0 0), (Value.bool false), (Value.slice none 0 0), (Value.slice none 0 0)]) (vs := fxL g1 ++ fxL g2) (pv := [(0, (aG (fxL g1))), (1, (aG (fxL g2)))]) (places := [(0, 3), (3, 3)]) Tryz.zeroValue47 Tryz.underlying47 (fun w => by simp [Tryz.sizeOf45]) rfl (fill_numsc_47_0fxL_1fxL g1 g2)) rfl (OkE.imp rfl (OkL.store' (i := 4) (off := 0) (vs := fxL g1 ++ fxL g2) (cs' := fxL g1 ++ fxL g2) (L' := [nxR g2.z.n, nxR g2.m, nxR g1.z.n, nxR g1.m, blk b3 47 (fxL g1 ++ fxL g2), blk b2 47 (pxL b), blk b1 47 (pxL a), nxR a.x.z.n, nxR a.x.m, nxR a.y.z.n, nxR a.y.m, nxR b.x.z.n, nxR b.x.m, nxR b.y.z.n, nxR b.y.m]) (wt_none rfl) rfl rfl rfl rfl rfl Tryz.sizeOf47 rfl rfl rfl rfl (OkE.back (sl (sl (sl (sl (sl sr))))) ?_))))
 exact OkE.nil (OkQ.subF (sC 4 rfl (sN)) (OkQ.then_ (OkC.ret (ret_one rfl (rd_agg (i := 4) (cs := fxL g1 ++ fxL g2) rfl rfl Tryz.isAgg47 Tryz.sizeOf47 rfl) (fun w hw => retR (a := ((PX.mk g1 g2) : PX (x - y))) hw (mkP (inS hw 2 rfl lg1) (inS hw 0 rfl lg2)) rfl)))))
theorem rpScale_ok {x : Pt} {q : Rat} (a : PX x) (k : FX q) (hs : SzP x + Sz q ≤ 2097152) (w : World) {S : Nat → Prop} (ha : Ro S w a) (hk : Ro S w k)  : Calls Tryz.prog 72 #[(aG (pxL a)), (aG (fxL k))] w (GivesR (PX (scaleP x q)) S w) := by
 have sxx := SzP_x x
 have sxy := SzP_y x
 have la := atA (W := w) ha
 have lk := atA (W := w) hk
 refine calls_ofR (args := [(aG (pxL a)), (aG (fxL k))]) (L := [nxR a.x.z.n, nxR a.x.m, nxR a.y.z.n, nxR a.y.m, nxR k.z.n, nxR k.m]) Tryz.func72 rfl rfl (leB rfl) (sxP ha (sxF hk roL_nil)) (OkC.subF (sC 0 rfl (sC 1 rfl (sN))) (q4 (bx (cs := pxL a) rfl rfl rfl fun b1 => bx (cs := fxL k) rfl rfl rfl fun b2 => al tZ47 rfl fun b3 => ?_)))
 refine q6 (sC 2 rfl (sC 3 rfl (sC 4 rfl (sN)))) (rG [(0, true), (1, true), (2, true), (4, true), (5, true), (6, true), (3, false), (7, false), (8, true), (9, false)] (sl sr) (by kernel_rfl) (fun _ _ d _ _ h => by cases d <;> exact h) (pE (v := (pP b1 0)) rfl (ex_fieldAddr rfl Tryz.underlying47 rfl Tryz.sizeOf45 rfl) rfl (pA 1 (fxL a.x) tA45 rfl rfl rfl rfl rfl rfl (pW 0 tA45 rfl rfl rfl rfl rfl (pE (v := (pP b1 3)) rfl (ex_fieldAddr rfl Tryz.underlying47 rfl Tryz.sizeOf45 rfl) rfl ?_)))))
 refine pA 1 (fxL a.y) tA45 rfl rfl rfl rfl rfl rfl (pW 0 tA45 rfl rfl rfl rfl rfl (OkE.imp rfl ?_))
 have hz1 := Sz_mul x.x q
 refine cF (S := S) (x := (x.x * q)) (args := [(aG (fxL a.x)), (aG (fxL k))]) Tryz.call68 (fun w hw => qMul_ok a.x k (by (try simp only [Sz_neg]); omega) w (roX (inS hw 3 rfl la)) (inS hw 7 rfl lk)) rfl rfl rfl fun g1 lg1 => OkE.back (sl (sl (sl sr))) (OkE.imp rfl ?_)
 have hz2 := Sz_mul x.y q
 refine cF (S := S) (x := (x.y * q)) (args := [(aG (fxL a.y)), (aG (fxL k))]) Tryz.call68 (fun w hw => qMul_ok a.y k (by (try simp only [Sz_neg]); omega) w (roY (inS hw 5 rfl la)) (inS hw 9 rfl lk)) rfl rfl rfl fun g2 lg2 => OkE.back (sl (sl (sl (sl (sl sr))))) (pE (v := (aG (fxL g1 ++ fxL g2))) rfl (ex_build_struct (zs := [(Value.bool false), (Value.slice none 0 0), (Value.slice none 0 0), (Value.bool false), (Value.slice none 0 0), (Value.slice none 0 0)]) (vs := fxL g1 ++ fxL g2) (pv := [(0, (aG (fxL g1))), (1, (aG (fxL g2)))]) (places := [(0, 3), (3, 3)]) Tryz.zeroValue47 Tryz.underlying47 (fun w => by simp [Tryz.sizeOf45]) rfl (fill_numsc_47_0fxL_1fxL g1 g2)) rfl (OkE.imp rfl (OkL.store' (i := 4) (off := 0) (vs := fxL g1 ++ fxL g2) (cs' := fxL g1 ++ fxL g2) (L' := [nxR g2.z.n, nxR g2.m, nxR g1.z.n, nxR g1.m, blk b3 47 (fxL g1 ++ fxL g2), blk b2 45 (fxL k), blk b1 47 (pxL a), nxR a.x.z.n, nxR a.x.m, nxR a.y.z.n, nxR a.y.m, nxR k.z.n, nxR k.m]) (wt_none rfl) rfl rfl rfl rfl rfl Tryz.sizeOf47 rfl rfl rfl rfl (OkE.back (sl (sl (sl (sl (sl sr))))) ?_))))
 exact OkE.nil (OkQ.subF (sC 4 rfl (sN)) (OkQ.then_ (OkC.ret (ret_one rfl (rd_agg (i := 4) (cs := fxL g1 ++ fxL g2) rfl rfl Tryz.isAgg47 Tryz.sizeOf47 rfl) (fun w hw => retR (a := ((PX.mk g1 g2) : PX (scaleP x q))) hw (mkP (inS hw 2 rfl lg1) (inS hw 0 rfl lg2)) rfl)))))
theorem rpCross_ok {x y : Pt} (a : PX x) (b : PX y) (hs : SzP x + SzP y ≤ 2097152) (w : World) {S : Nat → Prop} (ha : Ro S w a) (hb : Ro S w b)  : Calls Tryz.prog 69 #[(aG (pxL a)), (aG (pxL b))] w (GivesR (FX (crossP x y)) S w) := by
 have sxx := SzP_x x
 have sxy := SzP_y x
 have syx := SzP_x y
 have syy := SzP_y y
 have la := atA (W := w) ha
 have lb := atA (W := w) hb
 refine calls_ofR (args := [(aG (pxL a)), (aG (pxL b))]) (L := [nxR a.x.z.n, nxR a.x.m, nxR a.y.z.n, nxR a.y.m, nxR b.x.z.n, nxR b.x.m, nxR b.y.z.n, nxR b.y.m]) Tryz.func69 rfl rfl (leB rfl) (sxP ha (sxP hb roL_nil)) (OkC.subF (sC 0 rfl (sC 1 rfl (sN))) (q4 (bx (cs := pxL a) rfl rfl rfl fun b1 => bx (cs := pxL b) rfl rfl rfl fun b2 => al tZ45 rfl fun b3 => ?_)))
 refine q6 (sC 2 rfl (sC 3 rfl (sC 4 rfl (sN)))) (rG [(0, true), (1, true), (2, true), (3, true), (5, true), (6, true), (7, true), (8, true), (4, false), (9, false), (10, false), (11, false)] (sl sr) (by kernel_rfl) (fun _ _ d _ _ h => by cases d <;> exact h) (pE (v := (pP b1 0)) rfl (ex_fieldAddr rfl Tryz.underlying47 rfl Tryz.sizeOf45 rfl) rfl (pA 1 (fxL a.x) tA45 rfl rfl rfl rfl rfl rfl (pE (v := (pP b2 3)) rfl (ex_fieldAddr rfl Tryz.underlying47 rfl Tryz.sizeOf45 rfl) rfl (pA 0 (fxL b.y) tA45 rfl rfl rfl rfl rfl rfl ?_)))))
 refine pE (v := (pP b1 3)) rfl (ex_fieldAddr rfl Tryz.underlying47 rfl Tryz.sizeOf45 rfl) rfl (pA 1 (fxL a.y) tA45 rfl rfl rfl rfl rfl rfl (pE (v := (pP b2 0)) rfl (ex_fieldAddr rfl Tryz.underlying47 rfl Tryz.sizeOf45 rfl) rfl (pA 0 (fxL b.x) tA45 rfl rfl rfl rfl rfl rfl (OkE.imp rfl ?_))))
 have hz1 := Sz_mul x.x y.y
 refine cF (S := S) (x := (x.x * y.y)) (args := [(aG (fxL a.x)), (aG (fxL b.y))]) Tryz.call68 (fun w hw => qMul_ok a.x b.y (by (try simp only [Sz_neg]); omega) w (roX (inS hw 3 rfl la)) (roY (inS hw 7 rfl lb))) rfl rfl rfl fun g1 lg1 => OkE.back (sl (sl (sl sr))) (OkE.imp rfl ?_)
 have hz2 := Sz_mul x.y y.x
 refine cF (S := S) (x := (x.y * y.x)) (args := [(aG (fxL a.y)), (aG (fxL b.x))]) Tryz.call68 (fun w hw => qMul_ok a.y b.x (by (try simp only [Sz_neg]); omega) w (roY (inS hw 5 rfl la)) (roX (inS hw 9 rfl lb))) rfl rfl rfl fun g2 lg2 => OkE.back (sl (sl (sl (sl (sl sr))))) (OkE.imp rfl ?_)
 have hz3 := Sz_sub (x.x * y.y) (x.y * y.x)
 refine cF (S := S) (x := ((x.x * y.y) - (x.y * y.x))) (args := [(aG (fxL g1)), (aG (fxL g2))]) Tryz.call58 (fun w hw => qSub_ok g1 g2 (by (try simp only [Sz_neg]); omega) w (inS hw 2 rfl lg1) (inS hw 0 rfl lg2)) rfl rfl rfl fun g3 lg3 => OkE.back (sl (sl (sl (sl (sl (sl (sl sr))))))) (OkE.imp rfl (OkL.store' (i := 6) (off := 0) (vs := fxL g3) (cs' := fxL g3) (L' := [nxR g3.z.n, nxR g3.m, nxR g2.z.n, nxR g2.m, nxR g1.z.n, nxR g1.m, blk b3 45 (fxL g3), blk b2 47 (pxL b), blk b1 47 (pxL a), nxR a.x.z.n, nxR a.x.m, nxR a.y.z.n, nxR a.y.m, nxR b.x.z.n, nxR b.x.m, nxR b.y.z.n, nxR b.y.m]) (wt_none rfl) rfl rfl rfl rfl rfl Tryz.sizeOf45 rfl rfl rfl rfl (OkE.back (sl (sl (sl (sl (sl (sl (sl sr))))))) (OkE.nil ?_))))
 exact OkQ.subF (sC 4 rfl (sN)) (OkQ.then_ (OkC.ret (ret_one rfl (rd_agg (i := 6) (cs := fxL g3) rfl rfl Tryz.isAgg45 Tryz.sizeOf45 rfl) (fun w hw => retR (a := (g3 : FX (crossP x y))) hw (inS hw 0 rfl lg3) rfl))))
theorem rpDot_ok {x y : Pt} (a : PX x) (b : PX y) (hs : SzP x + SzP y ≤ 2097152) (w : World) {S : Nat → Prop} (ha : Ro S w a) (hb : Ro S w b)  : Calls Tryz.prog 70 #[(aG (pxL a)), (aG (pxL b))] w (GivesR (FX (dotP x y)) S w) := by
 have sxx := SzP_x x
 have sxy := SzP_y x
 have syx := SzP_x y
 have syy := SzP_y y
 have la := atA (W := w) ha
 have lb := atA (W := w) hb
 refine calls_ofR (args := [(aG (pxL a)), (aG (pxL b))]) (L := [nxR a.x.z.n, nxR a.x.m, nxR a.y.z.n, nxR a.y.m, nxR b.x.z.n, nxR b.x.m, nxR b.y.z.n, nxR b.y.m]) Tryz.func70 rfl rfl (leB rfl) (sxP ha (sxP hb roL_nil)) (OkC.subF (sC 0 rfl (sC 1 rfl (sN))) (q4 (bx (cs := pxL a) rfl rfl rfl fun b1 => bx (cs := pxL b) rfl rfl rfl fun b2 => al tZ45 rfl fun b3 => ?_)))
 refine q6 (sC 2 rfl (sC 3 rfl (sC 4 rfl (sN)))) (rG [(0, true), (1, true), (2, true), (3, true), (5, true), (6, true), (7, true), (8, true), (4, false), (9, false), (10, false), (11, false)] (sl sr) (by kernel_rfl) (fun _ _ d _ _ h => by cases d <;> exact h) (pE (v := (pP b1 0)) rfl (ex_fieldAddr rfl Tryz.underlying47 rfl Tryz.sizeOf45 rfl) rfl (pA 1 (fxL a.x) tA45 rfl rfl rfl rfl rfl rfl (pE (v := (pP b2 0)) rfl (ex_fieldAddr rfl Tryz.underlying47 rfl Tryz.sizeOf45 rfl) rfl (pA 0 (fxL b.x) tA45 rfl rfl rfl rfl rfl rfl ?_)))))
 refine pE (v := (pP b1 3)) rfl (ex_fieldAddr rfl Tryz.underlying47 rfl Tryz.sizeOf45 rfl) rfl (pA 1 (fxL a.y) tA45 rfl rfl rfl rfl rfl rfl (pE (v := (pP b2 3)) rfl (ex_fieldAddr rfl Tryz.underlying47 rfl Tryz.sizeOf45 rfl) rfl (pA 0 (fxL b.y) tA45 rfl rfl rfl rfl rfl rfl (OkE.imp rfl ?_))))
 have hz1 := Sz_mul x.x y.x
 refine cF (S := S) (x := (x.x * y.x)) (args := [(aG (fxL a.x)), (aG (fxL b.x))]) Tryz.call68 (fun w hw => qMul_ok a.x b.x (by (try simp only [Sz_neg]); omega) w (roX (inS hw 3 rfl la)) (roX (inS hw 7 rfl lb))) rfl rfl rfl fun g1 lg1 => OkE.back (sl (sl (sl sr))) (OkE.imp rfl ?_)
 have hz2 := Sz_mul x.y y.y
 refine cF (S := S) (x := (x.y * y.y)) (args := [(aG (fxL a.y)), (aG (fxL b.y))]) Tryz.call68 (fun w hw => qMul_ok a.y b.y (by (try simp only [Sz_neg]); omega) w (roY (inS hw 5 rfl la)) (roY (inS hw 9 rfl lb))) rfl rfl rfl fun g2 lg2 => OkE.back (sl (sl (sl (sl (sl sr))))) (OkE.imp rfl ?_)
 have hz3 := Sz_add (x.x * y.x) (x.y * y.y)
 refine cF (S := S) (x := ((x.x * y.x) + (x.y * y.y))) (args := [(aG (fxL g1)), (aG (fxL g2))]) Tryz.call96 (fun w hw => qAdd_ok g1 g2 (by (try simp only [Sz_neg]); omega) w (inS hw 2 rfl lg1) (inS hw 0 rfl lg2)) rfl rfl rfl fun g3 lg3 => OkE.back (sl (sl (sl (sl (sl (sl (sl sr))))))) (OkE.imp rfl (OkL.store' (i := 6) (off := 0) (vs := fxL g3) (cs' := fxL g3) (L' := [nxR g3.z.n, nxR g3.m, nxR g2.z.n, nxR g2.m, nxR g1.z.n, nxR g1.m, blk b3 45 (fxL g3), blk b2 47 (pxL b), blk b1 47 (pxL a), nxR a.x.z.n, nxR a.x.m, nxR a.y.z.n, nxR a.y.m, nxR b.x.z.n, nxR b.x.m, nxR b.y.z.n, nxR b.y.m]) (wt_none rfl) rfl rfl rfl rfl rfl Tryz.sizeOf45 rfl rfl rfl rfl (OkE.back (sl (sl (sl (sl (sl (sl (sl sr))))))) (OkE.nil ?_))))
 exact OkQ.subF (sC 4 rfl (sN)) (OkQ.then_ (OkC.ret (ret_one rfl (rd_agg (i := 6) (cs := fxL g3) rfl rfl Tryz.isAgg45 Tryz.sizeOf45 rfl) (fun w hw => retR (a := (g3 : FX (dotP x y))) hw (inS hw 0 rfl lg3) rfl))))
theorem rpTurn_ok {x y z : Pt} (a : PX x) (b : PX y) (d : PX z) (hs : SzP x + SzP y + SzP z ≤ 262144) (w : World) {S : Nat → Prop} (ha : Ro S w a) (hb : Ro S w b) (hd : Ro S w d)  : Calls Tryz.prog 77 #[(aG (pxL a)), (aG (pxL b)), (aG (pxL d))] w (Gives w (vI ((turnP x y z).num.sign))) := by
 have la := atA (W := w) ha
 have lb := atA (W := w) hb
 have ld := atA (W := w) hd
 refine calls_ofR (args := [(aG (pxL a)), (aG (pxL b)), (aG (pxL d))]) (L := [nxR a.x.z.n, nxR a.x.m, nxR a.y.z.n, nxR a.y.m, nxR b.x.z.n, nxR b.x.m, nxR b.y.z.n, nxR b.y.m, nxR d.x.z.n, nxR d.x.m, nxR d.y.z.n, nxR d.y.m]) Tryz.func77 rfl rfl (leB rfl) (sxP ha (sxP hb (sxP hd roL_nil))) (OkC.subF (sC 0 rfl (sC 1 rfl (sC 2 rfl (sN)))) (q4 (bx (cs := pxL a) rfl rfl rfl fun b1 => bx (cs := pxL b) rfl rfl rfl fun b2 => bx (cs := pxL d) rfl rfl rfl fun b3 => ?_)))
 refine asg rfl rfl (q6 (sC 3 rfl (sC 4 rfl (sC 5 rfl (sC 6 rfl (sN))))) (rG [(0, true), (1, true), (3, true), (4, true), (2, false), (5, false), (6, false), (7, false), (8, true)] sr (by kernel_rfl) (fun _ _ d _ _ h => by cases d <;> exact h) (pW 1 tA47 rfl rfl rfl rfl rfl (pW 2 tA47 rfl rfl rfl rfl rfl (pW 0 tA47 rfl rfl rfl rfl rfl ?_)))))
 refine pW 2 tA47 rfl rfl rfl rfl rfl (OkE.imp rfl ?_)
 have hz1 := SzP_sub y x
 refine cP (S := S) (x := (y - x)) (args := [(aG (pxL b)), (aG (pxL a))]) Tryz.call67 (fun w hw => rpSub_ok b a (by omega) w (inS hw 7 rfl lb) (inS hw 3 rfl la)) rfl rfl rfl fun g1 lg1 => OkE.back (sl (sl (sl (sl sr)))) (OkE.imp rfl ?_)
 have hz2 := SzP_sub z x
 refine cP (S := S) (x := (z - x)) (args := [(aG (pxL d)), (aG (pxL a))]) Tryz.call67 (fun w hw => rpSub_ok d a (by omega) w (inS hw 15 rfl ld) (inS hw 7 rfl la)) rfl rfl rfl fun g2 lg2 => OkE.back (sl (sl (sl (sl (sl (sl (sl (sl sr)))))))) (OkE.imp rfl ?_)
 have hz3 := Sz_cross (y - x) (z - x)
 refine cF (S := S) (x := (crossP (y - x) (z - x))) (args := [(aG (pxL g1)), (aG (pxL g2))]) Tryz.call69 (fun w hw => rpCross_ok g1 g2 (by omega) w (inS hw 4 rfl lg1) (inS hw 0 rfl lg2)) rfl rfl rfl fun g3 lg3 => OkE.back (sl (sl (sl (sl (sl (sl (sl (sl (sl (sl sr)))))))))) (OkE.imp rfl (cl Tryz.call95 (fun w hw => qSign_ok g3 w (inS hw 0 rfl lg3)) rfl rfl rfl (OkE.back (sl (sl (sl (sl (sl (sl (sl (sl (sl (sl sr)))))))))) (pS rfl rfl rfl ?_))))
 exact OkE.nil (OkQ.subF (sC 6 rfl (sN)) (OkQ.then_ (OkC.ret (ret_one rfl (rd_tmp (v := (vI ((crossP (y - x) (z - x)).num.sign))) rfl) (fun w hw => ⟨rfl, hw.out⟩)))))
theorem rpOn_ok {x y z : Pt} (a : PX x) (b : PX y) (d : PX z) (hs : SzP x + SzP y + SzP z ≤ 262144) (w : World) {S : Nat → Prop} (ha : Ro S w a) (hb : Ro S w b) (hd : Ro S w d)  : Calls Tryz.prog 76 #[(aG (pxL a)), (aG (pxL b)), (aG (pxL d))] w (Gives w (Value.bool (onR x y z))) := by
 have la := atA (W := w) ha
 have lb := atA (W := w) hb
 have ld := atA (W := w) hd
 refine calls_ofR (args := [(aG (pxL a)), (aG (pxL b)), (aG (pxL d))]) (L := [nxR a.x.z.n, nxR a.x.m, nxR a.y.z.n, nxR a.y.m, nxR b.x.z.n, nxR b.x.m, nxR b.y.z.n, nxR b.y.m, nxR d.x.z.n, nxR d.x.m, nxR d.y.z.n, nxR d.y.m]) Tryz.func76 rfl rfl (leB rfl) (sxP ha (sxP hb (sxP hd roL_nil))) (OkC.subF (sC 0 rfl (sC 1 rfl (sC 2 rfl (sN)))) (q4 (bx (cs := pxL a) rfl rfl rfl fun b1 => bx (cs := pxL b) rfl rfl rfl fun b2 => bx (cs := pxL d) rfl rfl rfl fun b3 => ?_)))
 refine asg rfl rfl (q6 (sC 3 rfl (sC 4 rfl (sC 5 rfl (sC 6 rfl (sN))))) ?_)
 by_cases hon : (turnP x y z).num.sign = 0
 ·skip
  refine rG [(0, true), (1, true), (2, true), (3, false), (4, true), (5, true), (6, true), (7, true), (9, true), (10, true), (8, false), (11, false), (12, false), (13, false), (14, true), (15, true), (16, true)] sr (by kernel_rfl) (fun _ _ d _ _ h => by cases d <;> exact h) (pW 2 tA47 rfl rfl rfl rfl rfl (pW 1 tA47 rfl rfl rfl rfl rfl (pW 0 tA47 rfl rfl rfl rfl rfl (OkE.imp rfl (cl Tryz.call77 (fun w hw => rpTurn_ok a b d (by omega) w (inS hw 3 rfl la) (inS hw 7 rfl lb) (inS hw 11 rfl ld)) rfl rfl rfl ?_)))))
  refine OkE.back sr (pE rfl (ex_eql (c := true) rfl rfl (by simp [hon])) rfl (pM rfl rfl rfl (OkE.pas (v := (aG (pxL a))) rfl (wt_some rfl rfl rfl) (ex_load_agg (i := 2) (vs := pxL a) rfl rfl tA47.a tA47.s rfl rfl) rfl rfl (OkE.pas (v := (aG (pxL d))) rfl (wt_some rfl rfl rfl) (ex_load_agg (i := 0) (vs := pxL d) rfl rfl tA47.a tA47.s rfl rfl) rfl rfl (OkE.pas (v := (aG (pxL b))) rfl (wt_some rfl rfl rfl) (ex_load_agg (i := 1) (vs := pxL b) rfl rfl tA47.a tA47.s rfl rfl) rfl rfl ?_)))))
  refine OkE.pas (v := (aG (pxL d))) rfl (wt_some rfl rfl rfl) (ex_load_agg (i := 0) (vs := pxL d) rfl rfl tA47.a tA47.s rfl rfl) rfl rfl (OkE.imp rfl ?_)
  have hz1 := SzP_sub x z
  refine gP (S := S) (x := (x - z)) (args := [(aG (pxL a)), (aG (pxL d))]) Tryz.call67 (fun w hw => rpSub_ok a d (by omega) w (inS hw 3 rfl la) (inS hw 11 rfl ld)) rfl rfl rfl (wt_some rfl rfl rfl) fun g1 lg1 => OkE.back (sl (sl (sl (sl sr)))) (OkE.imp rfl ?_)
  have hz2 := SzP_sub y z
  refine gP (S := S) (x := (y - z)) (args := [(aG (pxL b)), (aG (pxL d))]) Tryz.call67 (fun w hw => rpSub_ok b d (by omega) w (inS hw 11 rfl lb) (inS hw 15 rfl ld)) rfl rfl rfl (wt_some rfl rfl rfl) fun g2 lg2 => OkE.back (sl (sl (sl (sl (sl (sl (sl (sl sr)))))))) (OkE.imp rfl ?_)
  have hz3 := Sz_dot (x - z) (y - z)
  refine gF (S := S) (x := (dotP (x - z) (y - z))) (args := [(aG (pxL g1)), (aG (pxL g2))]) Tryz.call70 (fun w hw => rpDot_ok g1 g2 (by omega) w (inS hw 4 rfl lg1) (inS hw 0 rfl lg2)) rfl rfl rfl (wt_some rfl rfl rfl) fun g3 lg3 => OkE.back (sl (sl (sl (sl (sl (sl (sl (sl (sl (sl sr)))))))))) (OkE.imp rfl (OkL.call (v := (vI ((dotP (x - z) (y - z)).num.sign))) (wt_some rfl rfl rfl) (op_call0 (args := [(aG (fxL g3))]) rfl rfl Tryz.call95) (fun w hw => qSign_ok g3 w (inS hw 0 rfl lg3)) rfl (leB rfl) (OkE.back (sl (sl (sl (sl (sl (sl (sl (sl (sl (sl sr)))))))))) (OkE.pas (v := (Value.bool (decide (((dotP (x - z) (y - z)).num.sign) ≤ (0 : Int))))) rfl (wt_some rfl rfl rfl) (ex_leq (c := (decide (((dotP (x - z) (y - z)).num.sign) ≤ (0 : Int)))) rfl rfl rfl) rfl rfl ?_))))
  exact pE (v := (Value.bool (decide (((dotP (x - z) (y - z)).num.sign) ≤ (0 : Int))))) rfl (ex_pick_true rfl rfl) rfl (pS rfl rfl rfl (OkE.nil (OkQ.subF (sC 6 rfl (sN)) (OkQ.then_ (OkC.ret (ret_one rfl (rd_tmp (v := (Value.bool (decide (((dotP (x - z) (y - z)).num.sign) ≤ (0 : Int))))) rfl) (fun w hw => ⟨by simp [onR, hon], hw.out⟩)))))))
 ·skip
  refine rG [(0, true), (1, true), (2, true), (3, false), (4, true), (5, true), (6, true), (7, true), (9, true), (10, true), (8, false), (11, false), (12, false), (13, false), (14, true), (15, true), (16, true)] sr (by kernel_rfl) (fun _ _ d _ _ h => by cases d <;> exact h) (pW 2 tA47 rfl rfl rfl rfl rfl (pW 1 tA47 rfl rfl rfl rfl rfl (pW 0 tA47 rfl rfl rfl rfl rfl (OkE.imp rfl (cl Tryz.call77 (fun w hw => rpTurn_ok a b d (by omega) w (inS hw 3 rfl la) (inS hw 7 rfl lb) (inS hw 11 rfl ld)) rfl rfl rfl ?_)))))
  refine OkE.back sr (pE rfl (ex_eql (c := false) rfl rfl (by simp [hon])) rfl (pM rfl rfl rfl (OkE.skp rfl (wt_not rfl rfl rfl) rfl rfl (OkE.skp rfl (wt_not rfl rfl rfl) rfl rfl (OkE.skp rfl (wt_not rfl rfl rfl) rfl rfl ?_)))))
  refine OkE.skp rfl (wt_not rfl rfl rfl) rfl rfl (OkE.imp rfl (OkL.skip (wt_not rfl rfl rfl) rfl (leB rfl) (OkE.back sr (OkE.imp rfl (OkL.skip (wt_not rfl rfl rfl) rfl (leB rfl) ?_)))))
  refine OkE.back sr (OkE.imp rfl (OkL.skip (wt_not rfl rfl rfl) rfl (leB rfl) (OkE.back sr (OkE.imp rfl (OkL.skip (wt_not rfl rfl rfl) rfl (leB rfl) ?_)))))
  refine OkE.back sr (OkE.skp rfl (wt_not rfl rfl rfl) rfl rfl (pE (v := (Value.bool false)) rfl (ex_pick_false rfl rfl) rfl (pS rfl rfl rfl (OkE.nil (OkQ.subF (sC 6 rfl (sN)) ?_)))))
  exact OkQ.then_ (OkC.ret (ret_one rfl (rd_tmp (v := (Value.bool false)) rfl) (fun w hw => ⟨by simp [onR, hon], hw.out⟩)))
end
section
structure S3 (u v q : Rat) where
  b : Nat
  f : FX u
  g : FX v
  h : FX q
@[reducible] def S3.p {u v q : Rat} (a : S3 u v q) : Option Addr := some ⟨a.b, 0, none⟩
def s3L {u v q : Rat} (a : S3 u v q) : List Value := fxL a.f ++ fxL a.g ++ fxL a.h
theorem S3.ok {u v q : Rat} (a : S3 u v q) : RowOk a.p 3 3 := ⟨(fun e => by cases e), (fun c e => by injection e with e; rw [← e]), Nat.le_refl _⟩
def s3R {u v q : Rat} (a : S3 u v q) : List As := [rowR a.p (s3L a), nxR a.f.z.n, nxR a.f.m, nxR a.g.z.n, nxR a.g.m, nxR a.h.z.n, nxR a.h.m]
theorem s3R_ro {u v q : Rat} (a : S3 u v q) : ∀ y ∈ s3R a, y.ro = true := fun y hy => by
  simp only [s3R, List.mem_cons, List.not_mem_nil, or_false] at hy
  rcases hy with rfl | rfl | rfl | rfl | rfl | rfl | rfl <;> rfl
instance {u v q : Rat} : Ref (S3 u v q) := ⟨fun a => .slice a.p 3 3, s3R, s3R_ro⟩
structure S3E (u v q : Rat) where
  s : S3 u v q
instance {u v q : Rat} : Ref (S3E u v q) := ⟨fun a => .tuple #[.slice a.s.p 3 3, vI 0], fun a => s3R a.s, fun a => s3R_ro a.s⟩
section
variable {S : Nat → Prop} {w W : World} {w0 : Base} {L : List As} {u v q : Rat}
theorem roE {a : S3E u v q} (h : Ro S w a) : Ro S w a.s := h
theorem roSf {a : S3 u v q} (h : Ro S w a) : Ro S w a.f := fun y hy => h y (by
  rcases List.mem_cons.1 hy with rfl | hy
  · simp [Ref.rows, s3R]
  · rcases List.mem_singleton.1 hy with rfl; simp [Ref.rows, s3R])
theorem roSg {a : S3 u v q} (h : Ro S w a) : Ro S w a.g := fun y hy => h y (by
  rcases List.mem_cons.1 hy with rfl | hy
  · simp [Ref.rows, s3R]
  · rcases List.mem_singleton.1 hy with rfl; simp [Ref.rows, s3R])
theorem roSh {a : S3 u v q} (h : Ro S w a) : Ro S w a.h := fun y hy => h y (by
  rcases List.mem_cons.1 hy with rfl | hy
  · simp [Ref.rows, s3R]
  · rcases List.mem_singleton.1 hy with rfl; simp [Ref.rows, s3R])
theorem mkS {a : S3 u v q} (h0 : Holds w (rowR a.p (s3L a)) ∧ ∀ b, (rowR a.p (s3L a)).foot = some b → S b) (hf : Ro S w a.f) (hg : Ro S w a.g) (hh : Ro S w a.h) : Ro S w a := fun y hy => by
  rcases List.mem_cons.1 hy with rfl | hy
  · exact h0
  · rcases List.mem_cons.1 hy with rfl | hy
    · exact hf _ List.mem_cons_self
    · rcases List.mem_cons.1 hy with rfl | hy
      · exact hf _ (List.mem_cons_of_mem _ List.mem_cons_self)
      · rcases List.mem_cons.1 hy with rfl | hy
        · exact hg _ List.mem_cons_self
        · rcases List.mem_cons.1 hy with rfl | hy
          · exact hg _ (List.mem_cons_of_mem _ List.mem_cons_self)
          · exact hh y hy
theorem lies_blk {b : Nat} {T : TypeId} {cs : List Value} {o : Obj} (h : (blk b T cs).P o) : (rowR (some ⟨b, 0, none⟩) cs).P o := ⟨cs.toArray, T, (0, 0), h, by show (cs.toArray.toList.drop 0).take cs.length = cs; simp⟩
theorem inSr (hw : Own w0 w L) (i : Nat) {b : Nat} {cs : List Value} (hi : L[i]? = some (rowR (some ⟨b, 0, none⟩) cs)) (hb : w0.w.heap.size ≤ b) : Holds w (rowR (some ⟨b, 0, none⟩) cs) ∧ ∀ c, (rowR (some ⟨b, 0, none⟩) cs).foot = some c → SL w0 S L c :=
  ⟨hw.holds hi, fun c e => ⟨⟨_, List.mem_of_getElem? hi, rfl, e⟩, .inl (by injection e with e; rw [← e]; exact hb)⟩⟩
theorem retS (hw : Own ⟨W, none⟩ w L) (i : Nat) {b : Nat} {T : TypeId} {f : FX u} {g : FX v} {h : FX q} (hi : L[i]? = some (blk b T (fxL f ++ fxL g ++ fxL h))) (hf : Ro (SL ⟨W, none⟩ S L) w f) (hg : Ro (SL ⟨W, none⟩ S L) w g) (hh : Ro (SL ⟨W, none⟩ S L) w h)
    {x : Value} (hx : x = .tuple #[.slice (some ⟨b, 0, none⟩) 3 3, vI 0]) : GivesR (S3E u v q) S W (.returned x) w := by
  have hm := hw.2.1 _ (List.mem_of_getElem? hi) b rfl
  refine ⟨⟨⟨b, f, g, h⟩⟩, by rw [hx]; rfl, hw.out, mkS (a := ⟨b, f, g, h⟩) ⟨fun c e => ?_, fun c e => ?_⟩ (hf.mono fun b h => h.2) (hg.mono fun b h => h.2) (hh.mono fun b h => h.2)⟩
  · injection e with e; subst e
    obtain ⟨_, o, ho, hp⟩ := hm
    exact ⟨o, ho, lies_blk hp⟩
  · injection e with e; subst e
    rcases hm.1 with h1 | h1 | h1
    · cases h1
    · exact .inl h1
    · cases h1
theorem sxS {a : S3 u v q} (h : Ro S w a) (t : ∀ y ∈ L, y.ro = true ∧ Holds w y) : ∀ y ∈ rowR a.p (s3L a) :: nxR a.f.z.n :: nxR a.f.m :: nxR a.g.z.n :: nxR a.g.m :: nxR a.h.z.n :: nxR a.h.m :: L, y.ro = true ∧ Holds w y :=
  roL_cons rfl (h _ List.mem_cons_self).1 (sxF (roSf h) (sxF (roSg h) (sxF (roSh h) t)))
theorem fill3R {x0 x1 x2 : Rat} (f0 : FX x0) (f1 : FX x1) (f2 : FX x2) : Instr.fill (fun i => some (i * 3, 3)) ((Array.range (3 * 3)).map ((Value.agg (#[(Value.bool false), (Value.slice none 0 0), (Value.slice none 0 0)])).cells[· % (Value.agg (#[(Value.bool false), (Value.slice none 0 0), (Value.slice none 0 0)])).cells.size]!)) [(0, .agg (fxL f0).toArray), (1, .agg (fxL f1).toArray), (2, .agg (fxL f2).toArray)] = some (fxL f0 ++ fxL f1 ++ fxL f2).toArray := by kernel_rfl
end
section
variable {P : Program} {ops : Array Oper} {rest : List Oper} {Q : Exit → Act → World → Prop} {n d : Nat} {F : List (Nat × Value)} {w0 : Base} {S : Nat → Prop} {L : List As} {t : TypeId} {p : String} {af : Array Edge} {y : Operand} {f : FuncId} {xs : List Operand} {args : List Value} {ts : Array TypeId}
theorem cE {u v x : Rat} (hc : ∀ args w, (callFunc f args).run P w = .ok (.enter f args) w) (h : ∀ w, Own w0 w L → Calls P f args.toArray w (GivesR (S3E u v x) (SL w0 S L) w))
    (hf : evF F y = some (.func (.func f) #[] #[])) (hargs : xs.map (evF F) = args.map some) (hd : Nat.ble (d + 1) n = true)
    (next : ∀ a : S3E u v x, At w0 S a → OkL P ops rest Q n ((d, .tuple #[.slice a.s.p 3 3, vI 0]) :: F) w0 (rowR a.s.p (s3L a.s) :: nxR a.s.f.z.n :: nxR a.s.f.m :: nxR a.s.g.z.n :: nxR a.s.g.m :: nxR a.s.h.z.n :: nxR a.s.h.m :: L)) :
    OkL P ops (⟨some d, .call { callee := .value y, args := xs.toArray, argTypes := ts }, t, p, af, none⟩ :: rest) Q n F w0 L := OkL.callR hc h hf hargs hd next
theorem OkL.frzB (i : Nat) {b : Nat} {T : TypeId} {cs : List Value} (hi : L[i]? = some (blk b T cs)) (hex : w0.ex = none) (next : w0.w.heap.size ≤ b → OkL P ops rest Q n F w0 (L.set i (rowR (some ⟨b, 0, none⟩) cs))) : OkL P ops rest Q n F w0 L := fun a w ha hw => by
  refine next ?_ a w ha (hw.freeze hi rfl (fun o hp => lies_blk hp) (fun e => by cases e))
  rcases (hw.2.1 _ (List.mem_of_getElem? hi) b rfl).1 with h1 | h1 | h1
  · cases h1
  · exact h1
  · rw [hex] at h1; cases h1
end
end
end Go.Proofs.YtpkoldfmbebmgaaGreatDoor
