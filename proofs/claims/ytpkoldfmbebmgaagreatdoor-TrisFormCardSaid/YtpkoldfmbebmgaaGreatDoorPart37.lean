import Derived.Test.YtpkoldfmbebmgaaGreatDoorPart07
import Derived.Test.YtpkoldfmbebmgaaGreatDoorPart23
import Derived.Test.YtpkoldfmbebmgaaGreatDoorPart35
import Derived.Test.YtpkoldfmbebmgaaGreatDoorPart36
namespace Go.Proofs.YtpkoldfmbebmgaaGreatDoor
open Go Go.RowKit
set_option linter.unusedVariables false
set_option linter.unusedSimpArgs false
section
set_option maxRecDepth 100000
theorem fill_numsc_47_0fxL_1fxL {r0 : Rat} (x0 : FX r0) {r1 : Rat} (x1 : FX r1) : Instr.fill ([(0, 3), (3, 3)].toArray[·]?) ([(Value.bool false), (Value.slice none 0 0), (Value.slice none 0 0), (Value.bool false), (Value.slice none 0 0), (Value.slice none 0 0)]).toArray [(0, .agg (fxL x0).toArray), (1, .agg (fxL x1).toArray)] = some (fxL x0 ++ fxL x1).toArray := by kernel_rfl
theorem rpAdd_ok {x y : Pt} (a : PX x) (b : PX y) (hs : SzP x + SzP y ≤ 2097152) (w : World) {S : Nat → Prop} (ha : Ro S w a) (hb : Ro S w b)  : Calls Tryz.prog 56 #[(aG (pxL a)), (aG (pxL b))] w (GivesR (PX (x + y)) S w) := by
 have sxx := SzP_x x
 have sxy := SzP_y x
 have syx := SzP_x y
 have syy := SzP_y y
 have la := atA (W := w) ha
 have lb := atA (W := w) hb
 refine calls_ofR (args := [(aG (pxL a)), (aG (pxL b))]) (L := [nxR a.x.z.n, nxR a.x.m, nxR a.y.z.n, nxR a.y.m, nxR b.x.z.n, nxR b.x.m, nxR b.y.z.n, nxR b.y.m]) Tryz.func56 rfl rfl (leB rfl) (sxP ha (sxP hb roL_nil)) (OkC.subF (sC 0 rfl (sC 1 rfl (sN))) (q4 (bx (cs := pxL a) rfl rfl rfl fun b1 => bx (cs := pxL b) rfl rfl rfl fun b2 => al tZ47 rfl fun b3 => ?_)))
 refine q6 (sC 2 rfl (sC 3 rfl (sC 4 rfl (sN)))) (rG [(0, true), (1, true), (2, true), (3, true), (5, true), (6, true), (7, true), (8, true), (4, false), (9, false), (10, true), (11, false)] (sl sr) (by kernel_rfl) (fun _ _ d _ _ h => by cases d <;> exact h) (pE (v := (pP b1 0)) rfl (ex_fieldAddr rfl Tryz.underlying47 rfl Tryz.sizeOf45 rfl) rfl (pA 1 (fxL a.x) tA45 rfl rfl rfl rfl rfl rfl (pE (v := (pP b2 0)) rfl (ex_fieldAddr rfl Tryz.underlying47 rfl Tryz.sizeOf45 rfl) rfl (pA 0 (fxL b.x) tA45 rfl rfl rfl rfl rfl rfl ?_)))))
 refine pE (v := (pP b1 3)) rfl (ex_fieldAddr rfl Tryz.underlying47 rfl Tryz.sizeOf45 rfl) rfl (pA 1 (fxL a.y) tA45 rfl rfl rfl rfl rfl rfl (pE (v := (pP b2 3)) rfl (ex_fieldAddr rfl Tryz.underlying47 rfl Tryz.sizeOf45 rfl) rfl (pA 0 (fxL b.y) tA45 rfl rfl rfl rfl rfl rfl (OkE.imp rfl ?_))))
 have hz1 := Sz_add x.x y.x
 refine cF (S := S) (x := (x.x + y.x)) (args := [(aG (fxL a.x)), (aG (fxL b.x))]) Tryz.call96 (fun w hw => qAdd_ok a.x b.x (by (try simp only [Sz_neg]); omega) w (roX (inS hw 3 rfl la)) (roX (inS hw 7 rfl lb))) rfl rfl rfl fun g1 lg1 => OkE.back (sl (sl (sl sr))) (OkE.imp rfl ?_)
 have hz2 := Sz_add x.y y.y
 refine cF (S := S) (x := (x.y + y.y)) (args := [(aG (fxL a.y)), (aG (fxL b.y))]) Tryz.call96 (fun w hw => qAdd_ok a.y b.y (by (try simp only [Sz_neg]); omega) w (roY (inS hw 5 rfl la)) (roY (inS hw 9 rfl lb))) rfl rfl rfl fun g2 lg2 => OkE.back (sl (sl (sl (sl (sl sr))))) (pE (v := (aG (fxL g1 ++ fxL g2))) rfl (ex_build_struct (zs := [(Value.bool false), (Value.slice none 0 0), (Value.slice none 0 0), (Value.bool false), (Value.slice none 0 0), (Value.slice none 0 0)]) (vs := fxL g1 ++ fxL g2) (pv := [(0, (aG (fxL g1))), (1, (aG (fxL g2)))]) (places := [(0, 3), (3, 3)]) Tryz.zeroValue47 Tryz.underlying47 (fun w => by simp [Tryz.sizeOf45]) rfl (fill_numsc_47_0fxL_1fxL g1 g2)) rfl (OkE.imp rfl (OkL.store' (i := 4) (off := 0) (vs := fxL g1 ++ fxL g2) (cs' := fxL g1 ++ fxL g2) (L' := [nxR g2.z.n, nxR g2.m, nxR g1.z.n, nxR g1.m, blk b3 47 (fxL g1 ++ fxL g2), blk b2 47 (pxL b), blk b1 47 (pxL a), nxR a.x.z.n, nxR a.x.m, nxR a.y.z.n, nxR a.y.m, nxR b.x.z.n, nxR b.x.m, nxR b.y.z.n, nxR b.y.m]) (wt_none rfl) rfl rfl rfl rfl rfl Tryz.sizeOf47 rfl rfl rfl rfl (OkE.back (sl (sl (sl (sl (sl sr))))) ?_))))
 exact OkE.nil (OkQ.subF (sC 4 rfl (sN)) (OkQ.then_ (OkC.ret (ret_one rfl (rd_agg (i := 4) (cs := fxL g1 ++ fxL g2) rfl rfl Tryz.isAgg47 Tryz.sizeOf47 rfl) (fun w hw => retR (a := ((PX.mk g1 g2) : PX (x + y))) hw (mkP (inS hw 2 rfl lg1) (inS hw 0 rfl lg2)) rfl)))))
theorem rpSub_ok {x y : Pt} (a : PX x) (b : PX y) (hs : SzP x + SzP y ≤ 2097152) (w : World) {S : Nat → Prop} (ha : Ro S w a) (hb : Ro S w b)  : Calls Tryz.prog 67 #[(aG (pxL a)), (aG (pxL b))] w (GivesR (PX (x - y)) S w) := by
 have sxx := SzP_x x
 have sxy := SzP_y x
 have syx := SzP_x y
 have syy := SzP_y y
 have la := atA (W := w) ha
 have lb := atA (W := w) hb
 refine calls_ofR (args := [(aG (pxL a)), (aG (pxL b))]) (L := [nxR a.x.z.n, nxR a.x.m, nxR a.y.z.n, nxR a.y.m, nxR b.x.z.n, nxR b.x.m, nxR b.y.z.n, nxR b.y.m]) Tryz.func67 rfl rfl (leB rfl) (sxP ha (sxP hb roL_nil)) (OkC.subF (sC 0 rfl (sC 1 rfl (sN))) (q4 (bx (cs := pxL a) rfl rfl rfl fun b1 => bx (cs := pxL b) rfl rfl rfl fun b2 => al tZ47 rfl fun b3 => ?_)))
 refine q6 (sC 2 rfl (sC 3 rfl (sC 4 rfl (sN)))) (rG [(0, true), (1, true), (2, true), (3, true), (5, true), (6, true), (7, true), (8, true), (4, false), (9, false), (10, true), (11, false)] (sl sr) (by kernel_rfl) (fun _ _ d _ _ h => by cases d <;> exact h) (pE (v := (pP b1 0)) rfl (ex_fieldAddr rfl Tryz.underlying47 rfl Tryz.sizeOf45 rfl) rfl (pA 1 (fxL a.x) tA45 rfl rfl rfl rfl rfl rfl (pE (v := (pP b2 0)) rfl (ex_fieldAddr rfl Tryz.underlying47 rfl Tryz.sizeOf45 rfl) rfl (pA 0 (fxL b.x) tA45 rfl rfl rfl rfl rfl rfl ?_)))))
 refine pE (v := (pP b1 3)) rfl (ex_fieldAddr rfl Tryz.underlying47 rfl Tryz.sizeOf45 rfl) rfl (pA 1 (fxL a.y) tA45 rfl rfl rfl rfl rfl rfl (pE (v := (pP b2 3)) rfl (ex_fieldAddr rfl Tryz.underlying47 rfl Tryz.sizeOf45 rfl) rfl (pA 0 (fxL b.y) tA45 rfl rfl rfl rfl rfl rfl (OkE.imp rfl ?_))))
 have hz1 := Sz_sub x.x y.x
 refine cF (S := S) (x := (x.x - y.x)) (args := [(aG (fxL a.x)), (aG (fxL b.x))]) Tryz.call58 (fun w hw => qSub_ok a.x b.x (by (try simp only [Sz_neg]); omega) w (roX (inS hw 3 rfl la)) (roX (inS hw 7 rfl lb))) rfl rfl rfl fun g1 lg1 => OkE.back (sl (sl (sl sr))) (OkE.imp rfl ?_)
 have hz2 := Sz_sub x.y y.y
 refine cF (S := S) (x := (x.y - y.y)) (args := [(aG (fxL a.y)), (aG (fxL b.y))]) Tryz.call58 (fun w hw => qSub_ok a.y b.y (by (try simp only [Sz_neg]); omega) w (roY (inS hw 5 rfl la)) (roY (inS hw 9 rfl lb))) rfl rfl rfl fun g2 lg2 => OkE.back (sl (sl (sl (sl (sl sr))))) (pE (v := (aG (fxL g1 ++ fxL g2))) rfl (ex_build_struct (zs := [(Value.bool false), (Value.slice none 0 0), (Value.slice none 0 0), (Value.bool false), (Value.slice none 0 0), (Value.slice none 0 0)]) (vs := fxL g1 ++ fxL g2) (pv := [(0, (aG (fxL g1))), (1, (aG (fxL g2)))]) (places := [(0, 3), (3, 3)]) Tryz.zeroValue47 Tryz.underlying47 (fun w => by simp [Tryz.sizeOf45]) rfl (fill_numsc_47_0fxL_1fxL g1 g2)) rfl (OkE.imp rfl (OkL.store' (i := 4) (off := 0) (vs := fxL g1 ++ fxL g2) (cs' := fxL g1 ++ fxL g2) (L' := [nxR g2.z.n, nxR g2.m, nxR g1.z.n, nxR g1.m, blk b3 47 (fxL g1 ++ fxL g2), blk b2 47 (pxL b), blk b1 47 (pxL a), nxR a.x.z.n, nxR a.x.m, nxR a.y.z.n, nxR a.y.m, nxR b.x.z.n, nxR b.x.m, nxR b.y.z.n, nxR b.y.m]) (wt_none rfl) rfl rfl rfl rfl rfl Tryz.sizeOf47 rfl rfl rfl rfl (OkE.back (sl (sl (sl (sl (sl sr))))) ?_))))
 exact OkE.nil (OkQ.subF (sC 4 rfl (sN)) (OkQ.then_ (OkC.ret (ret_one rfl (rd_agg (i := 4) (cs := fxL g1 ++ fxL g2) rfl rfl Tryz.isAgg47 Tryz.sizeOf47 rfl) (fun w hw => retR (a := ((PX.mk g1 g2) : PX (x - y))) hw (mkP (inS hw 2 rfl lg1) (inS hw 0 rfl lg2)) rfl)))))
theorem rpCross_ok {x y : Pt} (a : PX x) (b : PX y) (hs : SzP x + SzP y ≤ 2097152) (w : World) {S : Nat → Prop} (ha : Ro S w a) (hb : Ro S w b)  : Calls Tryz.prog 69 #[(aG (pxL a)), (aG (pxL b))] w (GivesR (FX (crossP x y)) S w) := by
 have sxx := SzP_x x
 have sxy := SzP_y x
 have syx := SzP_x y
 have syy := SzP_y y
 have la := atA (W := w) ha
 have lb := atA (W := w) hb
 refine calls_ofR (args := [(aG (pxL a)), (aG (pxL b))]) (L := [nxR a.x.z.n, nxR a.x.m, nxR a.y.z.n, nxR a.y.m, nxR b.x.z.n, nxR b.x.m, nxR b.y.z.n, nxR b.y.m]) Tryz.func69 rfl rfl (leB rfl) (sxP ha (sxP hb roL_nil)) (OkC.subF (sC 0 rfl (sC 1 rfl (sN))) (q4 (bx (cs := pxL a) rfl rfl rfl fun b1 => bx (cs := pxL b) rfl rfl rfl fun b2 => al tZ45 rfl fun b3 => ?_)))
 refine q6 (sC 2 rfl (sC 3 rfl (sC 4 rfl (sN)))) (rG [(0, true), (1, true), (2, true), (3, true), (5, true), (6, true), (7, true), (8, true), (4, false), (9, false), (10, false), (11, false)] (sl sr) (by kernel_rfl) (fun _ _ d _ _ h => by cases d <;> exact h) (pE (v := (pP b1 0)) rfl (ex_fieldAddr rfl Tryz.underlying47 rfl Tryz.sizeOf45 rfl) rfl (pA 1 (fxL a.x) tA45 rfl rfl rfl rfl rfl rfl (pE (v := (pP b2 3)) rfl (ex_fieldAddr rfl Tryz.underlying47 rfl Tryz.sizeOf45 rfl) rfl (pA 0 (fxL b.y) tA45 rfl rfl rfl rfl rfl rfl ?_)))))
 refine pE (v := (pP b1 3)) rfl (ex_fieldAddr rfl Tryz.underlying47 rfl Tryz.sizeOf45 rfl) rfl (pA 1 (fxL a.y) tA45 rfl rfl rfl rfl rfl rfl (pE (v := (pP b2 0)) rfl (ex_fieldAddr rfl Tryz.underlying47 rfl Tryz.sizeOf45 rfl) rfl (pA 0 (fxL b.x) tA45 rfl rfl rfl rfl rfl rfl (OkE.imp rfl ?_))))
 have hz1 := Sz_mul x.x y.y
 refine cF (S := S) (x := (x.x * y.y)) (args := [(aG (fxL a.x)), (aG (fxL b.y))]) Tryz.call68 (fun w hw => qMul_ok a.x b.y (by (try simp only [Sz_neg]); omega) w (roX (inS hw 3 rfl la)) (roY (inS hw 7 rfl lb))) rfl rfl rfl fun g1 lg1 => OkE.back (sl (sl (sl sr))) (OkE.imp rfl ?_)
 have hz2 := Sz_mul x.y y.x
 refine cF (S := S) (x := (x.y * y.x)) (args := [(aG (fxL a.y)), (aG (fxL b.x))]) Tryz.call68 (fun w hw => qMul_ok a.y b.x (by (try simp only [Sz_neg]); omega) w (roY (inS hw 5 rfl la)) (roX (inS hw 9 rfl lb))) rfl rfl rfl fun g2 lg2 => OkE.back (sl (sl (sl (sl (sl sr))))) (OkE.imp rfl ?_)
 have hz3 := Sz_sub (x.x * y.y) (x.y * y.x)
 refine cF (S := S) (x := ((x.x * y.y) - (x.y * y.x))) (args := [(aG (fxL g1)), (aG (fxL g2))]) Tryz.call58 (fun w hw => qSub_ok g1 g2 (by (try simp only [Sz_neg]); omega) w (inS hw 2 rfl lg1) (inS hw 0 rfl lg2)) rfl rfl rfl fun g3 lg3 => OkE.back (sl (sl (sl (sl (sl (sl (sl sr))))))) (OkE.imp rfl (OkL.store' (i := 6) (off := 0) (vs := fxL g3) (cs' := fxL g3) (L' := [nxR g3.z.n, nxR g3.m, nxR g2.z.n, nxR g2.m, nxR g1.z.n, nxR g1.m, blk b3 45 (fxL g3), blk b2 47 (pxL b), blk b1 47 (pxL a), nxR a.x.z.n, nxR a.x.m, nxR a.y.z.n, nxR a.y.m, nxR b.x.z.n, nxR b.x.m, nxR b.y.z.n, nxR b.y.m]) (wt_none rfl) rfl rfl rfl rfl rfl Tryz.sizeOf45 rfl rfl rfl rfl (OkE.back (sl (sl (sl (sl (sl (sl (sl sr))))))) (OkE.nil ?_))))
 exact OkQ.subF (sC 4 rfl (sN)) (OkQ.then_ (OkC.ret (ret_one rfl (rd_agg (i := 6) (cs := fxL g3) rfl rfl Tryz.isAgg45 Tryz.sizeOf45 rfl) (fun w hw => retR (a := (g3 : FX (crossP x y))) hw (inS hw 0 rfl lg3) rfl))))
theorem rpDot_ok {x y : Pt} (a : PX x) (b : PX y) (hs : SzP x + SzP y ≤ 2097152) (w : World) {S : Nat → Prop} (ha : Ro S w a) (hb : Ro S w b)  : Calls Tryz.prog 70 #[(aG (pxL a)), (aG (pxL b))] w (GivesR (FX (dotP x y)) S w) := by
 have sxx := SzP_x x
 have sxy := SzP_y x
 have syx := SzP_x y
 have syy := SzP_y y
 have la := atA (W := w) ha
 have lb := atA (W := w) hb
 refine calls_ofR (args := [(aG (pxL a)), (aG (pxL b))]) (L := [nxR a.x.z.n, nxR a.x.m, nxR a.y.z.n, nxR a.y.m, nxR b.x.z.n, nxR b.x.m, nxR b.y.z.n, nxR b.y.m]) Tryz.func70 rfl rfl (leB rfl) (sxP ha (sxP hb roL_nil)) (OkC.subF (sC 0 rfl (sC 1 rfl (sN))) (q4 (bx (cs := pxL a) rfl rfl rfl fun b1 => bx (cs := pxL b) rfl rfl rfl fun b2 => al tZ45 rfl fun b3 => ?_)))
 refine q6 (sC 2 rfl (sC 3 rfl (sC 4 rfl (sN)))) (rG [(0, true), (1, true), (2, true), (3, true), (5, true), (6, true), (7, true), (8, true), (4, false), (9, false), (10, false), (11, false)] (sl sr) (by kernel_rfl) (fun _ _ d _ _ h => by cases d <;> exact h) (pE (v := (pP b1 0)) rfl (ex_fieldAddr rfl Tryz.underlying47 rfl Tryz.sizeOf45 rfl) rfl (pA 1 (fxL a.x) tA45 rfl rfl rfl rfl rfl rfl (pE (v := (pP b2 0)) rfl (ex_fieldAddr rfl Tryz.underlying47 rfl Tryz.sizeOf45 rfl) rfl (pA 0 (fxL b.x) tA45 rfl rfl rfl rfl rfl rfl ?_)))))
 refine pE (v := (pP b1 3)) rfl (ex_fieldAddr rfl Tryz.underlying47 rfl Tryz.sizeOf45 rfl) rfl (pA 1 (fxL a.y) tA45 rfl rfl rfl rfl rfl rfl (pE (v := (pP b2 3)) rfl (ex_fieldAddr rfl Tryz.underlying47 rfl Tryz.sizeOf45 rfl) rfl (pA 0 (fxL b.y) tA45 rfl rfl rfl rfl rfl rfl (OkE.imp rfl ?_))))
 have hz1 := Sz_mul x.x y.x
 refine cF (S := S) (x := (x.x * y.x)) (args := [(aG (fxL a.x)), (aG (fxL b.x))]) Tryz.call68 (fun w hw => qMul_ok a.x b.x (by (try simp only [Sz_neg]); omega) w (roX (inS hw 3 rfl la)) (roX (inS hw 7 rfl lb))) rfl rfl rfl fun g1 lg1 => OkE.back (sl (sl (sl sr))) (OkE.imp rfl ?_)
 have hz2 := Sz_mul x.y y.y
 refine cF (S := S) (x := (x.y * y.y)) (args := [(aG (fxL a.y)), (aG (fxL b.y))]) Tryz.call68 (fun w hw => qMul_ok a.y b.y (by (try simp only [Sz_neg]); omega) w (roY (inS hw 5 rfl la)) (roY (inS hw 9 rfl lb))) rfl rfl rfl fun g2 lg2 => OkE.back (sl (sl (sl (sl (sl sr))))) (OkE.imp rfl ?_)
 have hz3 := Sz_add (x.x * y.x) (x.y * y.y)
 refine cF (S := S) (x := ((x.x * y.x) + (x.y * y.y))) (args := [(aG (fxL g1)), (aG (fxL g2))]) Tryz.call96 (fun w hw => qAdd_ok g1 g2 (by (try simp only [Sz_neg]); omega) w (inS hw 2 rfl lg1) (inS hw 0 rfl lg2)) rfl rfl rfl fun g3 lg3 => OkE.back (sl (sl (sl (sl (sl (sl (sl sr))))))) (OkE.imp rfl (OkL.store' (i := 6) (off := 0) (vs := fxL g3) (cs' := fxL g3) (L' := [nxR g3.z.n, nxR g3.m, nxR g2.z.n, nxR g2.m, nxR g1.z.n, nxR g1.m, blk b3 45 (fxL g3), blk b2 47 (pxL b), blk b1 47 (pxL a), nxR a.x.z.n, nxR a.x.m, nxR a.y.z.n, nxR a.y.m, nxR b.x.z.n, nxR b.x.m, nxR b.y.z.n, nxR b.y.m]) (wt_none rfl) rfl rfl rfl rfl rfl Tryz.sizeOf45 rfl rfl rfl rfl (OkE.back (sl (sl (sl (sl (sl (sl (sl sr))))))) (OkE.nil ?_))))
 exact OkQ.subF (sC 4 rfl (sN)) (OkQ.then_ (OkC.ret (ret_one rfl (rd_agg (i := 6) (cs := fxL g3) rfl rfl Tryz.isAgg45 Tryz.sizeOf45 rfl) (fun w hw => retR (a := (g3 : FX (dotP x y))) hw (inS hw 0 rfl lg3) rfl))))
theorem rpSquare_ok {x y : Pt} (a : PX x) (b : PX y) (hs : SzP x + SzP y ≤ 262144) (w : World) {S : Nat → Prop} (ha : Ro S w a) (hb : Ro S w b)  : Calls Tryz.prog 25 #[(aG (pxL a)), (aG (pxL b))] w (GivesR (FX (dotP (x - y) (x - y))) S w) := by
 have la := atA (W := w) ha
 have lb := atA (W := w) hb
 refine calls_ofR (args := [(aG (pxL a)), (aG (pxL b))]) (L := [nxR a.x.z.n, nxR a.x.m, nxR a.y.z.n, nxR a.y.m, nxR b.x.z.n, nxR b.x.m, nxR b.y.z.n, nxR b.y.m]) Tryz.func25 rfl rfl (leB rfl) (sxP ha (sxP hb roL_nil)) (OkC.subF (sC 0 rfl (sC 1 rfl (sN))) (q4 (bx (cs := pxL a) rfl rfl rfl fun b1 => bx (cs := pxL b) rfl rfl rfl fun b2 => al tZ45 rfl fun b3 => ?_)))
 refine q6 (sC 2 rfl (sC 3 rfl (sC 4 rfl (sN)))) (rG [(0, true), (1, true), (3, true), (4, true), (2, false), (5, false), (6, false), (7, false)] (sl sr) (by kernel_rfl) (fun _ _ d _ _ h => by cases d <;> exact h) (pW 1 tA47 rfl rfl rfl rfl rfl (pW 0 tA47 rfl rfl rfl rfl rfl (pW 1 tA47 rfl rfl rfl rfl rfl (pW 0 tA47 rfl rfl rfl rfl rfl ?_)))))
 refine OkE.imp rfl ?_
 have hz1 := SzP_sub x y
 refine cP (S := S) (x := (x - y)) (args := [(aG (pxL a)), (aG (pxL b))]) Tryz.call67 (fun w hw => rpSub_ok a b (by omega) w (inS hw 3 rfl la) (inS hw 7 rfl lb)) rfl rfl rfl fun g1 lg1 => OkE.back (sl (sl (sl (sl (sl sr))))) (OkE.imp rfl ?_)
 have hz2 := SzP_sub x y
 refine cP (S := S) (x := (x - y)) (args := [(aG (pxL a)), (aG (pxL b))]) Tryz.call67 (fun w hw => rpSub_ok a b (by omega) w (inS hw 7 rfl la) (inS hw 11 rfl lb)) rfl rfl rfl fun g2 lg2 => OkE.back (sl (sl (sl (sl (sl (sl (sl (sl (sl sr))))))))) (OkE.imp rfl ?_)
 have hz3 := Sz_dot (x - y) (x - y)
 refine cF (S := S) (x := (dotP (x - y) (x - y))) (args := [(aG (pxL g1)), (aG (pxL g2))]) Tryz.call70 (fun w hw => rpDot_ok g1 g2 (by omega) w (inS hw 4 rfl lg1) (inS hw 0 rfl lg2)) rfl rfl rfl fun g3 lg3 => OkE.back (sl (sl (sl (sl (sl (sl (sl (sl (sl (sl (sl sr))))))))))) (OkE.imp rfl (OkL.store' (i := 10) (off := 0) (vs := fxL g3) (cs' := fxL g3) (L' := [nxR g3.z.n, nxR g3.m, nxR g2.x.z.n, nxR g2.x.m, nxR g2.y.z.n, nxR g2.y.m, nxR g1.x.z.n, nxR g1.x.m, nxR g1.y.z.n, nxR g1.y.m, blk b3 45 (fxL g3), blk b2 47 (pxL b), blk b1 47 (pxL a), nxR a.x.z.n, nxR a.x.m, nxR a.y.z.n, nxR a.y.m, nxR b.x.z.n, nxR b.x.m, nxR b.y.z.n, nxR b.y.m]) (wt_none rfl) rfl rfl rfl rfl rfl Tryz.sizeOf45 rfl rfl rfl rfl (OkE.back (sl (sl (sl (sl (sl (sl (sl (sl (sl (sl (sl sr))))))))))) (OkE.nil ?_))))
 exact OkQ.subF (sC 4 rfl (sN)) (OkQ.then_ (OkC.ret (ret_one rfl (rd_agg (i := 10) (cs := fxL g3) rfl rfl Tryz.isAgg45 Tryz.sizeOf45 rfl) (fun w hw => retR (a := (g3 : FX (dotP (x - y) (x - y)))) hw (inS hw 0 rfl lg3) rfl))))
end
section
structure S3 (u v q : Rat) where
  b : Nat
  f : FX u
  g : FX v
  h : FX q
@[reducible] def S3.p {u v q : Rat} (a : S3 u v q) : Option Addr := some ⟨a.b, 0, none⟩
def s3L {u v q : Rat} (a : S3 u v q) : List Value := fxL a.f ++ fxL a.g ++ fxL a.h
theorem S3.ok {u v q : Rat} (a : S3 u v q) : RowOk a.p 3 3 := ⟨(fun e => by cases e), (fun c e => by injection e with e; rw [← e]), Nat.le_refl _⟩
def s3R {u v q : Rat} (a : S3 u v q) : List As := [rowR a.p (s3L a), nxR a.f.z.n, nxR a.f.m, nxR a.g.z.n, nxR a.g.m, nxR a.h.z.n, nxR a.h.m]
theorem s3R_ro {u v q : Rat} (a : S3 u v q) : ∀ y ∈ s3R a, y.ro = true := fun y hy => by
  simp only [s3R, List.mem_cons, List.not_mem_nil, or_false] at hy
  rcases hy with rfl | rfl | rfl | rfl | rfl | rfl | rfl <;> rfl
instance {u v q : Rat} : Ref (S3 u v q) := ⟨fun a => .slice a.p 3 3, s3R, s3R_ro⟩
structure S3E (u v q : Rat) where
  s : S3 u v q
instance {u v q : Rat} : Ref (S3E u v q) := ⟨fun a => .tuple #[.slice a.s.p 3 3, vI 0], fun a => s3R a.s, fun a => s3R_ro a.s⟩
section
variable {S : Nat → Prop} {w W : World} {w0 : Base} {L : List As} {u v q : Rat}
theorem roE {a : S3E u v q} (h : Ro S w a) : Ro S w a.s := h
theorem roSf {a : S3 u v q} (h : Ro S w a) : Ro S w a.f := fun y hy => h y (by
  rcases List.mem_cons.1 hy with rfl | hy
  · simp [Ref.rows, s3R]
  · rcases List.mem_singleton.1 hy with rfl; simp [Ref.rows, s3R])
theorem roSg {a : S3 u v q} (h : Ro S w a) : Ro S w a.g := fun y hy => h y (by
  rcases List.mem_cons.1 hy with rfl | hy
  · simp [Ref.rows, s3R]
  · rcases List.mem_singleton.1 hy with rfl; simp [Ref.rows, s3R])
theorem roSh {a : S3 u v q} (h : Ro S w a) : Ro S w a.h := fun y hy => h y (by
  rcases List.mem_cons.1 hy with rfl | hy
  · simp [Ref.rows, s3R]
  · rcases List.mem_singleton.1 hy with rfl; simp [Ref.rows, s3R])
theorem mkS {a : S3 u v q} (h0 : Holds w (rowR a.p (s3L a)) ∧ ∀ b, (rowR a.p (s3L a)).foot = some b → S b) (hf : Ro S w a.f) (hg : Ro S w a.g) (hh : Ro S w a.h) : Ro S w a := fun y hy => by
  rcases List.mem_cons.1 hy with rfl | hy
  · exact h0
  · rcases List.mem_cons.1 hy with rfl | hy
    · exact hf _ List.mem_cons_self
    · rcases List.mem_cons.1 hy with rfl | hy
      · exact hf _ (List.mem_cons_of_mem _ List.mem_cons_self)
      · rcases List.mem_cons.1 hy with rfl | hy
        · exact hg _ List.mem_cons_self
        · rcases List.mem_cons.1 hy with rfl | hy
          · exact hg _ (List.mem_cons_of_mem _ List.mem_cons_self)
          · exact hh y hy
theorem lies_blk {b : Nat} {T : TypeId} {cs : List Value} {o : Obj} (h : (blk b T cs).P o) : (rowR (some ⟨b, 0, none⟩) cs).P o := ⟨cs.toArray, T, (0, 0), h, by show (cs.toArray.toList.drop 0).take cs.length = cs; simp⟩
theorem retS (hw : Own ⟨W, none⟩ w L) (i : Nat) {b : Nat} {T : TypeId} {f : FX u} {g : FX v} {h : FX q} (hi : L[i]? = some (blk b T (fxL f ++ fxL g ++ fxL h))) (hf : Ro (SL ⟨W, none⟩ S L) w f) (hg : Ro (SL ⟨W, none⟩ S L) w g) (hh : Ro (SL ⟨W, none⟩ S L) w h)
    {x : Value} (hx : x = .tuple #[.slice (some ⟨b, 0, none⟩) 3 3, vI 0]) : GivesR (S3E u v q) S W (.returned x) w := by
  have hm := hw.2.1 _ (List.mem_of_getElem? hi) b rfl
  refine ⟨⟨⟨b, f, g, h⟩⟩, by rw [hx]; rfl, hw.out, mkS (a := ⟨b, f, g, h⟩) ⟨fun c e => ?_, fun c e => ?_⟩ (hf.mono fun b h => h.2) (hg.mono fun b h => h.2) (hh.mono fun b h => h.2)⟩
  · injection e with e; subst e
    obtain ⟨_, o, ho, hp⟩ := hm
    exact ⟨o, ho, lies_blk hp⟩
  · injection e with e; subst e
    rcases hm.1 with h1 | h1 | h1
    · cases h1
    · exact .inl h1
    · cases h1
theorem sxS {a : S3 u v q} (h : Ro S w a) (t : ∀ y ∈ L, y.ro = true ∧ Holds w y) : ∀ y ∈ rowR a.p (s3L a) :: nxR a.f.z.n :: nxR a.f.m :: nxR a.g.z.n :: nxR a.g.m :: nxR a.h.z.n :: nxR a.h.m :: L, y.ro = true ∧ Holds w y :=
  roL_cons rfl (h _ List.mem_cons_self).1 (sxF (roSf h) (sxF (roSg h) (sxF (roSh h) t)))
theorem fill3R {x0 x1 x2 : Rat} (f0 : FX x0) (f1 : FX x1) (f2 : FX x2) : Instr.fill (fun i => some (i * 3, 3)) ((Array.range (3 * 3)).map ((Value.agg (#[(Value.bool false), (Value.slice none 0 0), (Value.slice none 0 0)])).cells[· % (Value.agg (#[(Value.bool false), (Value.slice none 0 0), (Value.slice none 0 0)])).cells.size]!)) [(0, .agg (fxL f0).toArray), (1, .agg (fxL f1).toArray), (2, .agg (fxL f2).toArray)] = some (fxL f0 ++ fxL f1 ++ fxL f2).toArray := by kernel_rfl
end
section
variable {P : Program} {ops : Array Oper} {rest : List Oper} {Q : Exit → Act → World → Prop} {n d : Nat} {F : List (Nat × Value)} {w0 : Base} {S : Nat → Prop} {L : List As} {t : TypeId} {p : String} {af : Array Edge} {y : Operand} {f : FuncId} {xs : List Operand} {args : List Value} {ts : Array TypeId}
theorem cE {u v x : Rat} (hc : ∀ args w, (callFunc f args).run P w = .ok (.enter f args) w) (h : ∀ w, Own w0 w L → Calls P f args.toArray w (GivesR (S3E u v x) (SL w0 S L) w))
    (hf : evF F y = some (.func (.func f) #[] #[])) (hargs : xs.map (evF F) = args.map some) (hd : Nat.ble (d + 1) n = true)
    (next : ∀ a : S3E u v x, At w0 S a → OkL P ops rest Q n ((d, .tuple #[.slice a.s.p 3 3, vI 0]) :: F) w0 (rowR a.s.p (s3L a.s) :: nxR a.s.f.z.n :: nxR a.s.f.m :: nxR a.s.g.z.n :: nxR a.s.g.m :: nxR a.s.h.z.n :: nxR a.s.h.m :: L)) :
    OkL P ops (⟨some d, .call { callee := .value y, args := xs.toArray, argTypes := ts }, t, p, af, none⟩ :: rest) Q n F w0 L := OkL.callR hc h hf hargs hd next
end
end
section
set_option maxRecDepth 100000
def areaR (a b c : Pt) : Rat := turnP a b c / ((2 : Int) : Rat)
theorem Sz_two : Sz ((2 : Int) : Rat) ≤ 2 := Sz_int (by decide) (by decide)
theorem Sz_areaR (a b c : Pt) : Sz (areaR a b c) ≤ 4 * SzP a + 2 * SzP b + 2 * SzP c + 7 := by
 have h1 := Sz_turn a b c
 have h2 := Sz_divR (turnP a b c) ((2 : Int) : Rat)
 have h3 := Sz_two
 exact Nat.le_trans h2 (by omega)
theorem areaR_zero (a b c : Pt) : ((areaR a b c).num.sign = 0) = (turnP a b c = 0) := by
 have h2 : ((2 : Int) : Rat) ≠ 0 := by decide +kernel
 rw [Int.sign_eq_zero_iff_zero, Rat.num_eq_zero]
 unfold areaR
 refine propext ⟨fun h => ?_, fun h => by rw [h, Rat.div_def, Rat.zero_mul]⟩
 have h3 : turnP a b c / ((2 : Int) : Rat) * ((2 : Int) : Rat) = turnP a b c := Rat.div_mul_cancel h2
 rw [← h3, h, Rat.zero_mul]
theorem rtArea_ok {x y z : Pt} (a : PX x) (b : PX y) (d : PX z) (hs : SzP x + SzP y + SzP z ≤ 65536) (w : World) {S : Nat → Prop} (ha : Ro S w a) (hb : Ro S w b) (hd : Ro S w d)  : Calls Tryz.prog 33 #[(aG (pxL a)), (aG (pxL b)), (aG (pxL d))] w (GivesR (FX (areaR x y z)) S w) := by
 have s2 := Sz_two
 have la := atA (W := w) ha
 have lb := atA (W := w) hb
 have ld := atA (W := w) hd
 refine calls_ofR (args := [(aG (pxL a)), (aG (pxL b)), (aG (pxL d))]) (L := [nxR a.x.z.n, nxR a.x.m, nxR a.y.z.n, nxR a.y.m, nxR b.x.z.n, nxR b.x.m, nxR b.y.z.n, nxR b.y.m, nxR d.x.z.n, nxR d.x.m, nxR d.y.z.n, nxR d.y.m]) Tryz.func33 rfl rfl (leB rfl) (sxP ha (sxP hb (sxP hd roL_nil))) (OkC.subF (sC 0 rfl (sC 1 rfl (sC 2 rfl (sN)))) (q4 (bx (cs := pxL a) rfl rfl rfl fun b1 => bx (cs := pxL b) rfl rfl rfl fun b2 => bx (cs := pxL d) rfl rfl rfl fun b3 => ?_)))
 refine al tZ45 rfl fun b4 => q6 (sC 3 rfl (sC 4 rfl (sC 5 rfl (sC 6 rfl (sN))))) (rG [(0, true), (1, true), (3, true), (4, true), (2, false), (5, false), (6, false), (7, false), (8, false), (9, false)] (sl sr) (by kernel_rfl) (fun _ _ d _ _ h => by cases d <;> exact h) (pW 1 tA47 rfl rfl rfl rfl rfl (pW 2 tA47 rfl rfl rfl rfl rfl (pW 0 tA47 rfl rfl rfl rfl rfl ?_))))
 refine pW 2 tA47 rfl rfl rfl rfl rfl (OkE.imp rfl ?_)
 have hz1 := SzP_sub y x
 refine cP (S := S) (x := (y - x)) (args := [(aG (pxL b)), (aG (pxL a))]) Tryz.call67 (fun w hw => rpSub_ok b a (by omega) w (inS hw 8 rfl lb) (inS hw 4 rfl la)) rfl rfl rfl fun g1 lg1 => OkE.back (sl (sl (sl (sl (sl sr))))) (OkE.imp rfl ?_)
 have hz2 := SzP_sub z x
 refine cP (S := S) (x := (z - x)) (args := [(aG (pxL d)), (aG (pxL a))]) Tryz.call67 (fun w hw => rpSub_ok d a (by omega) w (inS hw 16 rfl ld) (inS hw 8 rfl la)) rfl rfl rfl fun g2 lg2 => OkE.back (sl (sl (sl (sl (sl (sl (sl (sl (sl sr))))))))) (OkE.imp rfl ?_)
 have hz3 := Sz_cross (y - x) (z - x)
 refine cF (S := S) (x := (crossP (y - x) (z - x))) (args := [(aG (pxL g1)), (aG (pxL g2))]) Tryz.call69 (fun w hw => rpCross_ok g1 g2 (by omega) w (inS hw 4 rfl lg1) (inS hw 0 rfl lg2)) rfl rfl rfl fun g3 lg3 => OkE.back (sl (sl (sl (sl (sl (sl (sl (sl (sl (sl (sl sr))))))))))) (OkE.imp rfl (cF (S := S) (x := (((2 : Int) : Int) : Rat)) (args := [(vI 2)]) Tryz.call57 (fun w hw => qInt_ok (2 : Int) (by omega) (by omega) w) rfl rfl rfl fun g4 lg4 => OkE.back (sl (sl (sl (sl (sl (sl (sl (sl (sl (sl (sl (sl (sl sr))))))))))))) (OkE.imp rfl ?_)))
 have hz4 := Sz_divR (crossP (y - x) (z - x)) (((2 : Int) : Int) : Rat)
 refine cF (S := S) (x := ((crossP (y - x) (z - x)) / (((2 : Int) : Int) : Rat))) (args := [(aG (fxL g3)), (aG (fxL g4))]) Tryz.call62 (fun w hw => qDiv_ok g3 g4 (by (try simp only [Sz_neg]); omega) w (inS hw 2 rfl lg3) (inS hw 0 rfl lg4)) rfl rfl rfl fun g5 lg5 => OkE.back (sl (sl (sl (sl (sl (sl (sl (sl (sl (sl (sl (sl (sl (sl (sl sr))))))))))))))) (OkE.imp rfl (OkL.store' (i := 14) (off := 0) (vs := fxL g5) (cs' := fxL g5) (L' := [nxR g5.z.n, nxR g5.m, nxR g4.z.n, nxR g4.m, nxR g3.z.n, nxR g3.m, nxR g2.x.z.n, nxR g2.x.m, nxR g2.y.z.n, nxR g2.y.m, nxR g1.x.z.n, nxR g1.x.m, nxR g1.y.z.n, nxR g1.y.m, blk b4 45 (fxL g5), blk b3 47 (pxL d), blk b2 47 (pxL b), blk b1 47 (pxL a), nxR a.x.z.n, nxR a.x.m, nxR a.y.z.n, nxR a.y.m, nxR b.x.z.n, nxR b.x.m, nxR b.y.z.n, nxR b.y.m, nxR d.x.z.n, nxR d.x.m, nxR d.y.z.n, nxR d.y.m]) (wt_none rfl) rfl rfl rfl rfl rfl Tryz.sizeOf45 rfl rfl rfl rfl (OkE.back (sl (sl (sl (sl (sl (sl (sl (sl (sl (sl (sl (sl (sl (sl (sl sr))))))))))))))) (OkE.nil ?_))))
 exact OkQ.subF (sC 6 rfl (sN)) (OkQ.then_ (OkC.ret (ret_one rfl (rd_agg (i := 14) (cs := fxL g5) rfl rfl Tryz.isAgg45 Tryz.sizeOf45 rfl) (fun w hw => retR (a := (g5 : FX (areaR x y z))) hw (inS hw 0 rfl lg5) rfl))))
theorem rtNone_ok {x y z : Pt} (a : PX x) (b : PX y) (d : PX z) (hs : SzP x + SzP y + SzP z ≤ 32768) (w : World) {S : Nat → Prop} (ha : Ro S w a) (hb : Ro S w b) (hd : Ro S w d)  : Calls Tryz.prog 55 #[(aG (pxL a)), (aG (pxL b)), (aG (pxL d))] w (Gives w (Value.bool (decide (turnP x y z = 0)))) := by
 have la := atA (W := w) ha
 have lb := atA (W := w) hb
 have ld := atA (W := w) hd
 refine calls_ofR (args := [(aG (pxL a)), (aG (pxL b)), (aG (pxL d))]) (L := [nxR a.x.z.n, nxR a.x.m, nxR a.y.z.n, nxR a.y.m, nxR b.x.z.n, nxR b.x.m, nxR b.y.z.n, nxR b.y.m, nxR d.x.z.n, nxR d.x.m, nxR d.y.z.n, nxR d.y.m]) Tryz.func55 rfl rfl (leB rfl) (sxP ha (sxP hb (sxP hd roL_nil))) (OkC.subF (sC 0 rfl (sC 1 rfl (sC 2 rfl (sN)))) (q4 (bx (cs := pxL a) rfl rfl rfl fun b1 => bx (cs := pxL b) rfl rfl rfl fun b2 => bx (cs := pxL d) rfl rfl rfl fun b3 => ?_)))
 refine asg rfl rfl (q3 (sC 3 rfl (sC 4 rfl (sC 5 rfl (sC 6 rfl (sN))))) (ldW 2 tA47 rfl rfl rfl rfl (ldW 1 tA47 rfl rfl rfl rfl (ldW 0 tA47 rfl rfl rfl rfl ?_))))
 have hz1 := Sz_areaR x y z
 refine cF (S := S) (x := (areaR x y z)) (args := [(aG (pxL a)), (aG (pxL b)), (aG (pxL d))]) Tryz.call33 (fun w hw => rtArea_ok a b d (by omega) w (inS hw 3 rfl la) (inS hw 7 rfl lb) (inS hw 11 rfl ld)) rfl rfl rfl fun g1 lg1 => cl Tryz.call95 (fun w hw => qSign_ok g1 w (inS hw 0 rfl lg1)) rfl rfl rfl (st (ex_eql (c := (decide (((areaR x y z).num.sign) = (0 : Int)))) rfl rfl rfl) (leB rfl) (asg rfl rfl (OkL.nil (OkQ.subF (sC 6 rfl (sN)) ?_))))
 exact OkQ.then_ (OkC.ret (ret_one rfl (rd_tmp (v := (Value.bool (decide (((areaR x y z).num.sign) = (0 : Int))))) rfl) (fun w hw => ⟨by simp only [areaR_zero], hw.out⟩)))
theorem rtBary_ok {x y z p : Pt} (a : PX x) (b : PX y) (d : PX z) (e : PX p) (hs : SzP x + SzP y + SzP z + SzP p ≤ 16384) (h : turnP x y z ≠ 0) (w : World) {S : Nat → Prop} (ha : Ro S w a) (hb : Ro S w b) (hd : Ro S w d) (he : Ro S w e)  : Calls Tryz.prog 27 #[(aG (pxL a)), (aG (pxL b)), (aG (pxL d)), (aG (pxL e))] w (GivesR (S3E (areaR p y z / areaR x y z) (areaR x p z / areaR x y z) (areaR x y p / areaR x y z)) S w) := by
 have la := atA (W := w) ha
 have lb := atA (W := w) hb
 have ld := atA (W := w) hd
 have le := atA (W := w) he
 refine calls_ofR (args := [(aG (pxL a)), (aG (pxL b)), (aG (pxL d)), (aG (pxL e))]) (L := [nxR a.x.z.n, nxR a.x.m, nxR a.y.z.n, nxR a.y.m, nxR b.x.z.n, nxR b.x.m, nxR b.y.z.n, nxR b.y.m, nxR d.x.z.n, nxR d.x.m, nxR d.y.z.n, nxR d.y.m, nxR e.x.z.n, nxR e.x.m, nxR e.y.z.n, nxR e.y.m]) Tryz.func27 rfl rfl (leB rfl) (sxP ha (sxP hb (sxP hd (sxP he roL_nil)))) (OkC.subF (sC 0 rfl (sC 1 rfl (sC 2 rfl (sC 3 rfl (sN))))) (q4 (bx (cs := pxL a) rfl rfl rfl fun b1 => bx (cs := pxL b) rfl rfl rfl fun b2 => bx (cs := pxL d) rfl rfl rfl fun b3 => ?_)))
 refine bx (cs := pxL e) rfl rfl rfl fun b4 => asg rfl rfl (asg rfl rfl (q6 (sC 4 rfl (sC 5 rfl (sC 6 rfl (sC 7 rfl (sC 8 rfl (sC 9 rfl (sN))))))) (q4 (ldW 3 tA47 rfl rfl rfl rfl ?_))))
 refine ldW 2 tA47 rfl rfl rfl rfl (ldW 1 tA47 rfl rfl rfl rfl (cl (args := [(aG (pxL a)), (aG (pxL b)), (aG (pxL d))]) (v := (Value.bool false)) Tryz.call55 (fun w hw => (by have h9 := rtNone_ok a b d (by omega) w (inS hw 4 rfl la) (inS hw 8 rfl lb) (inS hw 12 rfl ld); rw [show decide (turnP x y z = 0) = false from decide_eq_false h] at h9; exact h9)) rfl rfl rfl (OkL.nil (OkQ.subF (sC 4 rfl (sC 5 rfl (sC 6 rfl (sC 7 rfl (sC 8 rfl (sC 9 rfl (sC 14 rfl (sN)))))))) (OkQ.then_ ?_)))))
 refine OkC.cond_false rfl (OkC.skip (q2 (ldW 3 tA47 rfl rfl rfl rfl (ldW 2 tA47 rfl rfl rfl rfl (ldW 1 tA47 rfl rfl rfl rfl ?_)))))
 have hz1 := Sz_areaR x y z
 refine cF (S := S) (x := (areaR x y z)) (args := [(aG (pxL a)), (aG (pxL b)), (aG (pxL d))]) Tryz.call33 (fun w hw => rtArea_ok a b d (by omega) w (inS hw 4 rfl la) (inS hw 8 rfl lb) (inS hw 12 rfl ld)) rfl rfl rfl fun g1 lg1 => al tZ45 rfl fun b5 => stW0 rfl rfl rfl Tryz.sizeOf45 rfl rfl (q6 (sC 4 rfl (sC 5 rfl (sC 6 rfl (sC 7 rfl (sC 8 rfl (sC 9 rfl (sC 14 rfl (sC 10 rfl (sN))))))))) (rG [(0, true), (1, true), (2, true), (4, true), (6, true), (7, true), (8, true), (10, true), (12, true), (13, true), (14, true), (16, true), (3, false), (5, false), (9, false), (11, false), (15, false), (17, false), (18, false), (19, true), (20, true)] sr (by kernel_rfl) (fun _ _ d _ _ h => by cases d <;> exact h) (pW 3 tA47 rfl rfl rfl rfl rfl ?_)))
 refine pW 5 tA47 rfl rfl rfl rfl rfl (pW 4 tA47 rfl rfl rfl rfl rfl (pW 0 tA45 rfl rfl rfl rfl rfl (pW 6 tA47 rfl rfl rfl rfl rfl (pW 3 tA47 rfl rfl rfl rfl rfl (pW 4 tA47 rfl rfl rfl rfl rfl ?_)))))
 refine pW 0 tA45 rfl rfl rfl rfl rfl (pW 6 tA47 rfl rfl rfl rfl rfl (pW 5 tA47 rfl rfl rfl rfl rfl (pW 3 tA47 rfl rfl rfl rfl rfl (pW 0 tA45 rfl rfl rfl rfl rfl (OkE.imp rfl ?_)))))
 have hz2 := Sz_areaR p y z
 refine cF (S := S) (x := (areaR p y z)) (args := [(aG (pxL e)), (aG (pxL b)), (aG (pxL d))]) Tryz.call33 (fun w hw => rtArea_ok e b d (by omega) w (inS hw 19 rfl le) (inS hw 11 rfl lb) (inS hw 15 rfl ld)) rfl rfl rfl fun g2 lg2 => OkE.back (sl (sl sr)) (OkE.imp rfl ?_)
 have hz3 := Sz_divR (areaR p y z) (areaR x y z)
 refine cF (S := S) (x := ((areaR p y z) / (areaR x y z))) (args := [(aG (fxL g2)), (aG (fxL g1))]) Tryz.call62 (fun w hw => qDiv_ok g2 g1 (by (try simp only [Sz_neg]); omega) w (inS hw 0 rfl lg2) (inS hw 3 rfl lg1)) rfl rfl rfl fun g3 lg3 => OkE.back (sl (sl (sl (sl sr)))) (OkE.imp rfl ?_)
 have hz4 := Sz_areaR x p z
 refine cF (S := S) (x := (areaR x p z)) (args := [(aG (pxL a)), (aG (pxL e)), (aG (pxL d))]) Tryz.call33 (fun w hw => rtArea_ok a e d (by omega) w (inS hw 11 rfl la) (inS hw 23 rfl le) (inS hw 19 rfl ld)) rfl rfl rfl fun g4 lg4 => OkE.back (sl (sl (sl (sl (sl (sl sr)))))) (OkE.imp rfl ?_)
 have hz5 := Sz_divR (areaR x p z) (areaR x y z)
 refine cF (S := S) (x := ((areaR x p z) / (areaR x y z))) (args := [(aG (fxL g4)), (aG (fxL g1))]) Tryz.call62 (fun w hw => qDiv_ok g4 g1 (by (try simp only [Sz_neg]); omega) w (inS hw 0 rfl lg4) (inS hw 7 rfl lg1)) rfl rfl rfl fun g5 lg5 => OkE.back (sl (sl (sl (sl (sl (sl (sl (sl sr)))))))) (OkE.imp rfl ?_)
 have hz6 := Sz_areaR x y p
 refine cF (S := S) (x := (areaR x y p)) (args := [(aG (pxL a)), (aG (pxL b)), (aG (pxL e))]) Tryz.call33 (fun w hw => rtArea_ok a b e (by omega) w (inS hw 15 rfl la) (inS hw 19 rfl lb) (inS hw 27 rfl le)) rfl rfl rfl fun g6 lg6 => OkE.back (sl (sl (sl (sl (sl (sl (sl (sl (sl (sl sr)))))))))) (OkE.imp rfl ?_)
 have hz7 := Sz_divR (areaR x y p) (areaR x y z)
 refine cF (S := S) (x := ((areaR x y p) / (areaR x y z))) (args := [(aG (fxL g6)), (aG (fxL g1))]) Tryz.call62 (fun w hw => qDiv_ok g6 g1 (by (try simp only [Sz_neg]); omega) w (inS hw 0 rfl lg6) (inS hw 11 rfl lg1)) rfl rfl rfl fun g7 lg7 => OkE.back (sl (sl (sl (sl (sl (sl (sl (sl (sl (sl (sl (sl sr)))))))))))) (OkE.imp rfl (OkL.openV (V := fun b6 => (Value.slice (some ⟨b6, 0, none⟩) 3 3)) (T := 45) (cs := fxL g3 ++ fxL g5 ++ fxL g7) (wt_none rfl) (op_buildSlice (z := .agg #[(Value.bool false), (Value.slice none 0 0), (Value.slice none 0 0)]) (cs := fxL g3 ++ fxL g5 ++ fxL g7) (pv := [(0, (aG (fxL g3))), (1, (aG (fxL g5))), (2, (aG (fxL g7)))]) Tryz.underlying59 Tryz.sizeOf45 Tryz.zeroValue45 (by decide) (by decide) rfl (fill3R g3 g5 g7)) rfl (leB rfl) fun b6 => OkE.back (sl (sl (sl (sl (sl (sl (sl (sl (sl (sl (sl (sl (sl sr))))))))))))) (pS rfl rfl rfl ?_)))
 exact pS rfl rfl rfl (OkE.nil (OkQ.subF (sC 4 rfl (sC 5 rfl (sC 6 rfl (sC 8 rfl (sC 9 rfl (sC 14 rfl (sC 10 rfl (sN)))))))) (OkQ.then_ (OkC.ret (ret_two rfl (rd_tmp (v := (Value.slice (some ⟨b6, 0, none⟩) 3 3)) rfl) (rd_tmp (v := (vI 0)) rfl) (fun w hw => retS hw 0 rfl (inS hw 9 rfl lg3) (inS hw 5 rfl lg5) (inS hw 1 rfl lg7) rfl))))))
end
end Go.Proofs.YtpkoldfmbebmgaaGreatDoor
