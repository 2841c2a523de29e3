import Derived.Test.YtpkoldfmbebmgaaGreatDoorPart07
import Derived.Test.YtpkoldfmbebmgaaGreatDoorPart35
namespace Go.Proofs.YtpkoldfmbebmgaaGreatDoor
open Go Go.RowKit
set_option linter.unusedVariables false
set_option linter.unusedSimpArgs false
section
set_option maxRecDepth 100000
theorem qOne_ok  (w : World) {S : Nat → Prop}  : Calls Tryz.prog 143 #[] w (GivesR (NX 1) S w) := by
 refine calls_of (args := []) Tryz.func143 rfl rfl (leB rfl) (OkC.subF (sN) (q4 (asg rfl rfl (OkL.nil (q2 ?_)))))
 exact cN (S := S) (x := 1) (args := [(Value.int .u64 (1 : Int))]) Tryz.call128 (fun w hw => xOf_ok 1 (by first | omega | (simp only [Int.natAbs_neg]; omega)) w) rfl rfl rfl fun g1 lg1 => asg rfl rfl (OkL.nil (OkQ.subF (sC 0 rfl (sN)) (OkQ.then_ (OkC.ret (ret_one rfl (rd_tmp (v := (nxV g1)) rfl) (fun w hw => retR (a := (g1 : NX 1)) hw (inS hw 0 rfl lg1) rfl))))))
theorem qDen_ok {x : Rat} (a : FX x) (hs : Sz x ≤ 16777216) (w : World) {S : Nat → Prop} (ha : Ro S w a)  : Calls Tryz.prog 103 #[(aG (fxL a))] w (GivesR (NX x.den) S w) := by
 have s0 := Sz_num x
 have s1 := Sz_den x
 have s2 := Sz_more x
 have h1w := nw_one
 have la := atA (W := w) ha
 refine calls_ofR (args := [(aG (fxL a))]) (L := [nxR a.z.n, nxR a.m]) Tryz.func103 rfl rfl (leB rfl) (sxF ha roL_nil) (OkC.subF (sC 0 rfl (sN)) (q4 (bx (cs := fxL a) rfl rfl rfl fun b1 => asg rfl rfl (q6 (sC 1 rfl (sC 2 rfl (sN))) ?_))))
 refine rG [(0, true), (1, true), (2, false), (3, false), (4, true)] sr (by kernel_rfl) (fun _ _ d _ _ h => by cases d <;> exact h) (pE (v := (pP b1 2)) rfl (ex_fieldAddr rfl Tryz.underlying45 rfl Tryz.sizeOf41 rfl) rfl (pO' 0 (nxV a.m) tO41 rfl rfl rfl rfl rfl (OkE.imp rfl (cN (S := S) (x := 1) (args := []) Tryz.call143 (fun w hw => qOne_ok w) rfl rfl rfl fun g1 lg1 => OkE.back (sl sr) ?_))))
 refine OkE.imp rfl (cN (S := S) (x := x.den) (args := [(nxV a.m), (nxV g1)]) Tryz.call144 (fun w hw => (GivesR.cast (T := fun i => NX i) (Nat.sub_add_cancel x.den_pos) (xAdd_ok a.m g1 (by first | omega | (simp only [Int.natAbs_neg]; omega)) (by first | omega | (simp only [Int.natAbs_neg]; omega)) w (roM (inS hw 2 rfl la)) (inS hw 0 rfl lg1)))) rfl rfl rfl fun g2 lg2 => OkE.back (sl (sl sr)) (pS rfl rfl rfl (OkE.nil (OkQ.subF (sC 2 rfl (sN)) ?_))))
 exact OkQ.then_ (OkC.ret (ret_one rfl (rd_tmp (v := (nxV g2)) rfl) (fun w hw => retR (a := (g2 : NX x.den)) hw (inS hw 0 rfl lg2) rfl)))
theorem qden_ok {x : Rat} (a : FX x) (hs : Sz x ≤ 16777216) (w : World) {S : Nat → Prop} (ha : Ro S w a)  : Calls Tryz.prog 127 #[(aG (fxL a))] w (GivesR (ZX ((x.den : Nat) : Int)) S w) := by
 have la := atA (W := w) ha
 refine calls_ofR (args := [(aG (fxL a))]) (L := [nxR a.z.n, nxR a.m]) Tryz.func127 rfl rfl (leB rfl) (sxF ha roL_nil) (OkC.subF (sC 0 rfl (sN)) (q4 (bx (cs := fxL a) rfl rfl rfl fun b1 => al tZ43 rfl fun b2 => q3 (sC 1 rfl (sC 2 rfl (sN))) ?_)))
 refine ldW 1 tA45 rfl rfl rfl rfl (cN (S := S) (x := x.den) (args := [(aG (fxL a))]) Tryz.call103 (fun w hw => qDen_ok a (by omega) w (inS hw 2 rfl la)) rfl rfl rfl fun g1 lg1 => cZ (S := S) (x := ((x.den : Nat) : Int)) (args := [(Value.bool false), (nxV g1)]) Tryz.call102 (fun w hw => (GivesR.cast (T := fun i => ZX i) (show mkI false x.den = _ from rfl) (zFrom_ok false g1 w (inS hw 0 rfl lg1)))) rfl rfl rfl fun g2 lg2 => stW2 rfl rfl rfl Tryz.sizeOf43 rfl rfl (OkL.nil (OkQ.subF (sC 2 rfl (sN)) ?_)))
 exact OkQ.then_ (OkC.ret (ret_one rfl (rd_agg (i := 2) (cs := zxL g2) rfl rfl Tryz.isAgg43 Tryz.sizeOf43 rfl) (fun w hw => retR (a := (g2 : ZX ((x.den : Nat) : Int))) hw (inS hw 0 rfl lg2) rfl)))
theorem qFrom_ok {n : Int} {k : Nat} (z : ZX n) (d : NX k) (hn : nw n.natAbs ≤ 67108864) (hk : nw k ≤ 67108864) (h0 : k ≠ 0) (w : World) {S : Nat → Prop} (hz : Ro S w z) (hd : Ro S w d)  : Calls Tryz.prog 101 #[(aG (zxL z)), (nxV d)] w (GivesR (FX (mkRat n k)) S w) := by
 have hg : 0 < Nat.gcd n.natAbs k := Nat.pos_of_ne_zero fun h => h0 (Nat.eq_zero_of_gcd_eq_zero_right h)
 have hgw : nw (Nat.gcd n.natAbs k) ≤ nw k := nw_mono (Nat.gcd_le_right _ (Nat.pos_of_ne_zero h0))
 have hqw : nw (k / Nat.gcd n.natAbs k) ≤ nw k := nw_mono (Nat.div_le_self _ _)
 have hq1 : 1 ≤ k / Nat.gcd n.natAbs k := Nat.div_pos (Nat.gcd_le_right _ (Nat.pos_of_ne_zero h0)) hg
 have lz := atA (W := w) hz
 have ld := atA (W := w) hd
 refine calls_ofR (args := [(aG (zxL z)), (nxV d)]) (L := [nxR z.n, nxR d]) Tryz.func101 rfl rfl (leB rfl) (sxZ hz (sxN hd roL_nil)) (OkC.subF (sC 0 rfl (sC 1 rfl (sN))) (q4 (bx (cs := zxL z) rfl rfl rfl fun b1 => al tZ45 rfl fun b2 => q3 (sC 1 rfl (sC 2 rfl (sC 4 rfl (sN)))) ?_)))
 refine st (v := (pP b1 1)) (ex_fieldAddr rfl Tryz.underlying43 rfl Tryz.sizeOf41 rfl) (leB rfl) (ldO 1 (nxV z.n) tO41 rfl rfl rfl rfl (mv rfl rfl (cN (S := S) (x := (Nat.gcd n.natAbs k)) (args := [(nxV z.n), (nxV d)]) Tryz.call140 (fun w hw => xGcd_ok z.n d (by first | omega | (simp only [Int.natAbs_neg]; omega)) (by first | omega | (simp only [Int.natAbs_neg]; omega)) w (roN (inS hw 2 rfl lz)) (inS hw 3 rfl ld)) rfl rfl rfl fun g1 lg1 => asg rfl rfl (q3 (sC 1 rfl (sC 2 rfl (sC 4 rfl (sC 5 rfl (sN))))) ?_))))
 refine st (v := (pP b1 1)) (ex_fieldAddr rfl Tryz.underlying43 rfl Tryz.sizeOf41 rfl) (leB rfl) (ldO 2 (nxV z.n) tO41 rfl rfl rfl rfl (mv rfl rfl (cD (S := S) (u := (n.natAbs / (Nat.gcd n.natAbs k))) (v := (n.natAbs % (Nat.gcd n.natAbs k))) (args := [(nxV z.n), (nxV g1)]) Tryz.call141 (fun w hw => xDiv_ok z.n g1 hg (by omega) (by omega) w (roN (inS hw 3 rfl lz)) (inS hw 0 rfl lg1)) rfl rfl rfl fun g2 lg2 => mv rfl rfl (st (ex_extract (v := (nxV g2.q)) rfl rfl) (leB rfl) ?_))))
 refine st (ex_extract (v := (nxV g2.r)) rfl rfl) (leB rfl) (asg rfl rfl (asg rfl rfl (q3 (sC 1 rfl (sC 2 rfl (sC 4 rfl (sC 5 rfl (sC 6 rfl (sN)))))) (mv rfl rfl (mv rfl rfl ?_)))))
 refine cD (S := S) (u := (k / (Nat.gcd n.natAbs k))) (v := (k % (Nat.gcd n.natAbs k))) (args := [(nxV d), (nxV g1)]) Tryz.call141 (fun w hw => xDiv_ok d g1 hg (by omega) (by omega) w (inS hw 6 rfl ld) (inS hw 2 rfl lg1)) rfl rfl rfl fun g3 lg3 => mv rfl rfl (st (ex_extract (v := (nxV g3.q)) rfl rfl) (leB rfl) (st (ex_extract (v := (nxV g3.r)) rfl rfl) (leB rfl) (asg rfl rfl (asg rfl rfl ?_))))
 refine q3 (sC 1 rfl (sC 2 rfl (sC 4 rfl (sC 5 rfl (sC 6 rfl (sC 8 rfl (sN))))))) (st (v := (pP b1 0)) (ex_fieldAddr rfl Tryz.underlying43 rfl Tryz.sizeOf4 rfl) (leB rfl) (ldO 6 (Value.bool (decide (n < 0))) tO4 rfl rfl rfl rfl (mv rfl rfl (cZ (S := S) (x := ((mkRat n k).num)) (args := [(Value.bool (decide (n < 0))), (nxV g2.q)]) Tryz.call102 (fun w hw => (GivesR.cast (T := fun i => ZX i) (lowR_num h0) (zFrom_ok (decide (n < 0)) g2.q w (ro2q (inS hw 2 rfl lg2))))) rfl rfl rfl fun g4 lg4 => mv rfl rfl ?_))))
 refine cN (S := S) (x := 1) (args := []) Tryz.call143 (fun w hw => qOne_ok w) rfl rfl rfl fun g5 lg5 => cN (S := S) (x := ((mkRat n k).den - 1)) (args := [(nxV g3.q), (nxV g5)]) Tryz.call142 (fun w hw => (GivesR.cast (T := fun i => NX i) (lowR_den h0) (xSub_ok g3.q g5 hq1 (by omega) w (ro2q (inS hw 2 rfl lg3)) (inS hw 0 rfl lg5)))) rfl rfl rfl fun g6 lg6 => st (v := (aG (zxL g4 ++ [(nxV g6)]))) (ex_build_struct (zs := [(Value.bool false), (Value.slice none 0 0), (Value.slice none 0 0)]) (vs := zxL g4 ++ [(nxV g6)]) (pv := [(0, (aG (zxL g4))), (1, (nxV g6))]) (places := [(0, 2), (2, 1)]) Tryz.zeroValue45 Tryz.underlying45 (fun w => by simp [Tryz.sizeOf41, Tryz.sizeOf43]) rfl rfl) (leB rfl) (OkL.store' (i := 8) (off := 0) (vs := zxL g4 ++ [(nxV g6)]) (cs' := zxL g4 ++ [(nxV g6)]) (L' := [nxR g6, nxR g5, nxR g4.n, nxR g3.q, nxR g3.r, nxR g2.q, nxR g2.r, nxR g1, blk b2 45 (zxL g4 ++ [(nxV g6)]), blk b1 43 (zxL z), nxR z.n, nxR d]) (wt_none rfl) rfl rfl rfl rfl rfl Tryz.sizeOf45 rfl rfl rfl rfl (OkL.nil (OkQ.subF (sC 1 rfl (sC 2 rfl (sC 4 rfl (sC 5 rfl (sN))))) ?_)))
 exact OkQ.then_ (OkC.ret (ret_one rfl (rd_agg (i := 8) (cs := zxL g4 ++ [(nxV g6)]) rfl rfl Tryz.isAgg45 Tryz.sizeOf45 rfl) (fun w hw => retR (a := ((FX.mk g4 g6) : FX (mkRat n k))) hw (mkF (inS hw 2 rfl lg4) (inS hw 0 rfl lg6)) rfl)))
theorem fill_numsb_45_0zxL {r0 : Int} (x0 : ZX r0) : Instr.fill ([(0, 2), (2, 1)].toArray[·]?) ([(Value.bool false), (Value.slice none 0 0), (Value.slice none 0 0)]).toArray [(0, .agg (zxL x0).toArray)] = some (zxL x0 ++ [(Value.slice none 0 0)]).toArray := by kernel_rfl
theorem qInt_ok (z : Int) (hz : -9223372036854775808 ≤ z) (hz2 : z < 9223372036854775808) (w : World) {S : Nat → Prop}  : Calls Tryz.prog 57 #[(vI z)] w (GivesR (FX ((z : Int) : Rat)) S w) := by
 refine calls_of (args := [(vI z)]) Tryz.func57 rfl rfl (leB rfl) (OkC.subF (sC 0 rfl (sN)) (q4 (al tZ45 rfl fun b1 => OkL.nil (q2 ?_))))
 refine mv rfl rfl (cZ (S := S) (x := (((z : Int) : Rat).num)) (args := [(vI z)]) Tryz.call97 (fun w hw => (GivesR.cast (T := fun i => ZX i) (show z = ((z : Int) : Rat).num from rfl) (zOf_ok z (by omega) (by omega) w))) rfl rfl rfl fun g1 lg1 => st (v := (aG (zxL g1 ++ [(Value.slice none 0 0)]))) (ex_build_struct (zs := [(Value.bool false), (Value.slice none 0 0), (Value.slice none 0 0)]) (vs := zxL g1 ++ [(Value.slice none 0 0)]) (pv := [(0, (aG (zxL g1)))]) (places := [(0, 2), (2, 1)]) Tryz.zeroValue45 Tryz.underlying45 (fun w => by simp [Tryz.sizeOf41, Tryz.sizeOf43]) rfl (fill_numsb_45_0zxL g1)) (leB rfl) (stW1 rfl rfl rfl Tryz.sizeOf45 rfl rfl (OkL.nil (OkQ.subF (sC 2 rfl (sN)) ?_))))
 exact OkQ.then_ (OkC.ret (ret_one rfl (rd_agg (i := 1) (cs := zxL g1 ++ [(Value.slice none 0 0)]) rfl rfl Tryz.isAgg45 Tryz.sizeOf45 rfl) (fun w hw => retR (a := ((FX.mk g1 NX.zero) : FX ((z : Int) : Rat))) hw (mkF (inS hw 0 rfl lg1) roO) rfl)))
theorem qSign_ok {x : Rat} (a : FX x) (w : World) {S : Nat → Prop} (ha : Ro S w a)  : Calls Tryz.prog 95 #[(aG (fxL a))] w (Gives w (vI x.num.sign)) := by
 have la := atA (W := w) ha
 refine calls_ofR (args := [(aG (fxL a))]) (L := [nxR a.z.n, nxR a.m]) Tryz.func95 rfl rfl (leB rfl) (sxF ha roL_nil) (OkC.subF (sC 0 rfl (sN)) (q4 (bx (cs := fxL a) rfl rfl rfl fun b1 => asg rfl rfl (q3 (sC 1 rfl (sC 2 rfl (sN))) ?_))))
 refine st (v := (pP b1 0)) (ex_fieldAddr rfl Tryz.underlying45 rfl Tryz.sizeOf43 rfl) (leB rfl) (ldA 0 (zxL a.z) tA43 rfl rfl rfl rfl rfl (cl Tryz.call125 (fun w hw => zSign_ok a.z w (roZ (inS hw 1 rfl la))) rfl rfl rfl (asg rfl rfl (OkL.nil (OkQ.subF (sC 2 rfl (sN)) ?_)))))
 exact OkQ.then_ (OkC.ret (ret_one rfl (rd_tmp (v := (vI x.num.sign)) rfl) (fun w hw => ⟨rfl, hw.out⟩)))
theorem qNeg_ok {x : Rat} (a : FX x) (w : World) {S : Nat → Prop} (ha : Ro S w a)  : Calls Tryz.prog 98 #[(aG (fxL a))] w (GivesR (FX (-x)) S w) := by
 have la := atA (W := w) ha
 refine calls_ofR (args := [(aG (fxL a))]) (L := [nxR a.z.n, nxR a.m]) Tryz.func98 rfl rfl (leB rfl) (sxF ha roL_nil) (OkC.subF (sC 0 rfl (sN)) (q4 (bx (cs := fxL a) rfl rfl rfl fun b1 => al tZ45 rfl fun b2 => q6 (sC 1 rfl (sC 2 rfl (sN))) ?_)))
 refine rG [(0, true), (1, true), (3, true), (4, true), (2, false), (5, true), (6, false)] (sl sr) (by kernel_rfl) (fun _ _ d _ _ h => by cases d <;> exact h) (pE (v := (pP b1 0)) rfl (ex_fieldAddr rfl Tryz.underlying45 rfl Tryz.sizeOf43 rfl) rfl (pA 0 (zxL a.z) tA43 rfl rfl rfl rfl rfl rfl (pE (v := (pP b1 2)) rfl (ex_fieldAddr rfl Tryz.underlying45 rfl Tryz.sizeOf41 rfl) rfl (pO' 0 (nxV a.m) tO41 rfl rfl rfl rfl rfl (OkE.imp rfl ?_)))))
 refine cZ (S := S) (x := ((-x).num)) (args := [(aG (zxL a.z))]) Tryz.call129 (fun w hw => (GivesR.cast (T := fun i => ZX i) (Rat.neg_num x).symm (zNeg_ok a.z w (roZ (inS hw 2 rfl la))))) rfl rfl rfl fun g1 lg1 => OkE.back (sl (sl sr)) (pE (v := (aG (zxL g1 ++ [(nxV a.m)]))) rfl (ex_build_struct (zs := [(Value.bool false), (Value.slice none 0 0), (Value.slice none 0 0)]) (vs := zxL g1 ++ [(nxV a.m)]) (pv := [(0, (aG (zxL g1))), (1, (nxV a.m))]) (places := [(0, 2), (2, 1)]) Tryz.zeroValue45 Tryz.underlying45 (fun w => by simp [Tryz.sizeOf41, Tryz.sizeOf43]) rfl rfl) rfl (OkE.imp rfl (stW1 rfl rfl rfl Tryz.sizeOf45 rfl rfl (OkE.back (sl (sl sr)) ?_))))
 exact OkE.nil (OkQ.subF (sC 2 rfl (sN)) (OkQ.then_ (OkC.ret (ret_one rfl (rd_agg (i := 1) (cs := zxL g1 ++ [(nxV a.m)]) rfl rfl Tryz.isAgg45 Tryz.sizeOf45 rfl) (fun w hw => retR (a := ((FX.mk g1 a.m) : FX (-x))) hw (mkF (inS hw 0 rfl lg1) (roM (inS hw 3 rfl la))) rfl)))))
theorem qAdd_ok {x y : Rat} (a : FX x) (b : FX y) (hs : Sz x + Sz y ≤ 16777216) (w : World) {S : Nat → Prop} (ha : Ro S w a) (hb : Ro S w b)  : Calls Tryz.prog 96 #[(aG (fxL a)), (aG (fxL b))] w (GivesR (FX (x + y)) S w) := by
 have s0 := Sz_num x
 have s1 := Sz_den x
 have s2 := Sz_more x
 have s3 := Sz_num y
 have s4 := Sz_den y
 have s5 := Sz_more y
 have s6 := cross_nw x y
 have s7 := cross_nw y x
 have s8 := den_nw x y
 have s9 := num_nw x y
 have s10 := nwI_add (x.num * ((y.den : Nat) : Int)) (y.num * ((x.den : Nat) : Int))
 have h0x := x.den_nz
 have h0y := y.den_nz
 have h0xy := Nat.mul_ne_zero h0x h0y
 have la := atA (W := w) ha
 have lb := atA (W := w) hb
 refine calls_ofR (args := [(aG (fxL a)), (aG (fxL b))]) (L := [nxR a.z.n, nxR a.m, nxR b.z.n, nxR b.m]) Tryz.func96 rfl rfl (leB rfl) (sxF ha (sxF hb roL_nil)) (OkC.subF (sC 0 rfl (sC 1 rfl (sN))) (q4 (bx (cs := fxL a) rfl rfl rfl fun b1 => bx (cs := fxL b) rfl rfl rfl fun b2 => al tZ45 rfl fun b3 => ?_)))
 refine q6 (sC 2 rfl (sC 3 rfl (sC 4 rfl (sN)))) (rG [(0, true), (1, true), (2, true), (5, true), (6, true), (7, true), (11, true), (13, true), (3, false), (4, false), (8, false), (9, false), (10, false), (12, false), (14, false), (15, false), (16, false), (17, false)] (sl sr) (by kernel_rfl) (fun _ _ d _ _ h => by cases d <;> exact h) (pE (v := (pP b1 0)) rfl (ex_fieldAddr rfl Tryz.underlying45 rfl Tryz.sizeOf43 rfl) rfl (pA 1 (zxL a.z) tA43 rfl rfl rfl rfl rfl rfl (pW 0 tA45 rfl rfl rfl rfl rfl (pE (v := (pP b2 0)) rfl (ex_fieldAddr rfl Tryz.underlying45 rfl Tryz.sizeOf43 rfl) rfl ?_)))))
 refine pA 0 (zxL b.z) tA43 rfl rfl rfl rfl rfl rfl (pW 1 tA45 rfl rfl rfl rfl rfl (pW 1 tA45 rfl rfl rfl rfl rfl (pW 0 tA45 rfl rfl rfl rfl rfl (OkE.imp rfl (cZ (S := S) (x := ((y.den : Nat) : Int)) (args := [(aG (fxL b))]) Tryz.call127 (fun w hw => qden_ok b (by omega) w (inS hw 5 rfl lb)) rfl rfl rfl fun g1 lg1 => ?_)))))
 refine OkE.back (sl (sl sr)) (OkE.imp rfl (cZ (S := S) (x := (x.num * ((y.den : Nat) : Int))) (args := [(aG (zxL a.z)), (aG (zxL g1))]) Tryz.call108 (fun w hw => zMul_ok a.z g1 (by omega) (by show nw y.den ≤ _; omega) w (roZ (inS hw 4 rfl la)) (inS hw 0 rfl lg1)) rfl rfl rfl fun g2 lg2 => OkE.back (sl (sl (sl sr))) (OkE.imp rfl (cZ (S := S) (x := ((x.den : Nat) : Int)) (args := [(aG (fxL a))]) Tryz.call127 (fun w hw => qden_ok a (by omega) w (inS hw 5 rfl la)) rfl rfl rfl fun g3 lg3 => ?_))))
 refine OkE.back (sl (sl (sl (sl sr)))) (OkE.imp rfl (cZ (S := S) (x := (y.num * ((x.den : Nat) : Int))) (args := [(aG (zxL b.z)), (aG (zxL g3))]) Tryz.call108 (fun w hw => zMul_ok b.z g3 (by omega) (by show nw x.den ≤ _; omega) w (roZ (inS hw 8 rfl lb)) (inS hw 0 rfl lg3)) rfl rfl rfl fun g4 lg4 => OkE.back (sl (sl (sl (sl (sl sr))))) (OkE.imp rfl (cZ (S := S) (x := ((x.num * ((y.den : Nat) : Int)) + (y.num * ((x.den : Nat) : Int)))) (args := [(aG (zxL g2)), (aG (zxL g4))]) Tryz.call126 (fun w hw => zAdd_ok g2 g4 (by omega) (by omega) w (inS hw 2 rfl lg2) (inS hw 0 rfl lg4)) rfl rfl rfl fun g5 lg5 => ?_))))
 refine OkE.back (sl (sl (sl (sl (sl (sl sr)))))) (OkE.imp rfl (cN (S := S) (x := x.den) (args := [(aG (fxL a))]) Tryz.call103 (fun w hw => qDen_ok a (by omega) w (inS hw 8 rfl la)) rfl rfl rfl fun g6 lg6 => OkE.back (sl (sl (sl (sl (sl (sl (sl sr))))))) (OkE.imp rfl (cN (S := S) (x := y.den) (args := [(aG (fxL b))]) Tryz.call103 (fun w hw => qDen_ok b (by omega) w (inS hw 11 rfl lb)) rfl rfl rfl fun g7 lg7 => ?_))))
 refine OkE.back (sl (sl (sl (sl (sl (sl (sl (sl sr)))))))) (OkE.imp rfl (cN (S := S) (x := (x.den * y.den)) (args := [(nxV g6), (nxV g7)]) Tryz.call109 (fun w hw => xMul_ok g6 g7 (by first | omega | (simp only [Int.natAbs_neg]; omega)) (by first | omega | (simp only [Int.natAbs_neg]; omega)) w (inS hw 1 rfl lg6) (inS hw 0 rfl lg7)) rfl rfl rfl fun g8 lg8 => OkE.back (sl (sl (sl (sl (sl (sl (sl (sl (sl sr))))))))) (OkE.imp rfl (cF (S := S) (x := (x + y)) (args := [(aG (zxL g5)), (nxV g8)]) Tryz.call101 (fun w hw => (GivesR.cast (T := fun i => FX i) (add_mkRat x y) (qFrom_ok g5 g8 (by omega) (by omega) h0xy w (inS hw 3 rfl lg5) (inS hw 0 rfl lg8)))) rfl rfl rfl fun g9 lg9 => ?_))))
 refine OkE.back (sl (sl (sl (sl (sl (sl (sl (sl (sl (sl (sl sr))))))))))) (OkE.imp rfl (OkL.store' (i := 10) (off := 0) (vs := fxL g9) (cs' := fxL g9) (L' := [nxR g9.z.n, nxR g9.m, nxR g8, nxR g7, nxR g6, nxR g5.n, nxR g4.n, nxR g3.n, nxR g2.n, nxR g1.n, blk b3 45 (fxL g9), blk b2 45 (fxL b), blk b1 45 (fxL a), nxR a.z.n, nxR a.m, nxR b.z.n, nxR b.m]) (wt_none rfl) rfl rfl rfl rfl rfl Tryz.sizeOf45 rfl rfl rfl rfl (OkE.back (sl (sl (sl (sl (sl (sl (sl (sl (sl (sl (sl sr))))))))))) (OkE.nil (OkQ.subF (sC 4 rfl (sN)) ?_)))))
 exact OkQ.then_ (OkC.ret (ret_one rfl (rd_agg (i := 10) (cs := fxL g9) rfl rfl Tryz.isAgg45 Tryz.sizeOf45 rfl) (fun w hw => retR (a := (g9 : FX (x + y))) hw (inS hw 0 rfl lg9) rfl)))
theorem qSub_ok {x y : Rat} (a : FX x) (b : FX y) (hs : Sz x + Sz y ≤ 16777216) (w : World) {S : Nat → Prop} (ha : Ro S w a) (hb : Ro S w b)  : Calls Tryz.prog 58 #[(aG (fxL a)), (aG (fxL b))] w (GivesR (FX (x - y)) S w) := by
 have la := atA (W := w) ha
 have lb := atA (W := w) hb
 refine calls_ofR (args := [(aG (fxL a)), (aG (fxL b))]) (L := [nxR a.z.n, nxR a.m, nxR b.z.n, nxR b.m]) Tryz.func58 rfl rfl (leB rfl) (sxF ha (sxF hb roL_nil)) (OkC.subF (sC 0 rfl (sC 1 rfl (sN))) (q4 (bx (cs := fxL a) rfl rfl rfl fun b1 => bx (cs := fxL b) rfl rfl rfl fun b2 => al tZ45 rfl fun b3 => ?_)))
 refine q6 (sC 2 rfl (sC 3 rfl (sC 4 rfl (sN)))) (rG [(0, true), (1, true), (2, false), (3, false), (4, false)] (sl sr) (by kernel_rfl) (fun _ _ d _ _ h => by cases d <;> exact h) (pW 1 tA45 rfl rfl rfl rfl rfl (pW 0 tA45 rfl rfl rfl rfl rfl (OkE.imp rfl (cF (S := S) (x := (-y)) (args := [(aG (fxL b))]) Tryz.call98 (fun w hw => qNeg_ok b w (inS hw 5 rfl lb)) rfl rfl rfl fun g1 lg1 => ?_)))))
 refine OkE.back (sl (sl (sl sr))) (OkE.imp rfl ?_)
 have hz1 := Sz_add x (-y)
 refine cF (S := S) (x := (x - y)) (args := [(aG (fxL a)), (aG (fxL g1))]) Tryz.call96 (fun w hw => (GivesR.cast (T := fun i => FX i) (Rat.sub_eq_add_neg x y).symm (qAdd_ok a g1 (by (try simp only [Sz_neg]); omega) w (inS hw 5 rfl la) (inS hw 0 rfl lg1)))) rfl rfl rfl fun g2 lg2 => OkE.back (sl (sl (sl (sl (sl sr))))) (OkE.imp rfl (OkL.store' (i := 4) (off := 0) (vs := fxL g2) (cs' := fxL g2) (L' := [nxR g2.z.n, nxR g2.m, nxR g1.z.n, nxR g1.m, blk b3 45 (fxL g2), blk b2 45 (fxL b), blk b1 45 (fxL a), nxR a.z.n, nxR a.m, nxR b.z.n, nxR b.m]) (wt_none rfl) rfl rfl rfl rfl rfl Tryz.sizeOf45 rfl rfl rfl rfl (OkE.back (sl (sl (sl (sl (sl sr))))) (OkE.nil ?_))))
 exact OkQ.subF (sC 4 rfl (sN)) (OkQ.then_ (OkC.ret (ret_one rfl (rd_agg (i := 4) (cs := fxL g2) rfl rfl Tryz.isAgg45 Tryz.sizeOf45 rfl) (fun w hw => retR (a := (g2 : FX (x - y))) hw (inS hw 0 rfl lg2) rfl))))
theorem qMul_ok {x y : Rat} (a : FX x) (b : FX y) (hs : Sz x + Sz y ≤ 16777216) (w : World) {S : Nat → Prop} (ha : Ro S w a) (hb : Ro S w b)  : Calls Tryz.prog 68 #[(aG (fxL a)), (aG (fxL b))] w (GivesR (FX (x * y)) S w) := by
 have s0 := Sz_num x
 have s1 := Sz_den x
 have s2 := Sz_more x
 have s3 := Sz_num y
 have s4 := Sz_den y
 have s5 := Sz_more y
 have s6 := cross_nw x y
 have s7 := cross_nw y x
 have s8 := den_nw x y
 have s9 := num_nw x y
 have s10 := nwI_add (x.num * ((y.den : Nat) : Int)) (y.num * ((x.den : Nat) : Int))
 have h0x := x.den_nz
 have h0y := y.den_nz
 have h0xy := Nat.mul_ne_zero h0x h0y
 have la := atA (W := w) ha
 have lb := atA (W := w) hb
 refine calls_ofR (args := [(aG (fxL a)), (aG (fxL b))]) (L := [nxR a.z.n, nxR a.m, nxR b.z.n, nxR b.m]) Tryz.func68 rfl rfl (leB rfl) (sxF ha (sxF hb roL_nil)) (OkC.subF (sC 0 rfl (sC 1 rfl (sN))) (q4 (bx (cs := fxL a) rfl rfl rfl fun b1 => bx (cs := fxL b) rfl rfl rfl fun b2 => al tZ45 rfl fun b3 => ?_)))
 refine q6 (sC 2 rfl (sC 3 rfl (sC 4 rfl (sN)))) (rG [(0, true), (1, true), (2, true), (3, true), (5, true), (7, true), (4, false), (6, false), (8, false), (9, false), (10, false), (11, false)] (sl sr) (by kernel_rfl) (fun _ _ d _ _ h => by cases d <;> exact h) (pE (v := (pP b1 0)) rfl (ex_fieldAddr rfl Tryz.underlying45 rfl Tryz.sizeOf43 rfl) rfl (pA 1 (zxL a.z) tA43 rfl rfl rfl rfl rfl rfl (pE (v := (pP b2 0)) rfl (ex_fieldAddr rfl Tryz.underlying45 rfl Tryz.sizeOf43 rfl) rfl (pA 0 (zxL b.z) tA43 rfl rfl rfl rfl rfl rfl ?_)))))
 refine pW 1 tA45 rfl rfl rfl rfl rfl (pW 0 tA45 rfl rfl rfl rfl rfl (OkE.imp rfl (cZ (S := S) (x := (x.num * y.num)) (args := [(aG (zxL a.z)), (aG (zxL b.z))]) Tryz.call108 (fun w hw => zMul_ok a.z b.z (by omega) (by omega) w (roZ (inS hw 3 rfl la)) (roZ (inS hw 5 rfl lb))) rfl rfl rfl fun g1 lg1 => OkE.back (sl (sl sr)) (OkE.imp rfl ?_))))
 refine cN (S := S) (x := x.den) (args := [(aG (fxL a))]) Tryz.call103 (fun w hw => qDen_ok a (by omega) w (inS hw 4 rfl la)) rfl rfl rfl fun g2 lg2 => OkE.back (sl (sl (sl sr))) (OkE.imp rfl (cN (S := S) (x := y.den) (args := [(aG (fxL b))]) Tryz.call103 (fun w hw => qDen_ok b (by omega) w (inS hw 7 rfl lb)) rfl rfl rfl fun g3 lg3 => OkE.back (sl (sl (sl (sl sr)))) (OkE.imp rfl ?_)))
 refine cN (S := S) (x := (x.den * y.den)) (args := [(nxV g2), (nxV g3)]) Tryz.call109 (fun w hw => xMul_ok g2 g3 (by first | omega | (simp only [Int.natAbs_neg]; omega)) (by first | omega | (simp only [Int.natAbs_neg]; omega)) w (inS hw 1 rfl lg2) (inS hw 0 rfl lg3)) rfl rfl rfl fun g4 lg4 => OkE.back (sl (sl (sl (sl (sl sr))))) (OkE.imp rfl (cF (S := S) (x := (x * y)) (args := [(aG (zxL g1)), (nxV g4)]) Tryz.call101 (fun w hw => (GivesR.cast (T := fun i => FX i) (mul_mkRat x y) (qFrom_ok g1 g4 (by omega) (by omega) h0xy w (inS hw 3 rfl lg1) (inS hw 0 rfl lg4)))) rfl rfl rfl fun g5 lg5 => OkE.back (sl (sl (sl (sl (sl (sl (sl sr))))))) (OkE.imp rfl ?_)))
 exact OkL.store' (i := 6) (off := 0) (vs := fxL g5) (cs' := fxL g5) (L' := [nxR g5.z.n, nxR g5.m, nxR g4, nxR g3, nxR g2, nxR g1.n, blk b3 45 (fxL g5), blk b2 45 (fxL b), blk b1 45 (fxL a), nxR a.z.n, nxR a.m, nxR b.z.n, nxR b.m]) (wt_none rfl) rfl rfl rfl rfl rfl Tryz.sizeOf45 rfl rfl rfl rfl (OkE.back (sl (sl (sl (sl (sl (sl (sl sr))))))) (OkE.nil (OkQ.subF (sC 4 rfl (sN)) (OkQ.then_ (OkC.ret (ret_one rfl (rd_agg (i := 6) (cs := fxL g5) rfl rfl Tryz.isAgg45 Tryz.sizeOf45 rfl) (fun w hw => retR (a := (g5 : FX (x * y))) hw (inS hw 0 rfl lg5) rfl)))))))
theorem Sz_divR (a b : Rat) : Sz (a / b) ≤ Sz a + Sz b := by
 by_cases h : b = 0
 ·subst h; rw [Rat.div_def, Rat.inv_zero, Rat.mul_zero]; have h1 := Sz_pos a; exact Nat.le_trans (show Sz (0 : Rat) ≤ 1 by decide +kernel) (by omega)
 ·exact Sz_div h
theorem fill_numsb_45_  : Instr.fill ([(0, 2), (2, 1)].toArray[·]?) ([(Value.bool false), (Value.slice none 0 0), (Value.slice none 0 0)]).toArray [] = some ([(Value.bool false), (Value.slice none 0 0), (Value.slice none 0 0)]).toArray := by kernel_rfl
theorem qDiv_ok {x y : Rat} (a : FX x) (b : FX y) (hs : Sz x + Sz y ≤ 16777216) (w : World) {S : Nat → Prop} (ha : Ro S w a) (hb : Ro S w b)  : Calls Tryz.prog 62 #[(aG (fxL a)), (aG (fxL b))] w (GivesR (FX (x / y)) S w) := by
 have s0 := Sz_num x
 have s1 := Sz_den x
 have s2 := Sz_more x
 have s3 := Sz_num y
 have s4 := Sz_den y
 have s5 := Sz_more y
 have s6 := cross_nw x y
 have s7 := cross_nw y x
 have s8 := den_nw x y
 have s9 := num_nw x y
 have s10 := nwI_add (x.num * ((y.den : Nat) : Int)) (y.num * ((x.den : Nat) : Int))
 have h0x := x.den_nz
 have h0y := y.den_nz
 have h0xy := Nat.mul_ne_zero h0x h0y
 have la := atA (W := w) ha
 have lb := atA (W := w) hb
 refine calls_ofR (args := [(aG (fxL a)), (aG (fxL b))]) (L := [nxR a.z.n, nxR a.m, nxR b.z.n, nxR b.m]) Tryz.func62 rfl rfl (leB rfl) (sxF ha (sxF hb roL_nil)) (OkC.subF (sC 0 rfl (sC 1 rfl (sN))) (q4 (bx (cs := fxL a) rfl rfl rfl fun b1 => bx (cs := fxL b) rfl rfl rfl fun b2 => al tZ45 rfl fun b3 => ?_)))
 refine q6 (sC 2 rfl (sC 3 rfl (sC 4 rfl (sN)))) (q4 (ldW 1 tA45 rfl rfl rfl rfl (cl Tryz.call95 (fun w hw => qSign_ok b w (inS hw 5 rfl lb)) rfl rfl rfl (st (ex_eql (c := (decide (y.num.sign = (0 : Int)))) rfl rfl rfl) (leB rfl) (OkL.nil ?_)))))
 refine OkQ.subF (sC 2 rfl (sC 3 rfl (sC 4 rfl (sC 7 rfl (sN))))) (OkQ.then_ ?_)
 refine OkC.cond rfl (fun hc0 => ?_) (fun hc0 => ?_)
 ·replace hc0 := of_decide_eq_true hc0
  refine q4 (st (v := (aG ([(Value.bool false), (Value.slice none 0 0), (Value.slice none 0 0)]))) (ex_build_struct (zs := [(Value.bool false), (Value.slice none 0 0), (Value.slice none 0 0)]) (vs := [(Value.bool false), (Value.slice none 0 0), (Value.slice none 0 0)]) (pv := []) (places := [(0, 2), (2, 1)]) Tryz.zeroValue45 Tryz.underlying45 (fun w => by simp [Tryz.sizeOf41, Tryz.sizeOf43]) rfl (fill_numsb_45_ )) (leB rfl) (stW0 rfl rfl rfl Tryz.sizeOf45 rfl rfl (OkL.nil (OkQ.subF (sC 2 rfl (sC 3 rfl (sC 4 rfl (sN)))) (OkQ.then_ ?_)))))
  exact OkC.ret (OkQ.then_ret (ret_one rfl (rd_agg (i := 0) (cs := [(Value.bool false), (Value.slice none 0 0), (Value.slice none 0 0)]) rfl rfl Tryz.isAgg45 Tryz.sizeOf45 rfl) (fun w hw => (by rw [← div_num0 (a := x) hc0]; exact retR (a := FX.zero) hw (mkF (mkZ roO) roO) rfl))))
 ·replace hc0 := of_decide_eq_false hc0
  have hy : y ≠ 0 := fun e => hc0 (by rw [e]; rfl)
  have hi := Sz_inv hy
  have hyn : y.num.natAbs ≠ 0 := fun e => hy (Rat.num_eq_zero.1 (by omega))
  refine OkC.skip (q1 (rG [(0, true), (1, true), (2, true), (3, true), (4, true), (7, true), (8, true), (9, true), (5, false), (6, false), (10, false), (11, false), (12, false)] (sl sr) (by kernel_rfl) (fun _ _ d _ _ h => by cases d <;> exact h) (pW 1 tA45 rfl rfl rfl rfl rfl (pE (v := (pP b2 0)) rfl (ex_fieldAddr rfl Tryz.underlying45 rfl Tryz.sizeOf43 rfl) rfl (pE (v := (pP b2 0)) rfl (ex_fieldAddr rfl Tryz.underlying43 rfl Tryz.sizeOf4 rfl) rfl ?_)))))
  refine pO' 0 (Value.bool (decide (y.num < 0))) tO4 rfl rfl rfl rfl rfl (pW 0 tA45 rfl rfl rfl rfl rfl (pE (v := (pP b2 0)) rfl (ex_fieldAddr rfl Tryz.underlying45 rfl Tryz.sizeOf43 rfl) rfl (pE (v := (pP b2 1)) rfl (ex_fieldAddr rfl Tryz.underlying43 rfl Tryz.sizeOf41 rfl) rfl (pO' 0 (nxV b.z.n) tO41 rfl rfl rfl rfl rfl (OkE.imp rfl ?_)))))
  refine cN (S := S) (x := y.den) (args := [(aG (fxL b))]) Tryz.call103 (fun w hw => qDen_ok b (by omega) w (inS hw 5 rfl lb)) rfl rfl rfl fun g1 lg1 => OkE.back (sl (sl sr)) (OkE.imp rfl (cZ (S := S) (x := (mkI (decide (y.num < 0)) y.den)) (args := [(Value.bool (decide (y.num < 0))), (nxV g1)]) Tryz.call102 (fun w hw => zFrom_ok (decide (y.num < 0)) g1 w (inS hw 0 rfl lg1)) rfl rfl rfl fun g2 lg2 => OkE.back (sl (sl (sl sr))) (OkE.imp rfl ?_)))
  refine cF (S := S) (x := (y⁻¹)) (args := [(aG (zxL g2)), (nxV b.z.n)]) Tryz.call101 (fun w hw => (GivesR.cast (T := fun i => FX i) (invR hy) (qFrom_ok g2 b.z.n (by rw [mkI_natAbs]; omega) (by omega) hyn w (inS hw 0 rfl lg2) (roN (roZ (inS hw 7 rfl lb)))))) rfl rfl rfl fun g3 lg3 => OkE.back (sl (sl (sl (sl (sl sr))))) (OkE.imp rfl ?_)
  have hz1 := Sz_mul x (y⁻¹)
  refine cF (S := S) (x := (x / y)) (args := [(aG (fxL a)), (aG (fxL g3))]) Tryz.call68 (fun w hw => (GivesR.cast (T := fun i => FX i) div_rel (qMul_ok a g3 (by (try simp only [Sz_neg]); omega) w (inS hw 7 rfl la) (inS hw 0 rfl lg3)))) rfl rfl rfl fun g4 lg4 => OkE.back (sl (sl (sl (sl (sl (sl (sl sr))))))) (OkE.imp rfl (OkL.store' (i := 6) (off := 0) (vs := fxL g4) (cs' := fxL g4) (L' := [nxR g4.z.n, nxR g4.m, nxR g3.z.n, nxR g3.m, nxR g2.n, nxR g1, blk b3 45 (fxL g4), blk b2 45 (fxL b), blk b1 45 (fxL a), nxR a.z.n, nxR a.m, nxR b.z.n, nxR b.m]) (wt_none rfl) rfl rfl rfl rfl rfl Tryz.sizeOf45 rfl rfl rfl rfl (OkE.back (sl (sl (sl (sl (sl (sl (sl sr))))))) (OkE.nil ?_))))
  exact OkQ.subF (sC 3 rfl (sC 4 rfl (sN))) (OkQ.then_ (OkC.ret (ret_one rfl (rd_agg (i := 6) (cs := fxL g4) rfl rfl Tryz.isAgg45 Tryz.sizeOf45 rfl) (fun w hw => retR (a := (g4 : FX (x / y))) hw (inS hw 0 rfl lg4) rfl))))
theorem qCmp_ok {x y : Rat} (a : FX x) (b : FX y) (hs : Sz x + Sz y ≤ 16777216) (w : World) {S : Nat → Prop} (ha : Ro S w a) (hb : Ro S w b)  : Calls Tryz.prog 61 #[(aG (fxL a)), (aG (fxL b))] w (Gives w (vI (cmpQ x y))) := by
 have la := atA (W := w) ha
 have lb := atA (W := w) hb
 refine calls_ofR (args := [(aG (fxL a)), (aG (fxL b))]) (L := [nxR a.z.n, nxR a.m, nxR b.z.n, nxR b.m]) Tryz.func61 rfl rfl (leB rfl) (sxF ha (sxF hb roL_nil)) (OkC.subF (sC 0 rfl (sC 1 rfl (sN))) (q4 (bx (cs := fxL a) rfl rfl rfl fun b1 => bx (cs := fxL b) rfl rfl rfl fun b2 => asg rfl rfl ?_)))
 refine q3 (sC 2 rfl (sC 3 rfl (sC 4 rfl (sN)))) (ldW 1 tA45 rfl rfl rfl rfl (ldW 0 tA45 rfl rfl rfl rfl ?_))
 have hz1 := Sz_sub x y
 refine cF (S := S) (x := (x - y)) (args := [(aG (fxL a)), (aG (fxL b))]) Tryz.call58 (fun w hw => qSub_ok a b (by (try simp only [Sz_neg]); omega) w (inS hw 2 rfl la) (inS hw 4 rfl lb)) rfl rfl rfl fun g1 lg1 => cl Tryz.call95 (fun w hw => qSign_ok g1 w (inS hw 0 rfl lg1)) rfl rfl rfl (asg rfl rfl (OkL.nil (OkQ.subF (sC 4 rfl (sN)) (OkQ.then_ ?_))))
 exact OkC.ret (ret_one rfl (rd_tmp (v := (vI ((x - y).num.sign))) rfl) (fun w hw => ⟨by rw [cmpR], hw.out⟩))
theorem qOf_ok (n d : Int) (h1 : -9223372036854775808 ≤ n) (h2 : n < 9223372036854775808) (h3 : -9223372036854775808 ≤ d) (h4 : d < 9223372036854775808) (w : World) {S : Nat → Prop}  : Calls Tryz.prog 73 #[(vI n), (vI d)] w (GivesR (FX (((n : Int) : Rat) / ((d : Int) : Rat))) S w) := by
 have s1 := Sz_int h1 h2
 have s2 := Sz_int h3 h4
 refine calls_of (args := [(vI n), (vI d)]) Tryz.func73 rfl rfl (leB rfl) (OkC.subF (sC 0 rfl (sC 1 rfl (sN))) (q4 (al tZ45 rfl fun b1 => OkL.nil (q2 ?_))))
 refine mv rfl rfl (cF (S := S) (x := ((n : Int) : Rat)) (args := [(vI n)]) Tryz.call57 (fun w hw => qInt_ok n (by omega) (by omega) w) rfl rfl rfl fun g1 lg1 => mv rfl rfl (cF (S := S) (x := ((d : Int) : Rat)) (args := [(vI d)]) Tryz.call57 (fun w hw => qInt_ok d (by omega) (by omega) w) rfl rfl rfl fun g2 lg2 => ?_))
 have hz1 := Sz_divR ((n : Int) : Rat) ((d : Int) : Rat)
 exact cF (S := S) (x := (((n : Int) : Rat) / ((d : Int) : Rat))) (args := [(aG (fxL g1)), (aG (fxL g2))]) Tryz.call62 (fun w hw => qDiv_ok g1 g2 (by (try simp only [Sz_neg]); omega) w (inS hw 2 rfl lg1) (inS hw 0 rfl lg2)) rfl rfl rfl fun g3 lg3 => OkL.store' (i := 6) (off := 0) (vs := fxL g3) (cs' := fxL g3) (L' := [nxR g3.z.n, nxR g3.m, nxR g2.z.n, nxR g2.m, nxR g1.z.n, nxR g1.m, blk b1 45 (fxL g3)]) (wt_none rfl) rfl rfl rfl rfl rfl Tryz.sizeOf45 rfl rfl rfl rfl (OkL.nil (OkQ.subF (sC 4 rfl (sN)) (OkQ.then_ (OkC.ret (ret_one rfl (rd_agg (i := 6) (cs := fxL g3) rfl rfl Tryz.isAgg45 Tryz.sizeOf45 rfl) (fun w hw => retR (a := (g3 : FX (((n : Int) : Rat) / ((d : Int) : Rat)))) hw (inS hw 0 rfl lg3) rfl))))))
theorem qText_ok {x : Rat} (a : FX x) (hs : Sz x ≤ 16777216) (w : World) {S : Nat → Prop} (ha : Ro S w a)  : Calls Tryz.prog 71 #[(aG (fxL a))] w (Gives w (Value.string (txB (txQ x)))) := by
 have s0 := Sz_num x
 have s1 := Sz_den x
 have s2 := Sz_more x
 have hl1 := txI_len x.num
 have hl2 := dec_nw x.den
 have la := atA (W := w) ha
 refine calls_ofR (args := [(aG (fxL a))]) (L := [nxR a.z.n, nxR a.m]) Tryz.func71 rfl rfl (leB rfl) (sxF ha roL_nil) (OkC.subF (sC 0 rfl (sN)) (q4 (bx (cs := fxL a) rfl rfl rfl fun b1 => asg rfl rfl (q6 (sC 1 rfl (sC 2 rfl (sN))) ?_))))
 refine q4 (st (v := (pP b1 2)) (ex_fieldAddr rfl Tryz.underlying45 rfl Tryz.sizeOf41 rfl) (leB rfl) (ldO 0 (nxV a.m) tO41 rfl rfl rfl rfl (st (v := (vN ((dg (x.den - 1)).length))) (ex_len_slice rfl Tryz.underlying41) (leB rfl) (st (ex_eql (c := (decide (((dg (x.den - 1)).length) = 0))) rfl rfl (eqN (a := (dg (x.den - 1)).length) (b := 0))) (leB rfl) (OkL.nil ?_)))))
 refine OkQ.subF (sC 1 rfl (sC 2 rfl (sC 6 rfl (sN)))) (OkQ.then_ ?_)
 refine OkC.cond rfl (fun hc0 => ?_) (fun hc0 => ?_)
 ·replace hc0 := of_decide_eq_true hc0
  have he : txQ x = txI x.num := by unfold txQ; rw [if_pos (len_zero hc0)]
  refine q4 (st (v := (pP b1 0)) (ex_fieldAddr rfl Tryz.underlying45 rfl Tryz.sizeOf43 rfl) (leB rfl) (ldA 0 (zxL a.z) tA43 rfl rfl rfl rfl rfl (cl Tryz.call110 (fun w hw => zText_ok a.z (by omega) w (roZ (inS hw 1 rfl la))) rfl rfl rfl (asg rfl rfl (OkL.nil ?_)))))
  exact OkQ.subF (sC 1 rfl (sC 2 rfl (sN))) (OkQ.then_ (OkC.ret (OkQ.then_ret (ret_one rfl (rd_tmp (v := (Value.string (txB (txI x.num)))) rfl) (fun w hw => ⟨by rw [he], hw.out⟩)))))
 ·replace hc0 := of_decide_eq_false hc0
  have he : txQ x = txI x.num ++ [47] ++ Lib.decDigits x.den := by unfold txQ; rw [if_neg (len_not_zero hc0), List.append_assoc]; rfl
  refine OkC.skip (q1 (rG [(0, true), (1, true), (4, true), (2, false), (3, true), (5, false), (6, false), (7, true), (8, true)] sr (by kernel_rfl) (fun _ _ d _ _ h => by cases d <;> exact h) (pE (v := (pP b1 0)) rfl (ex_fieldAddr rfl Tryz.underlying45 rfl Tryz.sizeOf43 rfl) rfl (pA 0 (zxL a.z) tA43 rfl rfl rfl rfl rfl rfl (pW 0 tA45 rfl rfl rfl rfl rfl ?_)))))
  refine OkE.imp rfl (cl Tryz.call110 (fun w hw => zText_ok a.z (by omega) w (roZ (inS hw 1 rfl la))) rfl rfl rfl (OkE.back sr (pE (v := (Value.string (txB (txI x.num ++ [47])))) rfl (ex_add_string (r := (txB (txI x.num ++ [47]))) rfl rfl (by rw [txB_size]; show _ + 1 ≤ _; omega) (txB_append _ [47])) rfl (OkE.imp rfl (cN (S := S) (x := x.den) (args := [(aG (fxL a))]) Tryz.call103 (fun w hw => qDen_ok a (by omega) w (inS hw 1 rfl la)) rfl rfl rfl fun g1 lg1 => ?_)))))
  refine OkE.back (sl sr) (OkE.imp rfl (cl Tryz.call111 (fun w hw => xText_ok g1 (by first | omega | (simp only [Int.natAbs_neg]; omega)) w (inS hw 0 rfl lg1)) rfl rfl rfl (OkE.back (sl sr) (pE (v := (Value.string (txB (txI x.num ++ [47] ++ Lib.decDigits x.den)))) rfl (ex_add_string (r := (txB (txI x.num ++ [47] ++ Lib.decDigits x.den))) rfl rfl (by rw [txB_size, txB_size, List.length_append]; show _ + 1 + _ ≤ _; omega) (txB_append _ _)) rfl (pS rfl rfl rfl ?_)))))
  exact OkE.nil (OkQ.subF (sC 1 rfl (sC 2 rfl (sN))) (OkQ.then_ (OkC.ret (ret_one rfl (rd_tmp (v := (Value.string (txB (txI x.num ++ [47] ++ Lib.decDigits x.den)))) rfl) (fun w hw => ⟨by rw [he], hw.out⟩)))))
end
end Go.Proofs.YtpkoldfmbebmgaaGreatDoor
