import Derived.Test.YtpkoldfmbebmgaaGreatDoorPart07
import Derived.Test.YtpkoldfmbebmgaaGreatDoorPart36
namespace Go.Proofs.YtpkoldfmbebmgaaGreatDoor
open Go Go.RowKit
set_option linter.unusedVariables false
set_option linter.unusedSimpArgs false
section
set_option maxRecDepth 100000
def areaR (a b c : Pt) : Rat := turnP a b c / ((2 : Int) : Rat)
theorem Sz_two : Sz ((2 : Int) : Rat) ≤ 2 := Sz_int (by decide) (by decide)
theorem Sz_areaR (a b c : Pt) : Sz (areaR a b c) ≤ 4 * SzP a + 2 * SzP b + 2 * SzP c + 7 := by
 have h1 := Sz_turn a b c
 have h2 := Sz_divR (turnP a b c) ((2 : Int) : Rat)
 have h3 := Sz_two
 exact Nat.le_trans h2 (by omega)
theorem areaR_zero (a b c : Pt) : ((areaR a b c).num.sign = 0) = (turnP a b c = 0) := by
 have h2 : ((2 : Int) : Rat) ≠ 0 := by decide +kernel
 rw [Int.sign_eq_zero_iff_zero, Rat.num_eq_zero]
 unfold areaR
 refine propext ⟨fun h => ?_, fun h => by rw [h, Rat.div_def, Rat.zero_mul]⟩
 have h3 : turnP a b c / ((2 : Int) : Rat) * ((2 : Int) : Rat) = turnP a b c := Rat.div_mul_cancel h2
 rw [← h3, h, Rat.zero_mul]
theorem rtArea_ok {x y z : Pt} (a : PX x) (b : PX y) (d : PX z) (hs : SzP x + SzP y + SzP z ≤ 65536) (w : World) {S : Nat → Prop} (ha : Ro S w a) (hb : Ro S w b) (hd : Ro S w d)  : Calls Tryz.prog 33 #[(aG (pxL a)), (aG (pxL b)), (aG (pxL d))] w (GivesR (FX (areaR x y z)) S w) := by
 have s2 := Sz_two
 have la := atA (W := w) ha
 have lb := atA (W := w) hb
 have ld := atA (W := w) hd
 refine calls_ofR (args := [(aG (pxL a)), (aG (pxL b)), (aG (pxL d))]) (L := [nxR a.x.z.n, nxR a.x.m, nxR a.y.z.n, nxR a.y.m, nxR b.x.z.n, nxR b.x.m, nxR b.y.z.n, nxR b.y.m, nxR d.x.z.n, nxR d.x.m, nxR d.y.z.n, nxR d.y.m]) Tryz.func33 rfl rfl (leB rfl) (sxP ha (sxP hb (sxP hd roL_nil))) (OkC.subF (sC 0 rfl (sC 1 rfl (sC 2 rfl (sN)))) (q4 (bx (cs := pxL a) rfl rfl rfl fun b1 => bx (cs := pxL b) rfl rfl rfl fun b2 => bx (cs := pxL d) rfl rfl rfl fun b3 => ?_)))
 refine al tZ45 rfl fun b4 => q6 (sC 3 rfl (sC 4 rfl (sC 5 rfl (sC 6 rfl (sN))))) (rG [(0, true), (1, true), (3, true), (4, true), (2, false), (5, false), (6, false), (7, false), (8, false), (9, false)] (sl sr) (by kernel_rfl) (fun _ _ d _ _ h => by cases d <;> exact h) (pW 1 tA47 rfl rfl rfl rfl rfl (pW 2 tA47 rfl rfl rfl rfl rfl (pW 0 tA47 rfl rfl rfl rfl rfl ?_))))
 refine pW 2 tA47 rfl rfl rfl rfl rfl (OkE.imp rfl ?_)
 have hz1 := SzP_sub y x
 refine cP (S := S) (x := (y - x)) (args := [(aG (pxL b)), (aG (pxL a))]) Tryz.call67 (fun w hw => rpSub_ok b a (by omega) w (inS hw 8 rfl lb) (inS hw 4 rfl la)) rfl rfl rfl fun g1 lg1 => OkE.back (sl (sl (sl (sl (sl sr))))) (OkE.imp rfl ?_)
 have hz2 := SzP_sub z x
 refine cP (S := S) (x := (z - x)) (args := [(aG (pxL d)), (aG (pxL a))]) Tryz.call67 (fun w hw => rpSub_ok d a (by omega) w (inS hw 16 rfl ld) (inS hw 8 rfl la)) rfl rfl rfl fun g2 lg2 => OkE.back (sl (sl (sl (sl (sl (sl (sl (sl (sl sr))))))))) (OkE.imp rfl ?_)
 have hz3 := Sz_cross (y - x) (z - x)
 refine cF (S := S) (x := (crossP (y - x) (z - x))) (args := [(aG (pxL g1)), (aG (pxL g2))]) Tryz.call69 (fun w hw => rpCross_ok g1 g2 (by omega) w (inS hw 4 rfl lg1) (inS hw 0 rfl lg2)) rfl rfl rfl fun g3 lg3 => OkE.back (sl (sl (sl (sl (sl (sl (sl (sl (sl (sl (sl sr))))))))))) (OkE.imp rfl (cF (S := S) (x := (((2 : Int) : Int) : Rat)) (args := [(vI 2)]) Tryz.call57 (fun w hw => qInt_ok (2 : Int) (by omega) (by omega) w) rfl rfl rfl fun g4 lg4 => OkE.back (sl (sl (sl (sl (sl (sl (sl (sl (sl (sl (sl (sl (sl sr))))))))))))) (OkE.imp rfl ?_)))
 have hz4 := Sz_divR (crossP (y - x) (z - x)) (((2 : Int) : Int) : Rat)
 refine cF (S := S) (x := ((crossP (y - x) (z - x)) / (((2 : Int) : Int) : Rat))) (args := [(aG (fxL g3)), (aG (fxL g4))]) Tryz.call62 (fun w hw => qDiv_ok g3 g4 (by (try simp only [Sz_neg]); omega) w (inS hw 2 rfl lg3) (inS hw 0 rfl lg4)) rfl rfl rfl fun g5 lg5 => OkE.back (sl (sl (sl (sl (sl (sl (sl (sl (sl (sl (sl (sl (sl (sl (sl sr))))))))))))))) (OkE.imp rfl (OkL.store' (i := 14) (off := 0) (vs := fxL g5) (cs' := fxL g5) (L' := [nxR g5.z.n, nxR g5.m, nxR g4.z.n, nxR g4.m, nxR g3.z.n, nxR g3.m, nxR g2.x.z.n, nxR g2.x.m, nxR g2.y.z.n, nxR g2.y.m, nxR g1.x.z.n, nxR g1.x.m, nxR g1.y.z.n, nxR g1.y.m, blk b4 45 (fxL g5), blk b3 47 (pxL d), blk b2 47 (pxL b), blk b1 47 (pxL a), nxR a.x.z.n, nxR a.x.m, nxR a.y.z.n, nxR a.y.m, nxR b.x.z.n, nxR b.x.m, nxR b.y.z.n, nxR b.y.m, nxR d.x.z.n, nxR d.x.m, nxR d.y.z.n, nxR d.y.m]) (wt_none rfl) rfl rfl rfl rfl rfl Tryz.sizeOf45 rfl rfl rfl rfl (OkE.back (sl (sl (sl (sl (sl (sl (sl (sl (sl (sl (sl (sl (sl (sl (sl sr))))))))))))))) (OkE.nil ?_))))
 exact OkQ.subF (sC 6 rfl (sN)) (OkQ.then_ (OkC.ret (ret_one rfl (rd_agg (i := 14) (cs := fxL g5) rfl rfl Tryz.isAgg45 Tryz.sizeOf45 rfl) (fun w hw => retR (a := (g5 : FX (areaR x y z))) hw (inS hw 0 rfl lg5) rfl))))
theorem rtNone_ok {x y z : Pt} (a : PX x) (b : PX y) (d : PX z) (hs : SzP x + SzP y + SzP z ≤ 32768) (w : World) {S : Nat → Prop} (ha : Ro S w a) (hb : Ro S w b) (hd : Ro S w d)  : Calls Tryz.prog 55 #[(aG (pxL a)), (aG (pxL b)), (aG (pxL d))] w (Gives w (Value.bool (decide (turnP x y z = 0)))) := by
 have la := atA (W := w) ha
 have lb := atA (W := w) hb
 have ld := atA (W := w) hd
 refine calls_ofR (args := [(aG (pxL a)), (aG (pxL b)), (aG (pxL d))]) (L := [nxR a.x.z.n, nxR a.x.m, nxR a.y.z.n, nxR a.y.m, nxR b.x.z.n, nxR b.x.m, nxR b.y.z.n, nxR b.y.m, nxR d.x.z.n, nxR d.x.m, nxR d.y.z.n, nxR d.y.m]) Tryz.func55 rfl rfl (leB rfl) (sxP ha (sxP hb (sxP hd roL_nil))) (OkC.subF (sC 0 rfl (sC 1 rfl (sC 2 rfl (sN)))) (q4 (bx (cs := pxL a) rfl rfl rfl fun b1 => bx (cs := pxL b) rfl rfl rfl fun b2 => bx (cs := pxL d) rfl rfl rfl fun b3 => ?_)))
 refine asg rfl rfl (q3 (sC 3 rfl (sC 4 rfl (sC 5 rfl (sC 6 rfl (sN))))) (ldW 2 tA47 rfl rfl rfl rfl (ldW 1 tA47 rfl rfl rfl rfl (ldW 0 tA47 rfl rfl rfl rfl ?_))))
 have hz1 := Sz_areaR x y z
 refine cF (S := S) (x := (areaR x y z)) (args := [(aG (pxL a)), (aG (pxL b)), (aG (pxL d))]) Tryz.call33 (fun w hw => rtArea_ok a b d (by omega) w (inS hw 3 rfl la) (inS hw 7 rfl lb) (inS hw 11 rfl ld)) rfl rfl rfl fun g1 lg1 => cl Tryz.call95 (fun w hw => qSign_ok g1 w (inS hw 0 rfl lg1)) rfl rfl rfl (st (ex_eql (c := (decide (((areaR x y z).num.sign) = (0 : Int)))) rfl rfl rfl) (leB rfl) (asg rfl rfl (OkL.nil (OkQ.subF (sC 6 rfl (sN)) ?_))))
 exact OkQ.then_ (OkC.ret (ret_one rfl (rd_tmp (v := (Value.bool (decide (((areaR x y z).num.sign) = (0 : Int))))) rfl) (fun w hw => ⟨by simp only [areaR_zero], hw.out⟩)))
theorem rtBary_ok {x y z p : Pt} (a : PX x) (b : PX y) (d : PX z) (e : PX p) (hs : SzP x + SzP y + SzP z + SzP p ≤ 16384) (h : turnP x y z ≠ 0) (w : World) {S : Nat → Prop} (ha : Ro S w a) (hb : Ro S w b) (hd : Ro S w d) (he : Ro S w e)  : Calls Tryz.prog 27 #[(aG (pxL a)), (aG (pxL b)), (aG (pxL d)), (aG (pxL e))] w (GivesR (S3E (areaR p y z / areaR x y z) (areaR x p z / areaR x y z) (areaR x y p / areaR x y z)) S w) := by
 have la := atA (W := w) ha
 have lb := atA (W := w) hb
 have ld := atA (W := w) hd
 have le := atA (W := w) he
 refine calls_ofR (args := [(aG (pxL a)), (aG (pxL b)), (aG (pxL d)), (aG (pxL e))]) (L := [nxR a.x.z.n, nxR a.x.m, nxR a.y.z.n, nxR a.y.m, nxR b.x.z.n, nxR b.x.m, nxR b.y.z.n, nxR b.y.m, nxR d.x.z.n, nxR d.x.m, nxR d.y.z.n, nxR d.y.m, nxR e.x.z.n, nxR e.x.m, nxR e.y.z.n, nxR e.y.m]) Tryz.func27 rfl rfl (leB rfl) (sxP ha (sxP hb (sxP hd (sxP he roL_nil)))) (OkC.subF (sC 0 rfl (sC 1 rfl (sC 2 rfl (sC 3 rfl (sN))))) (q4 (bx (cs := pxL a) rfl rfl rfl fun b1 => bx (cs := pxL b) rfl rfl rfl fun b2 => bx (cs := pxL d) rfl rfl rfl fun b3 => ?_)))
 refine bx (cs := pxL e) rfl rfl rfl fun b4 => asg rfl rfl (asg rfl rfl (q6 (sC 4 rfl (sC 5 rfl (sC 6 rfl (sC 7 rfl (sC 8 rfl (sC 9 rfl (sN))))))) (q4 (ldW 3 tA47 rfl rfl rfl rfl ?_))))
 refine ldW 2 tA47 rfl rfl rfl rfl (ldW 1 tA47 rfl rfl rfl rfl (cl (args := [(aG (pxL a)), (aG (pxL b)), (aG (pxL d))]) (v := (Value.bool false)) Tryz.call55 (fun w hw => (by have h9 := rtNone_ok a b d (by omega) w (inS hw 4 rfl la) (inS hw 8 rfl lb) (inS hw 12 rfl ld); rw [show decide (turnP x y z = 0) = false from decide_eq_false h] at h9; exact h9)) rfl rfl rfl (OkL.nil (OkQ.subF (sC 4 rfl (sC 5 rfl (sC 6 rfl (sC 7 rfl (sC 8 rfl (sC 9 rfl (sC 14 rfl (sN)))))))) (OkQ.then_ ?_)))))
 refine OkC.cond_false rfl (OkC.skip (q2 (ldW 3 tA47 rfl rfl rfl rfl (ldW 2 tA47 rfl rfl rfl rfl (ldW 1 tA47 rfl rfl rfl rfl ?_)))))
 have hz1 := Sz_areaR x y z
 refine cF (S := S) (x := (areaR x y z)) (args := [(aG (pxL a)), (aG (pxL b)), (aG (pxL d))]) Tryz.call33 (fun w hw => rtArea_ok a b d (by omega) w (inS hw 4 rfl la) (inS hw 8 rfl lb) (inS hw 12 rfl ld)) rfl rfl rfl fun g1 lg1 => al tZ45 rfl fun b5 => stW0 rfl rfl rfl Tryz.sizeOf45 rfl rfl (q6 (sC 4 rfl (sC 5 rfl (sC 6 rfl (sC 7 rfl (sC 8 rfl (sC 9 rfl (sC 14 rfl (sC 10 rfl (sN))))))))) (rG [(0, true), (1, true), (2, true), (4, true), (6, true), (7, true), (8, true), (10, true), (12, true), (13, true), (14, true), (16, true), (3, false), (5, false), (9, false), (11, false), (15, false), (17, false), (18, false), (19, true), (20, true)] sr (by kernel_rfl) (fun _ _ d _ _ h => by cases d <;> exact h) (pW 3 tA47 rfl rfl rfl rfl rfl ?_)))
 refine pW 5 tA47 rfl rfl rfl rfl rfl (pW 4 tA47 rfl rfl rfl rfl rfl (pW 0 tA45 rfl rfl rfl rfl rfl (pW 6 tA47 rfl rfl rfl rfl rfl (pW 3 tA47 rfl rfl rfl rfl rfl (pW 4 tA47 rfl rfl rfl rfl rfl ?_)))))
 refine pW 0 tA45 rfl rfl rfl rfl rfl (pW 6 tA47 rfl rfl rfl rfl rfl (pW 5 tA47 rfl rfl rfl rfl rfl (pW 3 tA47 rfl rfl rfl rfl rfl (pW 0 tA45 rfl rfl rfl rfl rfl (OkE.imp rfl ?_)))))
 have hz2 := Sz_areaR p y z
 refine cF (S := S) (x := (areaR p y z)) (args := [(aG (pxL e)), (aG (pxL b)), (aG (pxL d))]) Tryz.call33 (fun w hw => rtArea_ok e b d (by omega) w (inS hw 19 rfl le) (inS hw 11 rfl lb) (inS hw 15 rfl ld)) rfl rfl rfl fun g2 lg2 => OkE.back (sl (sl sr)) (OkE.imp rfl ?_)
 have hz3 := Sz_divR (areaR p y z) (areaR x y z)
 refine cF (S := S) (x := ((areaR p y z) / (areaR x y z))) (args := [(aG (fxL g2)), (aG (fxL g1))]) Tryz.call62 (fun w hw => qDiv_ok g2 g1 (by (try simp only [Sz_neg]); omega) w (inS hw 0 rfl lg2) (inS hw 3 rfl lg1)) rfl rfl rfl fun g3 lg3 => OkE.back (sl (sl (sl (sl sr)))) (OkE.imp rfl ?_)
 have hz4 := Sz_areaR x p z
 refine cF (S := S) (x := (areaR x p z)) (args := [(aG (pxL a)), (aG (pxL e)), (aG (pxL d))]) Tryz.call33 (fun w hw => rtArea_ok a e d (by omega) w (inS hw 11 rfl la) (inS hw 23 rfl le) (inS hw 19 rfl ld)) rfl rfl rfl fun g4 lg4 => OkE.back (sl (sl (sl (sl (sl (sl sr)))))) (OkE.imp rfl ?_)
 have hz5 := Sz_divR (areaR x p z) (areaR x y z)
 refine cF (S := S) (x := ((areaR x p z) / (areaR x y z))) (args := [(aG (fxL g4)), (aG (fxL g1))]) Tryz.call62 (fun w hw => qDiv_ok g4 g1 (by (try simp only [Sz_neg]); omega) w (inS hw 0 rfl lg4) (inS hw 7 rfl lg1)) rfl rfl rfl fun g5 lg5 => OkE.back (sl (sl (sl (sl (sl (sl (sl (sl sr)))))))) (OkE.imp rfl ?_)
 have hz6 := Sz_areaR x y p
 refine cF (S := S) (x := (areaR x y p)) (args := [(aG (pxL a)), (aG (pxL b)), (aG (pxL e))]) Tryz.call33 (fun w hw => rtArea_ok a b e (by omega) w (inS hw 15 rfl la) (inS hw 19 rfl lb) (inS hw 27 rfl le)) rfl rfl rfl fun g6 lg6 => OkE.back (sl (sl (sl (sl (sl (sl (sl (sl (sl (sl sr)))))))))) (OkE.imp rfl ?_)
 have hz7 := Sz_divR (areaR x y p) (areaR x y z)
 refine cF (S := S) (x := ((areaR x y p) / (areaR x y z))) (args := [(aG (fxL g6)), (aG (fxL g1))]) Tryz.call62 (fun w hw => qDiv_ok g6 g1 (by (try simp only [Sz_neg]); omega) w (inS hw 0 rfl lg6) (inS hw 11 rfl lg1)) rfl rfl rfl fun g7 lg7 => OkE.back (sl (sl (sl (sl (sl (sl (sl (sl (sl (sl (sl (sl sr)))))))))))) (OkE.imp rfl (OkL.openV (V := fun b6 => (Value.slice (some ⟨b6, 0, none⟩) 3 3)) (T := 45) (cs := fxL g3 ++ fxL g5 ++ fxL g7) (wt_none rfl) (op_buildSlice (z := .agg #[(Value.bool false), (Value.slice none 0 0), (Value.slice none 0 0)]) (cs := fxL g3 ++ fxL g5 ++ fxL g7) (pv := [(0, (aG (fxL g3))), (1, (aG (fxL g5))), (2, (aG (fxL g7)))]) Tryz.underlying59 Tryz.sizeOf45 Tryz.zeroValue45 (by decide) (by decide) rfl (fill3R g3 g5 g7)) rfl (leB rfl) fun b6 => OkE.back (sl (sl (sl (sl (sl (sl (sl (sl (sl (sl (sl (sl (sl sr))))))))))))) (pS rfl rfl rfl ?_)))
 exact pS rfl rfl rfl (OkE.nil (OkQ.subF (sC 4 rfl (sC 5 rfl (sC 6 rfl (sC 8 rfl (sC 9 rfl (sC 14 rfl (sC 10 rfl (sN)))))))) (OkQ.then_ (OkC.ret (ret_two rfl (rd_tmp (v := (Value.slice (some ⟨b6, 0, none⟩) 3 3)) rfl) (rd_tmp (v := (vI 0)) rfl) (fun w hw => retS hw 0 rfl (inS hw 9 rfl lg3) (inS hw 5 rfl lg5) (inS hw 1 rfl lg7) rfl))))))
theorem rtBary0_ok {x y z p : Pt} (a : PX x) (b : PX y) (d : PX z) (e : PX p) (hs : SzP x + SzP y + SzP z + SzP p ≤ 16384) (h : turnP x y z = 0) (w : World) {S : Nat → Prop} (ha : Ro S w a) (hb : Ro S w b) (hd : Ro S w d) (he : Ro S w e)  : Calls Tryz.prog 27 #[(aG (pxL a)), (aG (pxL b)), (aG (pxL d)), (aG (pxL e))] w (fun e w' => ∃ b, e = .returned (.tuple #[.slice (some ⟨b, 0, none⟩) 3 3, vI 1]) ∧ Below w.heap.size w w') := by
 have la := atA (W := w) ha
 have lb := atA (W := w) hb
 have ld := atA (W := w) hd
 have le := atA (W := w) he
 refine calls_ofR (args := [(aG (pxL a)), (aG (pxL b)), (aG (pxL d)), (aG (pxL e))]) (L := [nxR a.x.z.n, nxR a.x.m, nxR a.y.z.n, nxR a.y.m, nxR b.x.z.n, nxR b.x.m, nxR b.y.z.n, nxR b.y.m, nxR d.x.z.n, nxR d.x.m, nxR d.y.z.n, nxR d.y.m, nxR e.x.z.n, nxR e.x.m, nxR e.y.z.n, nxR e.y.m]) Tryz.func27 rfl rfl (leB rfl) (sxP ha (sxP hb (sxP hd (sxP he roL_nil)))) (OkC.subF (sC 0 rfl (sC 1 rfl (sC 2 rfl (sC 3 rfl (sN))))) (q4 (bx (cs := pxL a) rfl rfl rfl fun b1 => bx (cs := pxL b) rfl rfl rfl fun b2 => bx (cs := pxL d) rfl rfl rfl fun b3 => ?_)))
 refine bx (cs := pxL e) rfl rfl rfl fun b4 => asg rfl rfl (asg rfl rfl (q6 (sC 4 rfl (sC 5 rfl (sC 6 rfl (sC 7 rfl (sC 8 rfl (sC 9 rfl (sN))))))) (q4 (ldW 3 tA47 rfl rfl rfl rfl ?_))))
 refine ldW 2 tA47 rfl rfl rfl rfl (ldW 1 tA47 rfl rfl rfl rfl (cl (args := [(aG (pxL a)), (aG (pxL b)), (aG (pxL d))]) (v := (Value.bool true)) Tryz.call55 (fun w hw => (by have h9 := rtNone_ok a b d (by omega) w (inS hw 4 rfl la) (inS hw 8 rfl lb) (inS hw 12 rfl ld); rw [show decide (turnP x y z = 0) = true from decide_eq_true h] at h9; exact h9)) rfl rfl rfl (OkL.nil (OkQ.subF (sC 4 rfl (sC 5 rfl (sC 6 rfl (sC 7 rfl (sC 8 rfl (sC 9 rfl (sC 14 rfl (sN)))))))) (OkQ.then_ ?_)))))
 refine OkC.cond_true rfl (q4 (cF (S := S) (x := (((0 : Int) : Int) : Rat)) (args := [(vI 0)]) Tryz.call57 (fun w hw => qInt_ok (0 : Int) (by omega) (by omega) w) rfl rfl rfl fun g1 lg1 => cF (S := S) (x := (((0 : Int) : Int) : Rat)) (args := [(vI 0)]) Tryz.call57 (fun w hw => qInt_ok (0 : Int) (by omega) (by omega) w) rfl rfl rfl fun g2 lg2 => cF (S := S) (x := (((0 : Int) : Int) : Rat)) (args := [(vI 0)]) Tryz.call57 (fun w hw => qInt_ok (0 : Int) (by omega) (by omega) w) rfl rfl rfl fun g3 lg3 => OkL.openV (V := fun b5 => (Value.slice (some ⟨b5, 0, none⟩) 3 3)) (T := 45) (cs := fxL g1 ++ fxL g2 ++ fxL g3) (wt_none rfl) (op_buildSlice (z := .agg #[(Value.bool false), (Value.slice none 0 0), (Value.slice none 0 0)]) (cs := fxL g1 ++ fxL g2 ++ fxL g3) (pv := [(0, (aG (fxL g1))), (1, (aG (fxL g2))), (2, (aG (fxL g3)))]) Tryz.underlying59 Tryz.sizeOf45 Tryz.zeroValue45 (by decide) (by decide) rfl (fill3R g1 g2 g3)) rfl (leB rfl) fun b5 => ?_))
 refine asg rfl rfl (asg rfl rfl (OkL.nil (OkQ.subF (sC 4 rfl (sC 5 rfl (sC 6 rfl (sC 7 rfl (sC 8 rfl (sC 9 rfl (sC 14 rfl (sN)))))))) (OkQ.then_ (OkC.ret ?_)))))
 exact OkQ.then_ret (ret_two rfl (rd_tmp (v := (Value.slice (some ⟨b5, 0, none⟩) 3 3)) rfl) (rd_tmp (v := (vI 1)) rfl) (fun w hw => ⟨b5, rfl, hw.out⟩))
theorem rtAt_ok {x y z : Pt} {u v q : Rat} (a : PX x) (b : PX y) (d : PX z) (l : S3 u v q) (hs : SzP x + SzP y + SzP z + Sz u + Sz v + Sz q ≤ 16384) (w : World) {S : Nat → Prop} (ha : Ro S w a) (hb : Ro S w b) (hd : Ro S w d) (hl : Ro S w l)  : Calls Tryz.prog 30 #[(aG (pxL a)), (aG (pxL b)), (aG (pxL d)), (Value.slice l.p 3 3)] w (GivesR (PX (scaleP x u + (scaleP y v + scaleP z q))) S w) := by
 have la := atA (W := w) ha
 have lb := atA (W := w) hb
 have ld := atA (W := w) hd
 have ll := atA (W := w) hl
 refine calls_ofR (args := [(aG (pxL a)), (aG (pxL b)), (aG (pxL d)), (Value.slice l.p 3 3)]) (L := [nxR a.x.z.n, nxR a.x.m, nxR a.y.z.n, nxR a.y.m, nxR b.x.z.n, nxR b.x.m, nxR b.y.z.n, nxR b.y.m, nxR d.x.z.n, nxR d.x.m, nxR d.y.z.n, nxR d.y.m, rowR l.p (s3L l), nxR l.f.z.n, nxR l.f.m, nxR l.g.z.n, nxR l.g.m, nxR l.h.z.n, nxR l.h.m]) Tryz.func30 rfl rfl (leB rfl) (sxP ha (sxP hb (sxP hd (sxS hl roL_nil)))) (OkC.subF (sC 0 rfl (sC 1 rfl (sC 2 rfl (sC 3 rfl (sN))))) (q4 (bx (cs := pxL a) rfl rfl rfl fun b1 => bx (cs := pxL b) rfl rfl rfl fun b2 => bx (cs := pxL d) rfl rfl rfl fun b3 => ?_)))
 refine al tZ47 rfl fun b4 => q6 (sC 3 rfl (sC 4 rfl (sC 5 rfl (sC 6 rfl (sC 8 rfl (sN)))))) (rG [(0, true), (1, true), (2, true), (3, true), (5, true), (6, true), (7, true), (8, true), (10, true), (11, true), (12, true), (13, true), (4, false), (9, false), (14, false), (15, false), (16, false), (17, false)] (sl sr) (by kernel_rfl) (fun _ _ d _ _ h => by cases d <;> exact h) (pW 2 tA47 rfl rfl rfl rfl rfl (pM rfl rfl rfl (pE (v := (pP (pB l.p) (pO l.p + 0 * 3))) rfl (ex_index_row (j := 0) rfl rfl l.ok Tryz.underlying59 Tryz.sizeOf45 rfl (by omega)) rfl ?_))))
 refine pE (v := (aG (fxL l.f))) rfl (ex_load_rowR_agg (vs := fxL l.f) (i := 15) rfl rfl (RowOk.ne l.ok (by omega)) tA45 rfl rfl) rfl (pW 1 tA47 rfl rfl rfl rfl rfl (pM rfl rfl rfl (pE (v := (pP (pB l.p) (pO l.p + 1 * 3))) rfl (ex_index_row (j := 1) rfl rfl l.ok Tryz.underlying59 Tryz.sizeOf45 rfl (by omega)) rfl (pE (v := (aG (fxL l.g))) rfl (ex_load_rowR_agg (vs := fxL l.g) (i := 15) rfl rfl (RowOk.ne l.ok (by omega)) tA45 rfl rfl) rfl (pW 0 tA47 rfl rfl rfl rfl rfl ?_)))))
 refine pM rfl rfl rfl (pE (v := (pP (pB l.p) (pO l.p + 2 * 3))) rfl (ex_index_row (j := 2) rfl rfl l.ok Tryz.underlying59 Tryz.sizeOf45 rfl (by omega)) rfl (pE (v := (aG (fxL l.h))) rfl (ex_load_rowR_agg (vs := fxL l.h) (i := 15) rfl rfl (RowOk.ne l.ok (by omega)) tA45 rfl rfl) rfl (OkE.imp rfl ?_)))
 have hz1 := SzP_scale x u
 refine cP (S := S) (x := (scaleP x u)) (args := [(aG (pxL a)), (aG (fxL l.f))]) Tryz.call72 (fun w hw => rpScale_ok a l.f (by omega) w (inS hw 4 rfl la) (roSf (inS hw 16 rfl ll))) rfl rfl rfl fun g1 lg1 => OkE.back (sl (sl (sl (sl (sl sr))))) (OkE.imp rfl ?_)
 have hz2 := SzP_scale y v
 refine cP (S := S) (x := (scaleP y v)) (args := [(aG (pxL b)), (aG (fxL l.g))]) Tryz.call72 (fun w hw => rpScale_ok b l.g (by omega) w (inS hw 12 rfl lb) (roSg (inS hw 20 rfl ll))) rfl rfl rfl fun g2 lg2 => OkE.back (sl (sl (sl (sl (sl (sl (sl (sl (sl sr))))))))) (OkE.imp rfl ?_)
 have hz3 := SzP_scale z q
 refine cP (S := S) (x := (scaleP z q)) (args := [(aG (pxL d)), (aG (fxL l.h))]) Tryz.call72 (fun w hw => rpScale_ok d l.h (by omega) w (inS hw 20 rfl ld) (roSh (inS hw 24 rfl ll))) rfl rfl rfl fun g3 lg3 => OkE.back (sl (sl (sl (sl (sl (sl (sl (sl (sl (sl (sl (sl (sl sr))))))))))))) (OkE.imp rfl ?_)
 have hz4 := SzP_add (scaleP y v) (scaleP z q)
 refine cP (S := S) (x := ((scaleP y v) + (scaleP z q))) (args := [(aG (pxL g2)), (aG (pxL g3))]) Tryz.call56 (fun w hw => rpAdd_ok g2 g3 (by omega) w (inS hw 4 rfl lg2) (inS hw 0 rfl lg3)) rfl rfl rfl fun g4 lg4 => OkE.back (sl (sl (sl (sl (sl (sl (sl (sl (sl (sl (sl (sl (sl (sl (sl (sl (sl sr))))))))))))))))) (OkE.imp rfl ?_)
 have hz5 := SzP_add (scaleP x u) ((scaleP y v) + (scaleP z q))
 refine cP (S := S) (x := ((scaleP x u) + ((scaleP y v) + (scaleP z q)))) (args := [(aG (pxL g1)), (aG (pxL g4))]) Tryz.call56 (fun w hw => rpAdd_ok g1 g4 (by omega) w (inS hw 12 rfl lg1) (inS hw 0 rfl lg4)) rfl rfl rfl fun g5 lg5 => OkE.back (sl (sl (sl (sl (sl (sl (sl (sl (sl (sl (sl (sl (sl (sl (sl (sl (sl (sl (sl (sl (sl sr))))))))))))))))))))) (OkE.imp rfl (OkL.store' (i := 20) (off := 0) (vs := pxL g5) (cs' := pxL g5) (L' := [nxR g5.x.z.n, nxR g5.x.m, nxR g5.y.z.n, nxR g5.y.m, nxR g4.x.z.n, nxR g4.x.m, nxR g4.y.z.n, nxR g4.y.m, nxR g3.x.z.n, nxR g3.x.m, nxR g3.y.z.n, nxR g3.y.m, nxR g2.x.z.n, nxR g2.x.m, nxR g2.y.z.n, nxR g2.y.m, nxR g1.x.z.n, nxR g1.x.m, nxR g1.y.z.n, nxR g1.y.m, blk b4 47 (pxL g5), blk b3 47 (pxL d), blk b2 47 (pxL b), blk b1 47 (pxL a), nxR a.x.z.n, nxR a.x.m, nxR a.y.z.n, nxR a.y.m, nxR b.x.z.n, nxR b.x.m, nxR b.y.z.n, nxR b.y.m, nxR d.x.z.n, nxR d.x.m, nxR d.y.z.n, nxR d.y.m, rowR l.p (s3L l), nxR l.f.z.n, nxR l.f.m, nxR l.g.z.n, nxR l.g.m, nxR l.h.z.n, nxR l.h.m]) (wt_none rfl) rfl rfl rfl rfl rfl Tryz.sizeOf47 rfl rfl rfl rfl (OkE.back (sl (sl (sl (sl (sl (sl (sl (sl (sl (sl (sl (sl (sl (sl (sl (sl (sl (sl (sl (sl (sl sr))))))))))))))))))))) (OkE.nil ?_))))
 exact OkQ.subF (sC 8 rfl (sN)) (OkQ.then_ (OkC.ret (ret_one rfl (rd_agg (i := 20) (cs := pxL g5) rfl rfl Tryz.isAgg47 Tryz.sizeOf47 rfl) (fun w hw => retR (a := (g5 : PX (scaleP x u + (scaleP y v + scaleP z q)))) hw (inS hw 0 rfl lg5) rfl))))
def whereR (a b c p : Pt) : Nat :=
 if turnP a b c = 0 then 0 else if (sameR p a || sameR p b || sameR p c) = true then 3 else if (onR a b p || onR b c p || onR c a p) = true then 2
 else if ((decide ((turnP a b p).num.sign = (turnP a b c).num.sign) && decide ((turnP b c p).num.sign = (turnP a b c).num.sign)) && decide ((turnP c a p).num.sign = (turnP a b c).num.sign)) = true then 1 else 0
theorem rtWhere_ok {x y z p : Pt} (a : PX x) (b : PX y) (d : PX z) (e : PX p) (hs : SzP x + SzP y + SzP z + SzP p ≤ 16384) (w : World) {S : Nat → Prop} (ha : Ro S w a) (hb : Ro S w b) (hd : Ro S w d) (he : Ro S w e)  : Calls Tryz.prog 35 #[(aG (pxL a)), (aG (pxL b)), (aG (pxL d)), (aG (pxL e))] w (Gives w (vN (whereR x y z p))) := by
 have la := atA (W := w) ha
 have lb := atA (W := w) hb
 have ld := atA (W := w) hd
 have le := atA (W := w) he
 refine calls_ofR (args := [(aG (pxL a)), (aG (pxL b)), (aG (pxL d)), (aG (pxL e))]) (L := [nxR a.x.z.n, nxR a.x.m, nxR a.y.z.n, nxR a.y.m, nxR b.x.z.n, nxR b.x.m, nxR b.y.z.n, nxR b.y.m, nxR d.x.z.n, nxR d.x.m, nxR d.y.z.n, nxR d.y.m, nxR e.x.z.n, nxR e.x.m, nxR e.y.z.n, nxR e.y.m]) Tryz.func35 rfl rfl (leB rfl) (sxP ha (sxP hb (sxP hd (sxP he roL_nil)))) (OkC.subF (sC 0 rfl (sC 1 rfl (sC 2 rfl (sC 3 rfl (sN))))) (q4 (bx (cs := pxL a) rfl rfl rfl fun b1 => bx (cs := pxL b) rfl rfl rfl fun b2 => bx (cs := pxL d) rfl rfl rfl fun b3 => ?_)))
 refine bx (cs := pxL e) rfl rfl rfl fun b4 => asg rfl rfl (q6 (sC 4 rfl (sC 5 rfl (sC 6 rfl (sC 7 rfl (sC 8 rfl (sN)))))) (q4 (ldW 3 tA47 rfl rfl rfl rfl (ldW 2 tA47 rfl rfl rfl rfl ?_))))
 refine ldW 1 tA47 rfl rfl rfl rfl (cl Tryz.call55 (fun w hw => rtNone_ok a b d (by omega) w (inS hw 4 rfl la) (inS hw 8 rfl lb) (inS hw 12 rfl ld)) rfl rfl rfl (OkL.nil (OkQ.subF (sC 4 rfl (sC 5 rfl (sC 6 rfl (sC 7 rfl (sC 8 rfl (sC 13 rfl (sN))))))) (OkQ.then_ ?_))))
 refine OkC.cond rfl (fun hc0 => ?_) (fun hc0 => ?_)
 ·replace hc0 := of_decide_eq_true hc0
  exact q4 (asg rfl rfl (OkL.nil (OkQ.then_ (OkC.ret (OkQ.then_ret (ret_one rfl (rd_tmp (v := (vI 0)) rfl) (fun w hw => ⟨by unfold whereR; simp_all [vN]; try (rw [if_neg (by grind)]; rfl), hw.out⟩)))))))
 ·replace hc0 := of_decide_eq_false hc0
  refine OkC.skip (q1 (q4 (ldW 0 tA47 rfl rfl rfl rfl (ldW 3 tA47 rfl rfl rfl rfl (cl Tryz.call75 (fun w hw => rpSame_ok e a (by omega) w (inS hw 16 rfl le) (inS hw 4 rfl la)) rfl rfl rfl ?_)))))
  refine mv rfl rfl ?_
  refine OkL.mid (FM := [(4, (pP b1 0)), (5, (pP b2 0)), (6, (pP b3 0)), (7, (pP b4 0)), (8, (vI 0)), (14, (aG (pxL e))), (15, (aG (pxL a))), (16, (Value.bool (sameR p x))), (17, (Value.bool (sameR p x))), (21, (Value.bool ((sameR p x) || (sameR p y))))]) (LM := [blk b4 47 (pxL e), blk b3 47 (pxL d), blk b2 47 (pxL b), blk b1 47 (pxL a), nxR a.x.z.n, nxR a.x.m, nxR a.y.z.n, nxR a.y.m, nxR b.x.z.n, nxR b.x.m, nxR b.y.z.n, nxR b.y.m, nxR d.x.z.n, nxR d.x.m, nxR d.y.z.n, nxR d.y.m, nxR e.x.z.n, nxR e.x.m, nxR e.y.z.n, nxR e.y.m]) 4 ?_ ?_
  ·rcases Bool.eq_false_or_eq_true (sameR p x) with hg1 | hg1
   ·skip
    refine OkL.retell (k := 17) (u := Value.bool true) rfl (by rw [hg1]) ?_
    have hg1' := hg1
    skip
    exact OkL.skip (wt_not rfl rfl rfl) rfl (leB rfl) (OkL.skip (wt_not rfl rfl rfl) rfl (leB rfl) (OkL.skip (wt_not rfl rfl rfl) rfl (leB rfl) (st (v := (Value.bool true)) (ex_pick_true rfl rfl) (leB rfl) (OkL.nil (OkQ.mid (sS rfl (sS rfl (sS rfl (sS rfl (sS rfl (sS rfl (sS rfl (sS rfl (sS (by first | rfl | (rw [hg1]; rfl) | rw [hg1]) (sS (by first | rfl | (rw [hg1]; rfl) | rw [hg1]) (sN))))))))))) (List.Sublist.refl _))))))
   ·skip
    refine OkL.retell (k := 17) (u := Value.bool false) rfl (by rw [hg1]) ?_
    have hg1' := hg1
    skip
    exact OkL.step (v := (aG (pxL e))) (wt_some rfl rfl rfl) (ex_load_agg (i := 0) (vs := pxL e) rfl rfl tA47.a tA47.s rfl rfl) rfl (leB rfl) (OkL.step (v := (aG (pxL b))) (wt_some rfl rfl rfl) (ex_load_agg (i := 2) (vs := pxL b) rfl rfl tA47.a tA47.s rfl rfl) rfl (leB rfl) (OkL.call (v := (Value.bool (sameR p y))) (wt_some rfl rfl rfl) (op_call0 (args := [(aG (pxL e)), (aG (pxL b))]) rfl rfl Tryz.call75) (fun w hw => rpSame_ok e b (by omega) w (inS hw 16 rfl le) (inS hw 8 rfl lb)) rfl (leB rfl) (st (v := (Value.bool (sameR p y))) (ex_pick_false rfl rfl) (leB rfl) (OkL.nil (OkQ.mid (sS rfl (sS rfl (sS rfl (sS rfl (sS rfl (sS rfl (sS rfl (sS rfl (sS (by first | rfl | (rw [hg1]; rfl) | rw [hg1]) (sS (by first | rfl | (rw [hg1]; rfl) | rw [hg1]) (sN))))))))))) (List.Sublist.refl _))))))
  refine mv rfl rfl ?_
  refine OkL.mid (FM := [(4, (pP b1 0)), (5, (pP b2 0)), (6, (pP b3 0)), (7, (pP b4 0)), (8, (vI 0)), (14, (aG (pxL e))), (15, (aG (pxL a))), (16, (Value.bool (sameR p x))), (17, (Value.bool (sameR p x))), (21, (Value.bool ((sameR p x) || (sameR p y)))), (22, (Value.bool ((sameR p x) || (sameR p y)))), (26, (Value.bool (((sameR p x) || (sameR p y)) || (sameR p z))))]) (LM := [blk b4 47 (pxL e), blk b3 47 (pxL d), blk b2 47 (pxL b), blk b1 47 (pxL a), nxR a.x.z.n, nxR a.x.m, nxR a.y.z.n, nxR a.y.m, nxR b.x.z.n, nxR b.x.m, nxR b.y.z.n, nxR b.y.m, nxR d.x.z.n, nxR d.x.m, nxR d.y.z.n, nxR d.y.m, nxR e.x.z.n, nxR e.x.m, nxR e.y.z.n, nxR e.y.m]) 4 ?_ ?_
  ·rcases Bool.eq_false_or_eq_true ((sameR p x) || (sameR p y)) with hg2 | hg2
   ·skip
    refine OkL.retell (k := 22) (u := Value.bool true) rfl (by rw [hg2]) ?_
    have hg2' := hg2
    simp only [Bool.and_eq_true, Bool.or_eq_true, Bool.and_eq_false_iff, Bool.or_eq_false_iff, Bool.not_eq_true', Bool.not_eq_false', decide_eq_true_eq, decide_eq_false_iff_not] at hg2'
    exact OkL.skip (wt_not rfl rfl rfl) rfl (leB rfl) (OkL.skip (wt_not rfl rfl rfl) rfl (leB rfl) (OkL.skip (wt_not rfl rfl rfl) rfl (leB rfl) (st (v := (Value.bool true)) (ex_pick_true rfl rfl) (leB rfl) (OkL.nil (OkQ.mid (sS rfl (sS rfl (sS rfl (sS rfl (sS rfl (sS rfl (sS rfl (sS rfl (sS rfl (sS rfl (sS (by first | rfl | (rw [hg2]; rfl) | rw [hg2]) (sS (by first | rfl | (rw [hg2]; rfl) | rw [hg2]) (sN))))))))))))) (List.Sublist.refl _))))))
   ·skip
    refine OkL.retell (k := 22) (u := Value.bool false) rfl (by rw [hg2]) ?_
    have hg2' := hg2
    simp only [Bool.and_eq_true, Bool.or_eq_true, Bool.and_eq_false_iff, Bool.or_eq_false_iff, Bool.not_eq_true', Bool.not_eq_false', decide_eq_true_eq, decide_eq_false_iff_not] at hg2'
    exact OkL.step (v := (aG (pxL e))) (wt_some rfl rfl rfl) (ex_load_agg (i := 0) (vs := pxL e) rfl rfl tA47.a tA47.s rfl rfl) rfl (leB rfl) (OkL.step (v := (aG (pxL d))) (wt_some rfl rfl rfl) (ex_load_agg (i := 1) (vs := pxL d) rfl rfl tA47.a tA47.s rfl rfl) rfl (leB rfl) (OkL.call (v := (Value.bool (sameR p z))) (wt_some rfl rfl rfl) (op_call0 (args := [(aG (pxL e)), (aG (pxL d))]) rfl rfl Tryz.call75) (fun w hw => rpSame_ok e d (by omega) w (inS hw 16 rfl le) (inS hw 12 rfl ld)) rfl (leB rfl) (st (v := (Value.bool (sameR p z))) (ex_pick_false rfl rfl) (leB rfl) (OkL.nil (OkQ.mid (sS rfl (sS rfl (sS rfl (sS rfl (sS rfl (sS rfl (sS rfl (sS rfl (sS rfl (sS rfl (sS (by first | rfl | (rw [hg2]; rfl) | rw [hg2]) (sS (by first | rfl | (rw [hg2]; rfl) | rw [hg2]) (sN))))))))))))) (List.Sublist.refl _))))))
  refine OkL.nil (OkQ.subF (sC 4 rfl (sC 5 rfl (sC 6 rfl (sC 7 rfl (sC 8 rfl (sC 26 rfl (sN))))))) (OkQ.then_ ?_))
  refine OkC.cond rfl (fun hc1 => ?_) (fun hc1 => ?_)
  ·simp only [Bool.and_eq_true, Bool.or_eq_true, Bool.and_eq_false_iff, Bool.or_eq_false_iff, Bool.not_eq_true', Bool.not_eq_false', decide_eq_true_eq, decide_eq_false_iff_not] at hc1
   exact q4 (asg rfl rfl (OkL.nil (OkQ.then_ (OkC.ret (OkQ.then_ret (ret_one rfl (rd_tmp (v := (vI 3)) rfl) (fun w hw => ⟨by unfold whereR; simp_all [vN]; try (rw [if_neg (by grind)]; rfl), hw.out⟩)))))))
  ·simp only [Bool.and_eq_true, Bool.or_eq_true, Bool.and_eq_false_iff, Bool.or_eq_false_iff, Bool.not_eq_true', Bool.not_eq_false', decide_eq_true_eq, decide_eq_false_iff_not] at hc1
   refine OkC.skip (q1 (q4 (ldW 3 tA47 rfl rfl rfl rfl (ldW 2 tA47 rfl rfl rfl rfl (ldW 0 tA47 rfl rfl rfl rfl ?_)))))
   refine cl Tryz.call76 (fun w hw => rpOn_ok a b e (by omega) w (inS hw 4 rfl la) (inS hw 8 rfl lb) (inS hw 16 rfl le)) rfl rfl rfl (mv rfl rfl ?_)
   refine OkL.mid (FM := [(4, (pP b1 0)), (5, (pP b2 0)), (6, (pP b3 0)), (7, (pP b4 0)), (8, (vI 0)), (27, (aG (pxL a))), (28, (aG (pxL b))), (29, (aG (pxL e))), (30, (Value.bool (onR x y p))), (31, (Value.bool (onR x y p))), (36, (Value.bool ((onR x y p) || (onR y z p))))]) (LM := [blk b4 47 (pxL e), blk b3 47 (pxL d), blk b2 47 (pxL b), blk b1 47 (pxL a), nxR a.x.z.n, nxR a.x.m, nxR a.y.z.n, nxR a.y.m, nxR b.x.z.n, nxR b.x.m, nxR b.y.z.n, nxR b.y.m, nxR d.x.z.n, nxR d.x.m, nxR d.y.z.n, nxR d.y.m, nxR e.x.z.n, nxR e.x.m, nxR e.y.z.n, nxR e.y.m]) 5 ?_ ?_
   ·rcases Bool.eq_false_or_eq_true (onR x y p) with hg3 | hg3
    ·skip
     refine OkL.retell (k := 31) (u := Value.bool true) rfl (by rw [hg3]) ?_
     have hg3' := hg3
     skip
     exact OkL.skip (wt_not rfl rfl rfl) rfl (leB rfl) (OkL.skip (wt_not rfl rfl rfl) rfl (leB rfl) (OkL.skip (wt_not rfl rfl rfl) rfl (leB rfl) (OkL.skip (wt_not rfl rfl rfl) rfl (leB rfl) (st (v := (Value.bool true)) (ex_pick_true rfl rfl) (leB rfl) (OkL.nil (OkQ.mid (sS rfl (sS rfl (sS rfl (sS rfl (sS rfl (sS rfl (sS rfl (sS rfl (sS rfl (sS (by first | rfl | (rw [hg3]; rfl) | rw [hg3]) (sS (by first | rfl | (rw [hg3]; rfl) | rw [hg3]) (sN)))))))))))) (List.Sublist.refl _)))))))
    ·skip
     refine OkL.retell (k := 31) (u := Value.bool false) rfl (by rw [hg3]) ?_
     have hg3' := hg3
     skip
     exact OkL.step (v := (aG (pxL b))) (wt_some rfl rfl rfl) (ex_load_agg (i := 2) (vs := pxL b) rfl rfl tA47.a tA47.s rfl rfl) rfl (leB rfl) (OkL.step (v := (aG (pxL d))) (wt_some rfl rfl rfl) (ex_load_agg (i := 1) (vs := pxL d) rfl rfl tA47.a tA47.s rfl rfl) rfl (leB rfl) (OkL.step (v := (aG (pxL e))) (wt_some rfl rfl rfl) (ex_load_agg (i := 0) (vs := pxL e) rfl rfl tA47.a tA47.s rfl rfl) rfl (leB rfl) (OkL.call (v := (Value.bool (onR y z p))) (wt_some rfl rfl rfl) (op_call0 (args := [(aG (pxL b)), (aG (pxL d)), (aG (pxL e))]) rfl rfl Tryz.call76) (fun w hw => rpOn_ok b d e (by omega) w (inS hw 8 rfl lb) (inS hw 12 rfl ld) (inS hw 16 rfl le)) rfl (leB rfl) (st (v := (Value.bool (onR y z p))) (ex_pick_false rfl rfl) (leB rfl) (OkL.nil (OkQ.mid (sS rfl (sS rfl (sS rfl (sS rfl (sS rfl (sS rfl (sS rfl (sS rfl (sS rfl (sS (by first | rfl | (rw [hg3]; rfl) | rw [hg3]) (sS (by first | rfl | (rw [hg3]; rfl) | rw [hg3]) (sN)))))))))))) (List.Sublist.refl _)))))))
   refine mv rfl rfl ?_
   refine OkL.mid (FM := [(4, (pP b1 0)), (5, (pP b2 0)), (6, (pP b3 0)), (7, (pP b4 0)), (8, (vI 0)), (27, (aG (pxL a))), (28, (aG (pxL b))), (29, (aG (pxL e))), (30, (Value.bool (onR x y p))), (31, (Value.bool (onR x y p))), (36, (Value.bool ((onR x y p) || (onR y z p)))), (37, (Value.bool ((onR x y p) || (onR y z p)))), (42, (Value.bool (((onR x y p) || (onR y z p)) || (onR z x p))))]) (LM := [blk b4 47 (pxL e), blk b3 47 (pxL d), blk b2 47 (pxL b), blk b1 47 (pxL a), nxR a.x.z.n, nxR a.x.m, nxR a.y.z.n, nxR a.y.m, nxR b.x.z.n, nxR b.x.m, nxR b.y.z.n, nxR b.y.m, nxR d.x.z.n, nxR d.x.m, nxR d.y.z.n, nxR d.y.m, nxR e.x.z.n, nxR e.x.m, nxR e.y.z.n, nxR e.y.m]) 5 ?_ ?_
   ·rcases Bool.eq_false_or_eq_true ((onR x y p) || (onR y z p)) with hg4 | hg4
    ·skip
     refine OkL.retell (k := 37) (u := Value.bool true) rfl (by rw [hg4]) ?_
     have hg4' := hg4
     simp only [Bool.and_eq_true, Bool.or_eq_true, Bool.and_eq_false_iff, Bool.or_eq_false_iff, Bool.not_eq_true', Bool.not_eq_false', decide_eq_true_eq, decide_eq_false_iff_not] at hg4'
     exact OkL.skip (wt_not rfl rfl rfl) rfl (leB rfl) (OkL.skip (wt_not rfl rfl rfl) rfl (leB rfl) (OkL.skip (wt_not rfl rfl rfl) rfl (leB rfl) (OkL.skip (wt_not rfl rfl rfl) rfl (leB rfl) (st (v := (Value.bool true)) (ex_pick_true rfl rfl) (leB rfl) (OkL.nil (OkQ.mid (sS rfl (sS rfl (sS rfl (sS rfl (sS rfl (sS rfl (sS rfl (sS rfl (sS rfl (sS rfl (sS rfl (sS (by first | rfl | (rw [hg4]; rfl) | rw [hg4]) (sS (by first | rfl | (rw [hg4]; rfl) | rw [hg4]) (sN)))))))))))))) (List.Sublist.refl _)))))))
    ·skip
     refine OkL.retell (k := 37) (u := Value.bool false) rfl (by rw [hg4]) ?_
     have hg4' := hg4
     simp only [Bool.and_eq_true, Bool.or_eq_true, Bool.and_eq_false_iff, Bool.or_eq_false_iff, Bool.not_eq_true', Bool.not_eq_false', decide_eq_true_eq, decide_eq_false_iff_not] at hg4'
     exact OkL.step (v := (aG (pxL d))) (wt_some rfl rfl rfl) (ex_load_agg (i := 1) (vs := pxL d) rfl rfl tA47.a tA47.s rfl rfl) rfl (leB rfl) (OkL.step (v := (aG (pxL a))) (wt_some rfl rfl rfl) (ex_load_agg (i := 3) (vs := pxL a) rfl rfl tA47.a tA47.s rfl rfl) rfl (leB rfl) (OkL.step (v := (aG (pxL e))) (wt_some rfl rfl rfl) (ex_load_agg (i := 0) (vs := pxL e) rfl rfl tA47.a tA47.s rfl rfl) rfl (leB rfl) (OkL.call (v := (Value.bool (onR z x p))) (wt_some rfl rfl rfl) (op_call0 (args := [(aG (pxL d)), (aG (pxL a)), (aG (pxL e))]) rfl rfl Tryz.call76) (fun w hw => rpOn_ok d a e (by omega) w (inS hw 12 rfl ld) (inS hw 4 rfl la) (inS hw 16 rfl le)) rfl (leB rfl) (st (v := (Value.bool (onR z x p))) (ex_pick_false rfl rfl) (leB rfl) (OkL.nil (OkQ.mid (sS rfl (sS rfl (sS rfl (sS rfl (sS rfl (sS rfl (sS rfl (sS rfl (sS rfl (sS rfl (sS rfl (sS (by first | rfl | (rw [hg4]; rfl) | rw [hg4]) (sS (by first | rfl | (rw [hg4]; rfl) | rw [hg4]) (sN)))))))))))))) (List.Sublist.refl _)))))))
   refine OkL.nil (OkQ.subF (sC 4 rfl (sC 5 rfl (sC 6 rfl (sC 7 rfl (sC 8 rfl (sC 42 rfl (sN))))))) (OkQ.then_ ?_))
   refine OkC.cond rfl (fun hc2 => ?_) (fun hc2 => ?_)
   ·simp only [Bool.and_eq_true, Bool.or_eq_true, Bool.and_eq_false_iff, Bool.or_eq_false_iff, Bool.not_eq_true', Bool.not_eq_false', decide_eq_true_eq, decide_eq_false_iff_not] at hc2
    exact q4 (asg rfl rfl (OkL.nil (OkQ.then_ (OkC.ret (OkQ.then_ret (ret_one rfl (rd_tmp (v := (vI 2)) rfl) (fun w hw => ⟨by unfold whereR; simp_all [vN]; try (rw [if_neg (by grind)]; rfl), hw.out⟩)))))))
   ·simp only [Bool.and_eq_true, Bool.or_eq_true, Bool.and_eq_false_iff, Bool.or_eq_false_iff, Bool.not_eq_true', Bool.not_eq_false', decide_eq_true_eq, decide_eq_false_iff_not] at hc2
    refine OkC.skip (q2 (ldW 3 tA47 rfl rfl rfl rfl (ldW 2 tA47 rfl rfl rfl rfl (ldW 1 tA47 rfl rfl rfl rfl (cl Tryz.call77 (fun w hw => rpTurn_ok a b d (by omega) w (inS hw 4 rfl la) (inS hw 8 rfl lb) (inS hw 12 rfl ld)) rfl rfl rfl ?_)))))
    refine asg rfl rfl (q6 (sC 4 rfl (sC 5 rfl (sC 6 rfl (sC 7 rfl (sC 8 rfl (sC 9 rfl (sN))))))) (q4 (ldW 3 tA47 rfl rfl rfl rfl (ldW 2 tA47 rfl rfl rfl rfl (ldW 0 tA47 rfl rfl rfl rfl ?_)))))
    refine cl Tryz.call77 (fun w hw => rpTurn_ok a b e (by omega) w (inS hw 4 rfl la) (inS hw 8 rfl lb) (inS hw 16 rfl le)) rfl rfl rfl (mv rfl rfl (st (ex_eql (c := (decide (((turnP x y p).num.sign) = ((turnP x y z).num.sign)))) rfl rfl rfl) (leB rfl) (mv rfl rfl ?_)))
    refine OkL.mid (FM := [(4, (pP b1 0)), (5, (pP b2 0)), (6, (pP b3 0)), (7, (pP b4 0)), (8, (vI 0)), (9, (vI ((turnP x y z).num.sign))), (47, (aG (pxL a))), (48, (aG (pxL b))), (49, (aG (pxL e))), (50, (vI ((turnP x y p).num.sign))), (51, (vI ((turnP x y z).num.sign))), (52, (Value.bool (decide (((turnP x y p).num.sign) = ((turnP x y z).num.sign))))), (53, (Value.bool (decide (((turnP x y p).num.sign) = ((turnP x y z).num.sign))))), (60, (Value.bool ((decide (((turnP x y p).num.sign) = ((turnP x y z).num.sign))) && (decide (((turnP y z p).num.sign) = ((turnP x y z).num.sign))))))]) (LM := [blk b4 47 (pxL e), blk b3 47 (pxL d), blk b2 47 (pxL b), blk b1 47 (pxL a), nxR a.x.z.n, nxR a.x.m, nxR a.y.z.n, nxR a.y.m, nxR b.x.z.n, nxR b.x.m, nxR b.y.z.n, nxR b.y.m, nxR d.x.z.n, nxR d.x.m, nxR d.y.z.n, nxR d.y.m, nxR e.x.z.n, nxR e.x.m, nxR e.y.z.n, nxR e.y.m]) 7 ?_ ?_
    ·rcases Bool.eq_false_or_eq_true (decide (((turnP x y p).num.sign) = ((turnP x y z).num.sign))) with hg5 | hg5
     ·skip
      refine OkL.retell (k := 53) (u := Value.bool true) rfl (by rw [hg5]) ?_
      have hg5' := hg5
      replace hg5' := of_decide_eq_true hg5'
      refine OkL.step (v := (aG (pxL b))) (wt_some rfl rfl rfl) (ex_load_agg (i := 2) (vs := pxL b) rfl rfl tA47.a tA47.s rfl rfl) rfl (leB rfl) (OkL.step (v := (aG (pxL d))) (wt_some rfl rfl rfl) (ex_load_agg (i := 1) (vs := pxL d) rfl rfl tA47.a tA47.s rfl rfl) rfl (leB rfl) (OkL.step (v := (aG (pxL e))) (wt_some rfl rfl rfl) (ex_load_agg (i := 0) (vs := pxL e) rfl rfl tA47.a tA47.s rfl rfl) rfl (leB rfl) (OkL.call (v := (vI ((turnP y z p).num.sign))) (wt_some rfl rfl rfl) (op_call0 (args := [(aG (pxL b)), (aG (pxL d)), (aG (pxL e))]) rfl rfl Tryz.call77) (fun w hw => rpTurn_ok b d e (by omega) w (inS hw 8 rfl lb) (inS hw 12 rfl ld) (inS hw 16 rfl le)) rfl (leB rfl) (OkL.step (v := (vI ((turnP x y z).num.sign))) (wt_some rfl rfl rfl) (ex_move rfl) rfl (leB rfl) (OkL.step (v := (Value.bool (decide (((turnP y z p).num.sign) = ((turnP x y z).num.sign))))) (wt_some rfl rfl rfl) (ex_eql (c := (decide (((turnP y z p).num.sign) = ((turnP x y z).num.sign)))) rfl rfl rfl) rfl (leB rfl) ?_)))))
      exact st (v := (Value.bool (decide (((turnP y z p).num.sign) = ((turnP x y z).num.sign))))) (ex_pick_true rfl rfl) (leB rfl) (OkL.nil (OkQ.mid (sS rfl (sS rfl (sS rfl (sS rfl (sS rfl (sS rfl (sS rfl (sS rfl (sS rfl (sS rfl (sS rfl (sS rfl (sS (by first | rfl | (rw [hg5]; rfl) | rw [hg5]) (sS (by first | rfl | (rw [hg5]; rfl) | rw [hg5]) (sN))))))))))))))) (List.Sublist.refl _)))
     ·skip
      refine OkL.retell (k := 53) (u := Value.bool false) rfl (by rw [hg5]) ?_
      have hg5' := hg5
      replace hg5' := of_decide_eq_false hg5'
      refine OkL.skip (wt_not rfl rfl rfl) rfl (leB rfl) (OkL.skip (wt_not rfl rfl rfl) rfl (leB rfl) (OkL.skip (wt_not rfl rfl rfl) rfl (leB rfl) (OkL.skip (wt_not rfl rfl rfl) rfl (leB rfl) (OkL.skip (wt_not rfl rfl rfl) rfl (leB rfl) (OkL.skip (wt_not rfl rfl rfl) rfl (leB rfl) ?_)))))
      exact st (v := (Value.bool false)) (ex_pick_false rfl rfl) (leB rfl) (OkL.nil (OkQ.mid (sS rfl (sS rfl (sS rfl (sS rfl (sS rfl (sS rfl (sS rfl (sS rfl (sS rfl (sS rfl (sS rfl (sS rfl (sS (by first | rfl | (rw [hg5]; rfl) | rw [hg5]) (sS (by first | rfl | (rw [hg5]; rfl) | rw [hg5]) (sN))))))))))))))) (List.Sublist.refl _)))
    refine mv rfl rfl ?_
    refine OkL.mid (FM := [(4, (pP b1 0)), (5, (pP b2 0)), (6, (pP b3 0)), (7, (pP b4 0)), (8, (vI 0)), (9, (vI ((turnP x y z).num.sign))), (47, (aG (pxL a))), (48, (aG (pxL b))), (49, (aG (pxL e))), (50, (vI ((turnP x y p).num.sign))), (51, (vI ((turnP x y z).num.sign))), (52, (Value.bool (decide (((turnP x y p).num.sign) = ((turnP x y z).num.sign))))), (53, (Value.bool (decide (((turnP x y p).num.sign) = ((turnP x y z).num.sign))))), (60, (Value.bool ((decide (((turnP x y p).num.sign) = ((turnP x y z).num.sign))) && (decide (((turnP y z p).num.sign) = ((turnP x y z).num.sign)))))), (61, (Value.bool ((decide (((turnP x y p).num.sign) = ((turnP x y z).num.sign))) && (decide (((turnP y z p).num.sign) = ((turnP x y z).num.sign)))))), (68, (Value.bool (((decide (((turnP x y p).num.sign) = ((turnP x y z).num.sign))) && (decide (((turnP y z p).num.sign) = ((turnP x y z).num.sign)))) && (decide (((turnP z x p).num.sign) = ((turnP x y z).num.sign))))))]) (LM := [blk b4 47 (pxL e), blk b3 47 (pxL d), blk b2 47 (pxL b), blk b1 47 (pxL a), nxR a.x.z.n, nxR a.x.m, nxR a.y.z.n, nxR a.y.m, nxR b.x.z.n, nxR b.x.m, nxR b.y.z.n, nxR b.y.m, nxR d.x.z.n, nxR d.x.m, nxR d.y.z.n, nxR d.y.m, nxR e.x.z.n, nxR e.x.m, nxR e.y.z.n, nxR e.y.m]) 7 ?_ ?_
    ·rcases Bool.eq_false_or_eq_true ((decide (((turnP x y p).num.sign) = ((turnP x y z).num.sign))) && (decide (((turnP y z p).num.sign) = ((turnP x y z).num.sign)))) with hg6 | hg6
     ·skip
      refine OkL.retell (k := 61) (u := Value.bool true) rfl (by rw [hg6]) ?_
      have hg6' := hg6
      simp only [Bool.and_eq_true, Bool.or_eq_true, Bool.and_eq_false_iff, Bool.or_eq_false_iff, Bool.not_eq_true', Bool.not_eq_false', decide_eq_true_eq, decide_eq_false_iff_not] at hg6'
      refine OkL.step (v := (aG (pxL d))) (wt_some rfl rfl rfl) (ex_load_agg (i := 1) (vs := pxL d) rfl rfl tA47.a tA47.s rfl rfl) rfl (leB rfl) (OkL.step (v := (aG (pxL a))) (wt_some rfl rfl rfl) (ex_load_agg (i := 3) (vs := pxL a) rfl rfl tA47.a tA47.s rfl rfl) rfl (leB rfl) (OkL.step (v := (aG (pxL e))) (wt_some rfl rfl rfl) (ex_load_agg (i := 0) (vs := pxL e) rfl rfl tA47.a tA47.s rfl rfl) rfl (leB rfl) (OkL.call (v := (vI ((turnP z x p).num.sign))) (wt_some rfl rfl rfl) (op_call0 (args := [(aG (pxL d)), (aG (pxL a)), (aG (pxL e))]) rfl rfl Tryz.call77) (fun w hw => rpTurn_ok d a e (by omega) w (inS hw 12 rfl ld) (inS hw 4 rfl la) (inS hw 16 rfl le)) rfl (leB rfl) (OkL.step (v := (vI ((turnP x y z).num.sign))) (wt_some rfl rfl rfl) (ex_move rfl) rfl (leB rfl) (OkL.step (v := (Value.bool (decide (((turnP z x p).num.sign) = ((turnP x y z).num.sign))))) (wt_some rfl rfl rfl) (ex_eql (c := (decide (((turnP z x p).num.sign) = ((turnP x y z).num.sign)))) rfl rfl rfl) rfl (leB rfl) ?_)))))
      exact st (v := (Value.bool (decide (((turnP z x p).num.sign) = ((turnP x y z).num.sign))))) (ex_pick_true rfl rfl) (leB rfl) (OkL.nil (OkQ.mid (sS rfl (sS rfl (sS rfl (sS rfl (sS rfl (sS rfl (sS rfl (sS rfl (sS rfl (sS rfl (sS rfl (sS rfl (sS rfl (sS rfl (sS (by first | rfl | (rw [hg6]; rfl) | rw [hg6]) (sS (by first | rfl | (rw [hg6]; rfl) | rw [hg6]) (sN))))))))))))))))) (List.Sublist.refl _)))
     ·skip
      refine OkL.retell (k := 61) (u := Value.bool false) rfl (by rw [hg6]) ?_
      have hg6' := hg6
      simp only [Bool.and_eq_true, Bool.or_eq_true, Bool.and_eq_false_iff, Bool.or_eq_false_iff, Bool.not_eq_true', Bool.not_eq_false', decide_eq_true_eq, decide_eq_false_iff_not] at hg6'
      refine OkL.skip (wt_not rfl rfl rfl) rfl (leB rfl) (OkL.skip (wt_not rfl rfl rfl) rfl (leB rfl) (OkL.skip (wt_not rfl rfl rfl) rfl (leB rfl) (OkL.skip (wt_not rfl rfl rfl) rfl (leB rfl) (OkL.skip (wt_not rfl rfl rfl) rfl (leB rfl) (OkL.skip (wt_not rfl rfl rfl) rfl (leB rfl) ?_)))))
      exact st (v := (Value.bool false)) (ex_pick_false rfl rfl) (leB rfl) (OkL.nil (OkQ.mid (sS rfl (sS rfl (sS rfl (sS rfl (sS rfl (sS rfl (sS rfl (sS rfl (sS rfl (sS rfl (sS rfl (sS rfl (sS rfl (sS rfl (sS (by first | rfl | (rw [hg6]; rfl) | rw [hg6]) (sS (by first | rfl | (rw [hg6]; rfl) | rw [hg6]) (sN))))))))))))))))) (List.Sublist.refl _)))
    refine OkL.nil (OkQ.subF (sC 4 rfl (sC 5 rfl (sC 6 rfl (sC 7 rfl (sC 8 rfl (sC 68 rfl (sN))))))) (OkQ.then_ ?_))
    refine OkC.cond rfl (fun hc3 => ?_) (fun hc3 => ?_)
    ·simp only [Bool.and_eq_true, Bool.or_eq_true, Bool.and_eq_false_iff, Bool.or_eq_false_iff, Bool.not_eq_true', Bool.not_eq_false', decide_eq_true_eq, decide_eq_false_iff_not] at hc3
     exact q4 (asg rfl rfl (OkL.nil (OkQ.then_ (OkC.ret (OkQ.then_ret (ret_one rfl (rd_tmp (v := (vI 1)) rfl) (fun w hw => ⟨by unfold whereR; simp_all [vN]; try (rw [if_neg (by grind)]; rfl), hw.out⟩)))))))
    ·simp only [Bool.and_eq_true, Bool.or_eq_true, Bool.and_eq_false_iff, Bool.or_eq_false_iff, Bool.not_eq_true', Bool.not_eq_false', decide_eq_true_eq, decide_eq_false_iff_not] at hc3
     exact OkC.skip (q2 (asg rfl rfl (OkL.nil (OkQ.then_ (OkC.ret (ret_one rfl (rd_tmp (v := (vI 0)) rfl) (fun w hw => ⟨by unfold whereR; simp_all [vN]; try (rw [if_neg (by grind)]; rfl), hw.out⟩)))))))
end
end Go.Proofs.YtpkoldfmbebmgaaGreatDoor
