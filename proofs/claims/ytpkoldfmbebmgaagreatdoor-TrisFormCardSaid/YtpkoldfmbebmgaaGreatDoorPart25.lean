import Derived.Test.YtpkoldfmbebmgaaGreatDoorPart07
import Derived.Test.YtpkoldfmbebmgaaGreatDoorPart24
namespace Go.Proofs.YtpkoldfmbebmgaaGreatDoor
open Go Go.RowKit
set_option linter.unusedVariables false
set_option linter.unusedSimpArgs false
section
set_option maxRecDepth 100000
theorem fill_numq_38_0fracL_1fracL (x0 : Rat) (x1 : Rat) : Instr.fill ([(0, 5), (5, 5)].toArray[·]?) (ptL (⟨0, 0⟩ : Pt)).toArray [(0, .agg (fracL x0).toArray), (1, .agg (fracL x1).toArray)] = some (fracL x0 ++ fracL x1).toArray := by kernel_rfl
set_option maxHeartbeats 2000000 in
theorem Middle_ok (a b c : Pt) (hs : SzP a + SzP b + SzP c ≤ 65536) (h0 : turnP a b c ≠ 0) (w : World)  : Calls Tryz.prog 18 #[(aG (ptL a)), (aG (ptL b)), (aG (ptL c))] w (Gives w (Value.tuple #[(aG (ptL (a + scaleP (scaleP ⟨(c - a).y, -(c - a).x⟩ (dotP (b - a) (b - a)) - scaleP ⟨(b - a).y, -(b - a).x⟩ (dotP (c - a) (c - a))) (((1 : Int) : Rat) / (((2 : Int) : Rat) * crossP (b - a) (c - a)))))), (aG (fracL (dotP (a - (a + scaleP (scaleP ⟨(c - a).y, -(c - a).x⟩ (dotP (b - a) (b - a)) - scaleP ⟨(b - a).y, -(b - a).x⟩ (dotP (c - a) (c - a))) (((1 : Int) : Rat) / (((2 : Int) : Rat) * crossP (b - a) (c - a))))) (a - (a + scaleP (scaleP ⟨(c - a).y, -(c - a).x⟩ (dotP (b - a) (b - a)) - scaleP ⟨(b - a).y, -(b - a).x⟩ (dotP (c - a) (c - a))) (((1 : Int) : Rat) / (((2 : Int) : Rat) * crossP (b - a) (c - a)))))))), (vI 0)])) := by
 have h : ((2 : Int) : Rat) * crossP (b - a) (c - a) ≠ 0 := two_ne h0
 have hns := sign_ne h
 have i1 := Sz_int (z := 1) (by omega) (by omega)
 have i2 := Sz_int (z := 2) (by omega) (by omega)
 have r1 := SzP_right (c - a)
 have r2 := SzP_right (b - a)
 refine calls_of (args := [(aG (ptL a)), (aG (ptL b)), (aG (ptL c))]) Tryz.func18 rfl rfl (leB rfl) (OkC.subF (sC 0 rfl (sC 1 rfl (sC 2 rfl (sN)))) (q4 (bx (cs := ptL a) rfl rfl rfl fun b1 => bx (cs := ptL b) rfl rfl rfl fun b2 => bx (cs := ptL c) rfl rfl rfl fun b3 => ?_)))
 refine al tZ38 rfl fun b4 => al tZ36 rfl fun b5 => asg rfl rfl (q6 (sC 3 rfl (sC 4 rfl (sC 5 rfl (sC 6 rfl (sC 7 rfl (sC 8 rfl (sN))))))) (rN [(0, true), (1, true), (3, true), (4, true), (2, false), (5, false)] [⟨6, 9, 38, ptL (⟨0, 0⟩ : Pt)⟩, ⟨7, 10, 38, ptL (⟨0, 0⟩ : Pt)⟩] [(8, false), (9, false)] sr (by kernel_rfl) (fun _ _ d _ _ h => by cases d <;> exact h) (newC rfl rfl tZ38 rfl (newC rfl rfl tZ38 rfl (newN))) rfl (uW 3 tA38 rfl rfl rfl rfl rfl rfl ?_)))
 refine uW 4 tA38 rfl rfl rfl rfl rfl rfl (uW 2 tA38 rfl rfl rfl rfl rfl rfl (uW 4 tA38 rfl rfl rfl rfl rfl rfl (OkN.imp rfl fun EF EL => ?_)))
 have hz1 := SzP_sub b a
 refine cl Tryz.call48 (fun w hw => pSub_ok b a (by omega) w) rfl rfl rfl (OkN.back0 sr rfl (OkN.imp rfl fun EF EL => ?_))
 have hz2 := SzP_sub c a
 refine cl Tryz.call48 (fun w hw => pSub_ok c a (by omega) w) rfl rfl rfl (OkN.back0 sr rfl (OkN.news2 fun b6 b7 => OkE.imp rfl (stW0 rfl rfl rfl Tryz.sizeOf38 rfl rfl (OkE.back (sl (sl sr)) ?_))))
 refine OkE.imp rfl (stW1 rfl rfl rfl Tryz.sizeOf38 rfl rfl (OkE.back (sl (sl sr)) (OkE.nil (OkQ.subF (sC 3 rfl (sC 6 rfl (sC 7 rfl (sC 8 rfl (sC 10 rfl (sC 9 rfl (sN))))))) (q1 ?_)))))
 refine rN [(1, true), (2, true), (0, false), (3, false), (4, false)] [⟨5, 11, 36, fracL (0 : Rat)⟩] [(6, false)] sr (by kernel_rfl) (fun _ _ d _ _ h => by cases d <;> exact h) (newC rfl rfl tZ36 rfl (newN)) rfl (uW 0 tA38 rfl rfl rfl rfl rfl rfl (uW 1 tA38 rfl rfl rfl rfl rfl rfl (OkN.imp rfl fun EF EL => cl Tryz.call44 (fun w hw => fInt_ok (2 : Int) (by omega) (by omega) w) rfl rfl rfl (OkN.back0 sr rfl ?_))))
 refine OkN.imp rfl fun EF EL => ?_
 have hz3 := Sz_cross (b - a) (c - a)
 refine cl Tryz.call63 (fun w hw => pCross_ok (b - a) (c - a) (by omega) w) rfl rfl rfl (OkN.back0 sr rfl (OkN.imp rfl fun EF EL => ?_))
 have hz4 := Sz_mul ((2 : Int) : Rat) (crossP (b - a) (c - a))
 refine cl Tryz.call40 (fun w hw => fMul_ok ((2 : Int) : Rat) (crossP (b - a) (c - a)) (by (try simp only [Sz_neg]); omega) w) rfl rfl rfl (OkN.back0 sr rfl (OkN.news1 fun b8 => OkE.imp rfl (stW0 rfl rfl rfl Tryz.sizeOf36 rfl rfl (OkE.back (sl sr) ?_))))
 refine OkE.nil (OkQ.subF (sC 3 rfl (sC 6 rfl (sC 7 rfl (sC 8 rfl (sC 10 rfl (sC 9 rfl (sC 11 rfl (sN)))))))) (q1 (q4 (ldW 0 tA36 rfl rfl rfl rfl (cl Tryz.call20 (fun w hw => fSign_ok (((2 : Int) : Rat) * (crossP (b - a) (c - a))) w) rfl rfl rfl ?_)))))
 refine st (ex_eql (c := (decide (((((2 : Int) : Rat) * (crossP (b - a) (c - a))).num.sign) = (0 : Int)))) rfl rfl rfl) (leB rfl) (OkL.nil (OkQ.subF (sC 3 rfl (sC 6 rfl (sC 7 rfl (sC 8 rfl (sC 10 rfl (sC 9 rfl (sC 11 rfl (sC 28 rfl (sN))))))))) (OkQ.then_ ?_)))
 refine OkC.cond rfl (fun hc0 => ?_) (fun hc0 => ?_)
 ·replace hc0 := of_decide_eq_true hc0
  exact absurd hc0 hns
 ·replace hc0 := of_decide_eq_false hc0
  refine OkC.skip (q1 (rN [(0, true), (1, true), (2, true), (3, true), (6, true), (7, true), (10, true), (11, true), (12, true), (13, true), (16, true), (17, true), (4, false), (5, true), (8, false), (9, false), (14, false), (15, true), (18, false), (19, false), (20, false)] [⟨21, 12, 38, ptL (⟨0, 0⟩ : Pt)⟩] [(22, false)] sr (by kernel_rfl) (fun _ _ d _ _ h => by cases d <;> exact h) (newC rfl rfl tZ38 rfl (newN)) rfl (uE (v := (pP b7 5)) rfl (ex_fieldAddr rfl Tryz.underlying38 rfl Tryz.sizeOf36 rfl) rfl rfl (uA 2 (fracL ((c - a).y)) tA36 rfl rfl rfl rfl rfl rfl rfl (uE (v := (pP b7 0)) rfl (ex_fieldAddr rfl Tryz.underlying38 rfl Tryz.sizeOf36 rfl) rfl rfl ?_)))))
  refine uA 2 (fracL ((c - a).x)) tA36 rfl rfl rfl rfl rfl rfl rfl (uW 1 tA38 rfl rfl rfl rfl rfl rfl (uW 1 tA38 rfl rfl rfl rfl rfl rfl (uE (v := (pP b6 5)) rfl (ex_fieldAddr rfl Tryz.underlying38 rfl Tryz.sizeOf36 rfl) rfl rfl (uA 1 (fracL ((b - a).y)) tA36 rfl rfl rfl rfl rfl rfl rfl (uE (v := (pP b6 0)) rfl (ex_fieldAddr rfl Tryz.underlying38 rfl Tryz.sizeOf36 rfl) rfl rfl ?_)))))
  refine uA 1 (fracL ((b - a).x)) tA36 rfl rfl rfl rfl rfl rfl rfl (uW 2 tA38 rfl rfl rfl rfl rfl rfl (uW 2 tA38 rfl rfl rfl rfl rfl rfl (OkN.imp rfl fun EF EL => ?_)))
  have hz5 := Sz_neg ((c - a).x)
  refine cl Tryz.call37 (fun w hw => fNeg_ok ((c - a).x) w) rfl rfl rfl (OkN.back0 sr rfl (uE (v := (aG (fracL ((c - a).y) ++ fracL (-((c - a).x))))) rfl (ex_build_struct (zs := ptL (⟨0, 0⟩ : Pt)) (vs := fracL ((c - a).y) ++ fracL (-((c - a).x))) (pv := [(0, (aG (fracL ((c - a).y)))), (1, (aG (fracL (-((c - a).x)))))]) (places := [(0, 5), (5, 5)]) Tryz.zeroValue38 Tryz.underlying38 (fun w => by simp [Tryz.sizeOf36]) rfl (fill_numq_38_0fracL_1fracL ((c - a).y) (-((c - a).x)))) rfl rfl (OkN.imp rfl fun EF EL => ?_)))
  have hz6 := Sz_dot (b - a) (b - a)
  refine cl Tryz.call47 (fun w hw => pDot_ok (b - a) (b - a) (by omega) w) rfl rfl rfl (OkN.back0 sr rfl (OkN.imp rfl fun EF EL => ?_))
  have hz7 := SzP_scale (⟨(c - a).y, -((c - a).x)⟩ : Pt) (dotP (b - a) (b - a))
  refine cl Tryz.call64 (fun w hw => pScale_ok (⟨(c - a).y, -((c - a).x)⟩ : Pt) (dotP (b - a) (b - a)) (by omega) w) rfl rfl rfl (OkN.back0 sr rfl (OkN.imp rfl fun EF EL => ?_))
  have hz8 := Sz_neg ((b - a).x)
  refine cl Tryz.call37 (fun w hw => fNeg_ok ((b - a).x) w) rfl rfl rfl (OkN.back0 sr rfl (uE (v := (aG (fracL ((b - a).y) ++ fracL (-((b - a).x))))) rfl (ex_build_struct (zs := ptL (⟨0, 0⟩ : Pt)) (vs := fracL ((b - a).y) ++ fracL (-((b - a).x))) (pv := [(0, (aG (fracL ((b - a).y)))), (1, (aG (fracL (-((b - a).x)))))]) (places := [(0, 5), (5, 5)]) Tryz.zeroValue38 Tryz.underlying38 (fun w => by simp [Tryz.sizeOf36]) rfl (fill_numq_38_0fracL_1fracL ((b - a).y) (-((b - a).x)))) rfl rfl (OkN.imp rfl fun EF EL => ?_)))
  have hz9 := Sz_dot (c - a) (c - a)
  refine cl Tryz.call47 (fun w hw => pDot_ok (c - a) (c - a) (by omega) w) rfl rfl rfl (OkN.back0 sr rfl (OkN.imp rfl fun EF EL => ?_))
  have hz10 := SzP_scale (⟨(b - a).y, -((b - a).x)⟩ : Pt) (dotP (c - a) (c - a))
  refine cl Tryz.call64 (fun w hw => pScale_ok (⟨(b - a).y, -((b - a).x)⟩ : Pt) (dotP (c - a) (c - a)) (by omega) w) rfl rfl rfl (OkN.back0 sr rfl (OkN.imp rfl fun EF EL => ?_))
  have hz11 := SzP_sub (scaleP (⟨(c - a).y, -((c - a).x)⟩ : Pt) (dotP (b - a) (b - a))) (scaleP (⟨(b - a).y, -((b - a).x)⟩ : Pt) (dotP (c - a) (c - a)))
  refine cl Tryz.call48 (fun w hw => pSub_ok (scaleP (⟨(c - a).y, -((c - a).x)⟩ : Pt) (dotP (b - a) (b - a))) (scaleP (⟨(b - a).y, -((b - a).x)⟩ : Pt) (dotP (c - a) (c - a))) (by omega) w) rfl rfl rfl (OkN.back0 sr rfl (OkN.news1 fun b9 => OkE.imp rfl (stW0 rfl rfl rfl Tryz.sizeOf38 rfl rfl (OkE.back (sl sr) ?_))))
  refine OkE.nil (OkQ.subF (sC 3 rfl (sC 6 rfl (sC 7 rfl (sC 8 rfl (sC 10 rfl (sC 9 rfl (sC 11 rfl (sC 12 rfl (sN))))))))) (q1 (rN [(1, true), (0, false), (2, false), (3, true), (4, true), (5, true)] [⟨6, 13, 36, fracL (0 : Rat)⟩] [(7, false), (8, true)] sr (by kernel_rfl) (fun _ _ d _ _ h => by cases d <;> exact h) (newC rfl rfl tZ36 rfl (newN)) rfl (uW 1 tA36 rfl rfl rfl rfl rfl rfl (OkN.imp rfl fun EF EL => ?_)))))
  refine cl Tryz.call44 (fun w hw => fInt_ok (1 : Int) (by omega) (by omega) w) rfl rfl rfl (OkN.back0 sr rfl (OkN.imp rfl fun EF EL => ?_))
  have hz12 := Sz_div (a := ((1 : Int) : Rat)) (b := ((2 : Int) : Rat) * (crossP (b - a) (c - a))) (by assumption)
  refine cl Tryz.call54 (fun w hw => fDiv_ok ((1 : Int) : Rat) (((2 : Int) : Rat) * (crossP (b - a) (c - a))) (by omega) (by assumption) w) rfl rfl rfl (OkN.back0 sr rfl (uM rfl rfl rfl rfl (uE rfl (ex_extract (v := (aG (fracL (((1 : Int) : Rat) / (((2 : Int) : Rat) * (crossP (b - a) (c - a))))))) rfl rfl) rfl rfl (uE rfl (ex_extract (v := (vI 0)) rfl rfl) rfl rfl (OkN.news1 fun b10 => ?_)))))
  refine OkE.imp rfl (stW0 rfl rfl rfl Tryz.sizeOf36 rfl rfl (OkE.back (sl sr) (pS rfl rfl rfl (OkE.nil (OkQ.subF (sC 3 rfl (sC 6 rfl (sC 7 rfl (sC 8 rfl (sC 10 rfl (sC 9 rfl (sC 11 rfl (sC 12 rfl (sC 13 rfl (sN)))))))))) ?_)))))
  refine q1 (rG [(0, true), (1, true), (2, true), (3, false), (4, false), (5, false)] (sk (sk (sk (sk (sk (sk (sl sr))))))) (by kernel_rfl) (fun _ _ d _ _ h => by cases d <;> exact h) (pW 8 tA38 rfl rfl rfl rfl rfl (pW 1 tA38 rfl rfl rfl rfl rfl (pW 0 tA36 rfl rfl rfl rfl rfl (OkE.imp rfl ?_)))))
  have hz13 := SzP_scale ((scaleP (⟨(c - a).y, -((c - a).x)⟩ : Pt) (dotP (b - a) (b - a))) - (scaleP (⟨(b - a).y, -((b - a).x)⟩ : Pt) (dotP (c - a) (c - a)))) (((1 : Int) : Rat) / (((2 : Int) : Rat) * (crossP (b - a) (c - a))))
  refine cl Tryz.call64 (fun w hw => pScale_ok ((scaleP (⟨(c - a).y, -((c - a).x)⟩ : Pt) (dotP (b - a) (b - a))) - (scaleP (⟨(b - a).y, -((b - a).x)⟩ : Pt) (dotP (c - a) (c - a)))) (((1 : Int) : Rat) / (((2 : Int) : Rat) * (crossP (b - a) (c - a)))) (by omega) w) rfl rfl rfl (OkE.back (sk (sk (sk (sk (sk (sk (sl sr))))))) (OkE.imp rfl ?_))
  have hz14 := SzP_add a (scaleP ((scaleP (⟨(c - a).y, -((c - a).x)⟩ : Pt) (dotP (b - a) (b - a))) - (scaleP (⟨(b - a).y, -((b - a).x)⟩ : Pt) (dotP (c - a) (c - a)))) (((1 : Int) : Rat) / (((2 : Int) : Rat) * (crossP (b - a) (c - a)))))
  refine cl Tryz.call38 (fun w hw => pAdd_ok a (scaleP ((scaleP (⟨(c - a).y, -((c - a).x)⟩ : Pt) (dotP (b - a) (b - a))) - (scaleP (⟨(b - a).y, -((b - a).x)⟩ : Pt) (dotP (c - a) (c - a)))) (((1 : Int) : Rat) / (((2 : Int) : Rat) * (crossP (b - a) (c - a))))) (by omega) w) rfl rfl rfl (OkE.back (sk (sk (sk (sk (sk (sk (sl sr))))))) (OkE.imp rfl (OkL.store' (i := 6) (off := 0) (vs := ptL (a + (scaleP ((scaleP (⟨(c - a).y, -((c - a).x)⟩ : Pt) (dotP (b - a) (b - a))) - (scaleP (⟨(b - a).y, -((b - a).x)⟩ : Pt) (dotP (c - a) (c - a)))) (((1 : Int) : Rat) / (((2 : Int) : Rat) * (crossP (b - a) (c - a))))))) (cs' := ptL (a + (scaleP ((scaleP (⟨(c - a).y, -((c - a).x)⟩ : Pt) (dotP (b - a) (b - a))) - (scaleP (⟨(b - a).y, -((b - a).x)⟩ : Pt) (dotP (c - a) (c - a)))) (((1 : Int) : Rat) / (((2 : Int) : Rat) * (crossP (b - a) (c - a))))))) (L' := [blk b10 36 (fracL (((1 : Int) : Rat) / (((2 : Int) : Rat) * (crossP (b - a) (c - a))))), blk b9 38 (ptL ((scaleP (⟨(c - a).y, -((c - a).x)⟩ : Pt) (dotP (b - a) (b - a))) - (scaleP (⟨(b - a).y, -((b - a).x)⟩ : Pt) (dotP (c - a) (c - a))))), blk b8 36 (fracL (((2 : Int) : Rat) * (crossP (b - a) (c - a)))), blk b6 38 (ptL (b - a)), blk b7 38 (ptL (c - a)), blk b5 36 (fracL (0 : Rat)), blk b4 38 (ptL (a + (scaleP ((scaleP (⟨(c - a).y, -((c - a).x)⟩ : Pt) (dotP (b - a) (b - a))) - (scaleP (⟨(b - a).y, -((b - a).x)⟩ : Pt) (dotP (c - a) (c - a)))) (((1 : Int) : Rat) / (((2 : Int) : Rat) * (crossP (b - a) (c - a))))))), blk b3 38 (ptL c), blk b2 38 (ptL b), blk b1 38 (ptL a)]) (wt_none rfl) rfl rfl rfl rfl rfl Tryz.sizeOf38 rfl rfl rfl rfl (OkE.back (sk (sk (sk (sk (sk (sk (sl sr))))))) (OkE.nil ?_)))))
  refine OkQ.subF (sC 3 rfl (sC 6 rfl (sC 7 rfl (sC 8 rfl (sC 10 rfl (sC 9 rfl (sC 11 rfl (sC 12 rfl (sC 13 rfl (sN)))))))))) (q1 ?_)
  have hz15 := SzP_sub a (a + (scaleP ((scaleP (⟨(c - a).y, -((c - a).x)⟩ : Pt) (dotP (b - a) (b - a))) - (scaleP (⟨(b - a).y, -((b - a).x)⟩ : Pt) (dotP (c - a) (c - a)))) (((1 : Int) : Rat) / (((2 : Int) : Rat) * (crossP (b - a) (c - a))))))
  have hz16 := Sz_dot (a - (a + (scaleP ((scaleP (⟨(c - a).y, -((c - a).x)⟩ : Pt) (dotP (b - a) (b - a))) - (scaleP (⟨(b - a).y, -((b - a).x)⟩ : Pt) (dotP (c - a) (c - a)))) (((1 : Int) : Rat) / (((2 : Int) : Rat) * (crossP (b - a) (c - a))))))) (a - (a + (scaleP ((scaleP (⟨(c - a).y, -((c - a).x)⟩ : Pt) (dotP (b - a) (b - a))) - (scaleP (⟨(b - a).y, -((b - a).x)⟩ : Pt) (dotP (c - a) (c - a)))) (((1 : Int) : Rat) / (((2 : Int) : Rat) * (crossP (b - a) (c - a)))))))
  refine dA (sk (sk (sk (sk (sk (sl (sl sr))))))) (dC (dC (dC (dC (dN))))) (fun _ => vC (vc_look0 (v := fun β => (aG (ptL (a + (scaleP ((scaleP (⟨(c - a).y, -((c - a).x)⟩ : Pt) (dotP (b - a) (b - a))) - (scaleP (⟨(b - a).y, -((b - a).x)⟩ : Pt) (dotP (c - a) (c - a)))) (((1 : Int) : Rat) / (((2 : Int) : Rat) * (crossP (b - a) (c - a))))))))) (ks := []) (G := fun β => [(6, (pP b4 0))]) (fun β => sF (by kernel_rfl)) (fun β => ex_load_agg (i := 6) (vs := ptL (a + (scaleP ((scaleP (⟨(c - a).y, -((c - a).x)⟩ : Pt) (dotP (b - a) (b - a))) - (scaleP (⟨(b - a).y, -((b - a).x)⟩ : Pt) (dotP (c - a) (c - a)))) (((1 : Int) : Rat) / (((2 : Int) : Rat) * (crossP (b - a) (c - a))))))) rfl rfl tA38.a tA38.s rfl rfl)) (vC (vc_look0 (v := fun β => (aG (ptL (a + (scaleP ((scaleP (⟨(c - a).y, -((c - a).x)⟩ : Pt) (dotP (b - a) (b - a))) - (scaleP (⟨(b - a).y, -((b - a).x)⟩ : Pt) (dotP (c - a) (c - a)))) (((1 : Int) : Rat) / (((2 : Int) : Rat) * (crossP (b - a) (c - a))))))))) (ks := []) (G := fun β => [(6, (pP b4 0))]) (fun β => sF (by kernel_rfl)) (fun β => ex_load_agg (i := 6) (vs := ptL (a + (scaleP ((scaleP (⟨(c - a).y, -((c - a).x)⟩ : Pt) (dotP (b - a) (b - a))) - (scaleP (⟨(b - a).y, -((b - a).x)⟩ : Pt) (dotP (c - a) (c - a)))) (((1 : Int) : Rat) / (((2 : Int) : Rat) * (crossP (b - a) (c - a))))))) rfl rfl tA38.a tA38.s rfl rfl)) (vC (vcW 7 3 tA38 rfl rfl (fun _ => by kernel_rfl)) (vC (vcK [64, 65] Tryz.call51 (fun w hw => pSquare_ok (a + (scaleP ((scaleP (⟨(c - a).y, -((c - a).x)⟩ : Pt) (dotP (b - a) (b - a))) - (scaleP (⟨(b - a).y, -((b - a).x)⟩ : Pt) (dotP (c - a) (c - a)))) (((1 : Int) : Rat) / (((2 : Int) : Rat) * (crossP (b - a) (c - a)))))) a (by omega) w) rfl rfl (fun _ => by kernel_rfl)) (VcAll.nil))))) (by kernel_rfl) (by kernel_rfl) (fun _ _ d _ _ h => by cases d <;> exact h) (fun β _ => ?_)
  refine hS0 (F' := [(3, (pP b1 0)), (6, (pP b4 0)), (7, (pP b5 0)), (8, (vI 0)), (10, (pP b7 0)), (9, (pP b6 0)), (11, (pP b8 0)), (12, (pP b9 0)), (13, (pP b10 0)), (63, (aG (ptL (a + (scaleP ((scaleP (⟨(c - a).y, -((c - a).x)⟩ : Pt) (dotP (b - a) (b - a))) - (scaleP (⟨(b - a).y, -((b - a).x)⟩ : Pt) (dotP (c - a) (c - a)))) (((1 : Int) : Rat) / (((2 : Int) : Rat) * (crossP (b - a) (c - a))))))))), (66, (aG (fracL (dotP (a - (a + (scaleP ((scaleP (⟨(c - a).y, -((c - a).x)⟩ : Pt) (dotP (b - a) (b - a))) - (scaleP (⟨(b - a).y, -((b - a).x)⟩ : Pt) (dotP (c - a) (c - a)))) (((1 : Int) : Rat) / (((2 : Int) : Rat) * (crossP (b - a) (c - a))))))) (a - (a + (scaleP ((scaleP (⟨(c - a).y, -((c - a).x)⟩ : Pt) (dotP (b - a) (b - a))) - (scaleP (⟨(b - a).y, -((b - a).x)⟩ : Pt) (dotP (c - a) (c - a)))) (((1 : Int) : Rat) / (((2 : Int) : Rat) * (crossP (b - a) (c - a)))))))))))]) rfl rfl (OkLH.store' (i := 6) (off := 0) (vs := ptL (a + (scaleP ((scaleP (⟨(c - a).y, -((c - a).x)⟩ : Pt) (dotP (b - a) (b - a))) - (scaleP (⟨(b - a).y, -((b - a).x)⟩ : Pt) (dotP (c - a) (c - a)))) (((1 : Int) : Rat) / (((2 : Int) : Rat) * (crossP (b - a) (c - a))))))) (cs' := ptL (a + (scaleP ((scaleP (⟨(c - a).y, -((c - a).x)⟩ : Pt) (dotP (b - a) (b - a))) - (scaleP (⟨(b - a).y, -((b - a).x)⟩ : Pt) (dotP (c - a) (c - a)))) (((1 : Int) : Rat) / (((2 : Int) : Rat) * (crossP (b - a) (c - a))))))) (L' := [blk b10 36 (fracL (((1 : Int) : Rat) / (((2 : Int) : Rat) * (crossP (b - a) (c - a))))), blk b9 38 (ptL ((scaleP (⟨(c - a).y, -((c - a).x)⟩ : Pt) (dotP (b - a) (b - a))) - (scaleP (⟨(b - a).y, -((b - a).x)⟩ : Pt) (dotP (c - a) (c - a))))), blk b8 36 (fracL (((2 : Int) : Rat) * (crossP (b - a) (c - a)))), blk b6 38 (ptL (b - a)), blk b7 38 (ptL (c - a)), blk b5 36 (fracL (0 : Rat)), blk b4 38 (ptL (a + (scaleP ((scaleP (⟨(c - a).y, -((c - a).x)⟩ : Pt) (dotP (b - a) (b - a))) - (scaleP (⟨(b - a).y, -((b - a).x)⟩ : Pt) (dotP (c - a) (c - a)))) (((1 : Int) : Rat) / (((2 : Int) : Rat) * (crossP (b - a) (c - a))))))), blk b3 38 (ptL c), blk b2 38 (ptL b), blk b1 38 (ptL a)]) (sk (sk (sk (sk (sk (sl (sl sr))))))) (wt_none rfl) rfl rfl rfl rfl rfl Tryz.sizeOf38 rfl rfl rfl rfl (OkLH.store' (i := 5) (off := 0) (vs := fracL (dotP (a - (a + (scaleP ((scaleP (⟨(c - a).y, -((c - a).x)⟩ : Pt) (dotP (b - a) (b - a))) - (scaleP (⟨(b - a).y, -((b - a).x)⟩ : Pt) (dotP (c - a) (c - a)))) (((1 : Int) : Rat) / (((2 : Int) : Rat) * (crossP (b - a) (c - a))))))) (a - (a + (scaleP ((scaleP (⟨(c - a).y, -((c - a).x)⟩ : Pt) (dotP (b - a) (b - a))) - (scaleP (⟨(b - a).y, -((b - a).x)⟩ : Pt) (dotP (c - a) (c - a)))) (((1 : Int) : Rat) / (((2 : Int) : Rat) * (crossP (b - a) (c - a))))))))) (cs' := fracL (dotP (a - (a + (scaleP ((scaleP (⟨(c - a).y, -((c - a).x)⟩ : Pt) (dotP (b - a) (b - a))) - (scaleP (⟨(b - a).y, -((b - a).x)⟩ : Pt) (dotP (c - a) (c - a)))) (((1 : Int) : Rat) / (((2 : Int) : Rat) * (crossP (b - a) (c - a))))))) (a - (a + (scaleP ((scaleP (⟨(c - a).y, -((c - a).x)⟩ : Pt) (dotP (b - a) (b - a))) - (scaleP (⟨(b - a).y, -((b - a).x)⟩ : Pt) (dotP (c - a) (c - a)))) (((1 : Int) : Rat) / (((2 : Int) : Rat) * (crossP (b - a) (c - a))))))))) (L' := [blk b10 36 (fracL (((1 : Int) : Rat) / (((2 : Int) : Rat) * (crossP (b - a) (c - a))))), blk b9 38 (ptL ((scaleP (⟨(c - a).y, -((c - a).x)⟩ : Pt) (dotP (b - a) (b - a))) - (scaleP (⟨(b - a).y, -((b - a).x)⟩ : Pt) (dotP (c - a) (c - a))))), blk b8 36 (fracL (((2 : Int) : Rat) * (crossP (b - a) (c - a)))), blk b6 38 (ptL (b - a)), blk b7 38 (ptL (c - a)), blk b5 36 (fracL (dotP (a - (a + (scaleP ((scaleP (⟨(c - a).y, -((c - a).x)⟩ : Pt) (dotP (b - a) (b - a))) - (scaleP (⟨(b - a).y, -((b - a).x)⟩ : Pt) (dotP (c - a) (c - a)))) (((1 : Int) : Rat) / (((2 : Int) : Rat) * (crossP (b - a) (c - a))))))) (a - (a + (scaleP ((scaleP (⟨(c - a).y, -((c - a).x)⟩ : Pt) (dotP (b - a) (b - a))) - (scaleP (⟨(b - a).y, -((b - a).x)⟩ : Pt) (dotP (c - a) (c - a)))) (((1 : Int) : Rat) / (((2 : Int) : Rat) * (crossP (b - a) (c - a))))))))), blk b4 38 (ptL (a + (scaleP ((scaleP (⟨(c - a).y, -((c - a).x)⟩ : Pt) (dotP (b - a) (b - a))) - (scaleP (⟨(b - a).y, -((b - a).x)⟩ : Pt) (dotP (c - a) (c - a)))) (((1 : Int) : Rat) / (((2 : Int) : Rat) * (crossP (b - a) (c - a))))))), blk b3 38 (ptL c), blk b2 38 (ptL b), blk b1 38 (ptL a)]) (sk (sk (sk (sk (sk (sl (sl sr))))))) (wt_none rfl) rfl rfl rfl rfl rfl Tryz.sizeOf36 rfl rfl rfl rfl (OkLH.step (v := (vI 0)) (sk (sk (sk (sk (sk (sl (sl sr))))))) (wt_none rfl) (ex_assign rfl) rfl (leB rfl) (OkLH.nil (OkQ.subF (sC 3 rfl (sC 6 rfl (sC 7 rfl (sC 8 rfl (sC 10 rfl (sC 9 rfl (sC 11 rfl (sC 12 rfl (sC 13 rfl (sN)))))))))) ?_)))))
  exact OkQ.then_ (OkC.ret (ret_three rfl (rd_agg (i := 6) (cs := ptL (a + (scaleP ((scaleP (⟨(c - a).y, -((c - a).x)⟩ : Pt) (dotP (b - a) (b - a))) - (scaleP (⟨(b - a).y, -((b - a).x)⟩ : Pt) (dotP (c - a) (c - a)))) (((1 : Int) : Rat) / (((2 : Int) : Rat) * (crossP (b - a) (c - a))))))) rfl rfl Tryz.isAgg38 Tryz.sizeOf38 rfl) (rd_agg (i := 5) (cs := fracL (dotP (a - (a + (scaleP ((scaleP (⟨(c - a).y, -((c - a).x)⟩ : Pt) (dotP (b - a) (b - a))) - (scaleP (⟨(b - a).y, -((b - a).x)⟩ : Pt) (dotP (c - a) (c - a)))) (((1 : Int) : Rat) / (((2 : Int) : Rat) * (crossP (b - a) (c - a))))))) (a - (a + (scaleP ((scaleP (⟨(c - a).y, -((c - a).x)⟩ : Pt) (dotP (b - a) (b - a))) - (scaleP (⟨(b - a).y, -((b - a).x)⟩ : Pt) (dotP (c - a) (c - a)))) (((1 : Int) : Rat) / (((2 : Int) : Rat) * (crossP (b - a) (c - a))))))))) rfl rfl Tryz.isAgg36 Tryz.sizeOf36 rfl) (rd_tmp (v := (vI 0)) rfl) (fun w hw => ⟨rfl, hw.out⟩)))
end
section
set_option maxRecDepth 100000
set_option maxHeartbeats 2000000 in
theorem Where_ok (a b c p : Pt) (hs : SzP a + SzP b + SzP c + SzP p ≤ 268435456) (h : turnP a b c ≠ 0) (w : World)  : Calls Tryz.prog 34 #[(aG (ptL a)), (aG (ptL b)), (aG (ptL c)), (aG (ptL p))] w (Gives w (vN (whereN (turnP p b c / turnP a b c) (turnP a p c / turnP a b c) (turnP a b p / turnP a b c)))) := by
 obtain ⟨l0, hl0⟩ : ∃ l, l = turnP p b c / turnP a b c := ⟨_, rfl⟩
 obtain ⟨l1, hl1⟩ : ∃ l, l = turnP a p c / turnP a b c := ⟨_, rfl⟩
 obtain ⟨l2, hl2⟩ : ∃ l, l = turnP a b p / turnP a b c := ⟨_, rfl⟩
 refine calls_of (args := [(aG (ptL a)), (aG (ptL b)), (aG (ptL c)), (aG (ptL p))]) Tryz.func34 rfl rfl (leB rfl) (OkC.subF (sC 0 rfl (sC 1 rfl (sC 2 rfl (sC 3 rfl (sN))))) (q4 (bx (cs := ptL a) rfl rfl rfl fun b1 => bx (cs := ptL b) rfl rfl rfl fun b2 => bx (cs := ptL c) rfl rfl rfl fun b3 => ?_)))
 refine bx (cs := ptL p) rfl rfl rfl fun b4 => asg rfl rfl (q3 (sC 4 rfl (sC 5 rfl (sC 6 rfl (sC 7 rfl (sC 8 rfl (sN)))))) (ldW 3 tA38 rfl rfl rfl rfl (ldW 2 tA38 rfl rfl rfl rfl (ldW 1 tA38 rfl rfl rfl rfl ?_))))
 refine ldW 0 tA38 rfl rfl rfl rfl (cl (args := [(aG (ptL a)), (aG (ptL b)), (aG (ptL c)), (aG (ptL p))]) (v := (Value.tuple #[(aG (fracL l0 ++ fracL l1 ++ fracL l2)), (vI 0)])) Tryz.call26 (fun w hw => (by rw [hl0, hl1, hl2]; exact Bary_ok a b c p (by omega) h w)) rfl rfl rfl (mv rfl rfl (st (ex_extract (v := (aG (fracL l0 ++ fracL l1 ++ fracL l2))) rfl rfl) (leB rfl) (st (ex_extract (v := (vI 0)) rfl rfl) (leB rfl) (al tZ56 rfl fun b5 => ?_)))))
 refine stW0 rfl rfl rfl Tryz.sizeOf56 rfl rfl (asg rfl rfl (q6 (sC 8 rfl (sC 9 rfl (sC 10 rfl (sN)))) (q4 (mv rfl rfl (st (ex_neq (c := false) rfl rfl (by decide)) (leB rfl) ?_)))))
 refine OkL.nil (OkQ.subF (sC 8 rfl (sC 9 rfl (sC 22 rfl (sN)))) (OkQ.then_ (OkC.cond_false rfl (OkC.skip (q2 ?_)))))
 refine asg rfl rfl (OkL.nil (q1 (q4 (mv rfl rfl (OkL.nil ?_)))))
 refine OkQ.then_ (OkC.block (OkC.unroll 5 (OkR.step (q4 (st (ex_lss (c := true) rfl rfl (by decide)) (leB rfl) ?_)))))
 refine OkL.nil (q1 (OkC.cond_true rfl (OkC.skip (q1 (OkC.block ?_)))))
 refine q4 (mv rfl rfl (asg rfl rfl (OkL.nil (q2 (mv rfl rfl ?_)))))
 refine st (v := (pP b5 0)) (ex_indexAddr_array (j := 0) rfl rfl Tryz.underlying56 Tryz.sizeOf36 rfl (by decide) rfl) (leB rfl) (ldA 0 (fracL l0) tA36 rfl rfl rfl rfl rfl (cl Tryz.call20 (fun w hw => fSign_ok l0 w) rfl rfl rfl (OkL.nil (OkQ.then_ ?_))))
 refine OkC.join1 (J := fun (pl0 : Nat) => pl0 = 1 + zq l0 ∧ ¬ l0.num.sign = -1) (FI := fun (pl0 : Nat) => [(9, (pP b5 0)), (23, (vI 0)), (24, (Value.bool true)), (25, (vI 0)), (12, (vI 0)), (26, (vI 0)), (27, (pP b5 0)), (28, (aG (fracL l0))), (29, (vI l0.num.sign)), (11, (vN pl0))]) (LI := fun (pl0 : Nat) => [blk b5 56 (fracL l0 ++ fracL l1 ++ fracL l2), blk b4 38 (ptL p), blk b3 38 (ptL c), blk b2 38 (ptL b), blk b1 38 (ptL a)]) ?_ ?_
 ·skip
  refine OkC.block (q4 (st (ex_eql (c := (decide (l0.num.sign = (-1 : Int)))) rfl rfl rfl) (leB rfl) (asg rfl rfl (OkL.nil (OkQ.then_ ?_)))))
  refine OkC.cond rfl (fun hc2 => ?_) (fun hc2 => ?_)
  ·replace hc2 := of_decide_eq_true hc2
   have hz := where_neg0 (x := l0) (y := l1) (z := l2) hc2
   refine q4 (asg rfl rfl (OkL.nil (OkQ.then_ (OkC.ret (OkQ.in_ret ?_)))))
   exact OkQ.join1_ret (OkQ.in_ret (OkQ.then_ret (OkQ.then_ret (OkQ.in_ret (OkQ.then_ret (ret_one rfl (rd_tmp (v := (vI 0)) rfl) (fun w hw => ⟨by rw [← hl0, ← hl1, ← hl2, hz]; rfl, hw.out⟩)))))))
  ·replace hc2 := of_decide_eq_false hc2
   refine q4 (st (ex_eql (c := (decide (l0.num.sign = (0 : Int)))) rfl rfl rfl) (leB rfl) (asg rfl rfl (OkL.nil (OkQ.then_ ?_))))
   refine OkC.cond rfl (fun hc3 => ?_) (fun hc3 => ?_)
   ·replace hc3 := of_decide_eq_true hc3
    exact OkC.region (mv rfl rfl (st (ex_add (c := (2 : Int)) rfl rfl (by decide)) (leB rfl) (asg rfl rfl (OkL.nil (OkQ.in_normal (OkQ.join1 2 (⟨by simp [zq_one hc3], hc2⟩) (sS rfl (sS rfl (sS rfl (sS rfl (sS rfl (sS rfl (sS rfl (sS rfl (sS rfl (sS rfl (sN))))))))))) sr))))))
   ·replace hc3 := of_decide_eq_false hc3
    exact OkC.skip (OkQ.in_normal (OkQ.join1 1 (⟨by simp [zq_zero hc3], hc2⟩) (sS rfl (sS rfl (sS rfl (sS rfl (sS rfl (sS rfl (sS rfl (sS rfl (sS rfl (sS rfl (sN))))))))))) sr))
 ·intro pl0 hJ
  replace hJ : pl0 = 1 + zq l0 ∧ ¬ l0.num.sign = -1 := hJ
  obtain ⟨e0, n0⟩ := hJ
  refine OkQ.sub (F' := [(9, (pP b5 0)), (23, (vI 0)), (24, (Value.bool true)), (25, (vI 0)), (12, (vI 0)), (26, (vI 0)), (27, (pP b5 0)), (28, (aG (fracL l0))), (29, (vI l0.num.sign)), (11, (vN pl0))]) (L' := [blk b5 56 (fracL l0 ++ fracL l1 ++ fracL l2), blk b4 38 (ptL p), blk b3 38 (ptL c), blk b2 38 (ptL b), blk b1 38 (ptL a)]) (sF rfl) (List.Sublist.refl _) ?_
  have zz0 := zq_le l0
  refine OkQ.in_normal (OkQ.then_ (OkC.region (st (ex_add (c := (1 : Int)) rfl rfl (by decide)) (leB rfl) (mv rfl rfl (OkL.nil ?_)))))
  refine OkQ.again (OkR.step (q4 (st (ex_lss (c := true) rfl rfl (by decide)) (leB rfl) (OkL.nil (q1 ?_)))))
  refine OkC.cond_true rfl (OkC.skip (q1 (OkC.block (q4 (mv rfl rfl ?_)))))
  refine asg rfl rfl (OkL.nil (q2 (mv rfl rfl (st (v := (pP b5 5)) (ex_indexAddr_array (j := 1) rfl rfl Tryz.underlying56 Tryz.sizeOf36 rfl (by decide) rfl) (leB rfl) (ldA 0 (fracL l1) tA36 rfl rfl rfl rfl rfl ?_)))))
  refine cl Tryz.call20 (fun w hw => fSign_ok l1 w) rfl rfl rfl (OkL.nil (OkQ.then_ ?_))
  refine OkC.join1 (J := fun (pl1 : Nat) => pl1 = pl0 + zq l1 ∧ ¬ l1.num.sign = -1) (FI := fun (pl1 : Nat) => [(9, (pP b5 0)), (23, (vI 1)), (24, (Value.bool true)), (25, (vI 1)), (12, (vI 1)), (26, (vI 1)), (27, (pP b5 5)), (28, (aG (fracL l1))), (29, (vI l1.num.sign)), (36, (vI 1)), (11, (vN pl1))]) (LI := fun (pl1 : Nat) => [blk b5 56 (fracL l0 ++ fracL l1 ++ fracL l2), blk b4 38 (ptL p), blk b3 38 (ptL c), blk b2 38 (ptL b), blk b1 38 (ptL a)]) ?_ ?_
  ·skip
   refine OkC.block (q4 (st (ex_eql (c := (decide (l1.num.sign = (-1 : Int)))) rfl rfl rfl) (leB rfl) (asg rfl rfl (OkL.nil (OkQ.then_ ?_)))))
   refine OkC.cond rfl (fun hc2 => ?_) (fun hc2 => ?_)
   ·replace hc2 := of_decide_eq_true hc2
    have hz := where_neg1 (x := l0) (y := l1) (z := l2) hc2
    refine q4 (asg rfl rfl (OkL.nil (OkQ.then_ (OkC.ret (OkQ.in_ret ?_)))))
    exact OkQ.join1_ret (OkQ.in_ret (OkQ.then_ret (OkQ.then_ret (OkQ.in_ret (OkQ.then_ret (ret_one rfl (rd_tmp (v := (vI 0)) rfl) (fun w hw => ⟨by rw [← hl0, ← hl1, ← hl2, hz]; rfl, hw.out⟩)))))))
   ·replace hc2 := of_decide_eq_false hc2
    refine q4 (st (ex_eql (c := (decide (l1.num.sign = (0 : Int)))) rfl rfl rfl) (leB rfl) (asg rfl rfl (OkL.nil (OkQ.then_ ?_))))
    refine OkC.cond rfl (fun hc3 => ?_) (fun hc3 => ?_)
    ·replace hc3 := of_decide_eq_true hc3
     exact OkC.region (mv rfl rfl (st (ex_add (c := ((pl0 + 1 : Nat) : Int)) rfl rfl (addN_i64 (a := pl0) (b := 1) (by omega))) (leB rfl) (asg rfl rfl (OkL.nil (OkQ.in_normal (OkQ.join1 (pl0 + 1) (⟨by simp [zq_one hc3], hc2⟩) (sS rfl (sS rfl (sS rfl (sS rfl (sS rfl (sS rfl (sS rfl (sS rfl (sS rfl (sS rfl (sS rfl (sN)))))))))))) sr))))))
    ·replace hc3 := of_decide_eq_false hc3
     exact OkC.skip (OkQ.in_normal (OkQ.join1 pl0 (⟨by simp [zq_zero hc3], hc2⟩) (sS rfl (sS rfl (sS rfl (sS rfl (sS rfl (sS rfl (sS rfl (sS rfl (sS rfl (sS rfl (sS rfl (sN)))))))))))) sr))
  ·intro pl1 hJ
   replace hJ : pl1 = pl0 + zq l1 ∧ ¬ l1.num.sign = -1 := hJ
   obtain ⟨e1, n1⟩ := hJ
   refine OkQ.sub (F' := [(9, (pP b5 0)), (23, (vI 1)), (24, (Value.bool true)), (25, (vI 1)), (12, (vI 1)), (26, (vI 1)), (27, (pP b5 5)), (28, (aG (fracL l1))), (29, (vI l1.num.sign)), (36, (vI 1)), (11, (vN pl1))]) (L' := [blk b5 56 (fracL l0 ++ fracL l1 ++ fracL l2), blk b4 38 (ptL p), blk b3 38 (ptL c), blk b2 38 (ptL b), blk b1 38 (ptL a)]) (sF rfl) (List.Sublist.refl _) ?_
   have zz1 := zq_le l1
   refine OkQ.in_normal (OkQ.then_ (OkC.region (st (ex_add (c := (2 : Int)) rfl rfl (by decide)) (leB rfl) (mv rfl rfl (OkL.nil ?_)))))
   refine OkQ.again (OkR.step (q4 (st (ex_lss (c := true) rfl rfl (by decide)) (leB rfl) (OkL.nil (q1 ?_)))))
   refine OkC.cond_true rfl (OkC.skip (q1 (OkC.block (q4 (mv rfl rfl ?_)))))
   refine asg rfl rfl (OkL.nil (q2 (mv rfl rfl (st (v := (pP b5 10)) (ex_indexAddr_array (j := 2) rfl rfl Tryz.underlying56 Tryz.sizeOf36 rfl (by decide) rfl) (leB rfl) (ldA 0 (fracL l2) tA36 rfl rfl rfl rfl rfl ?_)))))
   refine cl Tryz.call20 (fun w hw => fSign_ok l2 w) rfl rfl rfl (OkL.nil (OkQ.then_ ?_))
   refine OkC.join1 (J := fun (pl2 : Nat) => pl2 = pl1 + zq l2 ∧ ¬ l2.num.sign = -1) (FI := fun (pl2 : Nat) => [(9, (pP b5 0)), (23, (vI 2)), (24, (Value.bool true)), (25, (vI 2)), (12, (vI 2)), (26, (vI 2)), (27, (pP b5 10)), (28, (aG (fracL l2))), (29, (vI l2.num.sign)), (36, (vI 2)), (11, (vN pl2))]) (LI := fun (pl2 : Nat) => [blk b5 56 (fracL l0 ++ fracL l1 ++ fracL l2), blk b4 38 (ptL p), blk b3 38 (ptL c), blk b2 38 (ptL b), blk b1 38 (ptL a)]) ?_ ?_
   ·skip
    refine OkC.block (q4 (st (ex_eql (c := (decide (l2.num.sign = (-1 : Int)))) rfl rfl rfl) (leB rfl) (asg rfl rfl (OkL.nil (OkQ.then_ ?_)))))
    refine OkC.cond rfl (fun hc2 => ?_) (fun hc2 => ?_)
    ·replace hc2 := of_decide_eq_true hc2
     have hz := where_neg2 (x := l0) (y := l1) (z := l2) hc2
     refine q4 (asg rfl rfl (OkL.nil (OkQ.then_ (OkC.ret (OkQ.in_ret ?_)))))
     exact OkQ.join1_ret (OkQ.in_ret (OkQ.then_ret (OkQ.then_ret (OkQ.in_ret (OkQ.then_ret (ret_one rfl (rd_tmp (v := (vI 0)) rfl) (fun w hw => ⟨by rw [← hl0, ← hl1, ← hl2, hz]; rfl, hw.out⟩)))))))
    ·replace hc2 := of_decide_eq_false hc2
     refine q4 (st (ex_eql (c := (decide (l2.num.sign = (0 : Int)))) rfl rfl rfl) (leB rfl) (asg rfl rfl (OkL.nil (OkQ.then_ ?_))))
     refine OkC.cond rfl (fun hc3 => ?_) (fun hc3 => ?_)
     ·replace hc3 := of_decide_eq_true hc3
      exact OkC.region (mv rfl rfl (st (ex_add (c := ((pl1 + 1 : Nat) : Int)) rfl rfl (addN_i64 (a := pl1) (b := 1) (by omega))) (leB rfl) (asg rfl rfl (OkL.nil (OkQ.in_normal (OkQ.join1 (pl1 + 1) (⟨by simp [zq_one hc3], hc2⟩) (sS rfl (sS rfl (sS rfl (sS rfl (sS rfl (sS rfl (sS rfl (sS rfl (sS rfl (sS rfl (sS rfl (sN)))))))))))) sr))))))
     ·replace hc3 := of_decide_eq_false hc3
      exact OkC.skip (OkQ.in_normal (OkQ.join1 pl1 (⟨by simp [zq_zero hc3], hc2⟩) (sS rfl (sS rfl (sS rfl (sS rfl (sS rfl (sS rfl (sS rfl (sS rfl (sS rfl (sS rfl (sS rfl (sN)))))))))))) sr))
   ·intro pl2 hJ
    replace hJ : pl2 = pl1 + zq l2 ∧ ¬ l2.num.sign = -1 := hJ
    obtain ⟨e2, n2⟩ := hJ
    refine OkQ.sub (F' := [(9, (pP b5 0)), (23, (vI 2)), (24, (Value.bool true)), (25, (vI 2)), (12, (vI 2)), (26, (vI 2)), (27, (pP b5 10)), (28, (aG (fracL l2))), (29, (vI l2.num.sign)), (36, (vI 2)), (11, (vN pl2))]) (L' := [blk b5 56 (fracL l0 ++ fracL l1 ++ fracL l2), blk b4 38 (ptL p), blk b3 38 (ptL c), blk b2 38 (ptL b), blk b1 38 (ptL a)]) (sF rfl) (List.Sublist.refl _) ?_
    have zz2 := zq_le l2
    refine OkQ.in_normal (OkQ.then_ (OkC.region (st (ex_add (c := (3 : Int)) rfl rfl (by decide)) (leB rfl) (mv rfl rfl (OkL.nil ?_)))))
    refine OkQ.again (OkR.step (q4 (st (ex_lss (c := false) rfl rfl (by decide)) (leB rfl) (OkL.nil (q1 ?_)))))
    refine OkC.cond_false rfl (OkC.exit (OkQ.then_exit (OkQ.then_exit (OkQ.in_exit (q2 ?_)))))
    exact mv rfl rfl (asg rfl rfl (OkL.nil (OkQ.subF (sC 9 rfl (sC 23 rfl (sC 24 rfl (sC 25 rfl (sC 12 rfl (sC 26 rfl (sC 27 rfl (sC 28 rfl (sC 29 rfl (sC 36 rfl (sC 11 rfl (sC 8 rfl (sN))))))))))))) (OkQ.then_ (OkC.ret (ret_one rfl (rd_tmp (v := (vN pl2)) rfl) (fun w hw => ⟨by rw [← hl0, ← hl1, ← hl2, where_ok n0 n1 n2, e2, e1, e0], hw.out⟩)))))))
end
end Go.Proofs.YtpkoldfmbebmgaaGreatDoor
