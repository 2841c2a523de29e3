import Derived.Test.YtpkoldfmbebmgaaGreatDoorPart07
import Derived.Test.YtpkoldfmbebmgaaGreatDoorPart23
import Derived.Test.YtpkoldfmbebmgaaGreatDoorPart25
namespace Go.Proofs.YtpkoldfmbebmgaaGreatDoor
open Go Go.RowKit
set_option linter.unusedVariables false
set_option linter.unusedSimpArgs false
section
set_option maxRecDepth 100000
theorem fill_nums_49_  : Instr.fill (fun i => some (i * 10, 10)) (ptL (⟨0, 0⟩ : Pt) ++ ptL (⟨0, 0⟩ : Pt) ++ ptL (⟨0, 0⟩ : Pt)).toArray [] = some (ptL (⟨0, 0⟩ : Pt) ++ ptL (⟨0, 0⟩ : Pt) ++ ptL (⟨0, 0⟩ : Pt)).toArray := by kernel_rfl
theorem Grads0_ok (a b c : Pt) (hs : SzP a + SzP b + SzP c ≤ 1048576) (h : turnP a b c = 0) (w : World)  : Calls Tryz.prog 12 #[(aG (ptL a)), (aG (ptL b)), (aG (ptL c))] w (Gives w (Value.tuple #[(aG (ptL (⟨0, 0⟩ : Pt) ++ ptL (⟨0, 0⟩ : Pt) ++ ptL (⟨0, 0⟩ : Pt))), (vI 1)])) := by
 refine calls_of (args := [(aG (ptL a)), (aG (ptL b)), (aG (ptL c))]) Tryz.func12 rfl rfl (leB rfl) (OkC.subF (sC 0 rfl (sC 1 rfl (sC 2 rfl (sN)))) (q4 (bx (cs := ptL a) rfl rfl rfl fun b1 => bx (cs := ptL b) rfl rfl rfl fun b2 => bx (cs := ptL c) rfl rfl rfl fun b3 => ?_)))
 refine al tZ49 rfl fun b4 => asg rfl rfl (q3 (sC 3 rfl (sC 4 rfl (sC 5 rfl (sC 6 rfl (sC 7 rfl (sN)))))) (ldW 3 tA38 rfl rfl rfl rfl (ldW 2 tA38 rfl rfl rfl rfl (ldW 1 tA38 rfl rfl rfl rfl ?_))))
 have hz1 := Sz_turn a b c
 refine cl Tryz.call53 (fun w hw => twice_ok a b c (by omega) w) rfl rfl rfl (al tZ36 rfl fun b5 => stW0 rfl rfl rfl Tryz.sizeOf36 rfl rfl (q6 (sC 3 rfl (sC 4 rfl (sC 5 rfl (sC 6 rfl (sC 7 rfl (sC 8 rfl (sN))))))) (q4 (ldW 0 tA36 rfl rfl rfl rfl ?_))))
 refine cl Tryz.call20 (fun w hw => fSign_ok (turnP a b c) w) rfl rfl rfl (st (ex_eql (c := (decide (((turnP a b c).num.sign) = (0 : Int)))) rfl rfl rfl) (leB rfl) (OkL.nil (OkQ.subF (sC 3 rfl (sC 4 rfl (sC 5 rfl (sC 6 rfl (sC 7 rfl (sC 8 rfl (sC 19 rfl (sN)))))))) (OkQ.then_ ?_))))
 refine OkC.cond rfl (fun hc0 => ?_) (fun hc0 => ?_)
 ·replace hc0 := of_decide_eq_true hc0
  refine q4 (st (v := (aG (ptL (⟨0, 0⟩ : Pt) ++ ptL (⟨0, 0⟩ : Pt) ++ ptL (⟨0, 0⟩ : Pt)))) (ex_build_array (zs := ptL (⟨0, 0⟩ : Pt) ++ ptL (⟨0, 0⟩ : Pt) ++ ptL (⟨0, 0⟩ : Pt)) (vs := ptL (⟨0, 0⟩ : Pt) ++ ptL (⟨0, 0⟩ : Pt) ++ ptL (⟨0, 0⟩ : Pt)) (pv := []) Tryz.zeroValue49 Tryz.underlying49 Tryz.sizeOf38 rfl (fill_nums_49_ )) (leB rfl) (stW1 rfl rfl rfl Tryz.sizeOf49 rfl rfl (asg rfl rfl (OkL.nil (OkQ.subF (sC 3 rfl (sC 4 rfl (sC 5 rfl (sC 6 rfl (sC 7 rfl (sC 8 rfl (sN))))))) ?_)))))
  exact OkQ.then_ (OkC.ret (OkQ.then_ret (ret_two rfl (rd_agg (i := 1) (cs := ptL (⟨0, 0⟩ : Pt) ++ ptL (⟨0, 0⟩ : Pt) ++ ptL (⟨0, 0⟩ : Pt)) rfl rfl Tryz.isAgg49 Tryz.sizeOf49 rfl) (rd_tmp (v := (vI 1)) rfl) (fun w hw => ⟨rfl, hw.out⟩))))
 ·replace hc0 := of_decide_eq_false hc0
  exact absurd (by rw [h]; rfl) hc0
theorem fill_nums_56_  : Instr.fill (fun i => some (i * 5, 5)) (fracL (0 : Rat) ++ fracL (0 : Rat) ++ fracL (0 : Rat)).toArray [] = some (fracL (0 : Rat) ++ fracL (0 : Rat) ++ fracL (0 : Rat)).toArray := by kernel_rfl
theorem Cots0_ok (a b c : Pt) (hs : SzP a + SzP b + SzP c ≤ 1048576) (h : turnP a b c = 0) (w : World)  : Calls Tryz.prog 14 #[(aG (ptL a)), (aG (ptL b)), (aG (ptL c))] w (Gives w (Value.tuple #[(aG (fracL (0 : Rat) ++ fracL (0 : Rat) ++ fracL (0 : Rat))), (vI 1)])) := by
 refine calls_of (args := [(aG (ptL a)), (aG (ptL b)), (aG (ptL c))]) Tryz.func14 rfl rfl (leB rfl) (OkC.subF (sC 0 rfl (sC 1 rfl (sC 2 rfl (sN)))) (q4 (bx (cs := ptL a) rfl rfl rfl fun b1 => bx (cs := ptL b) rfl rfl rfl fun b2 => bx (cs := ptL c) rfl rfl rfl fun b3 => ?_)))
 refine al tZ56 rfl fun b4 => asg rfl rfl (q3 (sC 3 rfl (sC 4 rfl (sC 5 rfl (sC 6 rfl (sC 7 rfl (sN)))))) (ldW 3 tA38 rfl rfl rfl rfl (ldW 2 tA38 rfl rfl rfl rfl (ldW 1 tA38 rfl rfl rfl rfl ?_))))
 have hz1 := Sz_turn a b c
 refine cl Tryz.call53 (fun w hw => twice_ok a b c (by omega) w) rfl rfl rfl ?_
 have hz2 := Sz_abs (turnP a b c)
 refine cl Tryz.call45 (fun w hw => fAbs_ok (turnP a b c) w) rfl rfl rfl (al tZ36 rfl fun b5 => stW0 rfl rfl rfl Tryz.sizeOf36 rfl rfl (q6 (sC 3 rfl (sC 4 rfl (sC 5 rfl (sC 6 rfl (sC 7 rfl (sC 8 rfl (sN))))))) (q4 (ldW 0 tA36 rfl rfl rfl rfl ?_))))
 refine cl Tryz.call20 (fun w hw => fSign_ok (absQ (turnP a b c)) w) rfl rfl rfl (st (ex_eql (c := (decide (((absQ (turnP a b c)).num.sign) = (0 : Int)))) rfl rfl rfl) (leB rfl) (OkL.nil (OkQ.subF (sC 3 rfl (sC 4 rfl (sC 5 rfl (sC 6 rfl (sC 7 rfl (sC 8 rfl (sC 20 rfl (sN)))))))) (OkQ.then_ ?_))))
 refine OkC.cond rfl (fun hc0 => ?_) (fun hc0 => ?_)
 ·replace hc0 := of_decide_eq_true hc0
  refine q4 (st (v := (aG (fracL (0 : Rat) ++ fracL (0 : Rat) ++ fracL (0 : Rat)))) (ex_build_array (zs := fracL (0 : Rat) ++ fracL (0 : Rat) ++ fracL (0 : Rat)) (vs := fracL (0 : Rat) ++ fracL (0 : Rat) ++ fracL (0 : Rat)) (pv := []) Tryz.zeroValue56 Tryz.underlying56 Tryz.sizeOf36 rfl (fill_nums_56_ )) (leB rfl) (stW1 rfl rfl rfl Tryz.sizeOf56 rfl rfl (asg rfl rfl (OkL.nil (OkQ.subF (sC 3 rfl (sC 4 rfl (sC 5 rfl (sC 6 rfl (sC 7 rfl (sC 8 rfl (sN))))))) ?_)))))
  exact OkQ.then_ (OkC.ret (OkQ.then_ret (ret_two rfl (rd_agg (i := 1) (cs := fracL (0 : Rat) ++ fracL (0 : Rat) ++ fracL (0 : Rat)) rfl rfl Tryz.isAgg56 Tryz.sizeOf56 rfl) (rd_tmp (v := (vI 1)) rfl) (fun w hw => ⟨rfl, hw.out⟩))))
 ·replace hc0 := of_decide_eq_false hc0
  exact absurd (by rw [h]; rfl) hc0
theorem fill_nums_38_  : Instr.fill ([(0, 5), (5, 5)].toArray[·]?) (ptL (⟨0, 0⟩ : Pt)).toArray [] = some (ptL (⟨0, 0⟩ : Pt)).toArray := by kernel_rfl
theorem fill_nums_36_  : Instr.fill ([(0, 3), (3, 2)].toArray[·]?) (fracL (0 : Rat)).toArray [] = some (fracL (0 : Rat)).toArray := by kernel_rfl
theorem Middle0_ok (a b c : Pt) (hs : SzP a + SzP b + SzP c ≤ 1048576) (h : crossP (b - a) (c - a) = 0) (w : World)  : Calls Tryz.prog 18 #[(aG (ptL a)), (aG (ptL b)), (aG (ptL c))] w (Gives w (Value.tuple #[(aG (ptL (⟨0, 0⟩ : Pt))), (aG (fracL (0 : Rat))), (vI 1)])) := by
 have i2 := Sz_int (z := 2) (by omega) (by omega)
 refine calls_of (args := [(aG (ptL a)), (aG (ptL b)), (aG (ptL c))]) Tryz.func18 rfl rfl (leB rfl) (OkC.subF (sC 0 rfl (sC 1 rfl (sC 2 rfl (sN)))) (q4 (bx (cs := ptL a) rfl rfl rfl fun b1 => bx (cs := ptL b) rfl rfl rfl fun b2 => bx (cs := ptL c) rfl rfl rfl fun b3 => ?_)))
 refine al tZ38 rfl fun b4 => al tZ36 rfl fun b5 => asg rfl rfl (q6 (sC 3 rfl (sC 4 rfl (sC 5 rfl (sC 6 rfl (sC 7 rfl (sC 8 rfl (sN))))))) (rN [(0, true), (1, true), (3, true), (4, true), (2, false), (5, false)] [⟨6, 9, 38, ptL (⟨0, 0⟩ : Pt)⟩, ⟨7, 10, 38, ptL (⟨0, 0⟩ : Pt)⟩] [(8, false), (9, false)] sr (by kernel_rfl) (fun _ _ d _ _ h => by cases d <;> exact h) (newC rfl rfl tZ38 rfl (newC rfl rfl tZ38 rfl (newN))) rfl (uW 3 tA38 rfl rfl rfl rfl rfl rfl ?_)))
 refine uW 4 tA38 rfl rfl rfl rfl rfl rfl (uW 2 tA38 rfl rfl rfl rfl rfl rfl (uW 4 tA38 rfl rfl rfl rfl rfl rfl (OkN.imp rfl fun EF EL => ?_)))
 have hz1 := SzP_sub b a
 refine cl Tryz.call48 (fun w hw => pSub_ok b a (by omega) w) rfl rfl rfl (OkN.back0 sr rfl (OkN.imp rfl fun EF EL => ?_))
 have hz2 := SzP_sub c a
 refine cl Tryz.call48 (fun w hw => pSub_ok c a (by omega) w) rfl rfl rfl (OkN.back0 sr rfl (OkN.news2 fun b6 b7 => OkE.imp rfl (stW0 rfl rfl rfl Tryz.sizeOf38 rfl rfl (OkE.back (sl (sl sr)) ?_))))
 refine OkE.imp rfl (stW1 rfl rfl rfl Tryz.sizeOf38 rfl rfl (OkE.back (sl (sl sr)) (OkE.nil (OkQ.subF (sC 3 rfl (sC 6 rfl (sC 7 rfl (sC 8 rfl (sC 10 rfl (sC 9 rfl (sN))))))) (q1 ?_)))))
 refine rN [(1, true), (2, true), (0, false), (3, false), (4, false)] [⟨5, 11, 36, fracL (0 : Rat)⟩] [(6, false)] sr (by kernel_rfl) (fun _ _ d _ _ h => by cases d <;> exact h) (newC rfl rfl tZ36 rfl (newN)) rfl (uW 0 tA38 rfl rfl rfl rfl rfl rfl (uW 1 tA38 rfl rfl rfl rfl rfl rfl (OkN.imp rfl fun EF EL => cl Tryz.call44 (fun w hw => fInt_ok (2 : Int) (by omega) (by omega) w) rfl rfl rfl (OkN.back0 sr rfl ?_))))
 refine OkN.imp rfl fun EF EL => ?_
 have hz3 := Sz_cross (b - a) (c - a)
 refine cl Tryz.call63 (fun w hw => pCross_ok (b - a) (c - a) (by omega) w) rfl rfl rfl (OkN.back0 sr rfl (OkN.imp rfl fun EF EL => ?_))
 have hz4 := Sz_mul ((2 : Int) : Rat) (crossP (b - a) (c - a))
 refine cl Tryz.call40 (fun w hw => fMul_ok ((2 : Int) : Rat) (crossP (b - a) (c - a)) (by (try simp only [Sz_neg]); omega) w) rfl rfl rfl (OkN.back0 sr rfl (OkN.news1 fun b8 => OkE.imp rfl (stW0 rfl rfl rfl Tryz.sizeOf36 rfl rfl (OkE.back (sl sr) ?_))))
 refine OkE.nil (OkQ.subF (sC 3 rfl (sC 6 rfl (sC 7 rfl (sC 8 rfl (sC 10 rfl (sC 9 rfl (sC 11 rfl (sN)))))))) (q1 (q4 (ldW 0 tA36 rfl rfl rfl rfl (cl Tryz.call20 (fun w hw => fSign_ok (((2 : Int) : Rat) * (crossP (b - a) (c - a))) w) rfl rfl rfl ?_)))))
 refine st (ex_eql (c := (decide (((((2 : Int) : Rat) * (crossP (b - a) (c - a))).num.sign) = (0 : Int)))) rfl rfl rfl) (leB rfl) (OkL.nil (OkQ.subF (sC 3 rfl (sC 6 rfl (sC 7 rfl (sC 8 rfl (sC 10 rfl (sC 9 rfl (sC 11 rfl (sC 28 rfl (sN))))))))) (OkQ.then_ ?_)))
 refine OkC.cond rfl (fun hc0 => ?_) (fun hc0 => ?_)
 ·replace hc0 := of_decide_eq_true hc0
  refine q4 (st (v := (aG (ptL (⟨0, 0⟩ : Pt)))) (ex_build_struct (zs := ptL (⟨0, 0⟩ : Pt)) (vs := ptL (⟨0, 0⟩ : Pt)) (pv := []) (places := [(0, 5), (5, 5)]) Tryz.zeroValue38 Tryz.underlying38 (fun w => by simp [Tryz.sizeOf36]) rfl (fill_nums_38_ )) (leB rfl) (st (v := (aG (fracL (0 : Rat)))) (ex_build_struct (zs := fracL (0 : Rat)) (vs := fracL (0 : Rat)) (pv := []) (places := [(0, 3), (3, 2)]) Tryz.zeroValue36 Tryz.underlying36 (fun w => by simp [Tryz.sizeOf30, Tryz.sizeOf34]) rfl (fill_nums_36_ )) (leB rfl) (OkL.store' (i := 4) (off := 0) (vs := ptL (⟨0, 0⟩ : Pt)) (cs' := ptL (⟨0, 0⟩ : Pt)) (L' := [blk b8 36 (fracL (((2 : Int) : Rat) * (crossP (b - a) (c - a)))), blk b6 38 (ptL (b - a)), blk b7 38 (ptL (c - a)), blk b5 36 (fracL (0 : Rat)), blk b4 38 (ptL (⟨0, 0⟩ : Pt)), blk b3 38 (ptL c), blk b2 38 (ptL b), blk b1 38 (ptL a)]) (wt_none rfl) rfl rfl rfl rfl rfl Tryz.sizeOf38 rfl rfl rfl rfl (stW3 rfl rfl rfl Tryz.sizeOf36 rfl rfl (asg rfl rfl ?_)))))
  exact OkL.nil (OkQ.subF (sC 3 rfl (sC 6 rfl (sC 7 rfl (sC 8 rfl (sC 10 rfl (sC 9 rfl (sC 11 rfl (sN)))))))) (OkQ.then_ (OkC.ret (OkQ.then_ret (ret_three rfl (rd_agg (i := 4) (cs := ptL (⟨0, 0⟩ : Pt)) rfl rfl Tryz.isAgg38 Tryz.sizeOf38 rfl) (rd_agg (i := 3) (cs := fracL (0 : Rat)) rfl rfl Tryz.isAgg36 Tryz.sizeOf36 rfl) (rd_tmp (v := (vI 1)) rfl) (fun w hw => ⟨rfl, hw.out⟩))))))
 ·replace hc0 := of_decide_eq_false hc0
  exact absurd (by rw [h, Rat.mul_zero]; rfl) hc0
end
section
section
variable {P : Program} {n : Nat} {F : List (Nat × Value)} {w0 : Base} {L : List As} {v : Value} {x : Operand} {d : Option Tmp} {t : TypeId} {p : String} {af : Array Edge} {g : Option (Nat × Bool)}
theorem ex_slice_array {tx e : TypeId} {b len k : Nat} (hx : evF F x = some (.pointer (some ⟨b, 0, none⟩))) (hu : P.underlying tx = some (.array len e)) (hs : ∀ w, (sizeOf e).run P w = .ok k w) (h0 : 0 < len) :
    Ex P n F w0 L ⟨d, .slice tx x none none none, t, p, af, g⟩ (.slice (some ⟨b, 0, none⟩) len len) := fun A w ha _ => by
  have e1 : ¬ len = 0 := by omega
  simp [execOp, ha.ev hx, Instr.sliceAt, run_underlying hu, Instr.sureAddr, Instr.sliceBounds, Instr.sliceBound, hs, e1, Addr.add_lit]
end
end
section
set_option maxRecDepth 100000
end
section
set_option maxRecDepth 100000
end
section
set_option maxRecDepth 100000
end
end Go.Proofs.YtpkoldfmbebmgaaGreatDoor
