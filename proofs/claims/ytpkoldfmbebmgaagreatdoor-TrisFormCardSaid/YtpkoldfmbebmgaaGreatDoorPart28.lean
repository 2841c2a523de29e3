import Derived.Test.YtpkoldfmbebmgaaGreatDoorPart07
import Derived.Test.YtpkoldfmbebmgaaGreatDoorPart26
import Derived.Test.YtpkoldfmbebmgaaGreatDoorPart27
namespace Go.Proofs.YtpkoldfmbebmgaaGreatDoor
open Go Go.RowKit
set_option linter.unusedVariables false
set_option linter.unusedSimpArgs false
section
set_option maxRecDepth 100000
theorem len64_3  (w : World)  : Calls Tryz.prog 139 #[(Value.int .u64 (3 : Int))] w (Gives w (vI 2)) := by
 refine calls_of (args := [(Value.int .u64 (3 : Int))]) Tryz.func139 rfl rfl (leB rfl) (OkC.subF (sC 0 rfl (sN)) (q4 (asg rfl rfl (OkL.nil (q1 ?_)))))
 refine q4 (mv rfl rfl (st (ex_geq (c := false) rfl rfl (by decide)) (leB rfl) (OkL.nil (OkQ.subF (sC 0 rfl (sC 2 rfl (sC 4 rfl (sN)))) (OkQ.then_ ?_)))))
 refine OkC.cond_false rfl (OkC.skip (q1 (q4 (mv rfl rfl (st (ex_geq (c := false) rfl rfl (by decide)) (leB rfl) ?_)))))
 refine OkL.nil (OkQ.subF (sC 0 rfl (sC 2 rfl (sC 4 rfl (sC 8 rfl (sN))))) (OkQ.then_ (OkC.cond_false rfl (OkC.skip (q1 ?_)))))
 refine q4 (mv rfl rfl (st (ex_geq (c := false) rfl rfl (by decide)) (leB rfl) (OkL.nil (OkQ.subF (sC 0 rfl (sC 2 rfl (sC 4 rfl (sC 8 rfl (sC 14 rfl (sN)))))) (OkQ.then_ ?_)))))
 refine OkC.cond_false rfl (OkC.skip (q2 (mv rfl rfl (mv rfl rfl (st (ex_conv (c := (3 : Int)) rfl Tryz.underlying28 Tryz.underlying5 (by decide)) (leB rfl) ?_)))))
 refine st (v := (Value.int .u8 (2 : Int))) (ex_index_str (j := 3) (m := 2) rfl rfl Tryz.underlying9 (by kernel_rfl) (by decide)) (leB rfl) (st (ex_conv (c := (2 : Int)) rfl Tryz.underlying5 Tryz.underlying3 (by decide)) (leB rfl) (st (ex_add (c := (2 : Int)) rfl rfl (by decide)) (leB rfl) (asg rfl rfl (OkL.nil (OkQ.subF (sC 0 rfl (sC 2 rfl (sC 4 rfl (sC 8 rfl (sC 14 rfl (sN)))))) ?_)))))
 exact OkQ.then_ (OkC.ret (ret_one rfl (rd_tmp (v := (vI 2)) rfl) (fun w hw => ⟨rfl, hw.out⟩)))
theorem len_3  (w : World)  : Calls Tryz.prog 100 #[(Value.int .u64 (3 : Int))] w (Gives w (vI 2)) := by
 refine calls_of (args := [(Value.int .u64 (3 : Int))]) Tryz.func100 rfl rfl (leB rfl) (OkC.subF (sC 0 rfl (sN)) (q4 (asg rfl rfl (OkL.nil (q1 ?_)))))
 refine OkC.cond_false rfl (OkC.skip (q2 (mv rfl rfl (cl Tryz.call139 (fun w hw => len64_3 w) rfl rfl rfl (asg rfl rfl ?_)))))
 exact OkL.nil (OkQ.subF (sC 0 rfl (sC 2 rfl (sN))) (OkQ.then_ (OkC.ret (ret_one rfl (rd_tmp (v := (vI 2)) rfl) (fun w hw => ⟨rfl, hw.out⟩)))))
theorem pdq_ok (x y z : Rat) (g : Nat) (hs : Sz x + Sz y + Sz z ≤ 68719476736) (w : World) (hg : w.heap[g]? = some (.cells (fracL x ++ fracL y ++ fracL z).toArray 56 (0, 0))) : Calls Tryz.prog 99 #[(Value.slice (some ⟨g, 0, none⟩) 3 3), (vI 0), (vI 3), (vI 2), (Value.func (.func 43) #[] #[])] w (fun e w' => e = .returned (.tuple #[]) ∧ w.grownBy w' (some g) ∧ w'.heap[g]? = some (.cells (sort3L x y z).toArray 56 (0, 0))) := by
 refine calls_ofM (args := [(Value.slice (some ⟨g, 0, none⟩) 3 3), (vI 0), (vI 3), (vI 2), (Value.func (.func 43) #[] #[])]) (g := g) (T := 56) (cs := fracL x ++ fracL y ++ fracL z) Tryz.func99 rfl rfl (leB rfl) hg (OkC.subF (sC 0 rfl (sC 1 rfl (sC 2 rfl (sC 3 rfl (sC 4 rfl (sN)))))) (q4 (asg rfl rfl (OkL.nil (q2 ?_)))))
 refine asg rfl rfl (OkL.nil (OkQ.then_ (OkC.block (OkC.unroll 1 (OkR.step ?_)))))
 refine OkC.block (q4 (mv rfl rfl (mv rfl rfl (st (ex_sub (c := (3 : Int)) rfl rfl (by decide)) (leB rfl) (asg rfl rfl ?_)))))
 refine OkL.nil (q1 (q4 (mv rfl rfl (st (ex_leq (c := true) rfl rfl (by decide)) (leB rfl) (OkL.nil ?_)))))
 refine OkQ.then_ (OkC.cond_true rfl (q4 (mv rfl rfl (mv rfl rfl (mv rfl rfl ?_)))))
 refine mv rfl rfl (OkL.callM (v := (Value.tuple #[])) (i := 0) (cs' := sort3L x y z) (L' := [blk g 56 (sort3L x y z)]) (wt_none rfl) (op_call0 (args := [(Value.slice (some ⟨g, 0, none⟩) 3 3), (vI 0), (vI 3), (Value.func (.func 43) #[] #[])]) rfl rfl Tryz.call130) rfl (fun w hw => isort_ok x y z _ hs w (hw.get (i := 0) rfl)) (fun d hd => by cases hd <;> exact (leB rfl)) rfl (OkL.nil (OkQ.subF (sC 0 rfl (sC 1 rfl (sC 2 rfl (sC 3 rfl (sC 4 rfl (sC 10 rfl (sC 11 rfl (sC 21 rfl (sC 22 rfl (sC 23 rfl (sC 12 rfl (sC 24 rfl (sC 25 rfl (sC 26 rfl (sC 27 rfl (sC 28 rfl (sC 29 rfl (sN)))))))))))))))))) (OkQ.then_ (OkC.ret ?_)))))
 exact OkQ.then_ret (OkQ.in_ret (OkQ.then_ret (OkQ.in_ret (ret_none (.inl rfl) rfl  (fun w hw => ⟨rfl, hw.1, hw.get (i := 0) rfl⟩)))))
theorem sort_ok (x y z : Rat) (g : Nat) (hs : Sz x + Sz y + Sz z ≤ 68719476736) (w : World) (hg : w.heap[g]? = some (.cells (fracL x ++ fracL y ++ fracL z).toArray 56 (0, 0))) : Calls Tryz.prog 60 #[(Value.slice (some ⟨g, 0, none⟩) 3 3), (Value.func (.func 43) #[] #[])] w (fun e w' => e = .returned (.tuple #[]) ∧ w.grownBy w' (some g) ∧ w'.heap[g]? = some (.cells (sort3L x y z).toArray 56 (0, 0))) := by
 refine calls_ofM (args := [(Value.slice (some ⟨g, 0, none⟩) 3 3), (Value.func (.func 43) #[] #[])]) (g := g) (T := 56) (cs := fracL x ++ fracL y ++ fracL z) Tryz.func60 rfl rfl (leB rfl) hg (OkC.subF (sC 0 rfl (sC 1 rfl (sN))) (q4 (mv rfl rfl (st (v := (vI 3)) (ex_len_slice rfl Tryz.underlying109) (leB rfl) (asg rfl rfl ?_)))))
 refine OkL.nil (OkQ.subF (sC 0 rfl (sC 1 rfl (sC 4 rfl (sN)))) (OkQ.then_ (OkC.region (mv rfl rfl (mv rfl rfl ?_)))))
 refine mv rfl rfl (st (ex_conv (c := (3 : Int)) rfl Tryz.underlying3 Tryz.underlying141 (by decide)) (leB rfl) (cl Tryz.call100 (fun w hw => len_3 w) rfl rfl rfl (mv rfl rfl (OkL.callM (v := (Value.tuple #[])) (i := 0) (cs' := sort3L x y z) (L' := [blk g 56 (sort3L x y z)]) (wt_none rfl) (op_call0 (args := [(Value.slice (some ⟨g, 0, none⟩) 3 3), (vI 0), (vI 3), (vI 2), (Value.func (.func 43) #[] #[])]) rfl rfl Tryz.call99) rfl (fun w hw => pdq_ok x y z _ hs w (hw.get (i := 0) rfl)) (fun d hd => by cases hd <;> exact (leB rfl)) rfl (OkL.nil ?_)))))
 exact OkQ.subF (sC 0 rfl (sN)) (ret_none (.inr rfl) rfl  (fun w hw => ⟨rfl, hw.1, hw.get (i := 0) rfl⟩))
end
section
set_option maxRecDepth 100000
def sort3 (x y z : Rat) : Rat × Rat × Rat :=
 if y < x then (if z < x then (if z < y then (z, y, x) else (y, z, x)) else (y, x, z))
 else (if z < y then (if z < x then (z, x, y) else (x, z, y)) else (x, y, z))
theorem sort3L_eq (x y z : Rat) : sort3L x y z = fracL (sort3 x y z).1 ++ fracL (sort3 x y z).2.1 ++ fracL (sort3 x y z).2.2 := by
 unfold sort3L sort3
 split <;> split <;> first | rfl | (split <;> rfl)
theorem sort3_Sz (x y z : Rat) (k : Nat) (h : Sz x ≤ k ∧ Sz y ≤ k ∧ Sz z ≤ k) : Sz (sort3 x y z).1 ≤ k ∧ Sz (sort3 x y z).2.1 ≤ k ∧ Sz (sort3 x y z).2.2 ≤ k := by
 obtain ⟨h1, h2, h3⟩ := h
 unfold sort3
 split <;> split <;> first | exact ⟨by assumption, by assumption, by assumption⟩ | (split <;> exact ⟨by assumption, by assumption, by assumption⟩)
theorem fill_numy_56_0fracL_1fracL_2fracL (x0 : Rat) (x1 : Rat) (x2 : Rat) : Instr.fill (fun i => some (i * 5, 5)) (fracL (0 : Rat) ++ fracL (0 : Rat) ++ fracL (0 : Rat)).toArray [(0, .agg (fracL x0).toArray), (1, .agg (fracL x1).toArray), (2, .agg (fracL x2).toArray)] = some (fracL x0 ++ fracL x1 ++ fracL x2).toArray := by kernel_rfl
set_option maxHeartbeats 2000000 in
theorem Shape_ok (a b c : Pt) (hs : SzP a + SzP b + SzP c ≤ 1048576) (h0 : turnP a b c ≠ 0) (h : (sort3 (dotP (b - a) (b - a)) (dotP (c - b) (c - b)) (dotP (a - c) (a - c))).2.2 ≠ 0) (w : World)  : Calls Tryz.prog 16 #[(aG (ptL a)), (aG (ptL b)), (aG (ptL c))] w (Gives w (Value.tuple #[(aG (fracL ((sort3 (dotP (b - a) (b - a)) (dotP (c - b) (c - b)) (dotP (a - c) (a - c))).1 / (sort3 (dotP (b - a) (b - a)) (dotP (c - b) (c - b)) (dotP (a - c) (a - c))).2.2) ++ fracL ((sort3 (dotP (b - a) (b - a)) (dotP (c - b) (c - b)) (dotP (a - c) (a - c))).2.1 / (sort3 (dotP (b - a) (b - a)) (dotP (c - b) (c - b)) (dotP (a - c) (a - c))).2.2))), (vI 0)])) := by
 have hns := sign_ne h0
 obtain ⟨s, hs3⟩ : ∃ s, s = sort3 (dotP (b - a) (b - a)) (dotP (c - b) (c - b)) (dotP (a - c) (a - c)) := ⟨_, rfl⟩
 rw [← hs3] at h
 have d1 := SzP_sub b a
 have d2 := SzP_sub c b
 have d3 := SzP_sub a c
 have qs1 := Sz_dot (b - a) (b - a)
 have qs2 := Sz_dot (c - b) (c - b)
 have qs3 := Sz_dot (a - c) (a - c)
 have s3z := sort3_Sz (dotP (b - a) (b - a)) (dotP (c - b) (c - b)) (dotP (a - c) (a - c)) 16777216 ⟨by omega, by omega, by omega⟩
 rw [← hs3] at s3z
 obtain ⟨z1, z2, z3⟩ := s3z
 refine calls_of (args := [(aG (ptL a)), (aG (ptL b)), (aG (ptL c))]) Tryz.func16 rfl rfl (leB rfl) (OkC.subF (sC 0 rfl (sC 1 rfl (sC 2 rfl (sN)))) (q4 (bx (cs := ptL a) rfl rfl rfl fun b1 => bx (cs := ptL b) rfl rfl rfl fun b2 => bx (cs := ptL c) rfl rfl rfl fun b3 => ?_)))
 refine al tZ62 rfl fun b4 => asg rfl rfl (q6 (sC 3 rfl (sC 4 rfl (sC 5 rfl (sC 6 rfl (sC 7 rfl (sN)))))) (q4 (ldW 3 tA38 rfl rfl rfl rfl (ldW 2 tA38 rfl rfl rfl rfl ?_))))
 refine ldW 1 tA38 rfl rfl rfl rfl ?_
 have hz1 := Sz_turn a b c
 refine cl Tryz.call53 (fun w hw => twice_ok a b c (by omega) w) rfl rfl rfl (cl Tryz.call20 (fun w hw => fSign_ok (turnP a b c) w) rfl rfl rfl (st (ex_eql (c := (decide (((turnP a b c).num.sign) = (0 : Int)))) rfl rfl rfl) (leB rfl) (OkL.nil (OkQ.subF (sC 3 rfl (sC 4 rfl (sC 5 rfl (sC 6 rfl (sC 7 rfl (sC 16 rfl (sN))))))) (OkQ.then_ ?_)))))
 refine OkC.cond rfl (fun hc0 => ?_) (fun hc0 => ?_)
 ·replace hc0 := of_decide_eq_true hc0
  exact absurd hc0 hns
 ·replace hc0 := of_decide_eq_false hc0
  refine OkC.skip (q1 (rN [(0, true), (1, true), (3, true), (4, true), (6, true), (7, true), (2, false), (5, false), (8, false), (9, true)] [⟨10, 8, 56, fracL (0 : Rat) ++ fracL (0 : Rat) ++ fracL (0 : Rat)⟩] [(11, false)] sr (by kernel_rfl) (fun _ _ d _ _ h => by cases d <;> exact h) (newC rfl rfl tZ56 rfl (newN)) rfl (uW 3 tA38 rfl rfl rfl rfl rfl rfl (uW 2 tA38 rfl rfl rfl rfl rfl rfl (uW 2 tA38 rfl rfl rfl rfl rfl rfl ?_)))))
  refine uW 1 tA38 rfl rfl rfl rfl rfl rfl (uW 1 tA38 rfl rfl rfl rfl rfl rfl (uW 3 tA38 rfl rfl rfl rfl rfl rfl (OkN.imp rfl fun EF EL => ?_)))
  have hz2 := SzP_sub b a
  have hz3 := Sz_dot (b - a) (b - a)
  refine cl Tryz.call51 (fun w hw => pSquare_ok a b (by omega) w) rfl rfl rfl (OkN.back0 sr rfl (OkN.imp rfl fun EF EL => ?_))
  have hz4 := SzP_sub c b
  have hz5 := Sz_dot (c - b) (c - b)
  refine cl Tryz.call51 (fun w hw => pSquare_ok b c (by omega) w) rfl rfl rfl (OkN.back0 sr rfl (OkN.imp rfl fun EF EL => ?_))
  have hz6 := SzP_sub a c
  have hz7 := Sz_dot (a - c) (a - c)
  refine cl Tryz.call51 (fun w hw => pSquare_ok c a (by omega) w) rfl rfl rfl (OkN.back0 sr rfl (uE (v := (aG (fracL (dotP (b - a) (b - a)) ++ fracL (dotP (c - b) (c - b)) ++ fracL (dotP (a - c) (a - c))))) rfl (ex_build_array (zs := fracL (0 : Rat) ++ fracL (0 : Rat) ++ fracL (0 : Rat)) (vs := fracL (dotP (b - a) (b - a)) ++ fracL (dotP (c - b) (c - b)) ++ fracL (dotP (a - c) (a - c))) (pv := [(0, (aG (fracL (dotP (b - a) (b - a))))), (1, (aG (fracL (dotP (c - b) (c - b))))), (2, (aG (fracL (dotP (a - c) (a - c)))))]) Tryz.zeroValue56 Tryz.underlying56 Tryz.sizeOf36 rfl (fill_numy_56_0fracL_1fracL_2fracL (dotP (b - a) (b - a)) (dotP (c - b) (c - b)) (dotP (a - c) (a - c)))) rfl rfl (OkN.news1 fun b5 => OkE.imp rfl (stW0 rfl rfl rfl Tryz.sizeOf56 rfl rfl ?_))))
  refine OkE.back (sl sr) (OkE.nil (OkQ.subF (sC 3 rfl (sC 4 rfl (sC 5 rfl (sC 6 rfl (sC 7 rfl (sC 8 rfl (sN))))))) (q2 (st (v := (Value.slice (some ⟨b5, 0, none⟩) 3 3)) (ex_slice_array rfl Tryz.underlying56 Tryz.sizeOf36 (by decide)) (leB rfl) (OkL.callM (v := (Value.tuple #[])) (i := 0) (cs' := fracL s.1 ++ fracL s.2.1 ++ fracL s.2.2) (L' := [blk b5 56 (fracL s.1 ++ fracL s.2.1 ++ fracL s.2.2), blk b4 62 (fracL (0 : Rat) ++ fracL (0 : Rat)), blk b3 38 (ptL c), blk b2 38 (ptL b), blk b1 38 (ptL a)]) (wt_none rfl) (op_call0 (args := [(Value.slice (some ⟨b5, 0, none⟩) 3 3), (Value.func (.func 43) #[] #[])]) rfl rfl Tryz.call60) rfl (fun w hw => (by have h9 := sort_ok (dotP (b - a) (b - a)) (dotP (c - b) (c - b)) (dotP (a - c) (a - c)) _ (by omega) w (hw.get (i := 0) rfl); rwa [sort3L_eq, ← hs3] at h9)) (fun d hd => by cases hd <;> exact (leB rfl)) rfl ?_)))))
  refine q3 (sC 3 rfl (sC 4 rfl (sC 5 rfl (sC 6 rfl (sC 7 rfl (sC 8 rfl (sN))))))) (al tZ62 rfl fun b6 => OkL.nil (q1 (q4 (mv rfl rfl ?_))))
  refine OkL.nil (OkQ.then_ (OkC.block (OkC.unroll 4 (OkR.step (q4 ?_)))))
  refine st (ex_lss (c := true) rfl rfl (by decide)) (leB rfl) (OkL.nil (q1 (OkC.cond_true rfl (OkC.skip (q1 ?_)))))
  refine OkC.block (q4 (mv rfl rfl (asg rfl rfl (OkL.nil (OkQ.then_ ?_)))))
  refine rG [(0, true), (1, true), (2, true), (3, true), (4, true), (5, true), (6, false), (7, true), (8, true), (9, true), (10, true), (11, false)] (sl sr) (by kernel_rfl) (fun _ _ d _ _ h => by cases d <;> exact h) (pM rfl rfl rfl (pM rfl rfl rfl (pE (v := (pP b5 0)) rfl (ex_indexAddr_array (j := 0) rfl rfl Tryz.underlying56 Tryz.sizeOf36 rfl (by decide) rfl) rfl (pA 0 (fracL s.1) tA36 rfl rfl rfl rfl rfl rfl (pE (v := (pP b5 10)) rfl (ex_indexAddr_array (j := 2) rfl rfl Tryz.underlying56 Tryz.sizeOf36 rfl (by decide) rfl) rfl ?_)))))
  refine pA 0 (fracL s.2.2) tA36 rfl rfl rfl rfl rfl rfl (OkE.imp rfl ?_)
  have hz8 := Sz_div (a := s.1) (b := s.2.2) (by assumption)
  refine cl Tryz.call54 (fun w hw => fDiv_ok s.1 s.2.2 (by omega) (by assumption) w) rfl rfl rfl (OkE.back (sl sr) (pM rfl rfl rfl (pE rfl (ex_extract (v := (aG (fracL (s.1 / s.2.2)))) rfl rfl) rfl (pE rfl (ex_extract (v := (vI 0)) rfl rfl) rfl (pE (v := (pP b6 0)) rfl (ex_indexAddr_array (j := 0) rfl rfl Tryz.underlying62 Tryz.sizeOf36 rfl (by decide) rfl) rfl ?_)))))
  refine OkE.imp rfl (OkL.store' (i := 0) (off := 0) (vs := fracL (s.1 / s.2.2)) (cs' := fracL (s.1 / s.2.2) ++ fracL (0 : Rat)) (L' := [blk b6 62 (fracL (s.1 / s.2.2) ++ fracL (0 : Rat)), blk b5 56 (fracL s.1 ++ fracL s.2.1 ++ fracL s.2.2), blk b4 62 (fracL (0 : Rat) ++ fracL (0 : Rat)), blk b3 38 (ptL c), blk b2 38 (ptL b), blk b1 38 (ptL a)]) (wt_none rfl) rfl rfl rfl rfl rfl Tryz.sizeOf36 rfl rfl rfl rfl (OkE.back (sl sr) (OkE.nil (OkQ.subF (sC 3 rfl (sC 4 rfl (sC 5 rfl (sC 6 rfl (sC 7 rfl (sC 8 rfl (sC 9 rfl (sC 30 rfl (sC 31 rfl (sC 32 rfl (sC 10 rfl (sC 34 rfl (sC 35 rfl (sC 36 rfl (sC 37 rfl (sC 38 rfl (sC 39 rfl (sC 40 rfl (sC 33 rfl (sC 41 rfl (sC 43 rfl (sN)))))))))))))))))))))) (OkQ.in_normal ?_)))))
  refine OkQ.then_ (OkC.region (st (ex_add (c := (1 : Int)) rfl rfl (by decide)) (leB rfl) (mv rfl rfl (OkL.nil (OkQ.again ?_)))))
  refine OkR.step (q4 (st (ex_lss (c := true) rfl rfl (by decide)) (leB rfl) (OkL.nil (q1 (OkC.cond_true rfl ?_)))))
  refine OkC.skip (q1 (OkC.block (q4 (mv rfl rfl (asg rfl rfl ?_)))))
  refine OkL.nil (OkQ.then_ (rG [(0, true), (1, true), (2, true), (3, true), (4, true), (5, true), (6, false), (7, true), (8, true), (9, true), (10, true), (11, false)] (sl sr) (by kernel_rfl) (fun _ _ d _ _ h => by cases d <;> exact h) (pM rfl rfl rfl (pM rfl rfl rfl (pE (v := (pP b5 5)) rfl (ex_indexAddr_array (j := 1) rfl rfl Tryz.underlying56 Tryz.sizeOf36 rfl (by decide) rfl) rfl ?_)))))
  refine pA 0 (fracL s.2.1) tA36 rfl rfl rfl rfl rfl rfl (pE (v := (pP b5 10)) rfl (ex_indexAddr_array (j := 2) rfl rfl Tryz.underlying56 Tryz.sizeOf36 rfl (by decide) rfl) rfl (pA 0 (fracL s.2.2) tA36 rfl rfl rfl rfl rfl rfl (OkE.imp rfl ?_)))
  have hz9 := Sz_div (a := s.2.1) (b := s.2.2) (by assumption)
  refine cl Tryz.call54 (fun w hw => fDiv_ok s.2.1 s.2.2 (by omega) (by assumption) w) rfl rfl rfl (OkE.back (sl sr) (pM rfl rfl rfl (pE rfl (ex_extract (v := (aG (fracL (s.2.1 / s.2.2)))) rfl rfl) rfl (pE rfl (ex_extract (v := (vI 0)) rfl rfl) rfl (pE (v := (pP b6 5)) rfl (ex_indexAddr_array (j := 1) rfl rfl Tryz.underlying62 Tryz.sizeOf36 rfl (by decide) rfl) rfl ?_)))))
  refine OkE.imp rfl (OkL.store' (i := 0) (off := 5) (vs := fracL (s.2.1 / s.2.2)) (cs' := fracL (s.1 / s.2.2) ++ fracL (s.2.1 / s.2.2)) (L' := [blk b6 62 (fracL (s.1 / s.2.2) ++ fracL (s.2.1 / s.2.2)), blk b5 56 (fracL s.1 ++ fracL s.2.1 ++ fracL s.2.2), blk b4 62 (fracL (0 : Rat) ++ fracL (0 : Rat)), blk b3 38 (ptL c), blk b2 38 (ptL b), blk b1 38 (ptL a)]) (wt_none rfl) rfl rfl rfl rfl rfl Tryz.sizeOf36 rfl rfl rfl rfl (OkE.back (sl sr) (OkE.nil (OkQ.subF (sC 3 rfl (sC 4 rfl (sC 5 rfl (sC 6 rfl (sC 7 rfl (sC 8 rfl (sC 9 rfl (sC 30 rfl (sC 31 rfl (sC 32 rfl (sC 10 rfl (sC 34 rfl (sC 35 rfl (sC 36 rfl (sC 37 rfl (sC 38 rfl (sC 39 rfl (sC 40 rfl (sC 33 rfl (sC 41 rfl (sC 43 rfl (sC 44 rfl (sN))))))))))))))))))))))) (OkQ.in_normal ?_)))))
  refine OkQ.then_ (OkC.region (st (ex_add (c := (2 : Int)) rfl rfl (by decide)) (leB rfl) (mv rfl rfl (OkL.nil (OkQ.again ?_)))))
  refine OkR.step (q4 (st (ex_lss (c := false) rfl rfl (by decide)) (leB rfl) (OkL.nil (q1 (OkC.cond_false rfl ?_)))))
  refine OkC.exit (OkQ.then_exit (OkQ.then_exit (OkQ.in_exit (q2 (ldW 0 tA62 rfl rfl rfl rfl ?_)))))
  exact stW2 rfl rfl rfl Tryz.sizeOf62 rfl rfl (asg rfl rfl (OkL.nil (OkQ.subF (sC 3 rfl (sC 4 rfl (sC 5 rfl (sC 6 rfl (sC 7 rfl (sC 8 rfl (sC 9 rfl (sC 30 rfl (sC 31 rfl (sC 32 rfl (sC 10 rfl (sC 34 rfl (sC 35 rfl (sC 36 rfl (sC 37 rfl (sC 38 rfl (sC 39 rfl (sC 40 rfl (sC 33 rfl (sC 41 rfl (sC 43 rfl (sC 44 rfl (sN))))))))))))))))))))))) (OkQ.then_ (OkC.ret (ret_two rfl (rd_agg (i := 2) (cs := fracL (s.1 / s.2.2) ++ fracL (s.2.1 / s.2.2)) rfl rfl Tryz.isAgg62 Tryz.sizeOf62 rfl) (rd_tmp (v := (vI 0)) rfl) (fun w hw => ⟨by rw [← hs3], hw.out⟩)))))))
theorem fill_numy_62_  : Instr.fill (fun i => some (i * 5, 5)) (fracL (0 : Rat) ++ fracL (0 : Rat)).toArray [] = some (fracL (0 : Rat) ++ fracL (0 : Rat)).toArray := by kernel_rfl
theorem Shape0_ok (a b c : Pt) (hs : SzP a + SzP b + SzP c ≤ 1048576) (h : turnP a b c = 0) (w : World)  : Calls Tryz.prog 16 #[(aG (ptL a)), (aG (ptL b)), (aG (ptL c))] w (Gives w (Value.tuple #[(aG (fracL (0 : Rat) ++ fracL (0 : Rat))), (vI 1)])) := by
 refine calls_of (args := [(aG (ptL a)), (aG (ptL b)), (aG (ptL c))]) Tryz.func16 rfl rfl (leB rfl) (OkC.subF (sC 0 rfl (sC 1 rfl (sC 2 rfl (sN)))) (q4 (bx (cs := ptL a) rfl rfl rfl fun b1 => bx (cs := ptL b) rfl rfl rfl fun b2 => bx (cs := ptL c) rfl rfl rfl fun b3 => ?_)))
 refine al tZ62 rfl fun b4 => asg rfl rfl (q6 (sC 3 rfl (sC 4 rfl (sC 5 rfl (sC 6 rfl (sC 7 rfl (sN)))))) (q4 (ldW 3 tA38 rfl rfl rfl rfl (ldW 2 tA38 rfl rfl rfl rfl ?_))))
 refine ldW 1 tA38 rfl rfl rfl rfl ?_
 have hz1 := Sz_turn a b c
 refine cl Tryz.call53 (fun w hw => twice_ok a b c (by omega) w) rfl rfl rfl (cl Tryz.call20 (fun w hw => fSign_ok (turnP a b c) w) rfl rfl rfl (st (ex_eql (c := (decide (((turnP a b c).num.sign) = (0 : Int)))) rfl rfl rfl) (leB rfl) (OkL.nil (OkQ.subF (sC 3 rfl (sC 4 rfl (sC 5 rfl (sC 6 rfl (sC 7 rfl (sC 16 rfl (sN))))))) (OkQ.then_ ?_)))))
 refine OkC.cond rfl (fun hc0 => ?_) (fun hc0 => ?_)
 ·replace hc0 := of_decide_eq_true hc0
  refine q4 (st (v := (aG (fracL (0 : Rat) ++ fracL (0 : Rat)))) (ex_build_array (zs := fracL (0 : Rat) ++ fracL (0 : Rat)) (vs := fracL (0 : Rat) ++ fracL (0 : Rat)) (pv := []) Tryz.zeroValue62 Tryz.underlying62 Tryz.sizeOf36 rfl (fill_numy_62_ )) (leB rfl) (stW0 rfl rfl rfl Tryz.sizeOf62 rfl rfl (asg rfl rfl (OkL.nil (OkQ.subF (sC 3 rfl (sC 4 rfl (sC 5 rfl (sC 6 rfl (sC 7 rfl (sN)))))) ?_)))))
  exact OkQ.then_ (OkC.ret (OkQ.then_ret (ret_two rfl (rd_agg (i := 0) (cs := fracL (0 : Rat) ++ fracL (0 : Rat)) rfl rfl Tryz.isAgg62 Tryz.sizeOf62 rfl) (rd_tmp (v := (vI 1)) rfl) (fun w hw => ⟨rfl, hw.out⟩))))
 ·replace hc0 := of_decide_eq_false hc0
  exact absurd (by rw [h]; rfl) hc0
end
section
section
variable {P : Program} {n : Nat} {F : List (Nat × Value)} {w0 : Base} {L : List As} {v : Value} {x lo hi : Operand} {d : Option Tmp} {t : TypeId} {p : String} {af : Array Edge} {g : Option (Nat × Bool)}
theorem ex_slice_string {s r : ByteArray} {ki kj : IntKind} {i j : Nat} {tx : TypeId} (hx : evF F x = some (.string s)) (hl : evF F lo = some (.int ki (i : Nat))) (hh : evF F hi = some (.int kj (j : Nat))) (hu : P.underlying tx = some .string) (h1 : i ≤ j) (h2 : j ≤ s.size) (hr : s.extract i j = r) :
    Ex P n F w0 L ⟨d, .slice tx x (some lo) (some hi) none, t, p, af, g⟩ (.string r) := fun A w ha _ => by
  subst hr
  simp only [execOp, ha.ev hx, Instr.sliceAt, run_underlying hu, Instr.slice, Option.map_some, Option.map_none, ha.ev hl, ha.ev hh, Instr.sliceBounds, Instr.sliceBound, asIntOf, Sem.run_bind, Result.andThen_ok, Sem.run_pure]
  simp [h1, h2]
end
def dig (n : Nat) : ByteArray := ⟨#[UInt8.ofNat (48 + n)]⟩
theorem dig_of {s : ByteArray} (h : ((List.range 10).all fun n => (s.extract n (n + 1)).data.toList == (dig n).data.toList) = true) {n : Nat} (hn : n < 10) : s.extract n (n + 1) = dig n := by
  have h1 := List.all_eq_true.1 h n (List.mem_range.2 hn)
  have h2 : (s.extract n (n + 1)).data.toList = (dig n).data.toList := by simpa using h1
  cases hA : s.extract n (n + 1) with | mk da => cases hB : dig n with | mk db =>
    rw [hA, hB] at h2
    congr 1
    exact Array.toList_inj.1 h2
def textI (z : Int) : ByteArray := if z < 0 then ⟨#[45]⟩ ++ dig z.natAbs else dig z.natAbs
def textQ (q : Rat) : ByteArray := if q.den - 1 = 0 then textI q.num else textI q.num ++ ⟨#[47]⟩ ++ dig q.den
theorem dig_size (n : Nat) : (dig n).size = 1 := rfl
theorem textI_size (z : Int) : (textI z).size ≤ 2 := by
  unfold textI
  split
  · rw [ByteArray.size_append]; exact Nat.le_refl 2
  · exact Nat.le_succ 1
end
section
set_option maxRecDepth 100000
theorem small_ok (n : Nat) (hn : n < 10) (w : World)  : Calls Tryz.prog 182 #[(vN n)] w (Gives w (Value.string (dig n))) := by
 refine calls_of (args := [(vN n)]) Tryz.func182 rfl rfl (leB rfl) (OkC.subF (sC 0 rfl (sN)) (q4 (asg rfl rfl (OkL.nil (q1 ?_)))))
 refine q4 (mv rfl rfl (st (ex_lss (c := (decide (n < 10))) rfl rfl (ltN (a := n) (b := 10))) (leB rfl) (OkL.nil (OkQ.subF (sC 0 rfl (sC 2 rfl (sC 4 rfl (sN)))) (OkQ.then_ ?_)))))
 refine OkC.cond rfl (fun hc0 => ?_) (fun hc0 => ?_)
 ·replace hc0 := of_decide_eq_true hc0
  refine q4 (mv rfl rfl (mv rfl rfl (st (ex_add (c := ((n + 1 : Nat) : Int)) rfl rfl (addN_i64 (a := n) (b := 1) (by omega))) (leB rfl) (st (v := (Value.string (dig n))) (ex_slice_string (i := n) (j := n + 1) rfl rfl rfl Tryz.underlying9 (by omega) (Nat.le_trans (show n + 1 ≤ 10 by omega) (by decide)) (dig_of (by kernel_rfl) hn)) (leB rfl) (asg rfl rfl ?_)))))
  exact OkL.nil (OkQ.subF (sC 0 rfl (sC 2 rfl (sN))) (OkQ.then_ (OkC.ret (OkQ.then_ret (ret_one rfl (rd_tmp (v := (Value.string (dig n))) rfl) (fun w hw => ⟨rfl, hw.out⟩))))))
 ·replace hc0 := of_decide_eq_false hc0
  exfalso; omega
theorem iformat_ok (n : Nat) (hn : n < 10) (w : World)  : Calls Tryz.prog 167 #[(vK .u64 n), (vI 10)] w (Gives w (Value.string (dig n))) := by
 refine calls_of (args := [(vK .u64 n), (vI 10)]) Tryz.func167 rfl rfl (leB rfl) (OkC.subF (sC 0 rfl (sC 1 rfl (sN))) (q4 (asg rfl rfl (OkL.nil (q1 ?_)))))
 refine q4 (mv rfl rfl (st (ex_eql (c := true) rfl rfl (by decide)) (leB rfl) (OkL.nil (OkQ.subF (sC 0 rfl (sC 1 rfl (sC 4 rfl (sC 10 rfl (sN))))) (OkQ.then_ ?_)))))
 refine OkC.cond_true rfl (OkC.seq (q4 (mv rfl rfl (st (ex_lss (c := (decide (n < 100))) rfl rfl (ltN (a := n) (b := 100))) (leB rfl) (OkL.nil ?_)))))
 refine OkQ.subF (sC 0 rfl (sC 1 rfl (sC 4 rfl (sC 10 rfl (sC 12 rfl (sN)))))) (OkQ.then_ ?_)
 refine OkC.cond rfl (fun hc1 => ?_) (fun hc1 => ?_)
 ·replace hc1 := of_decide_eq_true hc1
  refine q4 (mv rfl rfl (st (ex_conv (c := ((n : Nat) : Int)) rfl Tryz.underlying28 Tryz.underlying3 (convN_i64 (by omega))) (leB rfl) (cl Tryz.call182 (fun w hw => small_ok n (by omega) w) rfl rfl rfl (asg rfl rfl (OkL.nil ?_)))))
  exact OkQ.subF (sC 0 rfl (sC 1 rfl (sC 4 rfl (sC 10 rfl (sN))))) (OkQ.then_ (OkC.ret (OkQ.then_ret (OkQ.then_ret (ret_one rfl (rd_tmp (v := (Value.string (dig n))) rfl) (fun w hw => ⟨rfl, hw.out⟩))))))
 ·replace hc1 := of_decide_eq_false hc1
  exfalso; omega
theorem format_ok (n : Nat) (hn : n < 10) (w : World)  : Calls Tryz.prog 145 #[(vK .u64 n), (vI 10)] w (Gives w (Value.string (dig n))) := by
 refine calls_of (args := [(vK .u64 n), (vI 10)]) Tryz.func145 rfl rfl (leB rfl) (OkC.subF (sC 0 rfl (sC 1 rfl (sN))) (q4 (asg rfl rfl (OkL.nil (q2 ?_)))))
 refine mv rfl rfl (mv rfl rfl (cl Tryz.call167 (fun w hw => iformat_ok n (by omega) w) rfl rfl rfl (asg rfl rfl (OkL.nil (OkQ.subF (sC 4 rfl (sN)) ?_)))))
 exact OkQ.then_ (OkC.ret (ret_one rfl (rd_tmp (v := (Value.string (dig n))) rfl) (fun w hw => ⟨rfl, hw.out⟩)))
theorem nText_ok (n : Nat) (hn : n < 10) (w : World)  : Calls Tryz.prog 107 #[(aG (natL n))] w (Gives w (Value.string (dig n))) := by
 refine calls_of (args := [(aG (natL n))]) Tryz.func107 rfl rfl (leB rfl) (OkC.subF (sC 0 rfl (sN)) (q4 (bx (cs := natL n) rfl rfl rfl fun b1 => asg rfl rfl (q6 (sC 1 rfl (sC 2 rfl (sN))) ?_))))
 refine q4 (st (v := (pP b1 1)) (ex_fieldAddr rfl Tryz.underlying30 rfl Tryz.sizeOf9 rfl) (leB rfl) (ldO 0 (Value.string (bigB n)) tO9 rfl rfl rfl rfl (st (ex_eql_string (c := (decide (n < 18446744073709551616))) rfl rfl bigB_empty) (leB rfl) (OkL.nil (OkQ.subF (sC 1 rfl (sC 2 rfl (sC 10 rfl (sN)))) ?_)))))
 refine OkQ.then_ ?_
 refine OkC.cond rfl (fun hc0 => ?_) (fun hc0 => ?_)
 ·replace hc0 := of_decide_eq_true hc0
  refine q4 (st (v := (pP b1 0)) (ex_fieldAddr rfl Tryz.underlying30 rfl Tryz.sizeOf28 rfl) (leB rfl) (ldO 0 (vK .u64 (lowN n)) tO28 rfl rfl rfl rfl (OkL.retell (k := 12) (u := (vK .u64 n)) rfl (by rw [lowN_small (by omega)]) (cl Tryz.call145 (fun w hw => format_ok n (by omega) w) rfl rfl rfl (asg rfl rfl ?_)))))
  exact OkL.nil (OkQ.subF (sC 1 rfl (sC 2 rfl (sN))) (OkQ.then_ (OkC.ret (OkQ.then_ret (ret_one rfl (rd_tmp (v := (Value.string (dig n))) rfl) (fun w hw => ⟨rfl, hw.out⟩))))))
 ·replace hc0 := of_decide_eq_false hc0
  exfalso; omega
theorem iText_ok (z : Int) (hz : z.natAbs < 10) (w : World)  : Calls Tryz.prog 106 #[(aG (intL z))] w (Gives w (Value.string (textI z))) := by
 refine calls_of (args := [(aG (intL z))]) Tryz.func106 rfl rfl (leB rfl) (OkC.subF (sC 0 rfl (sN)) (q4 (bx (cs := intL z) rfl rfl rfl fun b1 => asg rfl rfl (q6 (sC 1 rfl (sC 2 rfl (sN))) ?_))))
 refine q4 (st (v := (pP b1 2)) (ex_fieldAddr rfl Tryz.underlying34 rfl Tryz.sizeOf4 rfl) (leB rfl) (ldO 0 (Value.bool (decide (z < 0))) tO4 rfl rfl rfl rfl (OkL.nil (OkQ.subF (sC 1 rfl (sC 2 rfl (sC 4 rfl (sN)))) (OkQ.then_ ?_)))))
 refine OkC.cond rfl (fun hc0 => ?_) (fun hc0 => ?_)
 ·replace hc0 := of_decide_eq_true hc0
  have he : textI z = ⟨#[45]⟩ ++ dig z.natAbs := if_pos hc0
  refine q4 (st (v := (pP b1 0)) (ex_fieldAddr rfl Tryz.underlying34 rfl Tryz.sizeOf32 rfl) (leB rfl) (st (v := (pP b1 0)) (ex_fieldAddr rfl Tryz.underlying32 rfl Tryz.sizeOf30 rfl) (leB rfl) (ldA 0 (natL z.natAbs) tA30 rfl rfl rfl rfl rfl (cl Tryz.call107 (fun w hw => nText_ok z.natAbs (by omega) w) rfl rfl rfl (st (v := (Value.string (ByteArray.mk #[45] ++ dig z.natAbs))) (ex_add_string (r := (ByteArray.mk #[45] ++ dig z.natAbs)) rfl rfl (by rw [dig_size]; decide) rfl) (leB rfl) ?_)))))
  exact asg rfl rfl (OkL.nil (OkQ.subF (sC 1 rfl (sC 2 rfl (sN))) (OkQ.then_ (OkC.ret (OkQ.then_ret (ret_one rfl (rd_tmp (v := (Value.string (ByteArray.mk #[45] ++ dig z.natAbs))) rfl) (fun w hw => ⟨by rw [he], hw.out⟩)))))))
 ·replace hc0 := of_decide_eq_false hc0
  have he : textI z = dig z.natAbs := if_neg hc0
  refine OkC.skip (q2 (st (v := (pP b1 0)) (ex_fieldAddr rfl Tryz.underlying34 rfl Tryz.sizeOf32 rfl) (leB rfl) (st (v := (pP b1 0)) (ex_fieldAddr rfl Tryz.underlying32 rfl Tryz.sizeOf30 rfl) (leB rfl) (ldA 0 (natL z.natAbs) tA30 rfl rfl rfl rfl rfl (cl Tryz.call107 (fun w hw => nText_ok z.natAbs (by omega) w) rfl rfl rfl ?_)))))
  exact asg rfl rfl (OkL.nil (OkQ.subF (sC 1 rfl (sC 2 rfl (sN))) (OkQ.then_ (OkC.ret (ret_one rfl (rd_tmp (v := (Value.string (dig z.natAbs))) rfl) (fun w hw => ⟨by rw [he], hw.out⟩))))))
theorem fText_ok (q : Rat) (hn : q.num.natAbs < 10) (hd : q.den < 10) (w : World)  : Calls Tryz.prog 66 #[(aG (fracL q))] w (Gives w (Value.string (textQ q))) := by
 have hs := textI_size q.num
 have hdn : nw q.den ≤ 1099511627776 := Nat.le_trans (nw_small (by omega)) (by omega)
 refine calls_of (args := [(aG (fracL q))]) Tryz.func66 rfl rfl (leB rfl) (OkC.subF (sC 0 rfl (sN)) (q4 (bx (cs := fracL q) rfl rfl rfl fun b1 => asg rfl rfl (q6 (sC 1 rfl (sC 2 rfl (sN))) ?_))))
 refine q4 (ldW 0 tA36 rfl rfl rfl rfl (cl Tryz.call80 (fun w hw => Whole_ok q w) rfl rfl rfl (OkL.nil (OkQ.subF (sC 1 rfl (sC 2 rfl (sC 4 rfl (sN)))) (OkQ.then_ ?_)))))
 refine OkC.cond rfl (fun hc0 => ?_) (fun hc0 => ?_)
 ·replace hc0 := of_decide_eq_true hc0
  have he : textQ q = textI q.num := if_pos hc0
  refine q4 (st (v := (pP b1 0)) (ex_fieldAddr rfl Tryz.underlying36 rfl Tryz.sizeOf34 rfl) (leB rfl) (ldA 0 (intL q.num) tA34 rfl rfl rfl rfl rfl (cl Tryz.call106 (fun w hw => iText_ok q.num (by omega) w) rfl rfl rfl (asg rfl rfl (OkL.nil ?_)))))
  exact OkQ.subF (sC 1 rfl (sC 2 rfl (sN))) (OkQ.then_ (OkC.ret (OkQ.then_ret (ret_one rfl (rd_tmp (v := (Value.string (textI q.num))) rfl) (fun w hw => ⟨by rw [he], hw.out⟩)))))
 ·replace hc0 := of_decide_eq_false hc0
  have he : textQ q = textI q.num ++ ⟨#[47]⟩ ++ dig q.den := if_neg hc0
  refine OkC.skip (q1 (rG [(0, true), (1, true), (4, true), (2, false), (3, true), (5, false), (6, false), (7, true), (8, true)] sr (by kernel_rfl) (fun _ _ d _ _ h => by cases d <;> exact h) (pE (v := (pP b1 0)) rfl (ex_fieldAddr rfl Tryz.underlying36 rfl Tryz.sizeOf34 rfl) rfl (pA 0 (intL q.num) tA34 rfl rfl rfl rfl rfl rfl (pW 0 tA36 rfl rfl rfl rfl rfl ?_)))))
  refine OkE.imp rfl (cl Tryz.call106 (fun w hw => iText_ok q.num (by omega) w) rfl rfl rfl (OkE.back sr (pE (v := (Value.string (textI q.num ++ ByteArray.mk #[47]))) rfl (ex_add_string (r := (textI q.num ++ ByteArray.mk #[47])) rfl rfl (Nat.le_trans (Nat.add_le_add_right hs 1) (by decide)) rfl) rfl (OkE.imp rfl (cl Tryz.call85 (fun w hw => den_ok q (by omega) w) rfl rfl rfl ?_)))))
  refine OkE.back sr (OkE.imp rfl (cl Tryz.call107 (fun w hw => nText_ok q.den (by omega) w) rfl rfl rfl (OkE.back sr (pE (v := (Value.string (textI q.num ++ ByteArray.mk #[47] ++ dig q.den))) rfl (ex_add_string (r := (textI q.num ++ ByteArray.mk #[47] ++ dig q.den)) rfl rfl (by rw [ByteArray.size_append, dig_size]; exact Nat.le_trans (Nat.add_le_add_right (Nat.add_le_add_right hs 1) 1) (by decide)) rfl) rfl (pS rfl rfl rfl ?_)))))
  exact OkE.nil (OkQ.subF (sC 1 rfl (sC 2 rfl (sN))) (OkQ.then_ (OkC.ret (ret_one rfl (rd_tmp (v := (Value.string (textI q.num ++ ByteArray.mk #[47] ++ dig q.den))) rfl) (fun w hw => ⟨by rw [he], hw.out⟩)))))
end
end Go.Proofs.YtpkoldfmbebmgaaGreatDoor
