import Derived.Test.YtnofgcpajmldkaaGreatDoorPart20
import Derived.Test.YtnofgcpajmldkaaGreatDoorPart21
import Derived.Test.YtnofgcpajmldkaaGreatDoorPart28
import Derived.Test.YtnofgcpajmldkaaGreatDoorPart29
namespace Go.Proofs.YtnofgcpajmldkaaGreatDoor
open Go Go.RowKit
set_option linter.unusedVariables false
set_option linter.unusedSimpArgs false
section
set_option maxRecDepth 100000
theorem WhereV_ok (a b c p : Pt) (hs : SzP a + SzP b + SzP c + SzP p ≤ 268435456) (w : World) : Calls Tryz.prog 22 #[aG (ptL a), aG (ptL b), aG (ptL c), aG (ptL p)] w (Gives w (vN (whereV a b c p))) := by
 unfold whereV
 by_cases h : turnP a b c = 0
 ·rw [if_pos h]; exact Where0_ok a b c p hs h w
 ·rw [if_neg h]; exact Where_ok a b c p hs h w
theorem all_ok {ps : List Pt} {ts ss : List (Nat × Nat × Nat)} (x : MX ps ts ss) (w : World) {S : Nat → Prop} (hx : Ro S w x) : Calls Tryz.prog 15 #[(aG (mxL x))] w (GivesR (CX 43 (mxL x)) S w) := by
 have lx := atA (W := w) hx
 refine calls_ofR (args := [(aG (mxL x))]) (L := [rowR x.a.p (rowsL ptL ps), rowR x.b.p (rowsL t3L ts), rowR x.c.p (rowsL t3L ss)]) Tryz.func15 rfl rfl (leB rfl) (sxA hx roL_nil) (OkC.subF (sL [0] rfl) (q4 (bx' (cs := mxL x) rfl fun b1 => OkL.frzX 0 rfl rfl fun hnb1 => asg' rfl ?_)))
 refine q3 (sL [1, 2] rfl) (st' (v := (Value.func (.func 43) #[] #[(pP b1 0)])) (ex_makeFunc (vs := []) (us := [(pP b1 0)]) rfl rfl) rfl (asg' rfl (OkL.nil (OkQ.subF (sL [2] rfl) (OkQ.then_ ?_)))))
 exact OkC.ret (ret_one rfl (rd_tmp (v := (Value.func (.func 43) #[] #[(pP b1 0)])) rfl) (fun w hw => (retR hw (a := (⟨b1⟩ : CX 43 (mxL x))) (inB (x := (⟨b1⟩ : BX (mxL x))) hw 0 rfl hnb1) rfl)))
theorem tfill_numte_82 (x0 x1 x2 : Pt) : Instr.fill (fun i => some (i * 10, 10)) (cnL ((⟨0, 0⟩, ⟨0, 0⟩, ⟨0, 0⟩) : P3)).toArray [(0, .agg (ptL x0).toArray), (1, .agg (ptL x1).toArray), (2, .agg (ptL x2).toArray)] = some (cnL (x0, x1, x2)).toArray := by kernel_rfl
theorem all1_ok {ps : List Pt} {ts ss : List (Nat × Nat × Nat)} (x : MX ps ts ss) (hl : ts.length < 4611686018427387904) (bo : BX (mxL x)) (l : Nat) (J : Nat → World → Prop) (X : World → Prop) (hL : Lp Tryz.prog l (nB ps.length ts) (fun t => [vN t, aG (cnL (corT ps (ts.getD t (0, 0, 0))))]) J X) {S : Nat → Prop} (hro : ∀ t W, J t W → Ro S W bo ∧ Ro S W x) (w : World) (h0 : J 0 w) : Calls Tryz.prog 43 #[(Value.func (.yield l) #[] #[]), (pP bo.b 0)] w ((fun e W2 => (∃ v, e = .returned v) ∧ (J (nB ps.length ts) W2 ∨ X W2))) := by
 have hbo := (hro 0 w h0).1
 have hx := (hro 0 w h0).2
 have lbo := atA (W := w) hbo
 have lx := atA (W := w) hx
 refine calls_ofR (args := [(Value.func (.yield l) #[] #[]), (pP bo.b 0)]) (L := [rowR (some ⟨bo.b, 0, none⟩) (mxL x), rowR x.a.p (rowsL ptL ps), rowR x.b.p (rowsL t3L ts), rowR x.c.p (rowsL t3L ss)]) Tryz.func43 rfl rfl (leB rfl) (sxA hbo (sxA hx roL_nil)) (OkC.subF (sL [0, 1] rfl) (OkC.seq (q4 (st' (v := (aG (mxL x))) (ex_load_rowR_agg (q := some ⟨bo.b, 0, none⟩) (vs := mxL x) (off := 0) (i := 0) rfl rfl (fun e => by cases e) tA37 rfl rfl) rfl (cl' Tryz.call29 (fun w hw => Numd_ok x hl w (inS hw 1 rfl lx)) rfl ?_)))))
 refine st' (ex_not (c := (!(numB ps.length ts))) rfl rfl) rfl (OkL.nil (OkQ.subF (sL [0, 1, 9] rfl) (OkQ.then_ ?_)))
 refine OkC.cond rfl (fun hc0 => ?_) (fun hc0 => ?_)
 ·simp only [Bool.and_eq_true, Bool.or_eq_true, Bool.and_eq_false_iff, Bool.or_eq_false_iff, Bool.not_eq_true', Bool.not_eq_false', decide_eq_true_eq, decide_eq_false_iff_not] at hc0
  exact OkC.ret (OkQ.then_ret (ret_none (.inl rfl) rfl  (fun w hw => ⟨⟨_, rfl⟩, .inl (by rw [show nB ps.length ts = 0 from if_neg (by simp [hc0])]; exact hL.grow _ _ _ h0 hw.out)⟩)))
 ·simp only [Bool.and_eq_true, Bool.or_eq_true, Bool.and_eq_false_iff, Bool.or_eq_false_iff, Bool.not_eq_true', Bool.not_eq_false', decide_eq_true_eq, decide_eq_false_iff_not] at hc0
  refine OkC.skip (q2 (st' (v := (pP bo.b 1)) (ex_fieldAddr rfl Tryz.underlying37 rfl Tryz.sizeOf34 rfl) rfl (st' (ex_load_rowR_one (q := some ⟨bo.b, 0, none⟩) (v := (Value.slice x.b.p ts.length x.b.c)) (off := 1) (i := 0) rfl rfl (fun e => by cases e) tO34 rfl) rfl (st' (v := (vN ts.length)) (ex_len_slice rfl Tryz.underlying34) rfl (mv' rfl ?_)))))
  refine OkL.nil (OkQ.subF (sL [0, 1, 12, 13] rfl) (OkQ.then_ (OkC.block (OkC.subF (F' := [(13, (vI 0)), (12, (vN ts.length)), (0, (Value.func (.yield l) #[] #[])), (1, (pP bo.b 0))]) (sF rfl) ?_))))
  refine OkC.loopI hL (fun t => [(13, (vN t)), (12, (vN ts.length)), (0, (Value.func (.yield l) #[] #[])), (1, (pP bo.b 0))]) [rowR (some ⟨bo.b, 0, none⟩) (mxL x), rowR x.a.p (rowsL ptL ps), rowR x.b.p (rowsL t3L ts), rowR x.c.p (rowsL t3L ss)] (fun t W h => Own.startR (sxA (hro t W h).1 (sxA (hro t W h).2 roL_nil))) (fun t W ht hj => ?_) (fun W hj => ?_) h0
  ·skip
   obtain ⟨hnb, hti⟩ := nB_lt ht
   have lbo := atA (W := W) (hro t W hj).1
   have lx := atA (W := W) (hro t W hj).2
   refine OkC.subF (F' := [(13, (vN t)), (12, (vN ts.length)), (0, (Value.func (.yield l) #[] #[])), (1, (pP bo.b 0))]) (sF rfl) (q4 (st' (ex_lss (c := true) rfl rfl (by simp; omega)) rfl (OkL.nil (q1 (OkC.cond_true rfl ?_)))))
   refine OkC.skip (q1 (OkC.block (q4 (mv' rfl (asg' rfl ?_)))))
   refine q3 (sL [13, 12, 0, 1, 3] rfl) (st' (v := (aG (mxL x))) (ex_load_rowR_agg (q := some ⟨bo.b, 0, none⟩) (vs := mxL x) (off := 0) (i := 0) rfl rfl (fun e => by cases e) tA37 rfl rfl) rfl (mv' rfl (cl' Tryz.call44 (fun w hw => Corners_ok x t hti (numB_at hnb hti) w (inS hw 1 rfl lx)) rfl (mv' rfl (st' (ex_extract (v := (aG (ptL (cor ps (ts.getD t (0, 0, 0)).1)))) rfl rfl) rfl ?_)))))
   refine st' (ex_extract (v := (aG (ptL (cor ps (ts.getD t (0, 0, 0)).2.1)))) rfl rfl) rfl (st' (ex_extract (v := (aG (ptL (cor ps (ts.getD t (0, 0, 0)).2.2)))) rfl rfl) rfl (al tZ49 rfl fun b1 => al tZ49 rfl fun b2 => al tZ49 rfl fun b3 => stW2' rfl Tryz.sizeOf49 rfl ?_))
   refine stW1' rfl Tryz.sizeOf49 rfl (stW0' rfl Tryz.sizeOf49 rfl (q6 (sL [13, 12, 0, 1, 3, 4, 5, 6] rfl) ?_))
   refine OkC.ofI (OkI.cut 6 (fun _ _ h => by obtain ⟨⟨v, hv⟩, _⟩ := h; cases hv) rfl ?_)
   refine mv' rfl (mv' rfl (ldW' 2 tA49 rfl (ldW' 1 tA49 rfl (ldW' 0 tA49 rfl (st' (v := (aG (cnL (cor ps (ts.getD t (0, 0, 0)).1, cor ps (ts.getD t (0, 0, 0)).2.1, cor ps (ts.getD t (0, 0, 0)).2.2)))) (ex_build_array (zs := cnL ((⟨0, 0⟩, ⟨0, 0⟩, ⟨0, 0⟩) : P3)) (vs := cnL (cor ps (ts.getD t (0, 0, 0)).1, cor ps (ts.getD t (0, 0, 0)).2.1, cor ps (ts.getD t (0, 0, 0)).2.2)) (pv := [(0, (aG (ptL (cor ps (ts.getD t (0, 0, 0)).1)))), (1, (aG (ptL (cor ps (ts.getD t (0, 0, 0)).2.1)))), (2, (aG (ptL (cor ps (ts.getD t (0, 0, 0)).2.2))))]) Tryz.zeroValue82 Tryz.underlying82 Tryz.sizeOf49 rfl (tfill_numte_82 (cor ps (ts.getD t (0, 0, 0)).1) (cor ps (ts.getD t (0, 0, 0)).2.1) (cor ps (ts.getD t (0, 0, 0)).2.2))) rfl ?_)))))
   refine OkL.nil ?_
   refine OkQ.thenI (OkLI.yield t hL ht (fun w hw => hL.grow t _ _ hj hw.out) rfl rfl rfl (fun W2 hj2 => ?_) (fun W2 hx => ?_))
   ·skip
    refine OkLI.ofL (fun _ _ h => by obtain ⟨⟨v, hv⟩, _⟩ := h; cases hv) rfl (st' (ex_not (c := false) rfl rfl) rfl (OkL.nil (OkQ.subF (sL [13, 12, 0, 1, 3, 4, 5, 6, 30] rfl) (OkQ.then_ (OkC.cond_false rfl ?_)))))
    refine OkC.skip (OkQ.in_normal (OkQ.then_ (OkC.region (st' (ex_add (c := ((t + 1 : Nat) : Int)) rfl rfl (addN_i64 (a := t) (b := 1) (by omega))) rfl (mv' rfl ?_)))))
    exact OkL.nil (OkQ.subF (sL [13, 12, 0, 1, 3, 4, 5, 6] rfl) (OkQ.thenI fun a w ha hw => ⟨ha.sub (sF rfl), hL.grow (t + 1) _ _ hj2 hw.out⟩))
   ·skip
    refine OkLI.ofL (fun _ _ h => by obtain ⟨⟨v, hv⟩, _⟩ := h; cases hv) rfl (st' (ex_not (c := true) rfl rfl) rfl (OkL.nil (OkQ.subF (sL [13, 12, 0, 1, 3, 4, 5, 6, 30] rfl) (OkQ.then_ (OkC.cond_true rfl ?_)))))
    exact OkC.ret (OkQ.in_ret (OkQ.then_ret (OkQ.then_ret (OkQ.in_ret (ret_none (.inl rfl) rfl  (fun w hw => ⟨⟨_, rfl⟩, .inr (hL.growX _ _ hx hw.out)⟩))))))
  ·skip
   have hN : nB ps.length ts = ts.length := if_pos hc0
   refine OkC.subF (F' := [(13, (vN (nB ps.length ts))), (12, (vN ts.length)), (0, (Value.func (.yield l) #[] #[])), (1, (pP bo.b 0))]) (sF rfl) (q4 (st' (ex_lss (c := false) rfl rfl (by simp; omega)) rfl (OkL.nil (q1 (OkC.cond_false rfl ?_)))))
   exact OkC.exit (OkQ.then_exit (OkQ.then_exit (OkQ.in_exit (ret_none (.inr rfl) rfl  (fun w hw => ⟨⟨_, rfl⟩, .inl (hL.grow _ _ _ hj hw.out)⟩)))))
theorem Find_ok {ps : List Pt} {ts ss : List (Nat × Nat × Nat)} (x : MX ps ts ss) (hl : ts.length < 4611686018427387904) (q : Pt) (hz : ∀ i, SzP (cor ps i) ≤ 4) (hq : SzP q ≤ 1000000) (w : World) {S : Nat → Prop} (hx : Ro S w x) : Calls Tryz.prog 10 #[(aG (mxL x)), (aG (ptL q))] w (Gives w (Value.tuple #[(vI ((findB ps ts q).1)), (vN ((findB ps ts q).2))])) := by
 have lx := atA (W := w) hx
 refine calls_ofM' (args := [(aG (mxL x)), (aG (ptL q))]) (L := [rowR x.a.p (rowsL ptL ps), rowR x.b.p (rowsL t3L ts), rowR x.c.p (rowsL t3L ss)]) Tryz.func10 rfl rfl (leB rfl) (sxA hx roL_nil) (OkI.subF (sL [0, 1] rfl) (OkI.seq (OkI.region (fun _ _ h => by cases h.1) rfl (bx' (cs := mxL x) rfl fun b1 => bx' (cs := ptL q) rfl fun b2 => ?_))))
 refine al tZ3 rfl fun b3 => al tZ3 rfl fun b4 => OkL.nil (OkQ.subF (sL [2, 3, 4, 5] rfl) (OkQ.then_I (OkI.seq ?_)))
 refine OkI.seq (OkI.region (fun _ _ h => by cases h.1) rfl (ldW' 3 tA37 rfl (OkL.callR (S := S) (α := CX 43 (mxL x)) (args := [(aG (mxL x))]) Tryz.call15 (fun w hw => all_ok x w (inS hw 4 rfl lx)) rfl rfl rfl fun fa lfa => OkL.nil (OkQ.subF (sL [3, 4, 5, 10] rfl) ?_))))
 refine OkQ.then_I (OkI.block (OkI.subF (F' := [(10, (Value.func (.func 43) #[] #[(pP fa.b 0)])), (3, (pP b2 0)), (4, (pP b3 0)), (5, (pP b4 0))]) (sF rfl) ?_))
 refine OkI.rangeFunc (σ := Unit) rfl Tryz.call43 rfl rfl (nB ps.length ts) (fun t => (vN t)) (fun t => (aG (cnL (corT ps (ts.getD t (0, 0, 0)))))) (fun t s => findAt ps q ts 0 = findAt ps q (ts.drop t) t) (fun t s => numB ps.length ts = true ∧ findAt ps q ts 0 = ((t : Int), whereT ps q (ts.getD t (0, 0, 0)))) (fun t s => [rowR (some ⟨fa.b, 0, none⟩) (mxL x), blk b4 3 ([(vI 0)]), blk b3 3 ([(vI 0)]), blk b2 49 (ptL q), blk b1 37 (mxL x), rowR x.a.p (rowsL ptL ps), rowR x.b.p (rowsL t3L ts), rowR x.c.p (rowsL t3L ss)]) (fun t s => [rowR (some ⟨fa.b, 0, none⟩) (mxL x), blk b4 3 ([(vN (whereT ps q (ts.getD t (0, 0, 0))))]), blk b3 3 ([(vN t)]), blk b2 49 (ptL q), blk b1 37 (mxL x), rowR x.a.p (rowsL ptL ps), rowR x.b.p (rowsL t3L ts), rowR x.c.p (rowsL t3L ss)]) () sr rfl (fun l J X W hJ hL h0 => all1_ok x hl fa.bx l J X hL (fun t W h => by obtain ⟨s, _, hw⟩ := hJ t W h; exact ⟨Ro.top (inS hw 0 rfl lfa : Ro _ _ fa), Ro.top (inS hw 5 rfl lx)⟩) W h0) (fun l la1 la2 da t s ht hP K hK => ?_) (fun la D s hP => ?_) (fun la D t s hP => ?_)
 ·skip
  obtain ⟨hnb, hti⟩ := nB_lt ht
  refine OkI.subF (F' := [(12, (aG (cnL (corT ps (ts.getD t (0, 0, 0)))))), (11, (vN t)), (10, (Value.func (.func 43) #[] #[(pP fa.b 0)])), (3, (pP b2 0)), (4, (pP b3 0)), (5, (pP b4 0))]) (sF rfl) (OkI.subL (L' := [la1, da, rowR (some ⟨fa.b, 0, none⟩) (mxL x), blk b4 3 ([(vI 0)]), blk b3 3 ([(vI 0)]), blk b2 49 (ptL q), blk b1 37 (mxL x), rowR x.a.p (rowsL ptL ps), rowR x.b.p (rowsL t3L ts), rowR x.c.p (rowsL t3L ss)]) (List.Sublist.refl _) (OkI.seq (OkI.region (fun _ _ h => h) rfl (asg' rfl (OkL.nil ?_)))))
  refine OkQ.then_I (OkI.region (fun _ _ h => h) rfl (al tZ82 rfl fun b5 => stW0' rfl Tryz.sizeOf82 rfl (OkL.nil ?_)))
  refine OkQ.thenI (hK 1 _ _ rfl ?_)
  refine OkI.subL (L' := [blk b5 82 (cnL (corT ps (ts.getD t (0, 0, 0)))), la2, da, rowR (some ⟨fa.b, 0, none⟩) (mxL x), blk b4 3 ([(vI 0)]), blk b3 3 ([(vI 0)]), blk b2 49 (ptL q), blk b1 37 (mxL x), rowR x.a.p (rowsL ptL ps), rowR x.b.p (rowsL t3L ts), rowR x.c.p (rowsL t3L ss)]) (List.Sublist.refl _) (OkI.block (OkI.seq (OkI.region (fun _ _ h => h) rfl (st' (v := (pP b5 0)) (ex_indexAddr_array (j := 0) rfl rfl Tryz.underlying82 Tryz.sizeOf49 rfl (by decide) rfl) rfl (ldA' 0 (ptL ((corT ps (ts.getD t (0, 0, 0))).1)) tA49 rfl ?_)))))
  refine st' (v := (pP b5 10)) (ex_indexAddr_array (j := 1) rfl rfl Tryz.underlying82 Tryz.sizeOf49 rfl (by decide) rfl) rfl (ldA' 0 (ptL ((corT ps (ts.getD t (0, 0, 0))).2.1)) tA49 rfl (st' (v := (pP b5 20)) (ex_indexAddr_array (j := 2) rfl rfl Tryz.underlying82 Tryz.sizeOf49 rfl (by decide) rfl) rfl (ldA' 0 (ptL ((corT ps (ts.getD t (0, 0, 0))).2.2)) tA49 rfl (ldW' 6 tA49 rfl (ck' Tryz.call22 (WhereV_ok (cor ps (ts.getD t (0, 0, 0)).1) (cor ps (ts.getD t (0, 0, 0)).2.1) (cor ps (ts.getD t (0, 0, 0)).2.2) q (by have z1 := hz (ts.getD t (0, 0, 0)).1; have z2 := hz (ts.getD t (0, 0, 0)).2.1; have z3 := hz (ts.getD t (0, 0, 0)).2.2; omega)) rfl ?_)))))
  refine asg' rfl (OkL.nil (OkQ.then_I (OkI.seq (OkI.region (fun _ _ h => h) rfl (mv' rfl ?_)))))
  refine st' (ex_neq (c := (decide ((whereT ps q (ts.getD t (0, 0, 0))) ≠ 0))) rfl rfl (neN (a := whereT ps q (ts.getD t (0, 0, 0))) (b := 0))) rfl (OkL.nil (OkQ.then_I ?_))
  refine OkI.cond rfl (fun hc0 => ?_) (fun hc0 => ?_)
  ·replace hc0 := of_decide_eq_true hc0
   refine OkI.seq (OkI.region (fun _ _ h => h) rfl (mv' rfl (mv' rfl (stX 5 (off := 0) (vs := [(vN t)]) (cs' := [(vN t)]) (wt_none rfl) rfl Tryz.sizeOf3 rfl (stX 4 (off := 0) (vs := [(vN (whereT ps q (ts.getD t (0, 0, 0))))]) (cs' := [(vN (whereT ps q (ts.getD t (0, 0, 0))))]) (wt_none rfl) rfl Tryz.sizeOf3 rfl ?_)))))
   exact OkL.nil (OkQ.then_I (OkI.ret (OkQ.in_ret (OkQ.rdR () ⟨hnb, hP.trans (findAt_hit hti (by simpa using hc0))⟩ (sl sr)))))
  ·replace hc0 := of_decide_eq_false hc0
   exact OkI.skip (OkQ.in_normal (OkQ.rdN () (hP.trans (findAt_step hti (by simpa using hc0))) (sl sr)))
 ·skip
  refine OkD.behind ?_
  have hr := findB_end hP
  refine OkD.subF (F' := [(10, (Value.func (.func 43) #[] #[(pP fa.b 0)])), (3, (pP b2 0)), (4, (pP b3 0)), (5, (pP b4 0))]) (sF rfl) (OkD.seq (OkD.region (fun _ _ h => by cases h.1) rfl (stX 4 (off := 0) (vs := [(vI (-1 : Int))]) (cs' := [(vI (-1 : Int))]) (wt_none rfl) rfl Tryz.sizeOf3 rfl (stW3' rfl Tryz.sizeOf3 rfl (OkL.nil ?_)))))
  exact OkQ.then_D (OkD.ret (retD 1 rfl (ret_two rfl (rd_one (i := 4) (v := (vI (-1 : Int))) rfl rfl Tryz.isAgg3 rfl) (rd_one (i := 3) (v := (vI 0)) rfl rfl Tryz.isAgg3 rfl) (fun w hw => ⟨by rw [hr] <;> rfl, hw.out⟩))))
 ·skip
  refine OkD.out ?_
  have hr := findB_hit hP.1 hP.2
  exact retD 1 rfl (ret_two rfl (rd_one (i := 4) (v := (vN t)) rfl rfl Tryz.isAgg3 rfl) (rd_one (i := 3) (v := (vN (whereT ps q (ts.getD t (0, 0, 0))))) rfl rfl Tryz.isAgg3 rfl) (fun w hw => ⟨by rw [hr] <;> rfl, hw.out⟩))
end
section
set_option maxRecDepth 100000
end
section
theorem Sz_div0 (a b : Rat) : Sz (a / b) ≤ Sz a + Sz b := by
  by_cases h : b = 0
  · subst h
    rw [show a / 0 = 0 by rw [Rat.div_def, Rat.inv_zero, Rat.mul_zero]]
    have h1 : Sz 0 ≤ 1 := by decide +kernel
    have h2 := Sz_pos a
    omega
  · exact Sz_div h
def gtQ (x y : Rat) : Rat := if cmpQ x y < 0 then y else x
theorem Sz_gtQ {x y : Rat} {k : Nat} (h1 : Sz x ≤ k) (h2 : Sz y ≤ k) : Sz (gtQ x y) ≤ k := by unfold gtQ; split <;> assumption
def stS (u v : Rat) (s : Rat × Rat) : Rat × Rat :=
  if (v - u).num.sign = 1 then (gtQ s.1 (-u / (v - u)), s.2) else if (v - u).num.sign = -1 then (s.1, -gtQ (-s.2) (-(-u / (v - u)))) else s
def badS (u v : Rat) : Bool := !decide ((v - u).num.sign = 1) && !decide ((v - u).num.sign = -1) && decide (u.num.sign < 0)
section
variable {u v f t : Rat}
theorem st_pos (h : (v - u).num.sign = 1) : (gtQ f (-u / (v - u)), t) = stS u v (f, t) := by rw [stS, if_pos h]
theorem st_neg (h : (v - u).num.sign = -1) : (f, -gtQ (-t) (-(-u / (v - u)))) = stS u v (f, t) := by rw [stS, if_neg (by rw [h]; decide), if_pos h]
theorem st_zero (h1 : ¬ (v - u).num.sign = 1) (h2 : ¬ (v - u).num.sign = -1) : (f, t) = stS u v (f, t) := by rw [stS, if_neg h1, if_neg h2]
theorem bad_pos (h : (v - u).num.sign = 1) : badS u v = false := by simp [badS, h]
theorem bad_neg (h : (v - u).num.sign = -1) : badS u v = false := by simp [badS, h]
theorem bad_ok (h : ¬ u.num.sign < 0) : badS u v = false := by rw [badS, decide_eq_false h, Bool.and_false]
theorem bad_yes (h1 : ¬ (v - u).num.sign = 1) (h2 : ¬ (v - u).num.sign = -1) (h3 : u.num.sign < 0) : badS u v = true := by rw [badS, decide_eq_false h1, decide_eq_false h2, decide_eq_true h3]; rfl
end
def spanQ (u0 v0 u1 v1 u2 v2 : Rat) : Rat × Rat × Bool :=
  if badS u0 v0 = true then (0, 1, false) else
  if badS u1 v1 = true then ((stS u0 v0 (0, 1)).1, (stS u0 v0 (0, 1)).2, false) else
  if badS u2 v2 = true then ((stS u1 v1 (stS u0 v0 (0, 1))).1, (stS u1 v1 (stS u0 v0 (0, 1))).2, false) else
  ((stS u2 v2 (stS u1 v1 (stS u0 v0 (0, 1)))).1, (stS u2 v2 (stS u1 v1 (stS u0 v0 (0, 1)))).2, decide (cmpQ (stS u2 v2 (stS u1 v1 (stS u0 v0 (0, 1)))).1 (stS u2 v2 (stS u1 v1 (stS u0 v0 (0, 1)))).2 < 0))
section
variable {u0 v0 u1 v1 u2 v2 f0 t0 f1 t1 f2 t2 : Rat}
theorem span_b0 (h0 : badS u0 v0 = true) : spanQ u0 v0 u1 v1 u2 v2 = (0, 1, false) := by rw [spanQ, if_pos h0]
theorem span_b1 (h0 : badS u0 v0 = false) (e0 : (f0, t0) = stS u0 v0 (0, 1)) (h1 : badS u1 v1 = true) : spanQ u0 v0 u1 v1 u2 v2 = (f0, t0, false) := by rw [spanQ, h0, h1, ← e0]; rfl
theorem span_b2 (h0 : badS u0 v0 = false) (e0 : (f0, t0) = stS u0 v0 (0, 1)) (h1 : badS u1 v1 = false) (e1 : (f1, t1) = stS u1 v1 (f0, t0)) (h2 : badS u2 v2 = true) : spanQ u0 v0 u1 v1 u2 v2 = (f1, t1, false) := by rw [spanQ, h0, h1, h2, ← e0, ← e1]; rfl
theorem span_b3 (h0 : badS u0 v0 = false) (e0 : (f0, t0) = stS u0 v0 (0, 1)) (h1 : badS u1 v1 = false) (e1 : (f1, t1) = stS u1 v1 (f0, t0)) (h2 : badS u2 v2 = false) (e2 : (f2, t2) = stS u2 v2 (f1, t1)) : spanQ u0 v0 u1 v1 u2 v2 = (f2, t2, decide (cmpQ f2 t2 < 0)) := by rw [spanQ, h0, h1, h2, ← e0, ← e1, ← e2]; rfl
theorem stS_sz {u v : Rat} {s : Rat × Rat} {k : Nat} (h : 2 * Sz u + Sz v + 1 ≤ k) (h1 : Sz s.1 ≤ k) (h2 : Sz s.2 ≤ k) : Sz (stS u v s).1 ≤ k ∧ Sz (stS u v s).2 ≤ k := by
  have hk : Sz (-u / (v - u)) ≤ k := by
    have z1 := Sz_div0 (-u) (v - u)
    have z2 := Sz_sub v u
    rw [Sz_neg] at z1
    omega
  unfold stS
  split
  · exact ⟨Sz_gtQ h1 hk, h2⟩
  · split
    · exact ⟨h1, by rw [Sz_neg]; exact Sz_gtQ (by rw [Sz_neg]; exact h2) (by rw [Sz_neg]; exact hk)⟩
    · exact ⟨h1, h2⟩
end
def spanV (c : P3) (a b : Pt) : Rat × Rat × Bool :=
  spanQ (turnP a c.2.1 c.2.2 / turnP c.1 c.2.1 c.2.2) (turnP b c.2.1 c.2.2 / turnP c.1 c.2.1 c.2.2) (turnP c.1 a c.2.2 / turnP c.1 c.2.1 c.2.2) (turnP c.1 b c.2.2 / turnP c.1 c.2.1 c.2.2) (turnP c.1 c.2.1 a / turnP c.1 c.2.1 c.2.2) (turnP c.1 c.2.1 b / turnP c.1 c.2.1 c.2.2)
theorem Sz_bary {a b c d e f : Pt} (h : turnP a b c ≠ 0) (ha : SzP a ≤ 6) (hb : SzP b ≤ 6) (hc : SzP c ≤ 6) (hd : SzP d ≤ 6) (he : SzP e ≤ 6) (hf : SzP f ≤ 6) : Sz (turnP d e f / turnP a b c) ≤ 106 := by
  have h1 := Sz_div (a := turnP d e f) h
  have h2 := Sz_turn a b c
  have h3 := Sz_turn d e f
  omega
theorem spanQ_sz {u0 v0 u1 v1 u2 v2 : Rat} (a0 : Sz u0 ≤ 106) (b0 : Sz v0 ≤ 106) (a1 : Sz u1 ≤ 106) (b1 : Sz v1 ≤ 106) (a2 : Sz u2 ≤ 106) (b2 : Sz v2 ≤ 106) : Sz (spanQ u0 v0 u1 v1 u2 v2).1 ≤ 400 ∧ Sz (spanQ u0 v0 u1 v1 u2 v2).2.1 ≤ 400 := by
  have z0 : Sz 0 ≤ 400 := by decide +kernel
  have z1 : Sz 1 ≤ 400 := by decide +kernel
  have s0 := stS_sz (u := u0) (v := v0) (s := (0, 1)) (k := 400) (by omega) z0 z1
  have s1 := stS_sz (u := u1) (v := v1) (k := 400) (by omega) s0.1 s0.2
  have s2 := stS_sz (u := u2) (v := v2) (k := 400) (by omega) s1.1 s1.2
  unfold spanQ
  split
  · exact ⟨z0, z1⟩
  split
  · exact s0
  split
  · exact s1
  · exact s2
end
end Go.Proofs.YtnofgcpajmldkaaGreatDoor
