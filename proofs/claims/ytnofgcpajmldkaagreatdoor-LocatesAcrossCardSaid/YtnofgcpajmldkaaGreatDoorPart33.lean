import Derived.Test.YtnofgcpajmldkaaGreatDoorPart31
import Derived.Test.YtnofgcpajmldkaaGreatDoorPart32
namespace Go.Proofs.YtnofgcpajmldkaaGreatDoor
open Go Go.RowKit
set_option linter.unusedVariables false
set_option linter.unusedSimpArgs false
section
set_option maxRecDepth 100000
theorem tE51 : ElemT Tryz.prog 51 61 11 120 := ⟨Tryz.underlying51, elemT_of (by kernel_rfl)⟩
theorem clip_ok (p : Option Addr) (n cp : Nat) (h : n ≤ cp) (w : World)  : Calls Tryz.prog 28 #[(Value.slice p n cp)] w (Gives w (Value.slice p n n)) := by
 refine calls_of (args := [(Value.slice p n cp)]) Tryz.func28 rfl rfl (leB rfl) (OkC.subF (sL [0] rfl) (q4 (asg' rfl (OkL.nil (q2 ?_)))))
 refine mv' rfl (mv' rfl (st' (v := (vN n)) (ex_len_slice rfl Tryz.underlying51) rfl (mv' rfl (st' (v := (vN n)) (ex_len_slice rfl Tryz.underlying51) rfl (st' (v := (Value.slice p n n)) (ex_slice_clip (m := n) rfl rfl rfl Tryz.underlying51 Tryz.sizeOf61 (by omega)) rfl ?_)))))
 exact asg' rfl (OkL.nil (OkQ.subF (sL [2] rfl) (OkQ.then_ (OkC.ret (ret_one rfl (rd_tmp (v := (Value.slice p n n)) rfl) (fun w hw => ⟨rfl, hw.out⟩))))))
theorem filx_numti_61_0N_1fracL_2fracL (x0 : Nat) (x1 : Rat) (x2 : Rat) : Instr.fill ([(0, 1), (1, 5), (6, 5)].toArray[·]?) ([(vI 0)] ++ fracL (0 : Rat) ++ fracL (0 : Rat)).toArray [(0, vN x0), (1, .agg (fracL x1).toArray), (2, .agg (fracL x2).toArray)] = some ([(vN x0)] ++ fracL x1 ++ fracL x2).toArray := by kernel_rfl
theorem tfs_numti_61_1 (x0 : Pc) : Instr.fill (fun i => some (i * 11, 11)) ((Array.range (1 * 11)).map ((Value.agg ([(vI 0)] ++ fracL (0 : Rat) ++ fracL (0 : Rat)).toArray).cells[· % (Value.agg ([(vI 0)] ++ fracL (0 : Rat) ++ fracL (0 : Rat)).toArray).cells.size]!)) [(0, .agg (pcL x0).toArray)] = some (pcL x0).toArray := by kernel_rfl
set_option maxHeartbeats 2000000 in
theorem Ray2_ok {ps : List Pt} {ts ss : List (Nat × Nat × Nat)} (x : MX ps ts ss) (hl : ts.length ≤ 1000) (a b : Pt) (hz : ∀ i, SzP (cor ps i) ≤ 4) (sa : SzP a ≤ 6) (sb : SzP b ≤ 6) (hab : ¬ a = b) (hne : ∀ j, j < ts.length → turnP (cor ps (ts.getD j (0, 0, 0)).1) (cor ps (ts.getD j (0, 0, 0)).2.1) (cor ps (ts.getD j (0, 0, 0)).2.2) ≠ 0) (p1 p2 : Pc) (h2 : rayL ps ts a b (nB ps.length ts) = [p1, p2]) (hps : Sz p1.lo + Sz p2.lo ≤ 1000000) (w : World) {S : Nat → Prop} (hx : Ro S w x) : Calls Tryz.prog 6 #[(aG (mxL x)), (aG (ptL a)), (aG (ptL b))] w (GivesR (RX (rowsL pcL (srt2 p1 p2)) 2) S w) := by
 have lx := atA (W := w) hx
 refine calls_ofM' (args := [(aG (mxL x)), (aG (ptL a)), (aG (ptL b))]) (L := [rowR x.a.p (rowsL ptL ps), rowR x.b.p (rowsL t3L ts), rowR x.c.p (rowsL t3L ss)]) Tryz.func6 rfl rfl (leB rfl) (sxA hx roL_nil) (OkI.subF (sL [0, 1, 2] rfl) (OkI.seq (OkI.region (fun _ _ h => by obtain ⟨_, h, _⟩ := h; cases h) rfl (bx' (cs := mxL x) rfl fun b1 => bx' (cs := ptL a) rfl fun b2 => ?_))))
 refine bx' (cs := ptL b) rfl fun b3 => asg' rfl (OkL.nil (OkQ.subF (sL [3, 4, 5, 6] rfl) (OkQ.then_I (OkI.seq ?_))))
 refine OkI.region (fun _ _ h => by obtain ⟨_, h, _⟩ := h; cases h) rfl (al tZ51 rfl fun b4 => OkL.nilRow 61 11 (OkL.nil (OkQ.then_I (OkI.seq ?_))))
 refine OkI.seq (OkI.region (fun _ _ h => by obtain ⟨_, h, _⟩ := h; cases h) rfl (ldW' 3 tA49 rfl (ldW' 2 tA49 rfl (st' (ex_eql_agg (c := decide (a = b)) rfl rfl Tryz.eqGuardType49 (eqB_pt 9994 a b)) rfl (OkL.nil ?_)))))
 refine OkQ.subF (sL [3, 4, 5, 6, 7, 18] rfl) (OkQ.then_I ?_)
 refine OkI.cond rfl (fun hc0 => ?_) (fun hc0 => ?_)
 ·replace hc0 := of_decide_eq_true hc0
  exact absurd hc0 hab
 ·replace hc0 := of_decide_eq_false hc0
  refine OkI.skip (OkQ.then_I (OkI.seq (OkI.region (fun _ _ h => by obtain ⟨_, h, _⟩ := h; cases h) rfl (ck' Tryz.call14 (fOf_ok (1 : Int) (2 : Int) (by omega) (by omega) (by omega) (by omega) (by omega)) rfl (mv' rfl ?_)))))
  refine st' (ex_extract (v := (aG (fracL (((1 : Int) : Rat) / ((2 : Int) : Rat))))) rfl rfl) rfl (st' (ex_extract (v := (vI 0)) rfl rfl) rfl (al tZ47 rfl fun b5 => stW0' rfl Tryz.sizeOf47 rfl (asg' rfl (OkL.nil ?_))))
  refine OkQ.subF (sL [3, 4, 5, 6, 7, 8] rfl) (OkQ.then_I (OkI.seq (OkI.seq (OkI.region (fun _ _ h => by obtain ⟨_, h, _⟩ := h; cases h) rfl (ldW' 5 tA37 rfl ?_)))))
  refine OkL.callR (S := S) (α := CX 43 (mxL x)) (args := [(aG (mxL x))]) Tryz.call15 (fun w hw => all_ok x w (inS hw 6 rfl lx)) rfl rfl rfl fun fa lfa => OkL.nil (OkQ.subF (sL [4, 5, 6, 7, 8, 24] rfl) (OkQ.then_I (OkI.block (OkI.subF (F' := [(24, (Value.func (.func 43) #[] #[(pP fa.b 0)])), (4, (pP b2 0)), (5, (pP b3 0)), (6, (Value.slice none 0 0)), (7, (pP b4 0)), (8, (pP b5 0))]) (sF rfl) ?_))))
  refine OkI.rangeFunc (σ := Option Addr × Nat) rfl Tryz.call43 rfl rfl ((nB ps.length ts)) (fun t => (vN t)) (fun t => (aG (cnL (corT ps (ts.getD t (0, 0, 0)))))) (fun t s => RayI (rayL ps ts a b t) s) (fun t s => False) (fun t s => [rowR (some ⟨fa.b, 0, none⟩) (mxL x), blk b5 47 (fracL (((1 : Int) : Rat) / ((2 : Int) : Rat))), rowW s.1 61 11 ((rayL ps ts a b t).length) s.2 (rowsL pcL (rayL ps ts a b t)), blk b4 51 ([(Value.slice s.1 ((rayL ps ts a b t).length) s.2)]), blk b3 49 (ptL b), blk b2 49 (ptL a), blk b1 37 (mxL x), rowR x.a.p (rowsL ptL ps), rowR x.b.p (rowsL t3L ts), rowR x.c.p (rowsL t3L ss)]) (fun t s => []) (none, 0) sr ⟨OwnOk.none, fun _ => rfl⟩ (fun l J X W hJ hL h0 => all1_ok x (by omega) fa.bx l J X hL (fun t W h => by obtain ⟨s, _, hw⟩ := hJ t W h; exact ⟨Ro.top (inS hw 0 rfl lfa : Ro _ _ fa), Ro.top (inS hw 7 rfl lx)⟩) W h0) (fun l la1 la2 da t s ht hP K hK => ?_) (fun la D s hP => ?_) (fun la D t s hP => ?_)
  ·skip
   obtain ⟨hnb, hti⟩ := nB_lt ht
   have hrl := rayL_len (ps := ps) (ts := ts) (a := a) (b := b) t
   obtain ⟨sv, hsv⟩ : ∃ s, s = spanV (corT ps (ts.getD t (0, 0, 0))) a b := ⟨_, rfl⟩
   have hsz : Sz sv.1 ≤ 400 ∧ Sz sv.2.1 ≤ 400 := by rw [hsv]; exact spanV_sz (c := corT ps (ts.getD t (0, 0, 0))) (hne t hti) (Nat.le_trans (hz _) (by decide)) (Nat.le_trans (hz _) (by decide)) (Nat.le_trans (hz _) (by decide)) sa sb
   have hhf : Sz (((1 : Int) : Rat) / ((2 : Int) : Rat)) ≤ 2 := by decide +kernel
   obtain ⟨z1, z2⟩ := hsz
   refine OkI.subF (F' := [(26, (aG (cnL (corT ps (ts.getD t (0, 0, 0)))))), (25, (vN t)), (24, (Value.func (.func 43) #[] #[(pP fa.b 0)])), (4, (pP b2 0)), (5, (pP b3 0)), (6, (Value.slice none 0 0)), (7, (pP b4 0)), (8, (pP b5 0))]) (sF rfl) (OkI.subL (L' := [la1, da, rowR (some ⟨fa.b, 0, none⟩) (mxL x), blk b5 47 (fracL (((1 : Int) : Rat) / ((2 : Int) : Rat))), rowW s.1 61 11 ((rayL ps ts a b t).length) s.2 (rowsL pcL (rayL ps ts a b t)), blk b4 51 ([(Value.slice s.1 ((rayL ps ts a b t).length) s.2)]), blk b3 49 (ptL b), blk b2 49 (ptL a), blk b1 37 (mxL x), rowR x.a.p (rowsL ptL ps), rowR x.b.p (rowsL t3L ts), rowR x.c.p (rowsL t3L ss)]) (List.Sublist.refl _) (OkI.seq (OkI.region (fun _ _ h => h) rfl (asg' rfl (OkL.nil ?_)))))
   refine OkQ.then_I (OkI.region (fun _ _ h => h) rfl (al tZ82 rfl fun b6 => stW0' rfl Tryz.sizeOf82 rfl (OkL.nil ?_)))
   refine OkQ.thenI (hK 1 _ _ rfl ?_)
   refine OkI.subL (L' := [blk b6 82 (cnL (corT ps (ts.getD t (0, 0, 0)))), la2, da, rowR (some ⟨fa.b, 0, none⟩) (mxL x), blk b5 47 (fracL (((1 : Int) : Rat) / ((2 : Int) : Rat))), rowW s.1 61 11 ((rayL ps ts a b t).length) s.2 (rowsL pcL (rayL ps ts a b t)), blk b4 51 ([(Value.slice s.1 ((rayL ps ts a b t).length) s.2)]), blk b3 49 (ptL b), blk b2 49 (ptL a), blk b1 37 (mxL x), rowR x.a.p (rowsL ptL ps), rowR x.b.p (rowsL t3L ts), rowR x.c.p (rowsL t3L ss)]) (List.Sublist.refl _) (OkI.block (OkI.seq (OkI.region (fun _ _ h => h) rfl (ldW' 0 tA82 rfl (ldW' 8 tA49 rfl ?_)))))
   refine ldW' 7 tA49 rfl (cl' (args := [(aG (cnL (corT ps (ts.getD t (0, 0, 0))))), (aG (ptL a)), (aG (ptL b))]) (v := (Value.tuple #[(aG (fracL sv.1)), (aG (fracL sv.2.1)), (Value.bool sv.2.2)])) Tryz.call16 (fun w hw => (by rw [hsv]; exact (spanU_ok (cor ps (ts.getD t (0, 0, 0)).1) (cor ps (ts.getD t (0, 0, 0)).2.1) (cor ps (ts.getD t (0, 0, 0)).2.2) a b (by have := hz (ts.getD t (0, 0, 0)).1; omega) (by have := hz (ts.getD t (0, 0, 0)).2.1; omega) (by have := hz (ts.getD t (0, 0, 0)).2.2; omega) sa sb (hne t hti) w))) rfl (mv' rfl (st' (ex_extract (v := (aG (fracL sv.1))) rfl rfl) rfl (st' (ex_extract (v := (aG (fracL sv.2.1))) rfl rfl) rfl (st' (ex_extract (v := (Value.bool sv.2.2)) rfl rfl) rfl ?_)))))
   refine al tZ47 rfl fun b7 => al tZ47 rfl fun b8 => stW1' rfl Tryz.sizeOf47 rfl (stW0' rfl Tryz.sizeOf47 rfl (asg' rfl (OkL.nil ?_)))
   refine OkQ.then_I (OkI.seq (OkI.seq (OkI.region (fun _ _ h => h) rfl (mv' rfl (st' (ex_not (c := (!sv.2.2)) rfl rfl) rfl ?_)))))
   refine OkL.nil (OkQ.then_I ?_)
   refine OkI.cond rfl (fun hc1 => ?_) (fun hc1 => ?_)
   ·simp only [Bool.and_eq_true, Bool.or_eq_true, Bool.and_eq_false_iff, Bool.or_eq_false_iff, Bool.not_eq_true', Bool.not_eq_false', decide_eq_true_eq, decide_eq_false_iff_not] at hc1
    replace hc1 : sv.2.2 = false := by simpa using hc1
    have e := rayL_out hsv hc1
    refine OkI.exit (OkQ.then_exit (OkQ.in_exit ?_))
    rw [← e]
    exact OkQ.rdN s (by show RayI (rayL ps ts a b (t + 1)) s; rw [e]; exact hP) (sl (sl (sl sr)))
   ·simp only [Bool.and_eq_true, Bool.or_eq_true, Bool.and_eq_false_iff, Bool.or_eq_false_iff, Bool.not_eq_true', Bool.not_eq_false', decide_eq_true_eq, decide_eq_false_iff_not] at hc1
    replace hc1 : sv.2.2 = true := by simpa using hc1
    refine OkI.skip (OkQ.then_I (OkI.seq (iN [(0, true), (1, true), (2, true), (4, true), (5, true), (6, true), (3, false), (7, false), (8, false), (9, false), (10, false)] [⟨11, 15, 49, ptL (⟨0, 0⟩ : Pt)⟩] [(12, false)] sr (by kernel_rfl) (fun _ _ d _ _ h => by cases d <;> exact h) (newC rfl rfl tZ49 rfl (newN)) rfl (fun _ _ h => h) rfl (uW' 10 tA49 rfl (uW' 9 tA49 rfl ?_)))))
    refine uW' 10 tA49 rfl (uW' 6 tA47 rfl (uW' 1 tA47 rfl (uW' 0 tA47 rfl (OkN.imp rfl fun EF EL => ?_))))
    have hz1 := SzP_sub b a
    refine ck' Tryz.call19 (pSub_ok b a (by omega)) rfl (OkN.back0 sr rfl (OkN.imp rfl fun EF EL => ?_))
    have hz2 := Sz_add sv.1 sv.2.1
    refine ck' Tryz.call21 (fAdd_ok sv.1 sv.2.1 (by (try simp only [Sz_neg]); omega)) rfl (OkN.back0 sr rfl (OkN.imp rfl fun EF EL => ?_))
    have hz3 := Sz_mul (((1 : Int) : Rat) / ((2 : Int) : Rat)) (sv.1 + sv.2.1)
    refine ck' Tryz.call20 (fMul_ok (((1 : Int) : Rat) / ((2 : Int) : Rat)) (sv.1 + sv.2.1) (by (try simp only [Sz_neg]); omega)) rfl (OkN.back0 sr rfl (OkN.imp rfl fun EF EL => ?_))
    have hz4 := SzP_scale (b - a) ((((1 : Int) : Rat) / ((2 : Int) : Rat)) * (sv.1 + sv.2.1))
    refine ck' Tryz.call18 (pScale_ok (b - a) ((((1 : Int) : Rat) / ((2 : Int) : Rat)) * (sv.1 + sv.2.1)) (by omega)) rfl (OkN.back0 sr rfl (OkN.imp rfl fun EF EL => ?_))
    have hz5 := SzP_add a (scaleP (b - a) ((((1 : Int) : Rat) / ((2 : Int) : Rat)) * (sv.1 + sv.2.1)))
    refine ck' Tryz.call17 (pAdd_ok a (scaleP (b - a) ((((1 : Int) : Rat) / ((2 : Int) : Rat)) * (sv.1 + sv.2.1))) (by omega)) rfl (OkN.back0 sr rfl (OkN.news1 fun b9 => OkE.imp rfl (stW0' rfl Tryz.sizeOf49 rfl (OkE.back (sl sr) ?_))))
    refine OkE.nil (OkQ.then_I (OkI.seq (OkI.region (fun _ _ h => h) rfl (st' (v := (pP b6 0)) (ex_indexAddr_array (j := 0) rfl rfl Tryz.underlying82 Tryz.sizeOf49 rfl (by decide) rfl) rfl (ldA' 3 (ptL ((corT ps (ts.getD t (0, 0, 0))).1)) tA49 rfl ?_)))))
    refine st' (v := (pP b6 10)) (ex_indexAddr_array (j := 1) rfl rfl Tryz.underlying82 Tryz.sizeOf49 rfl (by decide) rfl) rfl (ldA' 3 (ptL ((corT ps (ts.getD t (0, 0, 0))).2.1)) tA49 rfl (st' (v := (pP b6 20)) (ex_indexAddr_array (j := 2) rfl rfl Tryz.underlying82 Tryz.sizeOf49 rfl (by decide) rfl) rfl (ldA' 3 (ptL ((corT ps (ts.getD t (0, 0, 0))).2.2)) tA49 rfl (ldW' 0 tA49 rfl (ck' Tryz.call22 (WhereV_ok (cor ps (ts.getD t (0, 0, 0)).1) (cor ps (ts.getD t (0, 0, 0)).2.1) (cor ps (ts.getD t (0, 0, 0)).2.2) (midR a b sv.1 sv.2.1) (by have z1 := hz (ts.getD t (0, 0, 0)).1; have z2 := hz (ts.getD t (0, 0, 0)).2.1; have z3 := hz (ts.getD t (0, 0, 0)).2.2; unfold midR; omega)) rfl ?_)))))
    refine st' (ex_eql (c := (decide ((whereT ps (midR a b sv.1 sv.2.1) (ts.getD t (0, 0, 0))) = 1))) rfl rfl (eqN (a := whereT ps (midR a b sv.1 sv.2.1) (ts.getD t (0, 0, 0))) (b := 1))) rfl (OkL.nil (OkQ.then_I ?_))
    refine OkI.cond rfl (fun hc2 => ?_) (fun hc2 => ?_)
    ·replace hc2 := of_decide_eq_true hc2
     have e := rayL_in hsv hc1 hc2
     refine OkI.region (fun _ _ h => h) rfl (ldO' 9 (Value.slice s.1 ((rayL ps ts a b t).length) s.2) tO51 rfl (mv' rfl (ldW' 2 tA47 rfl (ldW' 1 tA47 rfl (st' (v := (aG ([(vN t)] ++ fracL sv.1 ++ fracL sv.2.1))) (ex_build_struct (zs := [(vI 0)] ++ fracL (0 : Rat) ++ fracL (0 : Rat)) (vs := [(vN t)] ++ fracL sv.1 ++ fracL sv.2.1) (pv := [(0, (vN t)), (1, (aG (fracL sv.1))), (2, (aG (fracL sv.2.1)))]) (places := [(0, 1), (1, 5), (6, 5)]) Tryz.zeroValue61 Tryz.underlying61 (fun w => by simp [Tryz.sizeOf3, Tryz.sizeOf47]) rfl (filx_numti_61_0N_1fracL_2fracL t sv.1 sv.2.1)) rfl ?_)))))
     refine OkL.openV (V := fun b10 => (Value.slice (some ⟨b10, 0, none⟩) 1 1)) (T := 61) (cs := pcL (⟨t, sv.1, sv.2.1⟩ : Pc)) (wt_none rfl) (op_buildSlice (z := .agg ([(vI 0)] ++ fracL (0 : Rat) ++ fracL (0 : Rat)).toArray) (cs := pcL (⟨t, sv.1, sv.2.1⟩ : Pc)) (pv := [(0, (aG ([(vN t)] ++ fracL sv.1 ++ fracL sv.2.1)))]) Tryz.underlying51 Tryz.sizeOf61 Tryz.zeroValue61 (by decide) (by decide) rfl (tfs_numti_61_1 (⟨t, sv.1, sv.2.1⟩ : Pc))) rfl (leB rfl) fun b10 => OkL.appendAt 9 (j := 0) (cs2 := rowsL pcL ((rayL ps ts a b t) ++ [(⟨t, sv.1, sv.2.1⟩ : Pc)])) tE51 rfl hP.1 (rowsL_length pcL_len _) rfl rfl rfl rfl rfl (by decide) (mxl (by omega)) (by omega) (by rw [rowsL_append]; rfl) rfl fun p_1 c_1 ho_1 hne_1 => stX 10 (off := 0) (vs := [(Value.slice p_1 (((rayL ps ts a b t).length) + 1) c_1)]) (cs' := [(Value.slice p_1 (((rayL ps ts a b t).length) + 1) c_1)]) (wt_none rfl) rfl Tryz.sizeOf51 rfl (OkL.nil (OkQ.in_normal ?_))
     rw [show (rayL ps ts a b t).length + 1 = (rayL ps ts a b t ++ [(⟨t, sv.1, sv.2.1⟩ : Pc)]).length by simp, ← e]
     exact OkQ.rdN (p_1, c_1) (RayI.more e ho_1) (sl (sl (sl (sl (sl sr)))))
    ·replace hc2 := of_decide_eq_false hc2
     have e := rayL_off hsv hc1 hc2
     refine OkI.skip (OkQ.in_normal ?_)
     rw [← e]
     exact OkQ.rdN s (by show RayI (rayL ps ts a b (t + 1)) s; rw [e]; exact hP) (sl (sl (sl (sl sr))))
  ·skip
   refine OkD.behind ?_
   obtain ⟨p0, c0⟩ := s
   have ho : OwnOk p0 2 c0 := by have h9 : OwnOk p0 (rayL ps ts a b (nB ps.length ts)).length c0 := hP.1; rw [h2] at h9; exact h9
   obtain ⟨g, rfl⟩ := own_some ho (by decide)
   refine OkD.castL (congrArg (fun q : List Pc => [la, dfA D, rowR (some ⟨fa.b, 0, none⟩) (mxL x), blk b5 47 (fracL (((1 : Int) : Rat) / ((2 : Int) : Rat))), rowW (some ⟨g, 0, none⟩) 61 11 q.length c0 (rowsL pcL q), blk b4 51 ([(Value.slice (some ⟨g, 0, none⟩) q.length c0)]), blk b3 49 (ptL b), blk b2 49 (ptL a), blk b1 37 (mxL x), rowR x.a.p (rowsL ptL ps), rowR x.b.p (rowsL t3L ts), rowR x.c.p (rowsL t3L ss)]) h2) (OkD.subL (L' := [la, dfA D, rowR (some ⟨fa.b, 0, none⟩) (mxL x), blk b5 47 (fracL (((1 : Int) : Rat) / ((2 : Int) : Rat))), rowW (some ⟨g, 0, none⟩) 61 11 2 c0 (rowsL pcL ([p1, p2])), blk b4 51 ([(Value.slice (some ⟨g, 0, none⟩) 2 c0)]), blk b3 49 (ptL b), blk b2 49 (ptL a), blk b1 37 (mxL x), rowR x.a.p (rowsL ptL ps), rowR x.b.p (rowsL t3L ts), rowR x.c.p (rowsL t3L ss)]) (List.Sublist.refl _) (OkD.subF (F' := [(24, (Value.func (.func 43) #[] #[(pP fa.b 0)])), (4, (pP b2 0)), (5, (pP b3 0)), (6, (Value.slice none 0 0)), (7, (pP b4 0)), (8, (pP b5 0))]) (sF rfl) (OkD.seq (OkD.region (fun _ _ h => by obtain ⟨_, h, _⟩ := h; cases h) rfl (ldO' 5 (Value.slice (some ⟨g, 0, none⟩) 2 c0) tO51 rfl ?_)))))
   refine OkL.unrow 4 rfl fun tl => OkL.subL (L' := [la, dfA D, rowR (some ⟨fa.b, 0, none⟩) (mxL x), blk b5 47 (fracL (((1 : Int) : Rat) / ((2 : Int) : Rat))), blk g 61 (pcL p1 ++ (pcL p2 ++ tl)), blk b4 51 ([(Value.slice (some ⟨g, 0, none⟩) 2 c0)]), blk b3 49 (ptL b), blk b2 49 (ptL a), blk b1 37 (mxL x), rowR x.a.p (rowsL ptL ps), rowR x.b.p (rowsL t3L ts), rowR x.c.p (rowsL t3L ss)]) (List.Sublist.refl _) (OkL.callM (v := (Value.tuple #[])) (i := 4) (cs' := two2 p1 p2 tl) (L' := [la, dfA D, rowR (some ⟨fa.b, 0, none⟩) (mxL x), blk b5 47 (fracL (((1 : Int) : Rat) / ((2 : Int) : Rat))), blk g 61 (two2 p1 p2 tl), blk b4 51 ([(Value.slice (some ⟨g, 0, none⟩) 2 c0)]), blk b3 49 (ptL b), blk b2 49 (ptL a), blk b1 37 (mxL x), rowR x.a.p (rowsL ptL ps), rowR x.b.p (rowsL t3L ts), rowR x.c.p (rowsL t3L ss)]) (wt_none rfl) (op_call0 (args := [(Value.slice (some ⟨g, 0, none⟩) 2 c0), (Value.func (.func 24) #[] #[])]) rfl rfl Tryz.call23) rfl (fun w hw => sort2_ok p1 p2 tl c0 _ ho.le hps w (hw.get (i := 4) rfl)) (fun d hd => by cases hd <;> exact (leB rfl)) rfl (OkL.nil (OkQ.subF (sL [24, 4, 5, 6, 7, 8] rfl) (OkQ.then_D ?_))))
   refine OkD.seq (OkD.region (fun _ _ h => by obtain ⟨_, h, _⟩ := h; cases h) rfl (ldO' 5 (Value.slice (some ⟨g, 0, none⟩) 2 c0) tO51 rfl (ck' Tryz.call28 (clip_ok (some ⟨g, 0, none⟩) 2 c0 ho.le) rfl (asg' rfl (OkL.nil ?_)))))
   exact OkQ.subF (sL [24, 4, 5, 6, 7, 8] rfl) (OkQ.then_D (OkD.ret (retD 1 rfl (ret_one rfl (rd_tmp (v := (Value.slice (some ⟨g, 0, none⟩) 2 2)) rfl) (fun w hw => (retP hw 4 rfl))))))
  ·exact hP.elim
set_option maxHeartbeats 2000000 in
theorem Ray0_ok {ps : List Pt} {ts ss : List (Nat × Nat × Nat)} (x : MX ps ts ss) (hl : ts.length ≤ 1000) (a b : Pt) (hz : ∀ i, SzP (cor ps i) ≤ 4) (sa : SzP a ≤ 6) (sb : SzP b ≤ 6) (hab : ¬ a = b) (hne : ∀ j, j < ts.length → turnP (cor ps (ts.getD j (0, 0, 0)).1) (cor ps (ts.getD j (0, 0, 0)).2.1) (cor ps (ts.getD j (0, 0, 0)).2.2) ≠ 0) (h2 : rayL ps ts a b (nB ps.length ts) = []) (w : World) {S : Nat → Prop} (hx : Ro S w x) : Calls Tryz.prog 6 #[(aG (mxL x)), (aG (ptL a)), (aG (ptL b))] w (Gives w (Value.slice none 0 0)) := by
 have lx := atA (W := w) hx
 refine calls_ofM' (args := [(aG (mxL x)), (aG (ptL a)), (aG (ptL b))]) (L := [rowR x.a.p (rowsL ptL ps), rowR x.b.p (rowsL t3L ts), rowR x.c.p (rowsL t3L ss)]) Tryz.func6 rfl rfl (leB rfl) (sxA hx roL_nil) (OkI.subF (sL [0, 1, 2] rfl) (OkI.seq (OkI.region (fun _ _ h => by cases h.1) rfl (bx' (cs := mxL x) rfl fun b1 => bx' (cs := ptL a) rfl fun b2 => ?_))))
 refine bx' (cs := ptL b) rfl fun b3 => asg' rfl (OkL.nil (OkQ.subF (sL [3, 4, 5, 6] rfl) (OkQ.then_I (OkI.seq ?_))))
 refine OkI.region (fun _ _ h => by cases h.1) rfl (al tZ51 rfl fun b4 => OkL.nilRow 61 11 (OkL.nil (OkQ.then_I (OkI.seq ?_))))
 refine OkI.seq (OkI.region (fun _ _ h => by cases h.1) rfl (ldW' 3 tA49 rfl (ldW' 2 tA49 rfl (st' (ex_eql_agg (c := decide (a = b)) rfl rfl Tryz.eqGuardType49 (eqB_pt 9994 a b)) rfl (OkL.nil ?_)))))
 refine OkQ.subF (sL [3, 4, 5, 6, 7, 18] rfl) (OkQ.then_I ?_)
 refine OkI.cond rfl (fun hc0 => ?_) (fun hc0 => ?_)
 ·replace hc0 := of_decide_eq_true hc0
  exact absurd hc0 hab
 ·replace hc0 := of_decide_eq_false hc0
  refine OkI.skip (OkQ.then_I (OkI.seq (OkI.region (fun _ _ h => by cases h.1) rfl (ck' Tryz.call14 (fOf_ok (1 : Int) (2 : Int) (by omega) (by omega) (by omega) (by omega) (by omega)) rfl (mv' rfl ?_)))))
  refine st' (ex_extract (v := (aG (fracL (((1 : Int) : Rat) / ((2 : Int) : Rat))))) rfl rfl) rfl (st' (ex_extract (v := (vI 0)) rfl rfl) rfl (al tZ47 rfl fun b5 => stW0' rfl Tryz.sizeOf47 rfl (asg' rfl (OkL.nil ?_))))
  refine OkQ.subF (sL [3, 4, 5, 6, 7, 8] rfl) (OkQ.then_I (OkI.seq (OkI.seq (OkI.region (fun _ _ h => by cases h.1) rfl (ldW' 5 tA37 rfl ?_)))))
  refine OkL.callR (S := S) (α := CX 43 (mxL x)) (args := [(aG (mxL x))]) Tryz.call15 (fun w hw => all_ok x w (inS hw 6 rfl lx)) rfl rfl rfl fun fa lfa => OkL.nil (OkQ.subF (sL [4, 5, 6, 7, 8, 24] rfl) (OkQ.then_I (OkI.block (OkI.subF (F' := [(24, (Value.func (.func 43) #[] #[(pP fa.b 0)])), (4, (pP b2 0)), (5, (pP b3 0)), (6, (Value.slice none 0 0)), (7, (pP b4 0)), (8, (pP b5 0))]) (sF rfl) ?_))))
  refine OkI.rangeFunc (σ := Option Addr × Nat) rfl Tryz.call43 rfl rfl ((nB ps.length ts)) (fun t => (vN t)) (fun t => (aG (cnL (corT ps (ts.getD t (0, 0, 0)))))) (fun t s => RayI (rayL ps ts a b t) s) (fun t s => False) (fun t s => [rowR (some ⟨fa.b, 0, none⟩) (mxL x), blk b5 47 (fracL (((1 : Int) : Rat) / ((2 : Int) : Rat))), rowW s.1 61 11 ((rayL ps ts a b t).length) s.2 (rowsL pcL (rayL ps ts a b t)), blk b4 51 ([(Value.slice s.1 ((rayL ps ts a b t).length) s.2)]), blk b3 49 (ptL b), blk b2 49 (ptL a), blk b1 37 (mxL x), rowR x.a.p (rowsL ptL ps), rowR x.b.p (rowsL t3L ts), rowR x.c.p (rowsL t3L ss)]) (fun t s => []) (none, 0) sr ⟨OwnOk.none, fun _ => rfl⟩ (fun l J X W hJ hL h0 => all1_ok x (by omega) fa.bx l J X hL (fun t W h => by obtain ⟨s, _, hw⟩ := hJ t W h; exact ⟨Ro.top (inS hw 0 rfl lfa : Ro _ _ fa), Ro.top (inS hw 7 rfl lx)⟩) W h0) (fun l la1 la2 da t s ht hP K hK => ?_) (fun la D s hP => ?_) (fun la D t s hP => ?_)
  ·skip
   obtain ⟨hnb, hti⟩ := nB_lt ht
   have hrl := rayL_len (ps := ps) (ts := ts) (a := a) (b := b) t
   obtain ⟨sv, hsv⟩ : ∃ s, s = spanV (corT ps (ts.getD t (0, 0, 0))) a b := ⟨_, rfl⟩
   have hsz : Sz sv.1 ≤ 400 ∧ Sz sv.2.1 ≤ 400 := by rw [hsv]; exact spanV_sz (c := corT ps (ts.getD t (0, 0, 0))) (hne t hti) (Nat.le_trans (hz _) (by decide)) (Nat.le_trans (hz _) (by decide)) (Nat.le_trans (hz _) (by decide)) sa sb
   have hhf : Sz (((1 : Int) : Rat) / ((2 : Int) : Rat)) ≤ 2 := by decide +kernel
   obtain ⟨z1, z2⟩ := hsz
   refine OkI.subF (F' := [(26, (aG (cnL (corT ps (ts.getD t (0, 0, 0)))))), (25, (vN t)), (24, (Value.func (.func 43) #[] #[(pP fa.b 0)])), (4, (pP b2 0)), (5, (pP b3 0)), (6, (Value.slice none 0 0)), (7, (pP b4 0)), (8, (pP b5 0))]) (sF rfl) (OkI.subL (L' := [la1, da, rowR (some ⟨fa.b, 0, none⟩) (mxL x), blk b5 47 (fracL (((1 : Int) : Rat) / ((2 : Int) : Rat))), rowW s.1 61 11 ((rayL ps ts a b t).length) s.2 (rowsL pcL (rayL ps ts a b t)), blk b4 51 ([(Value.slice s.1 ((rayL ps ts a b t).length) s.2)]), blk b3 49 (ptL b), blk b2 49 (ptL a), blk b1 37 (mxL x), rowR x.a.p (rowsL ptL ps), rowR x.b.p (rowsL t3L ts), rowR x.c.p (rowsL t3L ss)]) (List.Sublist.refl _) (OkI.seq (OkI.region (fun _ _ h => h) rfl (asg' rfl (OkL.nil ?_)))))
   refine OkQ.then_I (OkI.region (fun _ _ h => h) rfl (al tZ82 rfl fun b6 => stW0' rfl Tryz.sizeOf82 rfl (OkL.nil ?_)))
   refine OkQ.thenI (hK 1 _ _ rfl ?_)
   refine OkI.subL (L' := [blk b6 82 (cnL (corT ps (ts.getD t (0, 0, 0)))), la2, da, rowR (some ⟨fa.b, 0, none⟩) (mxL x), blk b5 47 (fracL (((1 : Int) : Rat) / ((2 : Int) : Rat))), rowW s.1 61 11 ((rayL ps ts a b t).length) s.2 (rowsL pcL (rayL ps ts a b t)), blk b4 51 ([(Value.slice s.1 ((rayL ps ts a b t).length) s.2)]), blk b3 49 (ptL b), blk b2 49 (ptL a), blk b1 37 (mxL x), rowR x.a.p (rowsL ptL ps), rowR x.b.p (rowsL t3L ts), rowR x.c.p (rowsL t3L ss)]) (List.Sublist.refl _) (OkI.block (OkI.seq (OkI.region (fun _ _ h => h) rfl (ldW' 0 tA82 rfl (ldW' 8 tA49 rfl ?_)))))
   refine ldW' 7 tA49 rfl (cl' (args := [(aG (cnL (corT ps (ts.getD t (0, 0, 0))))), (aG (ptL a)), (aG (ptL b))]) (v := (Value.tuple #[(aG (fracL sv.1)), (aG (fracL sv.2.1)), (Value.bool sv.2.2)])) Tryz.call16 (fun w hw => (by rw [hsv]; exact (spanU_ok (cor ps (ts.getD t (0, 0, 0)).1) (cor ps (ts.getD t (0, 0, 0)).2.1) (cor ps (ts.getD t (0, 0, 0)).2.2) a b (by have := hz (ts.getD t (0, 0, 0)).1; omega) (by have := hz (ts.getD t (0, 0, 0)).2.1; omega) (by have := hz (ts.getD t (0, 0, 0)).2.2; omega) sa sb (hne t hti) w))) rfl (mv' rfl (st' (ex_extract (v := (aG (fracL sv.1))) rfl rfl) rfl (st' (ex_extract (v := (aG (fracL sv.2.1))) rfl rfl) rfl (st' (ex_extract (v := (Value.bool sv.2.2)) rfl rfl) rfl ?_)))))
   refine al tZ47 rfl fun b7 => al tZ47 rfl fun b8 => stW1' rfl Tryz.sizeOf47 rfl (stW0' rfl Tryz.sizeOf47 rfl (asg' rfl (OkL.nil ?_)))
   refine OkQ.then_I (OkI.seq (OkI.seq (OkI.region (fun _ _ h => h) rfl (mv' rfl (st' (ex_not (c := (!sv.2.2)) rfl rfl) rfl ?_)))))
   refine OkL.nil (OkQ.then_I ?_)
   refine OkI.cond rfl (fun hc1 => ?_) (fun hc1 => ?_)
   ·simp only [Bool.and_eq_true, Bool.or_eq_true, Bool.and_eq_false_iff, Bool.or_eq_false_iff, Bool.not_eq_true', Bool.not_eq_false', decide_eq_true_eq, decide_eq_false_iff_not] at hc1
    replace hc1 : sv.2.2 = false := by simpa using hc1
    have e := rayL_out hsv hc1
    refine OkI.exit (OkQ.then_exit (OkQ.in_exit ?_))
    rw [← e]
    exact OkQ.rdN s (by show RayI (rayL ps ts a b (t + 1)) s; rw [e]; exact hP) (sl (sl (sl sr)))
   ·simp only [Bool.and_eq_true, Bool.or_eq_true, Bool.and_eq_false_iff, Bool.or_eq_false_iff, Bool.not_eq_true', Bool.not_eq_false', decide_eq_true_eq, decide_eq_false_iff_not] at hc1
    replace hc1 : sv.2.2 = true := by simpa using hc1
    refine OkI.skip (OkQ.then_I (OkI.seq (iN [(0, true), (1, true), (2, true), (4, true), (5, true), (6, true), (3, false), (7, false), (8, false), (9, false), (10, false)] [⟨11, 15, 49, ptL (⟨0, 0⟩ : Pt)⟩] [(12, false)] sr (by kernel_rfl) (fun _ _ d _ _ h => by cases d <;> exact h) (newC rfl rfl tZ49 rfl (newN)) rfl (fun _ _ h => h) rfl (uW' 10 tA49 rfl (uW' 9 tA49 rfl ?_)))))
    refine uW' 10 tA49 rfl (uW' 6 tA47 rfl (uW' 1 tA47 rfl (uW' 0 tA47 rfl (OkN.imp rfl fun EF EL => ?_))))
    have hz1 := SzP_sub b a
    refine ck' Tryz.call19 (pSub_ok b a (by omega)) rfl (OkN.back0 sr rfl (OkN.imp rfl fun EF EL => ?_))
    have hz2 := Sz_add sv.1 sv.2.1
    refine ck' Tryz.call21 (fAdd_ok sv.1 sv.2.1 (by (try simp only [Sz_neg]); omega)) rfl (OkN.back0 sr rfl (OkN.imp rfl fun EF EL => ?_))
    have hz3 := Sz_mul (((1 : Int) : Rat) / ((2 : Int) : Rat)) (sv.1 + sv.2.1)
    refine ck' Tryz.call20 (fMul_ok (((1 : Int) : Rat) / ((2 : Int) : Rat)) (sv.1 + sv.2.1) (by (try simp only [Sz_neg]); omega)) rfl (OkN.back0 sr rfl (OkN.imp rfl fun EF EL => ?_))
    have hz4 := SzP_scale (b - a) ((((1 : Int) : Rat) / ((2 : Int) : Rat)) * (sv.1 + sv.2.1))
    refine ck' Tryz.call18 (pScale_ok (b - a) ((((1 : Int) : Rat) / ((2 : Int) : Rat)) * (sv.1 + sv.2.1)) (by omega)) rfl (OkN.back0 sr rfl (OkN.imp rfl fun EF EL => ?_))
    have hz5 := SzP_add a (scaleP (b - a) ((((1 : Int) : Rat) / ((2 : Int) : Rat)) * (sv.1 + sv.2.1)))
    refine ck' Tryz.call17 (pAdd_ok a (scaleP (b - a) ((((1 : Int) : Rat) / ((2 : Int) : Rat)) * (sv.1 + sv.2.1))) (by omega)) rfl (OkN.back0 sr rfl (OkN.news1 fun b9 => OkE.imp rfl (stW0' rfl Tryz.sizeOf49 rfl (OkE.back (sl sr) ?_))))
    refine OkE.nil (OkQ.then_I (OkI.seq (OkI.region (fun _ _ h => h) rfl (st' (v := (pP b6 0)) (ex_indexAddr_array (j := 0) rfl rfl Tryz.underlying82 Tryz.sizeOf49 rfl (by decide) rfl) rfl (ldA' 3 (ptL ((corT ps (ts.getD t (0, 0, 0))).1)) tA49 rfl ?_)))))
    refine st' (v := (pP b6 10)) (ex_indexAddr_array (j := 1) rfl rfl Tryz.underlying82 Tryz.sizeOf49 rfl (by decide) rfl) rfl (ldA' 3 (ptL ((corT ps (ts.getD t (0, 0, 0))).2.1)) tA49 rfl (st' (v := (pP b6 20)) (ex_indexAddr_array (j := 2) rfl rfl Tryz.underlying82 Tryz.sizeOf49 rfl (by decide) rfl) rfl (ldA' 3 (ptL ((corT ps (ts.getD t (0, 0, 0))).2.2)) tA49 rfl (ldW' 0 tA49 rfl (ck' Tryz.call22 (WhereV_ok (cor ps (ts.getD t (0, 0, 0)).1) (cor ps (ts.getD t (0, 0, 0)).2.1) (cor ps (ts.getD t (0, 0, 0)).2.2) (midR a b sv.1 sv.2.1) (by have z1 := hz (ts.getD t (0, 0, 0)).1; have z2 := hz (ts.getD t (0, 0, 0)).2.1; have z3 := hz (ts.getD t (0, 0, 0)).2.2; unfold midR; omega)) rfl ?_)))))
    refine st' (ex_eql (c := (decide ((whereT ps (midR a b sv.1 sv.2.1) (ts.getD t (0, 0, 0))) = 1))) rfl rfl (eqN (a := whereT ps (midR a b sv.1 sv.2.1) (ts.getD t (0, 0, 0))) (b := 1))) rfl (OkL.nil (OkQ.then_I ?_))
    refine OkI.cond rfl (fun hc2 => ?_) (fun hc2 => ?_)
    ·replace hc2 := of_decide_eq_true hc2
     have e := rayL_in hsv hc1 hc2
     refine OkI.region (fun _ _ h => h) rfl (ldO' 9 (Value.slice s.1 ((rayL ps ts a b t).length) s.2) tO51 rfl (mv' rfl (ldW' 2 tA47 rfl (ldW' 1 tA47 rfl (st' (v := (aG ([(vN t)] ++ fracL sv.1 ++ fracL sv.2.1))) (ex_build_struct (zs := [(vI 0)] ++ fracL (0 : Rat) ++ fracL (0 : Rat)) (vs := [(vN t)] ++ fracL sv.1 ++ fracL sv.2.1) (pv := [(0, (vN t)), (1, (aG (fracL sv.1))), (2, (aG (fracL sv.2.1)))]) (places := [(0, 1), (1, 5), (6, 5)]) Tryz.zeroValue61 Tryz.underlying61 (fun w => by simp [Tryz.sizeOf3, Tryz.sizeOf47]) rfl (filx_numti_61_0N_1fracL_2fracL t sv.1 sv.2.1)) rfl ?_)))))
     refine OkL.openV (V := fun b10 => (Value.slice (some ⟨b10, 0, none⟩) 1 1)) (T := 61) (cs := pcL (⟨t, sv.1, sv.2.1⟩ : Pc)) (wt_none rfl) (op_buildSlice (z := .agg ([(vI 0)] ++ fracL (0 : Rat) ++ fracL (0 : Rat)).toArray) (cs := pcL (⟨t, sv.1, sv.2.1⟩ : Pc)) (pv := [(0, (aG ([(vN t)] ++ fracL sv.1 ++ fracL sv.2.1)))]) Tryz.underlying51 Tryz.sizeOf61 Tryz.zeroValue61 (by decide) (by decide) rfl (tfs_numti_61_1 (⟨t, sv.1, sv.2.1⟩ : Pc))) rfl (leB rfl) fun b10 => OkL.appendAt 9 (j := 0) (cs2 := rowsL pcL ((rayL ps ts a b t) ++ [(⟨t, sv.1, sv.2.1⟩ : Pc)])) tE51 rfl hP.1 (rowsL_length pcL_len _) rfl rfl rfl rfl rfl (by decide) (mxl (by omega)) (by omega) (by rw [rowsL_append]; rfl) rfl fun p_1 c_1 ho_1 hne_1 => stX 10 (off := 0) (vs := [(Value.slice p_1 (((rayL ps ts a b t).length) + 1) c_1)]) (cs' := [(Value.slice p_1 (((rayL ps ts a b t).length) + 1) c_1)]) (wt_none rfl) rfl Tryz.sizeOf51 rfl (OkL.nil (OkQ.in_normal ?_))
     rw [show (rayL ps ts a b t).length + 1 = (rayL ps ts a b t ++ [(⟨t, sv.1, sv.2.1⟩ : Pc)]).length by simp, ← e]
     exact OkQ.rdN (p_1, c_1) (RayI.more e ho_1) (sl (sl (sl (sl (sl sr)))))
    ·replace hc2 := of_decide_eq_false hc2
     have e := rayL_off hsv hc1 hc2
     refine OkI.skip (OkQ.in_normal ?_)
     rw [← e]
     exact OkQ.rdN s (by show RayI (rayL ps ts a b (t + 1)) s; rw [e]; exact hP) (sl (sl (sl (sl sr))))
  ·skip
   refine OkD.behind ?_
   obtain rfl := hP.2 h2
   refine OkD.castL (congrArg (fun q : List Pc => [la, dfA D, rowR (some ⟨fa.b, 0, none⟩) (mxL x), blk b5 47 (fracL (((1 : Int) : Rat) / ((2 : Int) : Rat))), rowW none 61 11 q.length 0 (rowsL pcL q), blk b4 51 ([(Value.slice none q.length 0)]), blk b3 49 (ptL b), blk b2 49 (ptL a), blk b1 37 (mxL x), rowR x.a.p (rowsL ptL ps), rowR x.b.p (rowsL t3L ts), rowR x.c.p (rowsL t3L ss)]) h2) (OkD.subL (L' := [la, dfA D, rowR (some ⟨fa.b, 0, none⟩) (mxL x), blk b5 47 (fracL (((1 : Int) : Rat) / ((2 : Int) : Rat))), rowW none 61 11 0 0 (rowsL pcL ([])), blk b4 51 ([(Value.slice none 0 0)]), blk b3 49 (ptL b), blk b2 49 (ptL a), blk b1 37 (mxL x), rowR x.a.p (rowsL ptL ps), rowR x.b.p (rowsL t3L ts), rowR x.c.p (rowsL t3L ss)]) (List.Sublist.refl _) (OkD.subF (F' := [(24, (Value.func (.func 43) #[] #[(pP fa.b 0)])), (4, (pP b2 0)), (5, (pP b3 0)), (6, (Value.slice none 0 0)), (7, (pP b4 0)), (8, (pP b5 0))]) (sF rfl) (OkD.seq (OkD.region (fun _ _ h => by cases h.1) rfl (ldO' 5 (Value.slice none 0 0) tO51 rfl ?_)))))
   refine ck' Tryz.call23 (sort0_ok) rfl (OkL.nil (OkQ.subF (sL [24, 4, 5, 6, 7, 8] rfl) (OkQ.then_D (OkD.seq (OkD.region (fun _ _ h => by cases h.1) rfl ?_)))))
   refine ldO' 5 (Value.slice none 0 0) tO51 rfl (ck' Tryz.call28 (clip_ok none 0 0 (Nat.le_refl _)) rfl (asg' rfl (OkL.nil (OkQ.subF (sL [24, 4, 5, 6, 7, 8] rfl) (OkQ.then_D ?_)))))
   exact OkD.ret (retD 1 rfl (ret_one rfl (rd_tmp (v := (Value.slice none 0 0)) rfl) (fun w hw => ⟨rfl, hw.out⟩)))
  ·exact hP.elim
end
section
theorem rowsL_part {α : Type} {enc : α → List Value} {z : Nat} (h : ∀ x, (enc x).length = z) (d : α) (xs : List α) (j r k : Nat) (hj : j < xs.length) (hr : r + k ≤ z) {vs : List Value} (hv : ((enc (xs.getD j d)).drop r).take k = vs) : ((rowsL enc xs).drop (j * z + r)).take k = vs := by
  have h1 := rowsL_get h d xs j hj
  rw [← hv, ← h1, List.drop_take, List.take_take, List.drop_drop, Nat.min_eq_left (by omega)]
def PS4 : List Pt := [⟨0, 0⟩, ⟨1, 0⟩, ⟨1, 1⟩, ⟨0, 1⟩]
def TS4 : List (Nat × Nat × Nat) := [(0, 1, 2), (0, 2, 3)]
theorem rowOk0 {b n : Nat} : RowOk (some ⟨b, 0, none⟩) n n := ⟨(fun e => by cases e), (fun a e => by injection e with e; rw [← e]), Nat.le_refl _⟩
theorem rowOkN : RowOk none 0 0 := ⟨fun _ => ⟨rfl, rfl⟩, (fun a e => by cases e), Nat.le_refl _⟩
def mx4 (b b' : Nat) : MX PS4 TS4 [] := ⟨⟨some ⟨b, 0, none⟩, 4, rowOk0⟩, ⟨some ⟨b', 0, none⟩, 2, rowOk0⟩, ⟨none, 0, rowOkN⟩⟩
theorem mx4_at {w0 : Base} {S : Nat → Prop} {b b' : Nat} (h : w0.w.heap.size ≤ b) (h' : w0.w.heap.size ≤ b') : At w0 S (mx4 b b') := fun y hy c e => by
  have hy : y ∈ [(mx4 b b').a.row, (mx4 b b').b.row, (mx4 b b').c.row] := hy
  simp only [List.mem_cons, List.not_mem_nil, or_false] at hy
  rcases hy with rfl | rfl | rfl
  · injection e with e; subst e; exact .inl h
  · injection e with e; subst e; exact .inl h'
  · cases e
theorem ps4_sz : ∀ i, SzP (cor PS4 i) ≤ 4
  | 0 => by decide +kernel
  | 1 => by decide +kernel
  | 2 => by decide +kernel
  | 3 => by decide +kernel
  | i + 4 => by show SzP ⟨0, 0⟩ ≤ 4; decide +kernel
theorem ts4_ne : ∀ j, j < TS4.length → turnP (cor PS4 (TS4.getD j (0, 0, 0)).1) (cor PS4 (TS4.getD j (0, 0, 0)).2.1) (cor PS4 (TS4.getD j (0, 0, 0)).2.2) ≠ 0
  | 0, _ => by decide +kernel
  | 1, _ => by decide +kernel
  | j + 2, h => absurd h (by simp [TS4])
section
variable {P : Program} {ops : Array Oper} {rest : List Oper} {Q : Exit → Act → World → Prop} {n : Nat} {F : List (Nat × Value)} {w0 : Base} {L : List As}
theorem OkL.mesh4 {b1 b b' T1 T T' : Nat} {cs1 cs cs' : List Value} (h1 : cs1 = mxL (mx4 b b')) (h : cs = rowsL ptL PS4) (h' : cs' = rowsL t3L TS4) (hex : w0.ex = none)
    (next : w0.w.heap.size ≤ b → w0.w.heap.size ≤ b' → OkL P ops rest Q n F w0 [blk b1 T1 (mxL (mx4 b b')), (mx4 b b').a.row, (mx4 b b').b.row, (mx4 b b').c.row]) : OkL P ops rest Q n F w0 [blk b1 T1 cs1, blk b' T' cs', blk b T cs] := by
  subst h1 h h'
  refine OkL.frzX 1 rfl hex fun hb' => OkL.frzX 2 rfl hex fun hb => fun a w ha hw => next hb hb' a w ha ?_
  have k := hw.addRo (a := (mx4 b b').c.row) (Bel.refl _ _) rfl (fun c e => by cases e) (fun c e => by cases e)
  refine k.perm ?_
  show [(mx4 b b').c.row, blk b1 T1 (mxL (mx4 b b')), (mx4 b b').b.row, (mx4 b b').a.row].Perm _
  refine (List.perm_middle (l₁ := [blk b1 T1 (mxL (mx4 b b'))]) (a := (mx4 b b').c.row) (l₂ := [(mx4 b b').b.row, (mx4 b b').a.row])).symm.trans ?_
  refine List.Perm.cons _ ?_
  exact (List.reverse_perm [(mx4 b b').a.row, (mx4 b b').b.row, (mx4 b b').c.row])
end
end
end Go.Proofs.YtnofgcpajmldkaaGreatDoor
