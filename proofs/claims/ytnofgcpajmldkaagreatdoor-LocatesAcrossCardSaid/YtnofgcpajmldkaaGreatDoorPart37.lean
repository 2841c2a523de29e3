import Derived.Maps.RangeRun
import Derived.DeepKeys4
import Derived.Maps.Keyed
import Derived.Test.YtnofgcpajmldkaaGreatDoorPart05
import Derived.Test.YtnofgcpajmldkaaGreatDoorPart06
import Derived.Test.YtnofgcpajmldkaaGreatDoorPart33
import Derived.Test.YtnofgcpajmldkaaGreatDoorPart36
namespace Go.Proofs.YtnofgcpajmldkaaGreatDoor
open Go Go.RowKit
set_option linter.unusedVariables false
set_option linter.unusedSimpArgs false
section
set_option maxRecDepth 100000
theorem filx_numtl_61_0N_1fracL_2fracL (x0 : Nat) (x1 : Rat) (x2 : Rat) : Instr.fill ([(0, 1), (1, 5), (6, 5)].toArray[·]?) ([(vI 0)] ++ fracL (0 : Rat) ++ fracL (0 : Rat)).toArray [(0, vN x0), (1, .agg (fracL x1).toArray), (2, .agg (fracL x2).toArray)] = some ([(vN x0)] ++ fracL x1 ++ fracL x2).toArray := by kernel_rfl
theorem tfs_numtl_61_1 (x0 : Pc) : Instr.fill (fun i => some (i * 11, 11)) ((Array.range (1 * 11)).map ((Value.agg ([(vI 0)] ++ fracL (0 : Rat) ++ fracL (0 : Rat)).toArray).cells[· % (Value.agg ([(vI 0)] ++ fracL (0 : Rat) ++ fracL (0 : Rat)).toArray).cells.size]!)) [(0, .agg (pcL x0).toArray)] = some (pcL x0).toArray := by kernel_rfl
set_option maxHeartbeats 2000000 in
theorem Ray_ok {ps : List Pt} {ts ss : List (Nat × Nat × Nat)} (x : MX ps ts ss) (hl : ts.length ≤ 1000) (a b : Pt) (hz : ∀ i, SzP (cor ps i) ≤ 4) (sa : SzP a ≤ 6) (sb : SzP b ≤ 6) (hab : ¬ a = b) (hne : ∀ j, j < ts.length → turnP (cor ps (ts.getD j (0, 0, 0)).1) (cor ps (ts.getD j (0, 0, 0)).2.1) (cor ps (ts.getD j (0, 0, 0)).2.2) ≠ 0)  (w : World) {S : Nat → Prop} (hx : Ro S w x) : Calls Tryz.prog 6 #[(aG (mxL x)), (aG (ptL a)), (aG (ptL b))] w (GivesR (RX (rowsL pcL (rayS ps ts a b (nB ps.length ts))) (rayS ps ts a b (nB ps.length ts)).length) S w) := by
 have lx := atA (W := w) hx
 refine calls_ofM' (args := [(aG (mxL x)), (aG (ptL a)), (aG (ptL b))]) (L := [rowR x.a.p (rowsL ptL ps), rowR x.b.p (rowsL t3L ts), rowR x.c.p (rowsL t3L ss)]) Tryz.func6 rfl rfl (leB rfl) (sxA hx roL_nil) (OkI.subF (sL [0, 1, 2] rfl) (OkI.seq (OkI.region (fun _ _ h => by obtain ⟨_, h, _⟩ := h; cases h) rfl (bx' (cs := mxL x) rfl fun b1 => bx' (cs := ptL a) rfl fun b2 => ?_))))
 refine bx' (cs := ptL b) rfl fun b3 => asg' rfl (OkL.nil (OkQ.subF (sL [3, 4, 5, 6] rfl) (OkQ.then_I (OkI.seq ?_))))
 refine OkI.region (fun _ _ h => by obtain ⟨_, h, _⟩ := h; cases h) rfl (al tZ51 rfl fun b4 => OkL.nilRow 61 11 (OkL.nil (OkQ.then_I (OkI.seq ?_))))
 refine OkI.seq (OkI.region (fun _ _ h => by obtain ⟨_, h, _⟩ := h; cases h) rfl (ldW' 3 tA49 rfl (ldW' 2 tA49 rfl (st' (ex_eql_agg (c := decide (a = b)) rfl rfl Tryz.eqGuardType49 (eqB_pt 9994 a b)) rfl (OkL.nil ?_)))))
 refine OkQ.subF (sL [3, 4, 5, 6, 7, 18] rfl) (OkQ.then_I ?_)
 refine OkI.cond rfl (fun hc0 => ?_) (fun hc0 => ?_)
 ·replace hc0 := of_decide_eq_true hc0
  exact absurd hc0 hab
 ·replace hc0 := of_decide_eq_false hc0
  refine OkI.skip (OkQ.then_I (OkI.seq (OkI.region (fun _ _ h => by obtain ⟨_, h, _⟩ := h; cases h) rfl (ck' Tryz.call14 (fOf_ok (1 : Int) (2 : Int) (by omega) (by omega) (by omega) (by omega) (by omega)) rfl (mv' rfl ?_)))))
  refine st' (ex_extract (v := (aG (fracL (((1 : Int) : Rat) / ((2 : Int) : Rat))))) rfl rfl) rfl (st' (ex_extract (v := (vI 0)) rfl rfl) rfl (al tZ47 rfl fun b5 => stW0' rfl Tryz.sizeOf47 rfl (asg' rfl (OkL.nil ?_))))
  refine OkQ.subF (sL [3, 4, 5, 6, 7, 8] rfl) (OkQ.then_I (OkI.seq (OkI.seq (OkI.region (fun _ _ h => by obtain ⟨_, h, _⟩ := h; cases h) rfl (ldW' 5 tA37 rfl ?_)))))
  refine OkL.callR (S := S) (α := CX 43 (mxL x)) (args := [(aG (mxL x))]) Tryz.call15 (fun w hw => all_ok x w (inS hw 6 rfl lx)) rfl rfl rfl fun fa lfa => OkL.nil (OkQ.subF (sL [4, 5, 6, 7, 8, 24] rfl) (OkQ.then_I (OkI.block (OkI.subF (F' := [(24, (Value.func (.func 43) #[] #[(pP fa.b 0)])), (4, (pP b2 0)), (5, (pP b3 0)), (6, (Value.slice none 0 0)), (7, (pP b4 0)), (8, (pP b5 0))]) (sF rfl) ?_))))
  refine OkI.rangeFunc (σ := Option Addr × Nat) rfl Tryz.call43 rfl rfl ((nB ps.length ts)) (fun t => (vN t)) (fun t => (aG (cnL (corT ps (ts.getD t (0, 0, 0)))))) (fun t s => RayI (rayL ps ts a b t) s) (fun t s => False) (fun t s => [rowR (some ⟨fa.b, 0, none⟩) (mxL x), blk b5 47 (fracL (((1 : Int) : Rat) / ((2 : Int) : Rat))), rowW s.1 61 11 ((rayL ps ts a b t).length) s.2 (rowsL pcL (rayL ps ts a b t)), blk b4 51 ([(Value.slice s.1 ((rayL ps ts a b t).length) s.2)]), blk b3 49 (ptL b), blk b2 49 (ptL a), blk b1 37 (mxL x), rowR x.a.p (rowsL ptL ps), rowR x.b.p (rowsL t3L ts), rowR x.c.p (rowsL t3L ss)]) (fun t s => []) (none, 0) sr ⟨OwnOk.none, fun _ => rfl⟩ (fun l J X W hJ hL h0 => all1_ok x (by omega) fa.bx l J X hL (fun t W h => by obtain ⟨s, _, hw⟩ := hJ t W h; exact ⟨Ro.top (inS hw 0 rfl lfa : Ro _ _ fa), Ro.top (inS hw 7 rfl lx)⟩) W h0) (fun l la1 la2 da t s ht hP K hK => ?_) (fun la D s hP => ?_) (fun la D t s hP => ?_)
  ·skip
   obtain ⟨hnb, hti⟩ := nB_lt ht
   have hrl := rayL_len (ps := ps) (ts := ts) (a := a) (b := b) t
   obtain ⟨sv, hsv⟩ : ∃ s, s = spanV (corT ps (ts.getD t (0, 0, 0))) a b := ⟨_, rfl⟩
   have hsz : Sz sv.1 ≤ 400 ∧ Sz sv.2.1 ≤ 400 := by rw [hsv]; exact spanV_sz (c := corT ps (ts.getD t (0, 0, 0))) (hne t hti) (Nat.le_trans (hz _) (by decide)) (Nat.le_trans (hz _) (by decide)) (Nat.le_trans (hz _) (by decide)) sa sb
   have hhf : Sz (((1 : Int) : Rat) / ((2 : Int) : Rat)) ≤ 2 := by decide +kernel
   obtain ⟨z1, z2⟩ := hsz
   refine OkI.subF (F' := [(26, (aG (cnL (corT ps (ts.getD t (0, 0, 0)))))), (25, (vN t)), (24, (Value.func (.func 43) #[] #[(pP fa.b 0)])), (4, (pP b2 0)), (5, (pP b3 0)), (6, (Value.slice none 0 0)), (7, (pP b4 0)), (8, (pP b5 0))]) (sF rfl) (OkI.subL (L' := [la1, da, rowR (some ⟨fa.b, 0, none⟩) (mxL x), blk b5 47 (fracL (((1 : Int) : Rat) / ((2 : Int) : Rat))), rowW s.1 61 11 ((rayL ps ts a b t).length) s.2 (rowsL pcL (rayL ps ts a b t)), blk b4 51 ([(Value.slice s.1 ((rayL ps ts a b t).length) s.2)]), blk b3 49 (ptL b), blk b2 49 (ptL a), blk b1 37 (mxL x), rowR x.a.p (rowsL ptL ps), rowR x.b.p (rowsL t3L ts), rowR x.c.p (rowsL t3L ss)]) (List.Sublist.refl _) (OkI.seq (OkI.region (fun _ _ h => h) rfl (asg' rfl (OkL.nil ?_)))))
   refine OkQ.then_I (OkI.region (fun _ _ h => h) rfl (al tZ82 rfl fun b6 => stW0' rfl Tryz.sizeOf82 rfl (OkL.nil ?_)))
   refine OkQ.thenI (hK 1 _ _ rfl ?_)
   refine OkI.subL (L' := [blk b6 82 (cnL (corT ps (ts.getD t (0, 0, 0)))), la2, da, rowR (some ⟨fa.b, 0, none⟩) (mxL x), blk b5 47 (fracL (((1 : Int) : Rat) / ((2 : Int) : Rat))), rowW s.1 61 11 ((rayL ps ts a b t).length) s.2 (rowsL pcL (rayL ps ts a b t)), blk b4 51 ([(Value.slice s.1 ((rayL ps ts a b t).length) s.2)]), blk b3 49 (ptL b), blk b2 49 (ptL a), blk b1 37 (mxL x), rowR x.a.p (rowsL ptL ps), rowR x.b.p (rowsL t3L ts), rowR x.c.p (rowsL t3L ss)]) (List.Sublist.refl _) (OkI.block (OkI.seq (OkI.region (fun _ _ h => h) rfl (ldW' 0 tA82 rfl (ldW' 8 tA49 rfl ?_)))))
   refine ldW' 7 tA49 rfl (cl' (args := [(aG (cnL (corT ps (ts.getD t (0, 0, 0))))), (aG (ptL a)), (aG (ptL b))]) (v := (Value.tuple #[(aG (fracL sv.1)), (aG (fracL sv.2.1)), (Value.bool sv.2.2)])) Tryz.call16 (fun w hw => (by rw [hsv]; exact (spanU_ok (cor ps (ts.getD t (0, 0, 0)).1) (cor ps (ts.getD t (0, 0, 0)).2.1) (cor ps (ts.getD t (0, 0, 0)).2.2) a b (by have := hz (ts.getD t (0, 0, 0)).1; omega) (by have := hz (ts.getD t (0, 0, 0)).2.1; omega) (by have := hz (ts.getD t (0, 0, 0)).2.2; omega) sa sb (hne t hti) w))) rfl (mv' rfl (st' (ex_extract (v := (aG (fracL sv.1))) rfl rfl) rfl (st' (ex_extract (v := (aG (fracL sv.2.1))) rfl rfl) rfl (st' (ex_extract (v := (Value.bool sv.2.2)) rfl rfl) rfl ?_)))))
   refine al tZ47 rfl fun b7 => al tZ47 rfl fun b8 => stW1' rfl Tryz.sizeOf47 rfl (stW0' rfl Tryz.sizeOf47 rfl (asg' rfl (OkL.nil ?_)))
   refine OkQ.then_I (OkI.seq (OkI.seq (OkI.region (fun _ _ h => h) rfl (mv' rfl (st' (ex_not (c := (!sv.2.2)) rfl rfl) rfl ?_)))))
   refine OkL.nil (OkQ.then_I ?_)
   refine OkI.cond rfl (fun hc1 => ?_) (fun hc1 => ?_)
   ·simp only [Bool.and_eq_true, Bool.or_eq_true, Bool.and_eq_false_iff, Bool.or_eq_false_iff, Bool.not_eq_true', Bool.not_eq_false', decide_eq_true_eq, decide_eq_false_iff_not] at hc1
    replace hc1 : sv.2.2 = false := by simpa using hc1
    have e := rayL_out hsv hc1
    refine OkI.exit (OkQ.then_exit (OkQ.in_exit ?_))
    rw [← e]
    exact OkQ.rdN s (by show RayI (rayL ps ts a b (t + 1)) s; rw [e]; exact hP) (sl (sl (sl sr)))
   ·simp only [Bool.and_eq_true, Bool.or_eq_true, Bool.and_eq_false_iff, Bool.or_eq_false_iff, Bool.not_eq_true', Bool.not_eq_false', decide_eq_true_eq, decide_eq_false_iff_not] at hc1
    replace hc1 : sv.2.2 = true := by simpa using hc1
    refine OkI.skip (OkQ.then_I (OkI.seq (iN [(0, true), (1, true), (2, true), (4, true), (5, true), (6, true), (3, false), (7, false), (8, false), (9, false), (10, false)] [⟨11, 15, 49, ptL (⟨0, 0⟩ : Pt)⟩] [(12, false)] sr (by kernel_rfl) (fun _ _ d _ _ h => by cases d <;> exact h) (newC rfl rfl tZ49 rfl (newN)) rfl (fun _ _ h => h) rfl (uW' 10 tA49 rfl (uW' 9 tA49 rfl ?_)))))
    refine uW' 10 tA49 rfl (uW' 6 tA47 rfl (uW' 1 tA47 rfl (uW' 0 tA47 rfl (OkN.imp rfl fun EF EL => ?_))))
    have hz1 := SzP_sub b a
    refine ck' Tryz.call19 (pSub_ok b a (by omega)) rfl (OkN.back0 sr rfl (OkN.imp rfl fun EF EL => ?_))
    have hz2 := Sz_add sv.1 sv.2.1
    refine ck' Tryz.call21 (fAdd_ok sv.1 sv.2.1 (by (try simp only [Sz_neg]); omega)) rfl (OkN.back0 sr rfl (OkN.imp rfl fun EF EL => ?_))
    have hz3 := Sz_mul (((1 : Int) : Rat) / ((2 : Int) : Rat)) (sv.1 + sv.2.1)
    refine ck' Tryz.call20 (fMul_ok (((1 : Int) : Rat) / ((2 : Int) : Rat)) (sv.1 + sv.2.1) (by (try simp only [Sz_neg]); omega)) rfl (OkN.back0 sr rfl (OkN.imp rfl fun EF EL => ?_))
    have hz4 := SzP_scale (b - a) ((((1 : Int) : Rat) / ((2 : Int) : Rat)) * (sv.1 + sv.2.1))
    refine ck' Tryz.call18 (pScale_ok (b - a) ((((1 : Int) : Rat) / ((2 : Int) : Rat)) * (sv.1 + sv.2.1)) (by omega)) rfl (OkN.back0 sr rfl (OkN.imp rfl fun EF EL => ?_))
    have hz5 := SzP_add a (scaleP (b - a) ((((1 : Int) : Rat) / ((2 : Int) : Rat)) * (sv.1 + sv.2.1)))
    refine ck' Tryz.call17 (pAdd_ok a (scaleP (b - a) ((((1 : Int) : Rat) / ((2 : Int) : Rat)) * (sv.1 + sv.2.1))) (by omega)) rfl (OkN.back0 sr rfl (OkN.news1 fun b9 => OkE.imp rfl (stW0' rfl Tryz.sizeOf49 rfl (OkE.back (sl sr) ?_))))
    refine OkE.nil (OkQ.then_I (OkI.seq (OkI.region (fun _ _ h => h) rfl (st' (v := (pP b6 0)) (ex_indexAddr_array (j := 0) rfl rfl Tryz.underlying82 Tryz.sizeOf49 rfl (by decide) rfl) rfl (ldA' 3 (ptL ((corT ps (ts.getD t (0, 0, 0))).1)) tA49 rfl ?_)))))
    refine st' (v := (pP b6 10)) (ex_indexAddr_array (j := 1) rfl rfl Tryz.underlying82 Tryz.sizeOf49 rfl (by decide) rfl) rfl (ldA' 3 (ptL ((corT ps (ts.getD t (0, 0, 0))).2.1)) tA49 rfl (st' (v := (pP b6 20)) (ex_indexAddr_array (j := 2) rfl rfl Tryz.underlying82 Tryz.sizeOf49 rfl (by decide) rfl) rfl (ldA' 3 (ptL ((corT ps (ts.getD t (0, 0, 0))).2.2)) tA49 rfl (ldW' 0 tA49 rfl (ck' Tryz.call22 (WhereV_ok (cor ps (ts.getD t (0, 0, 0)).1) (cor ps (ts.getD t (0, 0, 0)).2.1) (cor ps (ts.getD t (0, 0, 0)).2.2) (midR a b sv.1 sv.2.1) (by have z1 := hz (ts.getD t (0, 0, 0)).1; have z2 := hz (ts.getD t (0, 0, 0)).2.1; have z3 := hz (ts.getD t (0, 0, 0)).2.2; unfold midR; omega)) rfl ?_)))))
    refine st' (ex_eql (c := (decide ((whereT ps (midR a b sv.1 sv.2.1) (ts.getD t (0, 0, 0))) = 1))) rfl rfl (eqN (a := whereT ps (midR a b sv.1 sv.2.1) (ts.getD t (0, 0, 0))) (b := 1))) rfl (OkL.nil (OkQ.then_I ?_))
    refine OkI.cond rfl (fun hc2 => ?_) (fun hc2 => ?_)
    ·replace hc2 := of_decide_eq_true hc2
     have e := rayL_in hsv hc1 hc2
     refine OkI.region (fun _ _ h => h) rfl (ldO' 9 (Value.slice s.1 ((rayL ps ts a b t).length) s.2) tO51 rfl (mv' rfl (ldW' 2 tA47 rfl (ldW' 1 tA47 rfl (st' (v := (aG ([(vN t)] ++ fracL sv.1 ++ fracL sv.2.1))) (ex_build_struct (zs := [(vI 0)] ++ fracL (0 : Rat) ++ fracL (0 : Rat)) (vs := [(vN t)] ++ fracL sv.1 ++ fracL sv.2.1) (pv := [(0, (vN t)), (1, (aG (fracL sv.1))), (2, (aG (fracL sv.2.1)))]) (places := [(0, 1), (1, 5), (6, 5)]) Tryz.zeroValue61 Tryz.underlying61 (fun w => by simp [Tryz.sizeOf3, Tryz.sizeOf47]) rfl (filx_numtl_61_0N_1fracL_2fracL t sv.1 sv.2.1)) rfl ?_)))))
     refine OkL.openV (V := fun b10 => (Value.slice (some ⟨b10, 0, none⟩) 1 1)) (T := 61) (cs := pcL (⟨t, sv.1, sv.2.1⟩ : Pc)) (wt_none rfl) (op_buildSlice (z := .agg ([(vI 0)] ++ fracL (0 : Rat) ++ fracL (0 : Rat)).toArray) (cs := pcL (⟨t, sv.1, sv.2.1⟩ : Pc)) (pv := [(0, (aG ([(vN t)] ++ fracL sv.1 ++ fracL sv.2.1)))]) Tryz.underlying51 Tryz.sizeOf61 Tryz.zeroValue61 (by decide) (by decide) rfl (tfs_numtl_61_1 (⟨t, sv.1, sv.2.1⟩ : Pc))) rfl (leB rfl) fun b10 => OkL.appendAt 9 (j := 0) (cs2 := rowsL pcL ((rayL ps ts a b t) ++ [(⟨t, sv.1, sv.2.1⟩ : Pc)])) tE51 rfl hP.1 (rowsL_length pcL_len _) rfl rfl rfl rfl rfl (by decide) (mxl (by omega)) (by omega) (by rw [rowsL_append]; rfl) rfl fun p_1 c_1 ho_1 hne_1 => stX 10 (off := 0) (vs := [(Value.slice p_1 (((rayL ps ts a b t).length) + 1) c_1)]) (cs' := [(Value.slice p_1 (((rayL ps ts a b t).length) + 1) c_1)]) (wt_none rfl) rfl Tryz.sizeOf51 rfl (OkL.nil (OkQ.in_normal ?_))
     rw [show (rayL ps ts a b t).length + 1 = (rayL ps ts a b t ++ [(⟨t, sv.1, sv.2.1⟩ : Pc)]).length by simp, ← e]
     exact OkQ.rdN (p_1, c_1) (RayI.more e ho_1) (sl (sl (sl (sl (sl sr)))))
    ·replace hc2 := of_decide_eq_false hc2
     have e := rayL_off hsv hc1 hc2
     refine OkI.skip (OkQ.in_normal ?_)
     rw [← e]
     exact OkQ.rdN s (by show RayI (rayL ps ts a b (t + 1)) s; rw [e]; exact hP) (sl (sl (sl (sl sr))))
  ·skip
   refine OkD.behind ?_
   have hnl := nB_le ps.length ts
   have hrl := rayL_len (ps := ps) (ts := ts) (a := a) (b := b) (nB ps.length ts)
   have hpb := rayL_sz (ts := ts) hz sa sb hne (nB ps.length ts) hnl
   refine OkD.subF (F' := [(24, (Value.func (.func 43) #[] #[(pP fa.b 0)])), (4, (pP b2 0)), (5, (pP b3 0)), (6, (Value.slice none 0 0)), (7, (pP b4 0)), (8, (pP b5 0))]) (sF rfl) (OkD.seq (OkD.region (fun _ _ h => by obtain ⟨_, h, _⟩ := h; cases h) rfl (ldO' 5 (Value.slice s.1 ((rayL ps ts a b (nB ps.length ts)).length) s.2) tO51 rfl (OkL.callW 4 (cs' := rowsL pcL (srtP (rayL ps ts a b (nB ps.length ts)))) (v := (Value.tuple #[])) (wt_none rfl) (op_call0 (args := [(Value.slice s.1 ((rayL ps ts a b (nB ps.length ts)).length) s.2), (Value.func (.func 24) #[] #[])]) rfl rfl Tryz.call23) rfl (fun w hw => sortP_ok _ _ _ _ 61 hP.1 rfl (by omega) hpb (rayL_dif _) w (hw.holds (i := 4) rfl)) (fun d hd => by cases hd <;> exact (leB rfl)) (OkL.nil ?_)))))
   refine OkQ.subF (sL [24, 4, 5, 6, 7, 8] rfl) (OkQ.then_D (OkD.seq (OkD.region (fun _ _ h => by obtain ⟨_, h, _⟩ := h; cases h) rfl (ldO' 5 (Value.slice s.1 ((rayL ps ts a b (nB ps.length ts)).length) s.2) tO51 rfl (ck' Tryz.call28 (clip_ok s.1 _ s.2 hP.1.le) rfl ?_)))))
   exact asg' rfl (OkL.nil (OkQ.subF (sL [24, 4, 5, 6, 7, 8] rfl) (OkQ.then_D (OkD.ret (retD 1 rfl (ret_one rfl (rd_tmp (v := (Value.slice s.1 ((rayL ps ts a b (nB ps.length ts)).length) ((rayL ps ts a b (nB ps.length ts)).length))) rfl) (fun w hw => (by rw [show (rayS ps ts a b (nB ps.length ts)).length = (rayL ps ts a b (nB ps.length ts)).length from srtP_len _]; exact retC hw 4 rfl hP.1 (by rw [rowsL_length pcL_len, srtP_len]) rfl))))))))
  ·exact hP.elim
theorem RayP_ok {ps : List Pt} {ts ss : List (Nat × Nat × Nat)} (x : MX ps ts ss) (a : Pt) (w : World) {S : Nat → Prop} (hx : Ro S w x) : Calls Tryz.prog 6 #[(aG (mxL x)), (aG (ptL a)), (aG (ptL a))] w (Gives w (Value.slice none 0 0)) := by
 have lx := atA (W := w) hx
 refine calls_ofR (args := [(aG (mxL x)), (aG (ptL a)), (aG (ptL a))]) (L := [rowR x.a.p (rowsL ptL ps), rowR x.b.p (rowsL t3L ts), rowR x.c.p (rowsL t3L ss)]) Tryz.func6 rfl rfl (leB rfl) (sxA hx roL_nil) (OkC.subF (sL [0, 1, 2] rfl) (q4 (bx' (cs := mxL x) rfl fun b1 => bx' (cs := ptL a) rfl fun b2 => bx' (cs := ptL a) rfl fun b3 => ?_)))
 refine asg' rfl (q3 (sL [3, 4, 5, 6] rfl) (al tZ51 rfl fun b4 => OkL.nil (q1 (q4 ?_))))
 refine ldW' 2 tA49 rfl (ldW' 1 tA49 rfl (st' (ex_eql_agg (c := decide (a = a)) rfl rfl Tryz.eqGuardType49 (eqB_pt 9994 a a)) rfl (OkL.nil (OkQ.subF (sL [3, 4, 5, 6, 7, 18] rfl) (OkQ.then_ ?_)))))
 refine OkC.cond rfl (fun hc0 => ?_) (fun hc0 => ?_)
 ·replace hc0 := of_decide_eq_true hc0
  exact q4 (asg' rfl (OkL.nil (OkQ.then_ (OkC.ret (OkQ.then_ret (ret_one rfl (rd_tmp (v := (Value.slice none 0 0)) rfl) (fun w hw => ⟨rfl, hw.out⟩)))))))
 ·replace hc0 := of_decide_eq_false hc0
  exact absurd rfl hc0
end
section
structure KeyE (P : Program) (kt : TypeId) {α : Type} (enc : α → Value) (ok : α → Prop) : Prop where
  law : Maps.Keyed P kt
  key : ∀ a, ok a → ∃ l, keyOf P kt (enc a) = some l
  inj : ∀ a b, enc a = enc b → a = b
section
variable {α β : Type} {enc : α → Value} {eV : β → Value} {ok : α → Prop} {P : Program} {kt : TypeId} {n : Nat} {F : List (Nat × Value)} {w0 : Base} {L : List As} {d : Option Tmp} {mp kp vp : Operand} {t : TypeId} {pp : String} {af : Array Edge} {g : Option (Nat × Bool)} {tx et : TypeId} {b : Nat} {ops : Array Oper} {rest : List Oper} {Q : Exit → Act → World → Prop}
def entsM {α β : Type} (enc : α → Value) (eV : β → Value) : List (α × β) → Nat → List MapEntry
  | [], _ => []
  | (k, v) :: r, i => ⟨enc k, eV v, i⟩ :: entsM enc eV r (i + 1)
def mapA {α β : Type} (b : Nat) (enc : α → Value) (eV : β → Value) (kvs : List (α × β)) : As := ⟨some b, fun o => o = .map (entsM enc eV kvs 0).toArray kvs.length, false⟩
def itA (r b n : Nat) (seen : List Nat) : As := ⟨some r, fun o => o = .mapIter (some b) n seen.toArray n, false⟩
structure OkM {α β : Type} (ok : α → Prop) (kvs : List (α × β)) : Prop where
  ok : ∀ p ∈ kvs, ok p.1
  once : kvs.Pairwise (fun p q => p.1 ≠ q.1)
theorem entsM_len : ∀ (kvs : List (α × β)) (i : Nat), (entsM enc eV kvs i).length = kvs.length
  | [], _ => rfl
  | (k, v) :: r, i => by rw [entsM, List.length_cons, entsM_len r, List.length_cons]
theorem entsM_get : ∀ (kvs : List (α × β)) (i j : Nat), (entsM enc eV kvs i)[j]? = (kvs[j]?).map fun p => ⟨enc p.1, eV p.2, i + j⟩
  | [], _, j => by simp [entsM]
  | (k, v) :: r, i, 0 => rfl
  | (k, v) :: r, i, j + 1 => by
    rw [entsM, List.getElem?_cons_succ, List.getElem?_cons_succ, entsM_get r (i + 1) j, show i + 1 + j = i + (j + 1) by omega]
theorem entsM_mem {kvs : List (α × β)} {i : Nat} {e : MapEntry} (h : e ∈ entsM enc eV kvs i) : ∃ j p, kvs[j]? = some p ∧ e = ⟨enc p.1, eV p.2, i + j⟩ := by
  obtain ⟨j, hj, e1⟩ := List.getElem_of_mem h
  have h1 : (entsM enc eV kvs i)[j]? = some e := by rw [List.getElem?_eq_getElem hj, e1]
  rw [entsM_get, Option.map_eq_some_iff] at h1
  obtain ⟨p, h2, h3⟩ := h1
  exact ⟨j, p, h2, h3.symm⟩
theorem entsM_append : ∀ (kvs : List (α × β)) (i : Nat) (x : α) (y : β), entsM enc eV (kvs ++ [(x, y)]) i = entsM enc eV kvs i ++ [⟨enc x, eV y, i + kvs.length⟩]
  | [], _, _, _ => rfl
  | (k, v) :: r, i, x, y => by
    rw [List.cons_append, entsM, entsM_append r (i + 1), entsM, List.cons_append, List.length_cons, show i + 1 + r.length = i + (r.length + 1) by omega]
theorem entsM_set : ∀ (kvs : List (α × β)) (i j : Nat) (x : α) (y : β), entsM enc eV (kvs.set j (x, y)) i = (entsM enc eV kvs i).set j ⟨enc x, eV y, i + j⟩
  | [], _, _, _, _ => rfl
  | (k, v) :: r, i, 0, x, y => rfl
  | (k, v) :: r, i, j + 1, x, y => by
    rw [List.set_cons_succ, entsM, entsM_set r (i + 1) j, entsM, List.set_cons_succ, show i + 1 + j = i + (j + 1) by omega]
theorem OkM.nil : OkM ok ([] : List (α × β)) := ⟨(fun p h => by cases h), List.Pairwise.nil⟩
theorem getObj_map {w : World} {es : Array MapEntry} {c : Nat} (h : w.heap[b]? = some (.map es c)) : (getObj b).run P w = .ok (.map es c) w := by simp [getObj, Sem.run, h]
theorem grw_setBlock (w : World) (b : Nat) (o : Obj) : Grw w (Go.ChangeMaps.setBlock w b o) (some b) := ⟨⟨rfl, rfl, rfl, by simp [Go.ChangeMaps.setBlock], fun k hk hne => by
  have h : b ≠ k := fun e => hne (by rw [e])
  simp [Go.ChangeMaps.setBlock, Array.getElem?_setIfInBounds, h]⟩, Nat.le_refl _⟩
theorem setBlock_at {w : World} {b : Nat} {o o' : Obj} (h : w.heap[b]? = some o) : (Go.ChangeMaps.setBlock w b o').heap[b]? = some o' := by
  have hlt : b < w.heap.size := by
    rcases Nat.lt_or_ge b w.heap.size with h1 | h1
    · exact h1
    · rw [Array.getElem?_eq_none h1] at h; cases h
  simp [Go.ChangeMaps.setBlock, Array.getElem?_setIfInBounds, hlt]
theorem run_setMap {w : World} {es : Array MapEntry} {c : Nat} (h : w.heap[b]? = some (.map es c)) (o' : Obj) : (setObj b o').run P w = .ok () (Go.ChangeMaps.setBlock w b o') := by
  simp [setObj, Sem.run, h, Go.ChangeMaps.setBlock]
theorem ents_modify {kvs : List (α × β)} {j : Nat} {x : α} {v y : β} (h : kvs[j]? = some (x, v)) : (entsM enc eV kvs 0).toArray.modify j (fun e => { e with key := enc x, val := eV y }) = (entsM enc eV (kvs.set j (x, y)) 0).toArray := by
  have h1 : (entsM enc eV kvs 0)[j]? = some ⟨enc x, eV v, 0 + j⟩ := by rw [entsM_get, h]; rfl
  apply Array.ext_getElem?
  intro k
  rw [Array.getElem?_modify, entsM_set]
  simp only [List.getElem?_toArray]
  by_cases e : j = k
  · subst e
    have hlt : j < (entsM enc eV kvs 0).length := (List.getElem?_eq_some_iff.1 h1).1
    rw [if_pos rfl, h1, List.getElem?_set_self hlt]
    rfl
  · rw [if_neg e, List.getElem?_set_ne e]
theorem OkL.makeMap (enc : α → Value) (eV : β → Value) {dd : Nat} (hw : Wt ops n F ⟨some dd, .makeMap tx none, t, pp, af, g⟩) (hd : Nat.ble (dd + 1) n = true) (next : ∀ b, OkL P ops rest Q n ((dd, .map (some b)) :: F) w0 (mapA b enc eV ([] : List (α × β)) :: L)) : OkL P ops (⟨some dd, .makeMap tx none, t, pp, af, g⟩ :: rest) Q n F w0 L := fun a w ha hW => by
  have hrun : (execOp a.eval ⟨some dd, .makeMap tx none, t, pp, af, g⟩).run P w = .ok (.value (.map (some w.heap.size))) (w.alloc (.map #[] 0)) := by
    rfl
  unfold wpList
  rw [if_pos (hw a ha)]
  left
  unfold Oper.wp
  rw [hrun, Oper.upon_value]
  exact next _ _ _ (ha.put (blt_lt' hd)) (hW.alloc (.map #[] 0) rfl rfl)
theorem OkL.range (i : Nat) {kvs : List (α × β)} {dd : Nat} (hw : Wt ops n F ⟨some dd, .range tx mp, t, pp, af, g⟩) (hx : evF F mp = some (.map (some b))) (ht : P.underlying tx = some (.map kt et)) (hi : L[i]? = some (mapA b enc eV kvs)) (hd : Nat.ble (dd + 1) n = true)
    (next : ∀ r, OkL P ops rest Q n ((dd, .pointer (some ⟨r, 0, none⟩)) :: F) w0 (itA r b kvs.length [] :: L)) : OkL P ops (⟨some dd, .range tx mp, t, pp, af, g⟩ :: rest) Q n F w0 L := fun a w ha hW => by
  obtain ⟨_, o, ho, hp⟩ := hW.2.1 _ (List.mem_of_getElem? hi) b rfl
  have ho : w.heap[b]? = some (.map (entsM enc eV kvs 0).toArray kvs.length) := by rw [ho, hp]
  have hrun : (execOp a.eval ⟨some dd, .range tx mp, t, pp, af, g⟩).run P w = .ok (.value (.pointer (some ⟨w.heap.size, 0, none⟩))) (w.alloc (.mapIter (some b) kvs.length #[] kvs.length)) := by
    simp only [execOp, ha.ev hx, Instr.range, Sem.run_bind, run_underlying ht, Result.andThen_ok, getObj_map ho, Sem.run_pure]
    rfl
  unfold wpList
  rw [if_pos (hw a ha)]
  left
  unfold Oper.wp
  rw [hrun, Oper.upon_value]
  exact next _ _ _ (ha.put (blt_lt' hd)) (hW.alloc _ rfl rfl)
theorem left_mem {kvs : List (α × β)} {seen : List Nat} {e : MapEntry} (h : e ∈ (leftOf (entsM enc eV kvs 0).toArray seen.toArray).toList) : ∃ q p, kvs[q]? = some p ∧ q ∉ seen ∧ e = ⟨enc p.1, eV p.2, q⟩ := by
  unfold leftOf at h
  simp only [Array.toList_filter, List.toList_toArray, List.mem_filter] at h
  obtain ⟨h1, h2⟩ := h
  obtain ⟨q, p, hq, rfl⟩ := entsM_mem h1
  refine ⟨q, p, hq, ?_, by rw [Nat.zero_add]⟩
  simpa using h2
theorem left_none {kvs : List (α × β)} {seen : List Nat} (h : (leftOf (entsM enc eV kvs 0).toArray seen.toArray).size = 0) : ∀ q, q < kvs.length → q ∈ seen := fun q hq => by
  rcases Classical.em (q ∈ seen) with k | k
  · exact k
  · exfalso
    have h1 : (entsM enc eV kvs 0)[q]? = some ⟨enc (kvs[q]).1, eV (kvs[q]).2, q⟩ := by rw [entsM_get, List.getElem?_eq_getElem hq, Option.map_some, Nat.zero_add]
    have h2 : (⟨enc (kvs[q]).1, eV (kvs[q]).2, q⟩ : MapEntry) ∈ (leftOf (entsM enc eV kvs 0).toArray seen.toArray).toList := by
      unfold leftOf
      simp only [Array.toList_filter, List.toList_toArray, List.mem_filter]
      exact ⟨List.mem_of_getElem? h1, by simpa using k⟩
    have h3 : (leftOf (entsM enc eV kvs 0).toArray seen.toArray).toList = [] := List.eq_nil_of_length_eq_zero (by simpa using h)
    rw [h3] at h2
    cases h2
theorem OkL.next (i j : Nat) {kvs : List (α × β)} {seen : List Nat} {r dd : Nat} {ip : Operand} (hw : Wt ops n F ⟨some dd, .next ip false, t, pp, af, g⟩) (hx : evF F ip = some (.pointer (some ⟨r, 0, none⟩))) (hi : L[i]? = some (mapA b enc eV kvs)) (hj : L[j]? = some (itA r b kvs.length seen)) (hd : Nat.ble (dd + 1) n = true)
    (done : (∀ q, q < kvs.length → q ∈ seen) → OkL P ops rest Q n ((dd, .tuple #[.bool false]) :: F) w0 L)
    (step : ∀ q k v, kvs[q]? = some (k, v) → q ∉ seen → OkL P ops rest Q n ((dd, .tuple #[.bool true, enc k, eV v]) :: F) w0 (L.set j (itA r b kvs.length (seen ++ [q])))) : OkL P ops (⟨some dd, .next ip false, t, pp, af, g⟩ :: rest) Q n F w0 L := fun a w ha hW => by
  obtain ⟨_, o, ho, hp⟩ := hW.2.1 _ (List.mem_of_getElem? hi) b rfl
  have ho : w.heap[b]? = some (.map (entsM enc eV kvs 0).toArray kvs.length) := by rw [ho, hp]
  obtain ⟨_, o2, ho2, hp2⟩ := hW.2.1 _ (List.mem_of_getElem? hj) r rfl
  have ho2 : w.heap[r]? = some (.mapIter (some b) kvs.length seen.toArray kvs.length) := by rw [ho2, hp2]
  unfold wpList
  rw [if_pos (hw a ha)]
  left
  unfold Oper.wp
  have hex : execOp a.eval ⟨some dd, .next ip false, t, pp, af, g⟩ = (Instr.next (.pointer (some ⟨r, 0, none⟩)) false t >>= fun v => pure (.value v)) := by simp only [execOp, ha.ev hx]
  rcases run_next_at (P := P) w t r b kvs.length kvs.length seen.toArray (entsM enc eV kvs 0).toArray kvs.length ho2 ho (fun x hx => by
    obtain ⟨q, p, hq, rfl⟩ := entsM_mem (by simpa using hx)
    have := (List.getElem?_eq_some_iff.1 hq).1
    show 0 + q < kvs.length
    omega) (Nat.le_refl _) with ⟨h1, h2⟩ | ⟨e, he, w1, hw1, h2⟩
  · have hrun : (execOp a.eval ⟨some dd, .next ip false, t, pp, af, g⟩).run P w = .ok (.value (.tuple #[.bool false])) w := by rw [hex, Sem.run_bind, h2]; rfl
    rw [hrun, Oper.upon_value]
    exact done (left_none h1) _ _ (ha.put (blt_lt' hd)) hW
  · obtain ⟨q, ⟨k, v⟩, hq, hns, rfl⟩ := left_mem he
    have hrun : (execOp a.eval ⟨some dd, .next ip false, t, pp, af, g⟩).run P w = .ok (.value (.tuple #[.bool true, enc k, eV v])) (Go.ChangeMaps.setBlock w1 r (.mapIter (some b) kvs.length (seen.toArray.push q) kvs.length)) := by rw [hex, Sem.run_bind, h2]; rfl
    rw [hrun, Oper.upon_value]
    have hW1 : Own w0 w1 L := by
      rcases hw1 with rfl | rfl
      · exact hW
      · exact hW.drew
    have ho3 : w1.heap[r]? = some (.mapIter (some b) kvs.length seen.toArray kvs.length) := by rcases hw1 with rfl | rfl <;> exact ho2
    exact step q k v hq hns _ _ (ha.put (blt_lt' hd)) (hW1.turn hj rfl rfl (grw_setBlock _ _ _) ⟨_, setBlock_at ho3, by show Obj.mapIter _ _ _ _ = Obj.mapIter _ _ _ _; simp⟩)
theorem ex_entry (i j : Nat) {kvs : List (α × β)} {seen : List Nat} {r q : Nat} {ip : Operand} {k : α} {v : β} (hx : evF F ip = some (.pointer (some ⟨r, 0, none⟩))) (hi : L[i]? = some (mapA b enc eV kvs)) (hj : L[j]? = some (itA r b kvs.length (seen ++ [q]))) (hq : kvs[q]? = some (k, v)) :
    Ex P n F w0 L ⟨d, .entry ip, t, pp, af, g⟩ (.tuple #[enc k, eV v]) := fun A w ha hW => by
  obtain ⟨_, o, ho, hp⟩ := hW.2.1 _ (List.mem_of_getElem? hi) b rfl
  have ho : w.heap[b]? = some (.map (entsM enc eV kvs 0).toArray kvs.length) := by rw [ho, hp]
  obtain ⟨_, o2, ho2, hp2⟩ := hW.2.1 _ (List.mem_of_getElem? hj) r rfl
  have ho2 : w.heap[r]? = some (.mapIter (some b) kvs.length (seen.toArray.push q) kvs.length) := by rw [ho2, hp2]; simp
  have he : (⟨enc k, eV v, q⟩ : MapEntry) ∈ (entsM enc eV kvs 0).toArray.toList := by
    have h1 : (entsM enc eV kvs 0)[q]? = some ⟨enc k, eV v, q⟩ := by rw [entsM_get, hq, Option.map_some, Nat.zero_add]
    exact List.mem_of_getElem? h1
  have hnd : ((entsM enc eV kvs 0).toArray.toList.map (·.born)).Nodup := by
    have e1 : ∀ (l : List (α × β)) (s : Nat), (entsM enc eV l s).map (·.born) = List.range' s l.length := by
      intro l
      induction l with
      | nil => intro s; rfl
      | cons p r ih => intro s; rw [entsM, List.map_cons, ih, List.length_cons, List.range'_succ]
    show ((entsM enc eV kvs 0).map (·.born)).Nodup
    rw [e1]; exact List.nodup_range'
  have h := run_entry_at (P := P) w r b kvs.length seen.toArray (entsM enc eV kvs 0).toArray kvs.length ⟨enc k, eV v, q⟩ ho2 ho he hnd
  simp only [execOp, ha.ev hx]
  rw [Sem.run_bind, h]
  rfl
variable [DecidableEq α]
def getM : List (α × β) → α → Option β
  | [], _ => none
  | (k, v) :: r, x => if x = k then some v else getM r x
def putM : List (α × β) → α → β → List (α × β)
  | [], x, y => [(x, y)]
  | (k, v) :: r, x, y => if x = k then (k, y) :: r else (k, v) :: putM r x y
theorem getM_none : ∀ {kvs : List (α × β)} {x : α}, (∀ p ∈ kvs, p.1 ≠ x) → getM kvs x = none
  | [], _, _ => rfl
  | (k, v) :: r, x, h => by
    rw [getM, if_neg (fun e => h (k, v) List.mem_cons_self e.symm)]
    exact getM_none fun p hp => h p (List.mem_cons_of_mem _ hp)
theorem getM_at : ∀ {kvs : List (α × β)} {j : Nat} {x : α} {v : β}, kvs.Pairwise (fun p q => p.1 ≠ q.1) → kvs[j]? = some (x, v) → getM kvs x = some v
  | (k, u) :: r, 0, x, v, _, h => by
    simp only [List.getElem?_cons_zero, Option.some.injEq, Prod.mk.injEq] at h
    rw [getM, if_pos h.1.symm, h.2]
  | (k, u) :: r, j + 1, x, v, hp, h => by
    obtain ⟨h1, h2⟩ := List.pairwise_cons.1 hp
    rw [List.getElem?_cons_succ] at h
    rw [getM, if_neg (fun e => h1 (x, v) (List.mem_of_getElem? h) e.symm)]
    exact getM_at h2 h
theorem putM_none : ∀ {kvs : List (α × β)} {x : α} {y : β}, (∀ p ∈ kvs, p.1 ≠ x) → putM kvs x y = kvs ++ [(x, y)]
  | [], _, _, _ => rfl
  | (k, v) :: r, x, y, h => by
    rw [putM, if_neg (fun e => h (k, v) List.mem_cons_self e.symm), putM_none fun p hp => h p (List.mem_cons_of_mem _ hp)]; rfl
theorem putM_at : ∀ {kvs : List (α × β)} {j : Nat} {x : α} {u y : β}, kvs.Pairwise (fun p q => p.1 ≠ q.1) → kvs[j]? = some (x, u) → putM kvs x y = kvs.set j (x, y)
  | (k, v) :: r, 0, x, u, y, _, h => by
    simp only [List.getElem?_cons_zero, Option.some.injEq, Prod.mk.injEq] at h
    rw [putM, if_pos h.1.symm, h.1]; rfl
  | (k, v) :: r, j + 1, x, u, y, hp, h => by
    obtain ⟨h1, h2⟩ := List.pairwise_cons.1 hp
    rw [List.getElem?_cons_succ] at h
    rw [putM, if_neg (fun e => h1 (x, u) (List.mem_of_getElem? h) e.symm), putM_at h2 h]; rfl
theorem putM_mem {x : α} {y : β} : ∀ {kvs : List (α × β)} {p : α × β}, p ∈ putM kvs x y → p.1 = x ∨ p ∈ kvs
  | [], p, h => by rcases List.mem_singleton.1 h with rfl; exact .inl rfl
  | (k, v) :: r, p, h => by
    unfold putM at h
    split at h
    · rename_i e
      rcases List.mem_cons.1 h with rfl | h
      · exact .inl e.symm
      · exact .inr (List.mem_cons_of_mem _ h)
    · rcases List.mem_cons.1 h with rfl | h
      · exact .inr List.mem_cons_self
      · rcases putM_mem h with h | h
        · exact .inl h
        · exact .inr (List.mem_cons_of_mem _ h)
theorem putM_once {x : α} {y : β} : ∀ {kvs : List (α × β)}, kvs.Pairwise (fun p q => p.1 ≠ q.1) → (putM kvs x y).Pairwise (fun p q => p.1 ≠ q.1)
  | [], _ => List.pairwise_singleton _ _
  | (k, v) :: r, h => by
    obtain ⟨h1, h2⟩ := List.pairwise_cons.1 h
    unfold putM
    split
    · exact List.pairwise_cons.2 ⟨fun q hq => h1 q hq, h2⟩
    · rename_i hne
      refine List.pairwise_cons.2 ⟨fun q hq => ?_, putM_once h2⟩
      rcases putM_mem hq with e | hq
      · rw [e]; exact fun e2 => hne e2.symm
      · exact h1 q hq
theorem OkM.put {kvs : List (α × β)} (h : OkM ok kvs) {x : α} {y : β} (hx : ok x) : OkM ok (putM kvs x y) := ⟨fun p hp => by
  rcases putM_mem hp with e | hp
  · rw [e]; exact hx
  · exact h.ok p hp, putM_once h.once⟩
theorem run_findM (K : KeyE P kt enc ok) {kvs : List (α × β)} (hm : OkM ok kvs) {x : α} (hx : ok x) (w : World) :
    (getM kvs x = none ∧ (∀ p ∈ kvs, p.1 ≠ x) ∧ (Instr.findKey kt (enc x) (entsM enc eV kvs 0)).run P w = .ok none w) ∨
    ∃ j v, kvs[j]? = some (x, v) ∧ getM kvs x = some v ∧ (Instr.findKey kt (enc x) (entsM enc eV kvs 0)).run P w = .ok (some (j, eV v)) w := by
  obtain ⟨lx, hlx⟩ := K.key x hx
  rcases K.law.find w hlx (entsM enc eV kvs 0) (fun e he => by
    obtain ⟨j, p, hj, rfl⟩ := entsM_mem he
    exact K.key p.1 (hm.ok p (List.mem_of_getElem? hj))) with ⟨h1, h2⟩ | ⟨j, e, h1, h2, h3⟩
  · have hne : ∀ p ∈ kvs, p.1 ≠ x := fun p hp e => by
      obtain ⟨j, hj, hp⟩ := List.getElem_of_mem hp
      have h4 : (entsM enc eV kvs 0)[j]? = some ⟨enc p.1, eV p.2, 0 + j⟩ := by rw [entsM_get, List.getElem?_eq_getElem hj, hp]; rfl
      exact h2 _ (List.mem_of_getElem? h4) (by rw [e])
    exact .inl ⟨getM_none hne, hne, h1⟩
  · rw [entsM_get, Option.map_eq_some_iff] at h2
    obtain ⟨⟨k, v⟩, hj, rfl⟩ := h2
    have hk : k = x := K.inj _ _ h3
    subst hk
    exact .inr ⟨j, v, hj, getM_at hm.once hj, h1⟩
theorem ex_lookup (K : KeyE P kt enc ok) (i : Nat) {kvs : List (α × β)} {x : α} {z0 : β} {co : Bool} (hx : evF F mp = some (.map (some b))) (hk : evF F kp = some (enc x)) (ht : P.underlying tx = some (.map kt et)) (hz : ∀ w, (zeroValue et).run P w = .ok (eV z0) w) (hi : L[i]? = some (mapA b enc eV kvs)) (hm : OkM ok kvs) (hok : ok x) :
    Ex P n F w0 L ⟨d, .lookup tx mp kp co, t, pp, af, g⟩ (if co then .tuple #[eV ((getM kvs x).getD z0), .bool (getM kvs x).isSome] else eV ((getM kvs x).getD z0)) := fun A w ha hw => by
  obtain ⟨_, o, ho, hp⟩ := hw.2.1 _ (List.mem_of_getElem? hi) b rfl
  have ho : w.heap[b]? = some (.map (entsM enc eV kvs 0).toArray kvs.length) := by rw [ho, hp]
  obtain ⟨lx, hlx⟩ := K.key x hok
  have hc := fun em => K.law.check w em hlx
  rcases run_findM (eV := eV) K hm hok w with ⟨h1, _, h2⟩ | ⟨j, v, _, h1, h2⟩
  · simp only [execOp, ha.ev hx, ha.ev hk, Instr.lookup, Sem.run_bind, run_underlying ht, getObj_map ho, Result.andThen_ok, Sem.run_pure, hc, List.toList_toArray, h2, hz, h1, Option.getD_none, Option.isSome_none]
  · simp only [execOp, ha.ev hx, ha.ev hk, Instr.lookup, Sem.run_bind, run_underlying ht, getObj_map ho, Result.andThen_ok, Sem.run_pure, hc, List.toList_toArray, h2, h1, Option.getD_some, Option.isSome_some]
theorem OkL.mapUpdate (K : KeyE P kt enc ok) (i : Nat) {kvs : List (α × β)} {x : α} {y : β} (hw : Wt ops n F ⟨none, .mapUpdate tx mp kp vp, t, pp, af, g⟩) (hx : evF F mp = some (.map (some b))) (hk : evF F kp = some (enc x)) (hv : evF F vp = some (eV y)) (ht : P.underlying tx = some (.map kt et)) (hi : L[i]? = some (mapA b enc eV kvs)) (hm : OkM ok kvs) (hok : ok x)
    (next : OkL P ops rest Q n F w0 (L.set i (mapA b enc eV (putM kvs x y)))) : OkL P ops (⟨none, .mapUpdate tx mp kp vp, t, pp, af, g⟩ :: rest) Q n F w0 L := fun a w ha hW => by
  obtain ⟨_, o, ho, hp⟩ := hW.2.1 _ (List.mem_of_getElem? hi) b rfl
  have ho : w.heap[b]? = some (.map (entsM enc eV kvs 0).toArray kvs.length) := by rw [ho, hp]
  obtain ⟨lx, hlx⟩ := K.key x hok
  have hc := fun em => K.law.check w em hlx
  have hst := K.law.stays w hlx
  have hrun : (execOp a.eval ⟨none, .mapUpdate tx mp kp vp, t, pp, af, g⟩).run P w = .ok .skip (Go.ChangeMaps.setBlock w b (.map (entsM enc eV (putM kvs x y) 0).toArray (putM kvs x y).length)) := by
    rcases run_findM (eV := eV) K hm hok w with ⟨_, h1, h2⟩ | ⟨j, v, hj, _, h2⟩
    · rw [putM_none h1, entsM_append, List.length_append]
      simp only [execOp, ha.ev hx, ha.ev hk, ha.ev hv, Instr.mapUpdate, Sem.run_bind, run_underlying ht, getObj_map ho, Result.andThen_ok, hc, List.toList_toArray, h2, run_setMap ho, Sem.run_pure, List.push_toArray, Nat.zero_add, List.length_singleton]
    · rw [putM_at hm.once hj, ← ents_modify hj, List.length_set]
      have e1 : (((entsM enc eV kvs 0).toArray[j]?).map (·.key)).getD (enc x) = enc x := by
        rw [List.getElem?_toArray, entsM_get, hj]; rfl
      simp only [execOp, ha.ev hx, ha.ev hk, ha.ev hv, Instr.mapUpdate, Sem.run_bind, run_underlying ht, getObj_map ho, Result.andThen_ok, hc, List.toList_toArray, h2, e1, hst, run_setMap ho, Sem.run_pure]
  unfold wpList
  rw [if_pos (hw a ha)]
  left
  unfold Oper.wp
  rw [hrun, Oper.upon_skip]
  exact next _ _ ha.put_none (hW.turn hi rfl rfl (grw_setBlock _ _ _) ⟨_, setBlock_at ho, rfl⟩)
end
end
end Go.Proofs.YtnofgcpajmldkaaGreatDoor
