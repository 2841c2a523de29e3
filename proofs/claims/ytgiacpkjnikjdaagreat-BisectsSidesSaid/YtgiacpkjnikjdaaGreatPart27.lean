import Derived.Test.YtgiacpkjnikjdaaGreatPart06
import Derived.Test.YtgiacpkjnikjdaaGreatPart15
import Derived.Test.YtgiacpkjnikjdaaGreatPart25
import Derived.Test.YtgiacpkjnikjdaaGreatPart26
namespace Go.Proofs.YtgiacpkjnikjdaaGreat
open Go Go.RowKit
set_option linter.unusedVariables false
set_option linter.unusedSimpArgs false
section
set_option maxRecDepth 100000
theorem tE29 : ElemT Tryz.prog 29 66 3 24 := ⟨Tryz.underlying29, elemT_of (by kernel_rfl)⟩
theorem tE27 : ElemT Tryz.prog 27 83 10 112 := ⟨Tryz.underlying27, elemT_of (by kernel_rfl)⟩
theorem tfs_numtc_83_1 (x0 : Pt) : Instr.fill (fun i => some (i * 10, 10)) ((Array.range (1 * 10)).map ((Value.agg (ptL (⟨0, 0⟩ : Pt)).toArray).cells[· % (Value.agg (ptL (⟨0, 0⟩ : Pt)).toArray).cells.size]!)) [(0, .agg (ptL x0).toArray)] = some (ptL x0).toArray := by kernel_rfl
theorem tfs_numtc_66_1 (x0 : Nat × Nat × Nat) : Instr.fill (fun i => some (i * 3, 3)) ((Array.range (1 * 3)).map ((Value.agg (t3L ((0, 0, 0) : Nat × Nat × Nat)).toArray).cells[· % (Value.agg (t3L ((0, 0, 0) : Nat × Nat × Nat)).toArray).cells.size]!)) [(0, .agg (t3L x0).toArray)] = some (t3L x0).toArray := by kernel_rfl
set_option maxHeartbeats 2000000 in
theorem mMeshO_ok (m : MQ) (w : World) {S : Nat → Prop} (hm : Ro S w m) : Calls Tryz.prog 12 #[(aG (mqL m))] w (GivesR (MGF m) (fun _ => False) w) := by
 have hd := m.hden
 have hdm : denM m < 256 := by unfold denM; omega
 have lm := atA (W := w) hm
 refine calls_ofR (args := [(aG (mqL m))]) (L := [rowR m.p (bytL m.cs)]) Tryz.func12 rfl rfl (leB rfl) (sxA hm roL_nil) (OkC.subF (sL [0] rfl) (q4 (bx' (cs := mqL m) rfl fun b1 => al tZ31 rfl fun b2 => q3 (sL [1, 2] rfl) ?_)))
 refine ldW' 1 tA26 rfl (OkL.callR (S := fun _ => False) (α := WMF m) (args := [(aG (mqL m))]) Tryz.call45 (fun w hw => (mwholeF_ok m w (inS hw 2 rfl lm)).mono fun e w1 h => h.weak fun b k => k.elim) rfl rfl rfl fun gf lgf => al tZ103 rfl fun b3 => stW0' rfl Tryz.sizeOf103 rfl (q3 (sL [1, 2, 3] rfl) (al tZ31 rfl fun b4 => ?_)))
 refine OkL.nilRow 83 10 (OkL.nilRow 66 3 (OkL.nil (q2 (st' (v := (pP b1 7)) (ex_fieldAddr rfl Tryz.underlying26 rfl Tryz.sizeOf5 rfl) rfl (ldO' 9 (vK .u8 m.den) tO5 rfl ?_)))))
 refine st' (ex_rem (c := ((m.den % 6 : Nat) : Int)) rfl rfl (by omega) (remN (a := m.den) (b := 6))) rfl (st' (ex_add (c := ((denM m : Nat) : Int)) rfl rfl (addN_u8 (a := 1) (b := m.den % 6) (by omega))) rfl (st' (ex_conv (c := ((denM m : Nat) : Int)) rfl Tryz.underlying5 Tryz.underlying105 (convN_u32 (by omega))) rfl (asg' rfl (q6 (sL [1, 2, 3, 4, 5] rfl) (q4 ?_)))))
 refine asg' rfl (OkL.nil (OkQ.then_ (OkC.block ?_)))
 refine OkC.lp4 (tg fun (i : Nat) (p1 : Option Addr) (c1 : Nat) (ps : List Pt) => i ≤ gf.x.pl.length ∧ OwnOk p1 ps.length c1 ∧ ps = psN m (zsM m gf.x.pl) i) (tg fun (i : Nat) (p1 : Option Addr) (c1 : Nat) (ps : List Pt) => [(2, (pP b2 0)), (3, (pP b3 0)), (4, (pP b4 0)), (5, (vK .u32 (denM m))), (6, (vN i))]) (tg fun (i : Nat) (p1 : Option Addr) (c1 : Nat) (ps : List Pt) => [rowW none 66 3 0 0 (rowsL t3L ([])), rowW p1 83 10 ps.length c1 (rowsL ptL ps), blk b4 31 ([(Value.slice p1 ps.length c1), (Value.slice none 0 0), (Value.slice none 0 0)]), blk b3 103 ([(Value.slice gf.x.a.p gf.x.pl.length gf.x.a.c), (Value.slice gf.x.b.p gf.x.ts.length gf.x.b.c), (Value.slice gf.x.c.p gf.x.ss.length gf.x.c.c)]), rowR gf.x.a.p (rowsL movL (zsM m gf.x.pl)), rowR gf.x.b.p (rowsL t3L gf.x.ts), rowR gf.x.c.p (rowsL t3L gf.x.ss), wmfR gf, blk b2 31 ([(Value.slice none 0 0), (Value.slice none 0 0), (Value.slice none 0 0)]), blk b1 26 (mqL m), rowR m.p (bytL m.cs)]) (tg fun (i : Nat) (p1 : Option Addr) (c1 : Nat) (ps : List Pt) => gf.x.pl.length - i) 0 none 0 ([] : List Pt) (⟨Nat.zero_le _, OwnOk.none, rfl⟩) (sF rfl) sr (fun i p1 c1 ps hJ => ?_)
 obtain ⟨hi, h1, hps⟩ := hJ
 have hzl : (zsM m gf.x.pl).length = gf.x.pl.length := by simp [zsM]
 have hll := gf.x.inv.pll
 have hcl := cellsM_len m
 have hpl : ps.length ≤ 108 := by rw [hps, psN_len (by rw [hzl]; omega)]; omega
 refine OkC.seq (q4 (mv' rfl (st' (v := (pP b3 0)) (ex_fieldAddr rfl Tryz.underlying103 rfl Tryz.sizeOf101 rfl) rfl (ldO' 3 (Value.slice gf.x.a.p gf.x.pl.length gf.x.a.c) tO101 rfl (st' (v := (vN gf.x.pl.length)) (ex_len_slice rfl Tryz.underlying101) rfl ?_)))))
 refine st' (ex_lss (c := (decide (i < gf.x.pl.length))) rfl rfl (ltN (a := i) (b := gf.x.pl.length))) rfl (OkL.nil (OkQ.subF (sL [2, 3, 4, 5, 6, 20] rfl) (OkQ.then_ ?_)))
 refine OkC.cond rfl (fun hc0 => ?_) (fun hc0 => ?_)
 ·replace hc0 := of_decide_eq_true hc0
  refine OkC.skip (q1 (OkC.block (OkC.seq (rG' [(0, true), (1, true), (2, true), (3, true), (4, true), (5, true), (6, true), (7, true), (8, true), (9, true), (10, true), (11, true), (12, true), (13, true), (14, true), (15, true), (16, true), (17, false), (18, false)] sr (pE' (v := (pP b3 0)) rfl (ex_fieldAddr rfl Tryz.underlying103 rfl Tryz.sizeOf101 rfl) ?_)))))
  refine pO'' 3 (Value.slice gf.x.a.p gf.x.pl.length gf.x.a.c) tO101 rfl (pM' rfl (pE' (v := (pP (pB gf.x.a.p) (pO gf.x.a.p + i * 2))) rfl (ex_index_row (j := i) rfl rfl gf.x.a.ok Tryz.underlying101 Tryz.sizeOf106 rfl (by omega)) (pE' (v := (pP (pB gf.x.a.p) (pO gf.x.a.p + (i * 2 + 0)))) rfl (ex_indexAddr_array (j := 0) rfl rfl Tryz.underlying106 Tryz.sizeOf2 rfl (by decide) (Nat.add_assoc _ _ _)) (pE' rfl (ex_load_rowR_one (v := (vI (((zsM m gf.x.pl).getD i ((0, 0) : Int × Int)).1))) (i := 4) rfl rfl (RowOk.ne gf.x.a.ok (by omega)) tO2 (rowsL_at movL_len ((0, 0) : Int × Int) _ _ 0 (by omega) (by decide) rfl)) (pM' rfl ?_)))))
  refine pE' (v := (aG ([(vI (((zsM m gf.x.pl).getD i ((0, 0) : Int × Int)).1)), (vK .u32 (denM m))]))) rfl (ex_build_struct (zs := [(vI 0), (Value.int .u32 (0 : Int))]) (vs := [(vI (((zsM m gf.x.pl).getD i ((0, 0) : Int × Int)).1)), (vK .u32 (denM m))]) (pv := [(0, (vI (((zsM m gf.x.pl).getD i ((0, 0) : Int × Int)).1))), (1, (vK .u32 (denM m)))]) (places := [(0, 1), (1, 1)]) Tryz.zeroValue108 Tryz.underlying108 (fun w => by simp [Tryz.sizeOf2, Tryz.sizeOf105]) rfl rfl) (pE' (v := (pP b3 0)) rfl (ex_fieldAddr rfl Tryz.underlying103 rfl Tryz.sizeOf101 rfl) (pO'' 3 (Value.slice gf.x.a.p gf.x.pl.length gf.x.a.c) tO101 rfl (pM' rfl (pE' (v := (pP (pB gf.x.a.p) (pO gf.x.a.p + i * 2))) rfl (ex_index_row (j := i) rfl rfl gf.x.a.ok Tryz.underlying101 Tryz.sizeOf106 rfl (by omega)) (pE' (v := (pP (pB gf.x.a.p) (pO gf.x.a.p + (i * 2 + 1)))) rfl (ex_indexAddr_array (j := 1) rfl rfl Tryz.underlying106 Tryz.sizeOf2 rfl (by decide) (Nat.add_assoc _ _ _)) ?_)))))
  refine pE' rfl (ex_load_rowR_one (v := (vI (((zsM m gf.x.pl).getD i ((0, 0) : Int × Int)).2))) (i := 4) rfl rfl (RowOk.ne gf.x.a.ok (by omega)) tO2 (rowsL_at movL_len ((0, 0) : Int × Int) _ _ 1 (by omega) (by decide) rfl)) (pM' rfl (pE' (v := (aG ([(vI (((zsM m gf.x.pl).getD i ((0, 0) : Int × Int)).2)), (vK .u32 (denM m))]))) rfl (ex_build_struct (zs := [(vI 0), (Value.int .u32 (0 : Int))]) (vs := [(vI (((zsM m gf.x.pl).getD i ((0, 0) : Int × Int)).2)), (vK .u32 (denM m))]) (pv := [(0, (vI (((zsM m gf.x.pl).getD i ((0, 0) : Int × Int)).2))), (1, (vK .u32 (denM m)))]) (places := [(0, 1), (1, 1)]) Tryz.zeroValue108 Tryz.underlying108 (fun w => by simp [Tryz.sizeOf2, Tryz.sizeOf105]) rfl rfl) (pE' (v := (aG ([(vI (((zsM m gf.x.pl).getD i ((0, 0) : Int × Int)).1)), (vK .u32 (denM m)), (vI (((zsM m gf.x.pl).getD i ((0, 0) : Int × Int)).2)), (vK .u32 (denM m))]))) rfl (ex_build_struct (zs := [(vI 0), (Value.int .u32 (0 : Int)), (vI 0), (Value.int .u32 (0 : Int))]) (vs := [(vI (((zsM m gf.x.pl).getD i ((0, 0) : Int × Int)).1)), (vK .u32 (denM m)), (vI (((zsM m gf.x.pl).getD i ((0, 0) : Int × Int)).2)), (vK .u32 (denM m))]) (pv := [(0, (aG ([(vI (((zsM m gf.x.pl).getD i ((0, 0) : Int × Int)).1)), (vK .u32 (denM m))]))), (1, (aG ([(vI (((zsM m gf.x.pl).getD i ((0, 0) : Int × Int)).2)), (vK .u32 (denM m))])))]) (places := [(0, 2), (2, 2)]) Tryz.zeroValue110 Tryz.underlying110 (fun w => by simp [Tryz.sizeOf108]) rfl rfl) (OkE.imp rfl (al tZ110 rfl fun b5 => ?_)))))
  refine OkE.back (sl sr) (OkE.imp rfl (stW0' rfl Tryz.sizeOf110 rfl (OkE.back (sl sr) (OkE.nil (OkQ.subF (sL [2, 3, 4, 5, 6, 7] rfl) ?_)))))
  refine OkQ.then_ (rC [(0, true), (1, true), (2, true), (3, false), (4, false), (5, false), (6, true)] 7 [] (sk (sk (sl sr))) (sk (sk (sl sr))) (by kernel_rfl) (fun _ _ d _ _ h => by cases d <;> exact h) (vE (v := (pP b4 0)) rfl (ex_fieldAddr rfl Tryz.underlying31 rfl Tryz.sizeOf27 rfl) rfl (vE rfl (ex_load_one (i := 2) (v := (Value.slice p1 ps.length c1)) rfl rfl tO27.a rfl) rfl (vE (v := (aG ([(vI (((zsM m gf.x.pl).getD i ((0, 0) : Int × Int)).1)), (vK .u32 (denM m)), (vI (((zsM m gf.x.pl).getD i ((0, 0) : Int × Int)).2)), (vK .u32 (denM m))]))) rfl (ex_load_agg (i := 0) (vs := [(vI (((zsM m gf.x.pl).getD i ((0, 0) : Int × Int)).1)), (vK .u32 (denM m)), (vI (((zsM m gf.x.pl).getD i ((0, 0) : Int × Int)).2)), (vK .u32 (denM m))]) rfl rfl tA110.a tA110.s rfl rfl) rfl (OkF.imp rfl ?_)))))
  refine ck' Tryz.call46 (POf_ok (gpt m ((zsM m gf.x.pl).getD i (0, 0))) (zs_ok gf.x.inv.small (by omega))) rfl (OkF.back (sk (sk (sl sr))) (OkF.imp rfl (OkL.openV (V := fun b6 => (Value.slice (some ⟨b6, 0, none⟩) 1 1)) (T := 83) (cs := ptL (ptOf (gpt m ((zsM m gf.x.pl).getD i (0, 0))))) (wt_none rfl) (op_buildSlice (z := .agg (ptL (⟨0, 0⟩ : Pt)).toArray) (cs := ptL (ptOf (gpt m ((zsM m gf.x.pl).getD i (0, 0))))) (pv := [(0, (aG (ptL (ptOf (gpt m ((zsM m gf.x.pl).getD i (0, 0)))))))]) Tryz.underlying27 Tryz.sizeOf83 Tryz.zeroValue83 (by decide) (by decide) rfl (tfs_numtc_83_1 (ptOf (gpt m ((zsM m gf.x.pl).getD i (0, 0)))))) rfl (leB rfl) fun b6 => OkF.back (sl (sk (sk (sl sr)))) (OkF.imp rfl ?_))))
  refine OkL.appendAt 3 (j := 0) (cs2 := rowsL ptL (ps ++ [ptOf (gpt m ((zsM m gf.x.pl).getD i (0, 0)))])) tE27 rfl h1 (rowsL_length ptL_len _) rfl rfl rfl rfl rfl (by decide) (mxl (by omega)) (by omega) (by rw [rowsL_append]; rfl) rfl fun p_1 c_1 ho_1 hne_1 => OkF.back (sl (sk (sk (sl sr)))) (vE (v := (pP b4 0)) rfl (ex_fieldAddr rfl Tryz.underlying31 rfl Tryz.sizeOf27 rfl) rfl (OkF.cut rfl (stX 4 (off := 0) (vs := [(Value.slice p_1 (ps.length + 1) c_1)]) (cs' := [(Value.slice p_1 (ps.length + 1) c_1), (Value.slice none 0 0), (Value.slice none 0 0)]) (wt_none rfl) rfl Tryz.sizeOf27 rfl (OkE.back (sl (sk (sk (sl (sl sr))))) ?_))))
  refine OkE.nil (OkQ.subF (sL [2, 3, 4, 5, 6, 7] rfl) (OkQ.in_normal (OkQ.then_ (OkC.region (mv' rfl ?_)))))
  refine st' (ex_add (c := ((i + 1 : Nat) : Int)) rfl rfl (addN_i64 (a := i) (b := 1) (by omega))) rfl (asg' rfl (OkL.nil (OkQ.subF (sL [2, 3, 4, 5, 6, 7] rfl) ?_)))
  rw [show ps.length + 1 = (ps ++ [ptOf (gpt m ((zsM m gf.x.pl).getD i (0, 0)))]).length by simp]
  exact OkQ.round4 (i + 1) p_1 c_1 (ps ++ [ptOf (gpt m ((zsM m gf.x.pl).getD i (0, 0)))]) (⟨by omega, (by simpa using ho_1), by rw [hps, psN_succ (by rw [hzl]; omega)]⟩) (by omega) (sF rfl) (sl (sl sr))
 ·replace hc0 := of_decide_eq_false hc0
  have hps9 : ps.length = gf.x.pl.length := by rw [hps, show i = gf.x.pl.length by omega, psN_len (by rw [hzl]; omega)]
  have hfin : ps = psN m (zsM m gf.x.pl) gf.x.pl.length := by rw [hps, show i = gf.x.pl.length by omega]
  refine OkC.exit (OkQ.then_exit (OkQ.round4_exit (OkQ.in_exit (q2 (st' (v := (pP b3 1)) (ex_fieldAddr rfl Tryz.underlying103 rfl Tryz.sizeOf28 rfl) rfl ?_)))))
  refine ldO' 3 (Value.slice gf.x.b.p gf.x.ts.length gf.x.b.c) tO28 rfl (st' (v := (pP b4 1)) (ex_fieldAddr rfl Tryz.underlying31 rfl Tryz.sizeOf28 rfl) rfl (stX 2 (off := 1) (vs := [(Value.slice gf.x.b.p gf.x.ts.length gf.x.b.c)]) (cs' := [(Value.slice p1 ps.length c1), (Value.slice gf.x.b.p gf.x.ts.length gf.x.b.c), (Value.slice none 0 0)]) (wt_none rfl) rfl Tryz.sizeOf28 rfl (q6 (sL [2, 3, 4, 5, 6] rfl) (q4 (asg' rfl ?_)))))
  refine OkL.nil (OkQ.then_ (OkC.block ?_))
  refine OkC.lp4 (tg fun (j : Nat) (p2 : Option Addr) (c2 : Nat) (ss : List (Nat × Nat × Nat)) => j ≤ gf.x.ss.length ∧ OwnOk p2 ss.length c2 ∧ ss.length = j ∧ ss = gf.x.ss.take j) (tg fun (j : Nat) (p2 : Option Addr) (c2 : Nat) (ss : List (Nat × Nat × Nat)) => [(2, (pP b2 0)), (3, (pP b3 0)), (4, (pP b4 0)), (8, (vN j))]) (tg fun (j : Nat) (p2 : Option Addr) (c2 : Nat) (ss : List (Nat × Nat × Nat)) => [rowW p2 66 3 ss.length c2 (rowsL t3L ss), rowW p1 83 10 ps.length c1 (rowsL ptL ps), blk b4 31 ([(Value.slice p1 ps.length c1), (Value.slice gf.x.b.p gf.x.ts.length gf.x.b.c), (Value.slice p2 ss.length c2)]), blk b3 103 ([(Value.slice gf.x.a.p gf.x.pl.length gf.x.a.c), (Value.slice gf.x.b.p gf.x.ts.length gf.x.b.c), (Value.slice gf.x.c.p gf.x.ss.length gf.x.c.c)]), rowR gf.x.a.p (rowsL movL (zsM m gf.x.pl)), rowR gf.x.b.p (rowsL t3L gf.x.ts), rowR gf.x.c.p (rowsL t3L gf.x.ss), wmfR gf, blk b2 31 ([(Value.slice none 0 0), (Value.slice none 0 0), (Value.slice none 0 0)]), blk b1 26 (mqL m), rowR m.p (bytL m.cs)]) (tg fun (j : Nat) (p2 : Option Addr) (c2 : Nat) (ss : List (Nat × Nat × Nat)) => gf.x.ss.length - j) 0 none 0 ([] : List (Nat × Nat × Nat)) (⟨Nat.zero_le _, OwnOk.none, rfl, rfl⟩) (sF rfl) sr (fun j p2 c2 ss hJ => ?_)
  obtain ⟨hj, h2, hsl, hsd⟩ := hJ
  have hgs := gf.x.sl
  refine OkC.seq (q4 (mv' rfl (st' (v := (pP b3 2)) (ex_fieldAddr rfl Tryz.underlying103 rfl Tryz.sizeOf28 rfl) rfl (ldO' 3 (Value.slice gf.x.c.p gf.x.ss.length gf.x.c.c) tO28 rfl (st' (v := (vN gf.x.ss.length)) (ex_len_slice rfl Tryz.underlying28) rfl ?_)))))
  refine st' (ex_lss (c := (decide (j < gf.x.ss.length))) rfl rfl (ltN (a := j) (b := gf.x.ss.length))) rfl (OkL.nil (OkQ.subF (sL [2, 3, 4, 8, 54] rfl) (OkQ.then_ ?_)))
  refine OkC.cond rfl (fun hc1 => ?_) (fun hc1 => ?_)
  ·replace hc1 := of_decide_eq_true hc1
   refine OkC.skip (q1 (OkC.block (rC [(0, true), (1, true), (2, true), (3, true), (4, true), (5, true), (6, true), (7, true), (8, true), (9, true), (10, true), (11, true), (12, true), (13, true), (14, true), (15, true), (16, true), (17, true), (18, true), (19, true), (20, true), (21, false), (22, false), (23, true)] 24 [] (sl sr) (sk (sl sr)) (by kernel_rfl) (fun _ _ d _ _ h => by cases d <;> exact h) (vE (v := (pP b4 2)) rfl (ex_fieldAddr rfl Tryz.underlying31 rfl Tryz.sizeOf29 rfl) rfl (vE rfl (ex_load_one (i := 1) (v := (Value.slice p2 ss.length c2)) rfl rfl tO29.a rfl) rfl ?_)))))
   refine vE (v := (pP b3 2)) rfl (ex_fieldAddr rfl Tryz.underlying103 rfl Tryz.sizeOf28 rfl) rfl (vE rfl (ex_load_one (i := 2) (v := (Value.slice gf.x.c.p gf.x.ss.length gf.x.c.c)) rfl rfl tO28.a rfl) rfl (vM rfl rfl rfl (vE (v := (pP (pB gf.x.c.p) (pO gf.x.c.p + j * 3))) rfl (ex_index_row (j := j) rfl rfl gf.x.c.ok Tryz.underlying28 Tryz.sizeOf45 rfl (by omega)) rfl (vE (v := (pP (pB gf.x.c.p) (pO gf.x.c.p + (j * 3 + 0)))) rfl (ex_indexAddr_array (j := 0) rfl rfl Tryz.underlying45 Tryz.sizeOf3 rfl (by decide) (Nat.add_assoc _ _ _)) rfl (vE rfl (ex_load_rowR_one (v := (vN ((gf.x.ss.getD j ((0, 0, 0) : Nat × Nat × Nat)).1))) (i := 5) rfl rfl (RowOk.ne gf.x.c.ok (by omega)) tO3 (rowsL_at t3L_len ((0, 0, 0) : Nat × Nat × Nat) _ _ 0 (by omega) (by decide) rfl)) rfl ?_)))))
   refine vE (v := (pP b3 2)) rfl (ex_fieldAddr rfl Tryz.underlying103 rfl Tryz.sizeOf28 rfl) rfl (vE rfl (ex_load_one (i := 2) (v := (Value.slice gf.x.c.p gf.x.ss.length gf.x.c.c)) rfl rfl tO28.a rfl) rfl (vM rfl rfl rfl (vE (v := (pP (pB gf.x.c.p) (pO gf.x.c.p + j * 3))) rfl (ex_index_row (j := j) rfl rfl gf.x.c.ok Tryz.underlying28 Tryz.sizeOf45 rfl (by omega)) rfl (vE (v := (pP (pB gf.x.c.p) (pO gf.x.c.p + (j * 3 + 1)))) rfl (ex_indexAddr_array (j := 1) rfl rfl Tryz.underlying45 Tryz.sizeOf3 rfl (by decide) (Nat.add_assoc _ _ _)) rfl (vE rfl (ex_load_rowR_one (v := (vN ((gf.x.ss.getD j ((0, 0, 0) : Nat × Nat × Nat)).2.1))) (i := 5) rfl rfl (RowOk.ne gf.x.c.ok (by omega)) tO3 (rowsL_at t3L_len ((0, 0, 0) : Nat × Nat × Nat) _ _ 1 (by omega) (by decide) rfl)) rfl ?_)))))
   refine vE (v := (pP b3 2)) rfl (ex_fieldAddr rfl Tryz.underlying103 rfl Tryz.sizeOf28 rfl) rfl (vE rfl (ex_load_one (i := 2) (v := (Value.slice gf.x.c.p gf.x.ss.length gf.x.c.c)) rfl rfl tO28.a rfl) rfl (vM rfl rfl rfl (vE (v := (pP (pB gf.x.c.p) (pO gf.x.c.p + j * 3))) rfl (ex_index_row (j := j) rfl rfl gf.x.c.ok Tryz.underlying28 Tryz.sizeOf45 rfl (by omega)) rfl (vE (v := (pP (pB gf.x.c.p) (pO gf.x.c.p + (j * 3 + 2)))) rfl (ex_indexAddr_array (j := 2) rfl rfl Tryz.underlying45 Tryz.sizeOf3 rfl (by decide) (Nat.add_assoc _ _ _)) rfl (vE rfl (ex_load_rowR_one (v := (vN ((gf.x.ss.getD j ((0, 0, 0) : Nat × Nat × Nat)).2.2))) (i := 5) rfl rfl (RowOk.ne gf.x.c.ok (by omega)) tO3 (rowsL_at t3L_len ((0, 0, 0) : Nat × Nat × Nat) _ _ 2 (by omega) (by decide) rfl)) rfl ?_)))))
   refine vE (v := (aG ([(vN ((gf.x.ss.getD j ((0, 0, 0) : Nat × Nat × Nat)).1)), (vN ((gf.x.ss.getD j ((0, 0, 0) : Nat × Nat × Nat)).2.1)), (vN ((gf.x.ss.getD j ((0, 0, 0) : Nat × Nat × Nat)).2.2))]))) rfl (ex_build_struct (zs := t3L ((0, 0, 0) : Nat × Nat × Nat)) (vs := [(vN ((gf.x.ss.getD j ((0, 0, 0) : Nat × Nat × Nat)).1)), (vN ((gf.x.ss.getD j ((0, 0, 0) : Nat × Nat × Nat)).2.1)), (vN ((gf.x.ss.getD j ((0, 0, 0) : Nat × Nat × Nat)).2.2))]) (pv := [(0, (vN ((gf.x.ss.getD j ((0, 0, 0) : Nat × Nat × Nat)).1))), (1, (vN ((gf.x.ss.getD j ((0, 0, 0) : Nat × Nat × Nat)).2.1))), (2, (vN ((gf.x.ss.getD j ((0, 0, 0) : Nat × Nat × Nat)).2.2)))]) (places := [(0, 1), (1, 1), (2, 1)]) Tryz.zeroValue66 Tryz.underlying66 (fun w => by simp [Tryz.sizeOf3]) rfl rfl) rfl (OkF.imp rfl (OkL.openV (V := fun b5 => (Value.slice (some ⟨b5, 0, none⟩) 1 1)) (T := 66) (cs := t3L ((gf.x.ss.getD j ((0, 0, 0) : Nat × Nat × Nat)).1, (gf.x.ss.getD j ((0, 0, 0) : Nat × Nat × Nat)).2.1, (gf.x.ss.getD j ((0, 0, 0) : Nat × Nat × Nat)).2.2)) (wt_none rfl) (op_buildSlice (z := .agg (t3L ((0, 0, 0) : Nat × Nat × Nat)).toArray) (cs := t3L ((gf.x.ss.getD j ((0, 0, 0) : Nat × Nat × Nat)).1, (gf.x.ss.getD j ((0, 0, 0) : Nat × Nat × Nat)).2.1, (gf.x.ss.getD j ((0, 0, 0) : Nat × Nat × Nat)).2.2)) (pv := [(0, (aG ([(vN ((gf.x.ss.getD j ((0, 0, 0) : Nat × Nat × Nat)).1)), (vN ((gf.x.ss.getD j ((0, 0, 0) : Nat × Nat × Nat)).2.1)), (vN ((gf.x.ss.getD j ((0, 0, 0) : Nat × Nat × Nat)).2.2))])))]) Tryz.underlying29 Tryz.sizeOf66 Tryz.zeroValue66 (by decide) (by decide) rfl (tfs_numtc_66_1 ((gf.x.ss.getD j ((0, 0, 0) : Nat × Nat × Nat)).1, (gf.x.ss.getD j ((0, 0, 0) : Nat × Nat × Nat)).2.1, (gf.x.ss.getD j ((0, 0, 0) : Nat × Nat × Nat)).2.2))) rfl (leB rfl) fun b5 => OkF.back (sl (sl sr)) (OkF.imp rfl (OkL.append1 (j := 0) (cs2 := rowsL t3L (ss ++ [((gf.x.ss.getD j ((0, 0, 0) : Nat × Nat × Nat)).1, (gf.x.ss.getD j ((0, 0, 0) : Nat × Nat × Nat)).2.1, (gf.x.ss.getD j ((0, 0, 0) : Nat × Nat × Nat)).2.2)])) tE29 rfl h2 (rowsL_length t3L_len _) rfl rfl rfl rfl (by decide) (mxl (by omega)) (by omega) (by rw [rowsL_append]; rfl) rfl fun p_2 c_2 ho_2 hne_2 => ?_))))
   refine OkF.back (sl (sl sr)) (vE (v := (pP b4 2)) rfl (ex_fieldAddr rfl Tryz.underlying31 rfl Tryz.sizeOf29 rfl) rfl (OkF.cut rfl (stX 3 (off := 2) (vs := [(Value.slice p_2 (ss.length + 1) c_2)]) (cs' := [(Value.slice p1 ps.length c1), (Value.slice gf.x.b.p gf.x.ts.length gf.x.b.c), (Value.slice p_2 (ss.length + 1) c_2)]) (wt_none rfl) rfl Tryz.sizeOf29 rfl (OkE.back (sl (sl (sk (sl sr)))) (OkE.nil ?_)))))
   refine OkQ.subF (sL [2, 3, 4, 8] rfl) (OkQ.in_normal (OkQ.then_ (OkC.region (mv' rfl (st' (ex_add (c := ((j + 1 : Nat) : Int)) rfl rfl (addN_i64 (a := j) (b := 1) (by omega))) rfl ?_)))))
   refine asg' rfl (OkL.nil (OkQ.subF (sL [2, 3, 4, 8] rfl) ?_))
   rw [show ss.length + 1 = (ss ++ [((gf.x.ss.getD j ((0, 0, 0) : Nat × Nat × Nat)).1, (gf.x.ss.getD j ((0, 0, 0) : Nat × Nat × Nat)).2.1, (gf.x.ss.getD j ((0, 0, 0) : Nat × Nat × Nat)).2.2)]).length by simp]
   exact OkQ.round4 (j + 1) p_2 c_2 (ss ++ [((gf.x.ss.getD j ((0, 0, 0) : Nat × Nat × Nat)).1, (gf.x.ss.getD j ((0, 0, 0) : Nat × Nat × Nat)).2.1, (gf.x.ss.getD j ((0, 0, 0) : Nat × Nat × Nat)).2.2)]) (⟨by omega, (by simpa using ho_2), by simp [hsl], by rw [hsd]; exact (take_snoc (by omega)).symm⟩) (by omega) (sF rfl) (sl sr)
  ·replace hc1 := of_decide_eq_false hc1
   refine OkC.exit (OkQ.then_exit (OkQ.round4_exit (OkQ.in_exit (q2 (ldW' 2 tA31 rfl ?_)))))
   exact stX 8 (off := 0) (vs := [(Value.slice p1 ps.length c1), (Value.slice gf.x.b.p gf.x.ts.length gf.x.b.c), (Value.slice p2 ss.length c2)]) (cs' := [(Value.slice p1 ps.length c1), (Value.slice gf.x.b.p gf.x.ts.length gf.x.b.c), (Value.slice p2 ss.length c2)]) (wt_none rfl) rfl Tryz.sizeOf31 rfl (OkL.nil (OkQ.subF (sL [2, 3, 4, 8] rfl) (OkQ.then_ (OkC.ret (ret_one rfl (rd_agg (i := 8) (cs := [(Value.slice p1 ps.length c1), (Value.slice gf.x.b.p gf.x.ts.length gf.x.b.c), (Value.slice p2 ss.length c2)]) rfl rfl Tryz.isAgg31 Tryz.sizeOf31 rfl) (fun w hw => (retMGF hw ⟨⟨MG.mk ps gf.x.ts ss (good_of gf.x hfin) (by have h9 := gf.x.sl; omega) ⟨m, by rw [hps9, hsd, show j = gf.x.ss.length by omega, List.take_length]; exact gf.x.sd⟩ ⟨p1, c1, h1.row⟩ gf.x.b ⟨p2, c2, h2.row⟩, latM_of gf.x hfin⟩, gf.ob, hw.asunder (i := 1) (j := 5) rfl rfl (by decide) rfl, hw.asunder (i := 0) (j := 5) rfl rfl (by decide) rfl⟩ (own_row (S := fun _ => False) hw 1 rfl h1 (rowsL_length ptL_len _)) (roWb (inS hw 4 rfl (At.wm lgf))) (own_row (S := fun _ => False) hw 0 rfl h2 (rowsL_length t3L_len _)) (told_at hw 7 rfl (At.wmf lgf)) rfl)))))))
theorem mMeshF_ok (m : MQ) (w : World) {S : Nat → Prop} (hm : Ro S w m) : Calls Tryz.prog 12 #[(aG (mqL m))] w (GivesR (MF m) S w) := (mMeshO_ok m w hm).mono fun e w1 h => h.ofMGF
theorem mMesh_ok (m : MQ) (w : World) {S : Nat → Prop} (hm : Ro S w m) : Calls Tryz.prog 12 #[(aG (mqL m))] w (GivesR MG S w) := (mMeshF_ok m w hm).mono fun e w1 h => h.ofMF
end
section
structure MX (ps : List Pt) (ts ss : List (Nat × Nat × Nat)) where
  a : RX (rowsL ptL ps) ps.length
  b : RX (rowsL t3L ts) ts.length
  c : RX (rowsL t3L ss) ss.length
def mxL {ps : List Pt} {ts ss : List (Nat × Nat × Nat)} (x : MX ps ts ss) : List Value := [x.a.val, x.b.val, x.c.val]
theorem mx_ro {ps : List Pt} {ts ss : List (Nat × Nat × Nat)} {x : MX ps ts ss} {y : As} (hy : y ∈ [x.a.row, x.b.row, x.c.row]) : y.ro = true := by
  simp only [List.mem_cons, List.not_mem_nil, or_false] at hy
  rcases hy with rfl | rfl | rfl <;> rfl
instance {ps : List Pt} {ts ss : List (Nat × Nat × Nat)} : Ref (MX ps ts ss) := ⟨fun x => aG (mxL x), fun x => [x.a.row, x.b.row, x.c.row], fun x y hy => mx_ro hy⟩
def MG.mx (g : MG) : MX g.ps g.ts g.ss := ⟨g.a, g.b, g.c⟩
structure BX (cs : List Value) where
  b : Nat
instance {cs : List Value} : Ref (BX cs) := ⟨fun x => pP x.b 0, fun x => [rowR (some ⟨x.b, 0, none⟩) cs], fun x y hy => by rcases List.mem_singleton.1 hy with rfl; rfl⟩
theorem lies_blkB {b : Nat} {T : TypeId} {cs : List Value} {o : Obj} (h : (blk b T cs).P o) : (rowR (some ⟨b, 0, none⟩) cs).P o := ⟨cs.toArray, T, (0, 0), h, by show (cs.toArray.toList.drop 0).take cs.length = cs; simp⟩
section
variable {S : Nat → Prop} {w W : World} {w0 : Base} {L : List As} {ps : List Pt} {ts ss : List (Nat × Nat × Nat)} {cs : List Value}
theorem roMa {x : MX ps ts ss} (h : Ro S w x) : Ro S w x.a := fun y hy => by rcases List.mem_singleton.1 hy with rfl; exact h _ List.mem_cons_self
theorem roMb {x : MX ps ts ss} (h : Ro S w x) : Ro S w x.b := fun y hy => by rcases List.mem_singleton.1 hy with rfl; exact h _ (List.mem_cons_of_mem _ List.mem_cons_self)
theorem inB (hw : Own w0 w L) (i : Nat) {x : BX cs} (hi : L[i]? = some (rowR (some ⟨x.b, 0, none⟩) cs)) (hb : w0.w.heap.size ≤ x.b) : Ro (SL w0 S L) w x := fun y hy => by
  rcases List.mem_singleton.1 hy with rfl
  exact ⟨hw.holds hi, fun c e => ⟨⟨_, List.mem_of_getElem? hi, rfl, e⟩, .inl (by injection e with e; rw [← e]; exact hb)⟩⟩
end
section
variable {P : Program} {ops : Array Oper} {rest : List Oper} {Q : Exit → Act → World → Prop} {n d : Nat} {F : List (Nat × Value)} {w0 : Base} {S : Nat → Prop} {L : List As} {t : TypeId} {p : String} {af : Array Edge} {y : Operand} {f : FuncId} {xs : List Operand} {args : List Value} {ts : Array TypeId}
theorem OkL.frzX (i : Nat) {b : Nat} {T : TypeId} {cs : List Value} (hi : L[i]? = some (blk b T cs)) (hex : w0.ex = none) (next : w0.w.heap.size ≤ b → OkL P ops rest Q n F w0 (L.set i (rowR (some ⟨b, 0, none⟩) cs))) : OkL P ops rest Q n F w0 L := fun a w ha hw => by
  refine next ?_ a w ha (hw.freeze hi rfl (fun o hp => lies_blkB hp) (fun e => by cases e))
  rcases (hw.2.1 _ (List.mem_of_getElem? hi) b rfl).1 with h1 | h1 | h1
  · cases h1
  · exact h1
  · rw [hex] at h1; cases h1
end
def okT (n : Nat) (t : Nat × Nat × Nat) : Bool := decide (t.1 < n) && decide (t.2.1 < n) && decide (t.2.2 < n) && !decide (t.1 = t.2.1) && !decide (t.2.1 = t.2.2) && !decide (t.2.2 = t.1)
def numB (n : Nat) (ts : List (Nat × Nat × Nat)) : Bool := ts.all (okT n)
theorem numB_good {ps : List Pt} {ts : List (Nat × Nat × Nat)} (h : GoodM ps ts) : numB ps.length ts = true := List.all_eq_true.2 fun t ht => by
  obtain ⟨j, hj, rfl⟩ := List.getElem_of_mem ht
  have k := h.tri j hj
  rw [show ts.getD j (0, 0, 0) = ts[j] by rw [List.getD, List.getElem?_eq_getElem hj]; rfl] at k
  simp [okT, k.a, k.b, k.c, k.ab, k.bc, k.ca]
theorem numB_at {n : Nat} {ts : List (Nat × Nat × Nat)} (h : numB n ts = true) {j : Nat} (hj : j < ts.length) : okT n (ts.getD j (0, 0, 0)) = true := by
  rw [List.getD, List.getElem?_eq_getElem hj]
  exact List.all_eq_true.1 h _ (List.getElem_mem hj)
theorem okT_spec {n : Nat} {t : Nat × Nat × Nat} (h : okT n t = true) : t.1 < n ∧ t.2.1 < n ∧ t.2.2 < n := by
  simp [okT] at h; omega
def idxB (n : Nat) : List (Nat × Nat × Nat) → Nat → Int
  | [], _ => -1
  | t :: r, i => if okT n t = true then idxB n r (i + 1) else (i : Int)
theorem drop_at {α : Type} {ts : List α} {d : α} {j : Nat} (hj : j < ts.length) : ts.drop j = ts.getD j d :: ts.drop (j + 1) := by
  rw [List.drop_eq_getElem_cons hj, List.getD, List.getElem?_eq_getElem hj]; rfl
theorem idxB_step {n : Nat} {ts : List (Nat × Nat × Nat)} {j : Nat} (hj : j < ts.length) (h : okT n (ts.getD j (0, 0, 0)) = true) : idxB n (ts.drop j) j = idxB n (ts.drop (j + 1)) (j + 1) := by
  rw [drop_at (d := (0, 0, 0)) hj]; exact if_pos h
theorem idxB_hit {n : Nat} {ts : List (Nat × Nat × Nat)} {j : Nat} (hj : j < ts.length) (h : okT n (ts.getD j (0, 0, 0)) = false) : idxB n (ts.drop j) j = (j : Int) := by
  rw [drop_at (d := (0, 0, 0)) hj]; exact if_neg (by rw [h]; exact Bool.false_ne_true)
theorem idxB_end {n : Nat} {ts : List (Nat × Nat × Nat)} {j : Nat} (hj : ¬ j < ts.length) : idxB n (ts.drop j) j = -1 := by
  rw [List.drop_of_length_le (by omega)]; rfl
theorem idxB_sign (n : Nat) : ∀ (ts : List (Nat × Nat × Nat)) (i : Nat), decide (0 ≤ idxB n ts i) = !numB n ts
  | [], i => rfl
  | t :: r, i => by
    unfold idxB numB
    rw [List.all_cons]
    cases h : okT n t with
    | true => rw [if_pos rfl, Bool.true_and]; exact idxB_sign n r (i + 1)
    | false => rw [if_neg Bool.false_ne_true, Bool.false_and]; simp
def cor (ps : List Pt) (k : Nat) : Pt := ps.getD k ⟨0, 0⟩
end
end Go.Proofs.YtgiacpkjnikjdaaGreat
