import Derived.Test.YtaahheddmfddhaaGreatPart06
import Derived.Test.YtaahheddmfddhaaGreatPart36
namespace Go.Proofs.YtaahheddmfddhaaGreat
open Go Go.RowKit
set_option linter.unusedVariables false
set_option linter.unusedSimpArgs false
section
set_option maxRecDepth 100000
theorem lz_pt_0_0 (w : World) : Calls Tryz.prog 57 #[(vI 0), (vI 0)] w (Gives w (aG (ptL (⟨0, 0⟩ : Pt)))) := by
 have h := pInt_ok 0 0 (by decide) (by decide) (by decide) (by decide) w
 rw [show (⟨((0 : Int) : Rat), ((0 : Int) : Rat)⟩ : Pt) = (⟨0, 0⟩ : Pt) from by decide +kernel] at h
 exact h
theorem lz_pt_2_0 (w : World) : Calls Tryz.prog 57 #[(vI 2), (vI 0)] w (Gives w (aG (ptL (⟨2, 0⟩ : Pt)))) := by
 have h := pInt_ok 2 0 (by decide) (by decide) (by decide) (by decide) w
 rw [show (⟨((2 : Int) : Rat), ((0 : Int) : Rat)⟩ : Pt) = (⟨2, 0⟩ : Pt) from by decide +kernel] at h
 exact h
theorem lz_pt_0_2 (w : World) : Calls Tryz.prog 57 #[(vI 0), (vI 2)] w (Gives w (aG (ptL (⟨0, 2⟩ : Pt)))) := by
 have h := pInt_ok 0 2 (by decide) (by decide) (by decide) (by decide) w
 rw [show (⟨((0 : Int) : Rat), ((2 : Int) : Rat)⟩ : Pt) = (⟨0, 2⟩ : Pt) from by decide +kernel] at h
 exact h
theorem lz_pt_1_0 (w : World) : Calls Tryz.prog 57 #[(vI 1), (vI 0)] w (Gives w (aG (ptL (⟨1, 0⟩ : Pt)))) := by
 have h := pInt_ok 1 0 (by decide) (by decide) (by decide) (by decide) w
 rw [show (⟨((1 : Int) : Rat), ((0 : Int) : Rat)⟩ : Pt) = (⟨1, 0⟩ : Pt) from by decide +kernel] at h
 exact h
theorem lz_pt_0_1 (w : World) : Calls Tryz.prog 57 #[(vI 0), (vI 1)] w (Gives w (aG (ptL (⟨0, 1⟩ : Pt)))) := by
 have h := pInt_ok 0 1 (by decide) (by decide) (by decide) (by decide) w
 rw [show (⟨((0 : Int) : Rat), ((1 : Int) : Rat)⟩ : Pt) = (⟨0, 1⟩ : Pt) from by decide +kernel] at h
 exact h
theorem lz_pt_1_1 (w : World) : Calls Tryz.prog 57 #[(vI 1), (vI 1)] w (Gives w (aG (ptL (⟨1, 1⟩ : Pt)))) := by
 have h := pInt_ok 1 1 (by decide) (by decide) (by decide) (by decide) w
 rw [show (⟨((1 : Int) : Rat), ((1 : Int) : Rat)⟩ : Pt) = (⟨1, 1⟩ : Pt) from by decide +kernel] at h
 exact h
def l28P : List Pt := [⟨0, 0⟩, ⟨2, 0⟩, ⟨0, 2⟩]
def l28T : List T3 := [(0, 1, 2)]
def l28S : List T3 := [(0, 1, 7), (0, 2, 0), (1, 2, 0)]
def r28P : List Pt := [⟨0, 0⟩, ⟨2, 0⟩, ⟨0, 2⟩, ⟨1, 0⟩, ⟨0, 1⟩, ⟨1, 1⟩]
def r28T : List T3 := [(0, 3, 4), (3, 1, 5), (4, 5, 2), (3, 5, 4)]
def r28S : List T3 := [(0, 3, 7), (0, 4, 0), (1, 3, 7), (1, 5, 0), (2, 4, 0), (2, 5, 0)]
theorem red28 (x : MX l28P l28T l28S) (w : World) {S : Nat → Prop} (hx : Ro S w x) : Calls Tryz.prog 15 #[(aG (mxL x))] w (GivesR (RdX r28P r28T r28S [0, 0, 0, 0] 0) S w) := by
 have h := Red_ok x (by decide +kernel) (sz_all (by decide +kernel) (by decide +kernel)) (by decide) (by decide) (by decide) (by decide +kernel) w hx
 rw [show halP l28P (edL l28T) = r28P from by decide +kernel, show redT l28P.length (edL l28T) l28T = r28T from by decide +kernel, show halX l28P.length l28S (edL l28T) r28T = r28S from by decide +kernel, show parN l28T.length = [0, 0, 0, 0] from rfl] at h
 exact h
theorem tfs_numue_49_3 (x0 x1 x2 : Pt) : Instr.fill (fun i => some (i * 10, 10)) ((Array.range (3 * 10)).map ((Value.agg (ptL (⟨0, 0⟩ : Pt)).toArray).cells[· % (Value.agg (ptL (⟨0, 0⟩ : Pt)).toArray).cells.size]!)) [(0, .agg (ptL x0).toArray), (1, .agg (ptL x1).toArray), (2, .agg (ptL x2).toArray)] = some (ptL x0 ++ ptL x1 ++ ptL x2).toArray := by kernel_rfl
theorem tfill_numue_34 (x0 x1 x2 : Nat) : Instr.fill (fun i => some (i * 1, 1)) (t3L ((0, 0, 0) : Nat × Nat × Nat)).toArray [(0, vN x0), (1, vN x1), (2, vN x2)] = some (t3L (x0, x1, x2)).toArray := by kernel_rfl
theorem tfs_numue_34_1 (x0 : Nat × Nat × Nat) : Instr.fill (fun i => some (i * 3, 3)) ((Array.range (1 * 3)).map ((Value.agg (t3L ((0, 0, 0) : Nat × Nat × Nat)).toArray).cells[· % (Value.agg (t3L ((0, 0, 0) : Nat × Nat × Nat)).toArray).cells.size]!)) [(0, .agg (t3L x0).toArray)] = some (t3L x0).toArray := by kernel_rfl
theorem tfs_numue_51_3 (x0 x1 x2 : Nat × Nat × Nat) : Instr.fill (fun i => some (i * 3, 3)) ((Array.range (3 * 3)).map ((Value.agg (t3L ((0, 0, 0) : Nat × Nat × Nat)).toArray).cells[· % (Value.agg (t3L ((0, 0, 0) : Nat × Nat × Nat)).toArray).cells.size]!)) [(0, .agg (t3L x0).toArray), (1, .agg (t3L x1).toArray), (2, .agg (t3L x2).toArray)] = some (t3L x0 ++ t3L x1 ++ t3L x2).toArray := by kernel_rfl
set_option maxHeartbeats 1000000 in
theorem lives28_ok  (w : World)  : Calls Tryz.prog 16 #[] w (Gives w (Value.bool true)) := by
 refine calls_of (args := []) Tryz.func16 rfl rfl (leB rfl) (OkC.subF sN (q4 (asg' rfl (OkL.nil (q2 ?_)))))
 refine ck' Tryz.call57 (lz_pt_0_0) rfl (ck' Tryz.call57 (lz_pt_2_0) rfl (ck' Tryz.call57 (lz_pt_0_2) rfl (OkL.openV (V := fun b1 => (Value.slice (some ⟨b1, 0, none⟩) 3 3)) (T := 49) (cs := ptL (⟨0, 0⟩ : Pt) ++ ptL (⟨2, 0⟩ : Pt) ++ ptL (⟨0, 2⟩ : Pt)) (wt_none rfl) (op_buildSlice (z := .agg (ptL (⟨0, 0⟩ : Pt)).toArray) (cs := ptL (⟨0, 0⟩ : Pt) ++ ptL (⟨2, 0⟩ : Pt) ++ ptL (⟨0, 2⟩ : Pt)) (pv := [(0, (aG (ptL (⟨0, 0⟩ : Pt)))), (1, (aG (ptL (⟨2, 0⟩ : Pt)))), (2, (aG (ptL (⟨0, 2⟩ : Pt))))]) Tryz.underlying27 Tryz.sizeOf49 Tryz.zeroValue49 (by decide) (by decide) rfl (tfs_numue_49_3 (⟨0, 0⟩ : Pt) (⟨2, 0⟩ : Pt) (⟨0, 2⟩ : Pt))) rfl (leB rfl) fun b1 => st' (v := (aG (t3L (0, 1, 2)))) (ex_build_array (zs := t3L ((0, 0, 0) : Nat × Nat × Nat)) (vs := t3L (0, 1, 2)) (pv := [(0, (vI 0)), (1, (vI 1)), (2, (vI 2))]) Tryz.zeroValue34 Tryz.underlying34 Tryz.sizeOf3 rfl (tfill_numue_34 0 1 2)) rfl (OkL.openV (V := fun b2 => (Value.slice (some ⟨b2, 0, none⟩) 1 1)) (T := 34) (cs := t3L (0, 1, 2)) (wt_none rfl) (op_buildSlice (z := .agg (t3L ((0, 0, 0) : Nat × Nat × Nat)).toArray) (cs := t3L (0, 1, 2)) (pv := [(0, (aG (t3L (0, 1, 2))))]) Tryz.underlying28 Tryz.sizeOf34 Tryz.zeroValue34 (by decide) (by decide) rfl (tfs_numue_34_1 (0, 1, 2))) rfl (leB rfl) fun b2 => ?_))))
 refine st' (v := (aG ([(vI 0), (vI 1), (vI 7)]))) (ex_build_struct (zs := t3L ((0, 0, 0) : Nat × Nat × Nat)) (vs := [(vI 0), (vI 1), (vI 7)]) (pv := [(0, (vI 0)), (1, (vI 1)), (2, (vI 7))]) (places := [(0, 1), (1, 1), (2, 1)]) Tryz.zeroValue51 Tryz.underlying51 (fun w => by simp [Tryz.sizeOf3]) rfl rfl) rfl (st' (v := (aG ([(vI 0), (vI 2), (vI 0)]))) (ex_build_struct (zs := t3L ((0, 0, 0) : Nat × Nat × Nat)) (vs := [(vI 0), (vI 2), (vI 0)]) (pv := [(0, (vI 0)), (1, (vI 2))]) (places := [(0, 1), (1, 1), (2, 1)]) Tryz.zeroValue51 Tryz.underlying51 (fun w => by simp [Tryz.sizeOf3]) rfl rfl) rfl (st' (v := (aG ([(vI 1), (vI 2), (vI 0)]))) (ex_build_struct (zs := t3L ((0, 0, 0) : Nat × Nat × Nat)) (vs := [(vI 1), (vI 2), (vI 0)]) (pv := [(0, (vI 1)), (1, (vI 2))]) (places := [(0, 1), (1, 1), (2, 1)]) Tryz.zeroValue51 Tryz.underlying51 (fun w => by simp [Tryz.sizeOf3]) rfl rfl) rfl (OkL.openV (V := fun b3 => (Value.slice (some ⟨b3, 0, none⟩) 3 3)) (T := 51) (cs := t3L ((0, 1, 7) : T3) ++ t3L ((0, 2, 0) : T3) ++ t3L ((1, 2, 0) : T3)) (wt_none rfl) (op_buildSlice (z := .agg (t3L ((0, 0, 0) : Nat × Nat × Nat)).toArray) (cs := t3L ((0, 1, 7) : T3) ++ t3L ((0, 2, 0) : T3) ++ t3L ((1, 2, 0) : T3)) (pv := [(0, (aG ([(vI 0), (vI 1), (vI 7)]))), (1, (aG ([(vI 0), (vI 2), (vI 0)]))), (2, (aG ([(vI 1), (vI 2), (vI 0)])))]) Tryz.underlying29 Tryz.sizeOf51 Tryz.zeroValue51 (by decide) (by decide) rfl (tfs_numue_51_3 ((0, 1, 7) : T3) ((0, 2, 0) : T3) ((1, 2, 0) : T3))) rfl (leB rfl) fun b3 => st' (v := (aG ([(Value.slice (some ⟨b1, 0, none⟩) 3 3), (Value.slice (some ⟨b2, 0, none⟩) 1 1), (Value.slice (some ⟨b3, 0, none⟩) 3 3)]))) (ex_build_struct (zs := [(Value.slice none 0 0), (Value.slice none 0 0), (Value.slice none 0 0)]) (vs := [(Value.slice (some ⟨b1, 0, none⟩) 3 3), (Value.slice (some ⟨b2, 0, none⟩) 1 1), (Value.slice (some ⟨b3, 0, none⟩) 3 3)]) (pv := [(0, (Value.slice (some ⟨b1, 0, none⟩) 3 3)), (1, (Value.slice (some ⟨b2, 0, none⟩) 1 1)), (2, (Value.slice (some ⟨b3, 0, none⟩) 3 3))]) (places := [(0, 1), (1, 1), (2, 1)]) Tryz.zeroValue31 Tryz.underlying31 (fun w => by simp [Tryz.sizeOf27, Tryz.sizeOf28, Tryz.sizeOf29]) rfl rfl) rfl (al tZ31 rfl fun b4 => ?_))))
 refine stW0' rfl Tryz.sizeOf31 rfl (OkL.litM (S := fun _ => False) (ps := l28P) (ts := l28T) (ss := l28S) (fun mm => [blk b4 31 (mxL mm), rowR mm.c.p (rowsL t3L l28S), rowR mm.b.p (rowsL t3L l28T), rowR mm.a.p (rowsL ptL l28P)]) 3 2 1 (by decide) rfl rfl rfl rfl rfl rfl fun mm hmm => q3 (sL [0, 1] rfl) (ldW' 0 tA31 rfl (cRd (S := fun _ => False) (args := [(aG (mxL mm))]) Tryz.call15 (fun w hw => red28 mm w (inX hw [3, 2, 1] rfl hmm)) rfl fun rd hm hq => mv' rfl ?_)))
 refine st' (ex_extract (v := (aG (mxL rd.m))) rfl rfl) rfl (st' (ex_extract (v := (Value.slice rd.q.p 4 rd.q.c)) rfl rfl) rfl (st' (ex_extract (v := (vI 0)) rfl rfl) rfl (al tZ31 rfl fun b5 => stW0' rfl Tryz.sizeOf31 rfl (asg' rfl ?_))))
 refine asg' rfl (q6 (sL [0, 1, 2, 3, 4] rfl) (q4 (mv' rfl (st' (ex_neq (c := false) rfl rfl (by decide)) rfl (mv' rfl ?_)))))
 refine OkL.step (v := (pP b5 0)) (wt_some' rfl) (ex_fieldAddr rfl Tryz.underlying31 rfl Tryz.sizeOf27 rfl) rfl (leB rfl) (OkL.step (v := (Value.slice rd.m.a.p r28P.length rd.m.a.c)) (wt_some' rfl) (ex_load_one (i := 0) (v := (Value.slice rd.m.a.p r28P.length rd.m.a.c)) rfl rfl tO27.a rfl) rfl (leB rfl) (OkL.step (v := (vN r28P.length)) (wt_some' rfl) (ex_len_slice rfl Tryz.underlying27) rfl (leB rfl) (OkL.step (v := (Value.bool false)) (wt_some' rfl) (ex_neq (c := false) rfl rfl (by decide)) rfl (leB rfl) (st' (v := (Value.bool false)) (ex_pick_false rfl rfl) rfl (mv' rfl ?_)))))
 refine OkL.step (v := (pP b5 1)) (wt_some' rfl) (ex_fieldAddr rfl Tryz.underlying31 rfl Tryz.sizeOf28 rfl) rfl (leB rfl) (OkL.step (v := (Value.slice rd.m.b.p r28T.length rd.m.b.c)) (wt_some' rfl) (ex_load_one (i := 0) (v := (Value.slice rd.m.b.p r28T.length rd.m.b.c)) rfl rfl tO28.a rfl) rfl (leB rfl) (OkL.step (v := (vN r28T.length)) (wt_some' rfl) (ex_len_slice rfl Tryz.underlying28) rfl (leB rfl) (OkL.step (v := (Value.bool false)) (wt_some' rfl) (ex_neq (c := false) rfl rfl (by decide)) rfl (leB rfl) (st' (v := (Value.bool false)) (ex_pick_false rfl rfl) rfl (mv' rfl ?_)))))
 refine OkL.step (v := (pP b5 2)) (wt_some' rfl) (ex_fieldAddr rfl Tryz.underlying31 rfl Tryz.sizeOf29 rfl) rfl (leB rfl) (OkL.step (v := (Value.slice rd.m.c.p r28S.length rd.m.c.c)) (wt_some' rfl) (ex_load_one (i := 0) (v := (Value.slice rd.m.c.p r28S.length rd.m.c.c)) rfl rfl tO29.a rfl) rfl (leB rfl) (OkL.step (v := (vN r28S.length)) (wt_some' rfl) (ex_len_slice rfl Tryz.underlying29) rfl (leB rfl) (OkL.step (v := (Value.bool false)) (wt_some' rfl) (ex_neq (c := false) rfl rfl (by decide)) rfl (leB rfl) (st' (v := (Value.bool false)) (ex_pick_false rfl rfl) rfl (mv' rfl ?_)))))
 refine OkL.step (v := (Value.slice rd.q.p 4 rd.q.c)) (wt_some' rfl) (ex_move rfl) rfl (leB rfl) (OkL.step (v := (vI 4)) (wt_some' rfl) (ex_len_slice rfl Tryz.underlying35) rfl (leB rfl) (OkL.step (v := (Value.bool false)) (wt_some' rfl) (ex_neq (c := false) rfl rfl (by decide)) rfl (leB rfl) (st' (v := (Value.bool false)) (ex_pick_false rfl rfl) rfl (OkL.nil (OkQ.subF (sL [0, 1, 2, 47] rfl) ?_)))))
 refine OkQ.then_ (OkC.cond_false rfl (OkC.skip (q1 (rG' [(0, true), (1, true), (2, true), (3, true), (4, false), (5, true), (6, true), (7, true), (8, true), (9, true), (10, true), (11, false), (12, true), (13, true), (14, true), (15, true), (16, true), (17, true), (18, true), (19, false), (20, true), (21, true), (22, true), (23, true), (24, true), (25, true), (26, true), (27, true), (28, true), (29, true), (30, true), (31, true), (32, true), (33, true), (34, true), (35, true), (36, true), (37, true), (38, true)] sr (pE' (v := (pP b5 0)) rfl (ex_fieldAddr rfl Tryz.underlying31 rfl Tryz.sizeOf27 rfl) ?_)))))
 refine pO'' 0 (Value.slice rd.m.a.p r28P.length rd.m.a.c) tO27 rfl (pE' (v := (pP (pB rd.m.a.p) (pO rd.m.a.p + 3 * 10))) rfl (ex_index_row (j := 3) rfl rfl rd.m.a.ok Tryz.underlying27 Tryz.sizeOf49 rfl (by decide)) (pE' (v := (aG (ptL (r28P.getD 3 (⟨0, 0⟩ : Pt))))) rfl (ex_load_rowR_agg (vs := ptL (r28P.getD 3 (⟨0, 0⟩ : Pt))) (i := 1) rfl rfl (RowOk.ne rd.m.a.ok (by decide)) tA49 (rowsL_get ptL_len _ _ _ (by decide)) (ptL_len _)) (OkE.imp rfl (ck' Tryz.call57 (lz_pt_1_0) rfl (OkE.back sr ?_)))))
 refine pE' rfl (ex_eql_agg (c := true) rfl rfl Tryz.eqGuardType49 (eqB_pt_t 9994 rfl)) (pM' rfl (OkE.pas (v := (pP b5 0)) rfl (wt_some' rfl) (ex_fieldAddr rfl Tryz.underlying31 rfl Tryz.sizeOf27 rfl) rfl rfl (OkE.pas (v := (Value.slice rd.m.a.p r28P.length rd.m.a.c)) rfl (wt_some' rfl) (ex_load_one (i := 0) (v := (Value.slice rd.m.a.p r28P.length rd.m.a.c)) rfl rfl tO27.a rfl) rfl rfl (OkE.pas (v := (pP (pB rd.m.a.p) (pO rd.m.a.p + 4 * 10))) rfl (wt_some' rfl) (ex_index_row (j := 4) rfl rfl rd.m.a.ok Tryz.underlying27 Tryz.sizeOf49 rfl (by decide)) rfl rfl (OkE.pas (v := (aG (ptL (r28P.getD 4 (⟨0, 0⟩ : Pt))))) rfl (wt_some' rfl) (ex_load_rowR_agg (vs := ptL (r28P.getD 4 (⟨0, 0⟩ : Pt))) (i := 1) rfl rfl (RowOk.ne rd.m.a.ok (by decide)) tA49 (rowsL_get ptL_len _ _ _ (by decide)) (ptL_len _)) rfl rfl ?_)))))
 refine OkE.imp rfl (OkL.call (v := (aG (ptL (⟨0, 1⟩ : Pt)))) (wt_some' rfl) (op_call0 (args := [(vI 0), (vI 1)]) rfl rfl Tryz.call57) (fun w hw => lz_pt_0_1 w) rfl (leB rfl) (OkE.back sr (OkE.pas (v := (Value.bool true)) rfl (wt_some' rfl) (ex_eql_agg (c := true) rfl rfl Tryz.eqGuardType49 (eqB_pt_t 9994 rfl)) rfl rfl (pE' (v := (Value.bool true)) rfl (ex_pick_true rfl rfl) (pM' rfl ?_)))))
 refine OkE.pas (v := (pP b5 0)) rfl (wt_some' rfl) (ex_fieldAddr rfl Tryz.underlying31 rfl Tryz.sizeOf27 rfl) rfl rfl (OkE.pas (v := (Value.slice rd.m.a.p r28P.length rd.m.a.c)) rfl (wt_some' rfl) (ex_load_one (i := 0) (v := (Value.slice rd.m.a.p r28P.length rd.m.a.c)) rfl rfl tO27.a rfl) rfl rfl (OkE.pas (v := (pP (pB rd.m.a.p) (pO rd.m.a.p + 5 * 10))) rfl (wt_some' rfl) (ex_index_row (j := 5) rfl rfl rd.m.a.ok Tryz.underlying27 Tryz.sizeOf49 rfl (by decide)) rfl rfl (OkE.pas (v := (aG (ptL (r28P.getD 5 (⟨0, 0⟩ : Pt))))) rfl (wt_some' rfl) (ex_load_rowR_agg (vs := ptL (r28P.getD 5 (⟨0, 0⟩ : Pt))) (i := 1) rfl rfl (RowOk.ne rd.m.a.ok (by decide)) tA49 (rowsL_get ptL_len _ _ _ (by decide)) (ptL_len _)) rfl rfl (OkE.imp rfl (OkL.call (v := (aG (ptL (⟨1, 1⟩ : Pt)))) (wt_some' rfl) (op_call0 (args := [(vI 1), (vI 1)]) rfl rfl Tryz.call57) (fun w hw => lz_pt_1_1 w) rfl (leB rfl) ?_)))))
 refine OkE.back sr (OkE.pas (v := (Value.bool true)) rfl (wt_some' rfl) (ex_eql_agg (c := true) rfl rfl Tryz.eqGuardType49 (eqB_pt_t 9994 rfl)) rfl rfl (pE' (v := (Value.bool true)) rfl (ex_pick_true rfl rfl) (pM' rfl (OkE.pas (v := (pP b5 1)) rfl (wt_some' rfl) (ex_fieldAddr rfl Tryz.underlying31 rfl Tryz.sizeOf28 rfl) rfl rfl (OkE.pas (v := (Value.slice rd.m.b.p r28T.length rd.m.b.c)) rfl (wt_some' rfl) (ex_load_one (i := 0) (v := (Value.slice rd.m.b.p r28T.length rd.m.b.c)) rfl rfl tO28.a rfl) rfl rfl ?_)))))
 refine OkE.pas (v := (pP (pB rd.m.b.p) (pO rd.m.b.p + 0 * 3))) rfl (wt_some' rfl) (ex_index_row (j := 0) rfl rfl rd.m.b.ok Tryz.underlying28 Tryz.sizeOf34 rfl (by decide)) rfl rfl (OkE.pas (v := (aG (t3L (r28T.getD 0 ((0, 0, 0) : Nat × Nat × Nat))))) rfl (wt_some' rfl) (ex_load_rowR_agg (vs := t3L (r28T.getD 0 ((0, 0, 0) : Nat × Nat × Nat))) (i := 2) rfl rfl (RowOk.ne rd.m.b.ok (by decide)) tA34 (rowsL_get t3L_len _ _ _ (by decide)) (t3L_len _)) rfl rfl (OkE.pas (v := (aG (t3L (0, 3, 4)))) rfl (wt_some' rfl) (ex_build_array (zs := t3L ((0, 0, 0) : Nat × Nat × Nat)) (vs := t3L (0, 3, 4)) (pv := [(0, (vI 0)), (1, (vI 3)), (2, (vI 4))]) Tryz.zeroValue34 Tryz.underlying34 Tryz.sizeOf3 rfl (tfill_numue_34 0 3 4)) rfl rfl (OkE.pas (v := (Value.bool true)) rfl (wt_some' rfl) (ex_eql_agg (c := true) rfl rfl Tryz.eqGuardType34 (eqB_t3_t (a := r28T.getD 0 ((0, 0, 0) : Nat × Nat × Nat)) (b := (0, 3, 4)) 9998 rfl)) rfl rfl (pE' (v := (Value.bool true)) rfl (ex_pick_true rfl rfl) (pM' rfl ?_)))))
 refine OkE.pas (v := (pP b5 1)) rfl (wt_some' rfl) (ex_fieldAddr rfl Tryz.underlying31 rfl Tryz.sizeOf28 rfl) rfl rfl (OkE.pas (v := (Value.slice rd.m.b.p r28T.length rd.m.b.c)) rfl (wt_some' rfl) (ex_load_one (i := 0) (v := (Value.slice rd.m.b.p r28T.length rd.m.b.c)) rfl rfl tO28.a rfl) rfl rfl (OkE.pas (v := (pP (pB rd.m.b.p) (pO rd.m.b.p + 3 * 3))) rfl (wt_some' rfl) (ex_index_row (j := 3) rfl rfl rd.m.b.ok Tryz.underlying28 Tryz.sizeOf34 rfl (by decide)) rfl rfl (OkE.pas (v := (aG (t3L (r28T.getD 3 ((0, 0, 0) : Nat × Nat × Nat))))) rfl (wt_some' rfl) (ex_load_rowR_agg (vs := t3L (r28T.getD 3 ((0, 0, 0) : Nat × Nat × Nat))) (i := 2) rfl rfl (RowOk.ne rd.m.b.ok (by decide)) tA34 (rowsL_get t3L_len _ _ _ (by decide)) (t3L_len _)) rfl rfl (OkE.pas (v := (aG (t3L (3, 5, 4)))) rfl (wt_some' rfl) (ex_build_array (zs := t3L ((0, 0, 0) : Nat × Nat × Nat)) (vs := t3L (3, 5, 4)) (pv := [(0, (vI 3)), (1, (vI 5)), (2, (vI 4))]) Tryz.zeroValue34 Tryz.underlying34 Tryz.sizeOf3 rfl (tfill_numue_34 3 5 4)) rfl rfl (OkE.pas (v := (Value.bool true)) rfl (wt_some' rfl) (ex_eql_agg (c := true) rfl rfl Tryz.eqGuardType34 (eqB_t3_t (a := r28T.getD 3 ((0, 0, 0) : Nat × Nat × Nat)) (b := (3, 5, 4)) 9998 rfl)) rfl rfl ?_)))))
 refine pE' (v := (Value.bool true)) rfl (ex_pick_true rfl rfl) (pS' rfl (OkE.nil (OkQ.subF (sL [0, 1, 2, 5] rfl) (q2 (mv' rfl ?_)))))
 refine mv' rfl (OkL.step (v := (pP b5 2)) (wt_some' rfl) (ex_fieldAddr rfl Tryz.underlying31 rfl Tryz.sizeOf29 rfl) rfl (leB rfl) (OkL.step (v := (Value.slice rd.m.c.p r28S.length rd.m.c.c)) (wt_some' rfl) (ex_load_one (i := 0) (v := (Value.slice rd.m.c.p r28S.length rd.m.c.c)) rfl rfl tO29.a rfl) rfl (leB rfl) (OkL.step (v := (pP (pB rd.m.c.p) (pO rd.m.c.p + 0 * 3))) (wt_some' rfl) (ex_index_row (j := 0) rfl rfl rd.m.c.ok Tryz.underlying29 Tryz.sizeOf51 rfl (by decide)) rfl (leB rfl) (OkL.step (v := (aG (t3L (r28S.getD 0 ((0, 0, 0) : Nat × Nat × Nat))))) (wt_some' rfl) (ex_load_rowR_agg (vs := t3L (r28S.getD 0 ((0, 0, 0) : Nat × Nat × Nat))) (i := 3) rfl rfl (RowOk.ne rd.m.c.ok (by decide)) tA51 (rowsL_get t3L_len _ _ _ (by decide)) (t3L_len _)) rfl (leB rfl) (OkL.step (v := (aG ([(vI 0), (vI 3), (vI 7)]))) (wt_some' rfl) (ex_build_struct (zs := t3L ((0, 0, 0) : Nat × Nat × Nat)) (vs := [(vI 0), (vI 3), (vI 7)]) (pv := [(0, (vI 0)), (1, (vI 3)), (2, (vI 7))]) (places := [(0, 1), (1, 1), (2, 1)]) Tryz.zeroValue51 Tryz.underlying51 (fun w => by simp [Tryz.sizeOf3]) rfl rfl) rfl (leB rfl) ?_)))))
 refine OkL.step (v := (Value.bool true)) (wt_some' rfl) (ex_eql_agg (c := true) rfl rfl Tryz.eqGuardType51 (eqB_side_t (a := r28S.getD 0 ((0, 0, 0) : Nat × Nat × Nat)) (b := ((0, 3, 7) : T3)) 9998 rfl)) rfl (leB rfl) (st' (v := (Value.bool true)) (ex_pick_true rfl rfl) rfl (mv' rfl (OkL.step (v := (pP b5 2)) (wt_some' rfl) (ex_fieldAddr rfl Tryz.underlying31 rfl Tryz.sizeOf29 rfl) rfl (leB rfl) (OkL.step (v := (Value.slice rd.m.c.p r28S.length rd.m.c.c)) (wt_some' rfl) (ex_load_one (i := 0) (v := (Value.slice rd.m.c.p r28S.length rd.m.c.c)) rfl rfl tO29.a rfl) rfl (leB rfl) (OkL.step (v := (pP (pB rd.m.c.p) (pO rd.m.c.p + 2 * 3))) (wt_some' rfl) (ex_index_row (j := 2) rfl rfl rd.m.c.ok Tryz.underlying29 Tryz.sizeOf51 rfl (by decide)) rfl (leB rfl) ?_)))))
 refine OkL.step (v := (aG (t3L (r28S.getD 2 ((0, 0, 0) : Nat × Nat × Nat))))) (wt_some' rfl) (ex_load_rowR_agg (vs := t3L (r28S.getD 2 ((0, 0, 0) : Nat × Nat × Nat))) (i := 3) rfl rfl (RowOk.ne rd.m.c.ok (by decide)) tA51 (rowsL_get t3L_len _ _ _ (by decide)) (t3L_len _)) rfl (leB rfl) (OkL.step (v := (aG ([(vI 1), (vI 3), (vI 7)]))) (wt_some' rfl) (ex_build_struct (zs := t3L ((0, 0, 0) : Nat × Nat × Nat)) (vs := [(vI 1), (vI 3), (vI 7)]) (pv := [(0, (vI 1)), (1, (vI 3)), (2, (vI 7))]) (places := [(0, 1), (1, 1), (2, 1)]) Tryz.zeroValue51 Tryz.underlying51 (fun w => by simp [Tryz.sizeOf3]) rfl rfl) rfl (leB rfl) (OkL.step (v := (Value.bool true)) (wt_some' rfl) (ex_eql_agg (c := true) rfl rfl Tryz.eqGuardType51 (eqB_side_t (a := r28S.getD 2 ((0, 0, 0) : Nat × Nat × Nat)) (b := ((1, 3, 7) : T3)) 9998 rfl)) rfl (leB rfl) (st' (v := (Value.bool true)) (ex_pick_true rfl rfl) rfl (mv' rfl (OkL.step (v := (pP b5 2)) (wt_some' rfl) (ex_fieldAddr rfl Tryz.underlying31 rfl Tryz.sizeOf29 rfl) rfl (leB rfl) ?_)))))
 refine OkL.step (v := (Value.slice rd.m.c.p r28S.length rd.m.c.c)) (wt_some' rfl) (ex_load_one (i := 0) (v := (Value.slice rd.m.c.p r28S.length rd.m.c.c)) rfl rfl tO29.a rfl) rfl (leB rfl) (OkL.step (v := (pP (pB rd.m.c.p) (pO rd.m.c.p + 1 * 3))) (wt_some' rfl) (ex_index_row (j := 1) rfl rfl rd.m.c.ok Tryz.underlying29 Tryz.sizeOf51 rfl (by decide)) rfl (leB rfl) (OkL.step (v := (pP (pB rd.m.c.p) (pO rd.m.c.p + (1 * 3 + 2)))) (wt_some' rfl) (ex_fieldAddr rfl Tryz.underlying51 rfl Tryz.sizeOf3 (Nat.add_assoc _ _ _)) rfl (leB rfl) (OkL.step (v := (vN ((r28S.getD 1 ((0, 0, 0) : Nat × Nat × Nat)).2.2))) (wt_some' rfl) (ex_load_rowR_one (v := (vN ((r28S.getD 1 ((0, 0, 0) : Nat × Nat × Nat)).2.2))) (i := 3) rfl rfl (RowOk.ne rd.m.c.ok (by decide)) tO3 (rowsL_at t3L_len ((0, 0, 0) : Nat × Nat × Nat) _ _ 2 (by decide) (by decide) rfl)) rfl (leB rfl) (OkL.step (v := (Value.bool true)) (wt_some' rfl) (ex_eql (c := true) rfl rfl (by decide)) rfl (leB rfl) (st' (v := (Value.bool true)) (ex_pick_true rfl rfl) rfl ?_)))))
 refine mv' rfl (OkL.step (v := (pP b5 2)) (wt_some' rfl) (ex_fieldAddr rfl Tryz.underlying31 rfl Tryz.sizeOf29 rfl) rfl (leB rfl) (OkL.step (v := (Value.slice rd.m.c.p r28S.length rd.m.c.c)) (wt_some' rfl) (ex_load_one (i := 0) (v := (Value.slice rd.m.c.p r28S.length rd.m.c.c)) rfl rfl tO29.a rfl) rfl (leB rfl) (OkL.step (v := (pP (pB rd.m.c.p) (pO rd.m.c.p + 5 * 3))) (wt_some' rfl) (ex_index_row (j := 5) rfl rfl rd.m.c.ok Tryz.underlying29 Tryz.sizeOf51 rfl (by decide)) rfl (leB rfl) (OkL.step (v := (aG (t3L (r28S.getD 5 ((0, 0, 0) : Nat × Nat × Nat))))) (wt_some' rfl) (ex_load_rowR_agg (vs := t3L (r28S.getD 5 ((0, 0, 0) : Nat × Nat × Nat))) (i := 3) rfl rfl (RowOk.ne rd.m.c.ok (by decide)) tA51 (rowsL_get t3L_len _ _ _ (by decide)) (t3L_len _)) rfl (leB rfl) (OkL.step (v := (aG ([(vI 2), (vI 5), (vI 0)]))) (wt_some' rfl) (ex_build_struct (zs := t3L ((0, 0, 0) : Nat × Nat × Nat)) (vs := [(vI 2), (vI 5), (vI 0)]) (pv := [(0, (vI 2)), (1, (vI 5))]) (places := [(0, 1), (1, 1), (2, 1)]) Tryz.zeroValue51 Tryz.underlying51 (fun w => by simp [Tryz.sizeOf3]) rfl rfl) rfl (leB rfl) ?_)))))
 refine OkL.step (v := (Value.bool true)) (wt_some' rfl) (ex_eql_agg (c := true) rfl rfl Tryz.eqGuardType51 (eqB_side_t (a := r28S.getD 5 ((0, 0, 0) : Nat × Nat × Nat)) (b := ((2, 5, 0) : T3)) 9998 rfl)) rfl (leB rfl) (st' (v := (Value.bool true)) (ex_pick_true rfl rfl) rfl (asg' rfl (OkL.nil (OkQ.subF (sL [0, 1, 2] rfl) (OkQ.then_ ?_)))))
 exact OkC.ret (ret_one rfl (rd_tmp (v := (Value.bool true)) rfl) (fun w hw => ⟨rfl, hw.out⟩))
end
section
abbrev M3 := List Pt × List T3 × List T3
def redM (M : M3) : M3 := (halP M.1 (edL M.2.1), redT M.1.length (edL M.2.1) M.2.1, halX M.1.length M.2.2 (edL M.2.1) (redT M.1.length (edL M.2.1) M.2.1))
def limM (M : M3) : Prop := M.1.length + (edL M.2.1).length ≤ 4096 ∧ 4 * M.2.1.length ≤ 8192
instance (M : M3) : Decidable (limM M) := inferInstanceAs (Decidable (_ ∧ _))
def timesF : Nat → M3 → M3 × Nat
  | 0, M => (M, 0)
  | n + 1, M => if limM M then timesF n (redM M) else (([], [], []), 3)
structure WfM (M : M3) : Prop where
  num : numB M.1.length M.2.1 = true
  sz : ∀ i, SzP (cor M.1 i) ≤ 100 * M.2.1.length
  pl : M.1.length ≤ 4096
  tl : M.2.1.length ≤ 8192
  sl : M.2.2.length ≤ 24576
  ne : 0 < M.2.1.length
theorem edL_le (ts : List T3) : (edL ts).length ≤ 3 * ts.length := by rw [edL_len]; exact edS_len _
theorem sz_halN {ps : List Pt} {es : List E4} {k : Nat} (h : ∀ i, SzP (cor ps i) ≤ k) (hk : 2 ≤ k) : ∀ n i, SzP (cor (halN ps es n) i) ≤ 4 * k
  | 0, i => Nat.le_trans (h i) (by omega)
  | n + 1, i => by
    show SzP (cor (halN ps es n ++ [mdE ps (es.getD n E0)]) i) ≤ _
    unfold cor
    rcases Nat.lt_trichotomy i (halN ps es n).length with hi | hi | hi
    · rw [List.getD, List.getElem?_append_left hi]
      exact sz_halN h hk n i
    · rw [List.getD, List.getElem?_append_right (by omega), hi, Nat.sub_self]
      show SzP (mdE _ _) ≤ _
      unfold mdE
      have h1 := SzP_scale (cor ps (es.getD n E0).a + cor ps (es.getD n E0).b) (1 / 2)
      have h2 := SzP_add (cor ps (es.getD n E0).a) (cor ps (es.getD n E0).b)
      have h3 := h (es.getD n E0).a
      have h4 := h (es.getD n E0).b
      have h5 := Sz_half
      omega
    · rw [List.getD, List.getElem?_eq_none (by simp; omega)]
      have h1 := h ps.length
      unfold cor at h1
      rw [List.getD, List.getElem?_eq_none (Nat.le_refl _)] at h1
      exact Nat.le_trans h1 (by omega)
theorem WfM.red {M : M3} (h : WfM M) (hl : limM M) : WfM (redM M) := by
  obtain ⟨l1, l2⟩ := hl
  have hp := h.pl
  have ht := h.tl
  have hn := h.ne
  have e : (redM M).2.1.length = 4 * M.2.1.length := redT_len
  have ep : (redM M).1.length = M.1.length + (edL M.2.1).length := halP_len
  have hx : (redM M).2.2.length ≤ 3 * (redM M).2.1.length := halX_len
  refine ⟨?_, fun i => ?_, by omega, by omega, by omega, by omega⟩
  · rw [ep]; exact redT_num h.num (by omega)
  · rw [e]
    have := sz_halN (es := edL M.2.1) h.sz (by omega) (edL M.2.1).length i
    exact Nat.le_trans this (by omega)
theorem WfM.hz {M : M3} (h : WfM M) (i : Nat) : SzP (cor M.1 i) ≤ 1000000 := Nat.le_trans (h.sz i) (by have := h.tl; omega)
theorem times_lim : ∀ n {M : M3}, WfM M → 8192 < 4 ^ n * M.2.1.length → timesF n M = (([], [], []), 3)
  | 0, M, h, hl => absurd h.tl (by rw [Nat.pow_zero, Nat.one_mul] at hl; omega)
  | n + 1, M, h, hl => by
    unfold timesF
    split
    · rename_i h1
      refine times_lim n (h.red h1) ?_
      rw [show (redM M).2.1.length = 4 * M.2.1.length from redT_len, ← Nat.mul_assoc, ← Nat.pow_succ]
      exact hl
    · rfl
theorem wf_of {g : MG} : WfM (g.ps, g.ts, g.ss) := by
  have hG := g.good
  have h1 : 0 < g.ts.length := List.length_pos_iff.2 hG.ne
  exact ⟨numB_good hG, fun i => Nat.le_trans (hG.sz i) (by show 4 ≤ 100 * g.ts.length; omega), Nat.le_trans hG.pl (by decide), Nat.le_trans hG.tl (by decide), Nat.le_trans g.sl (by decide), h1⟩
theorem lim_of {g : MG} : limM (g.ps, g.ts, g.ss) ∧ limM (redM (g.ps, g.ts, g.ss)) := by
  have hp := g.good.pl
  have ht := g.good.tl
  have he := edL_le g.ts
  have e : (redM (g.ps, g.ts, g.ss)).2.1.length = 4 * g.ts.length := redT_len
  have ep : (redM (g.ps, g.ts, g.ss)).1.length = g.ps.length + (edL g.ts).length := halP_len
  have e2 := edL_le (redM (g.ps, g.ts, g.ss)).2.1
  refine ⟨⟨?_, ?_⟩, ⟨?_, ?_⟩⟩
  · show g.ps.length + (edL g.ts).length ≤ _; omega
  · show 4 * g.ts.length ≤ _; omega
  · omega
  · omega
theorem timesF_no {k : Nat} {M : M3} (h : ¬ limM M) (hk : 0 < k) : timesF k M = (([], [], []), 3) := by
  obtain ⟨j, rfl⟩ : ∃ j, k = j + 1 := ⟨k - 1, by omega⟩
  show (if _ then _ else _) = _; rw [if_neg h]
theorem timesF_yes {k : Nat} {M : M3} (h : limM M) (hk : 0 < k) : timesF k M = timesF (k - 1) (redM M) := by
  obtain ⟨j, rfl⟩ : ∃ j, k = j + 1 := ⟨k - 1, by omega⟩
  show (if _ then _ else _) = _; rw [if_pos h, Nat.add_sub_cancel]
theorem OkL.rev3 {P : Program} {ops : Array Oper} {rest : List Oper} {Q : Exit → Act → World → Prop} {n : Nat} {F : List (Nat × Value)} {w0 : Base} {a b c : As} {L : List As} (h : OkL P ops rest Q n F w0 (c :: b :: a :: L)) : OkL P ops rest Q n F w0 (a :: b :: c :: L) := fun A w ha hw =>
  h A w ha (hw.perm ((List.reverse_perm [a, b, c]).symm.append_right L))
def iterM (M : M3) : Nat → M3
  | 0 => M
  | i + 1 => redM (iterM M i)
theorem times_two {g : MG} {k : Nat} (hk : k ≤ 2) : timesF k (g.ps, g.ts, g.ss) = (iterM (g.ps, g.ts, g.ss) k, 0) := by
  have h := lim_of (g := g)
  have e : k = 0 ∨ k = 1 ∨ k = 2 := by omega
  rcases e with rfl | rfl | rfl
  · rfl
  · show (if _ then _ else _) = _; rw [if_pos h.1]; rfl
  · show (if _ then (if _ then _ else _) else _) = _; rw [if_pos h.1, if_pos h.2]; rfl
theorem iter_lim {g : MG} {i : Nat} (hi : i < 2) : limM (iterM (g.ps, g.ts, g.ss) i) := by
  have e : i = 0 ∨ i = 1 := by omega
  rcases e with rfl | rfl
  · exact lim_of.1
  · exact lim_of.2
theorem iter_wf {g : MG} : ∀ {i : Nat}, i ≤ 2 → WfM (iterM (g.ps, g.ts, g.ss) i)
  | 0, _ => wf_of
  | i + 1, hi => (iter_wf (i := i) (by omega)).red (iter_lim (by omega))
structure ZM where
  ps : List Pt
  ts : List T3
  ss : List T3
  mx : MX ps ts ss
structure TmX (ps : List Pt) (ts ss : List T3) (e : Nat) where
  m : MX ps ts ss
instance {ps : List Pt} {ts ss : List T3} {e : Nat} : Ref (TmX ps ts ss e) := ⟨fun x => .tuple #[aG (mxL x.m), vN e], fun x => Ref.rows x.m, fun x y hy => Ref.ro x.m y hy⟩
theorem retTm {S : Nat → Prop} {W w : World} {L : List As} {ps : List Pt} {ts ss : List T3} {e : Nat} (hw : Own ⟨W, none⟩ w L) {x : MX ps ts ss} (h : Ro (SL ⟨W, none⟩ S L) w x) {v : Value} (hv : v = .tuple #[aG (mxL x), vN e]) : GivesR (TmX ps ts ss e) S W (.returned v) w :=
  ⟨⟨x⟩, by rw [hv]; rfl, hw.out, fun y hy => ⟨(h y hy).1, fun b e => ((h y hy).2 b e).2⟩⟩
def mx0 : MX [] [] [] := ⟨⟨none, 0, OwnOk.none.row⟩, ⟨none, 0, OwnOk.none.row⟩, ⟨none, 0, OwnOk.none.row⟩⟩
theorem mx0_ro {S : Nat → Prop} {w : World} : Ro S w mx0 := fun y hy => by
  have hy : y ∈ [rowR none (rowsL ptL []), rowR none (rowsL t3L []), rowR none (rowsL t3L [])] := hy
  simp only [List.mem_cons, List.not_mem_nil, or_false] at hy
  rcases hy with rfl | rfl | rfl <;> exact ⟨(fun b e => by cases e), (fun b e => by cases e)⟩
theorem retTm0 {S : Nat → Prop} {W w : World} {L : List As} (hw : Own ⟨W, none⟩ w L) (e : Nat) {v : Value} (hv : v = .tuple #[aG [.slice none 0 0, .slice none 0 0, .slice none 0 0], vN e]) : GivesR (TmX [] [] [] e) S W (.returned v) w := retTm hw (x := mx0) mx0_ro hv
theorem GivesR.ofTm {S : Nat → Prop} {W w : World} {R R' : M3 × Nat} (h : R = R') {e : Ending} (k : GivesR (TmX R'.1.1 R'.1.2.1 R'.1.2.2 R'.2) S W e w) : GivesR (TmX R.1.1 R.1.2.1 R.1.2.2 R.2) S W e w := h ▸ k
section
variable {P : Program} {ops : Array Oper} {rest : List Oper} {Q : Exit → Act → World → Prop} {n d : Nat} {F : List (Nat × Value)} {w0 : Base} {S : Nat → Prop} {L : List As} {t : TypeId} {p : String} {af : Array Edge} {y : Operand} {f : FuncId} {xs : List Operand} {args : List Value} {tys : Array TypeId} {ps : List Pt} {ts ss : List T3} {e : Nat}
theorem cTm (hc : ∀ args w, (callFunc f args).run P w = .ok (.enter f args) w) (h : ∀ w, Own w0 w L → Calls P f args.toArray w (GivesR (TmX ps ts ss e) (SL w0 S L) w))
    (h2 : (evF F y, xs.map (evF F), Nat.ble (d + 1) n) = (some (.func (.func f) #[] #[]), args.map some, true)) (next : ∀ a : TmX ps ts ss e, At w0 S a.m → OkL P ops rest Q n ((d, .tuple #[aG (mxL a.m), vN e]) :: F) w0 (rowR a.m.a.p (rowsL ptL ps) :: rowR a.m.b.p (rowsL t3L ts) :: rowR a.m.c.p (rowsL t3L ss) :: L)) :
    OkL P ops (⟨some d, .call { callee := .value y, args := xs.toArray, argTypes := tys }, t, p, af, none⟩ :: rest) Q n F w0 L := OkL.callR hc h (t21 h2) (t21 (t22 h2)) (t22 (t22 h2)) next
theorem Own.dup {w : World} (h : Own w0 w L) {i : Nat} {y : As} (hi : L[i]? = some y) (hr : y.ro = true) : Own w0 w (y :: L) := by
  refine ⟨h.1, fun x hx => ?_, List.pairwise_cons.2 ⟨fun z hz => ?_, h.2.2⟩⟩
  · rcases List.mem_cons.1 hx with rfl | hx
    · exact h.2.1 _ (List.mem_of_getElem? hi)
    · exact h.2.1 _ hx
  · by_cases h1 : z.ro = true
    · exact .inl ⟨hr, h1⟩
    · obtain ⟨j, hj, ej⟩ := List.mem_iff_getElem.1 hz
      obtain ⟨hi', ei⟩ := List.getElem?_eq_some_iff.1 hi
      have hp := List.pairwise_iff_getElem.1 h.2.2
      rcases Nat.lt_trichotomy i j with h2 | h2 | h2
      · have := hp i j hi' hj h2; rwa [ei, ej] at this
      · subst h2; exact absurd (by rw [← ej, ei]; exact hr) h1
      · have := hp j i hj hi' h2
        rw [ei, ej] at this
        rcases this with ⟨_, _⟩ | this
        · exact absurd (by assumption) h1
        · exact .inr fun b e1 e2 => this b e2 e1
theorem OkL.dupM (i : Nat) {a b c : As} (hi : (L.drop i).take 3 = [a, b, c]) (hr : a.ro = true ∧ b.ro = true ∧ c.ro = true) (next : OkL P ops rest Q n F w0 (a :: b :: c :: L)) : OkL P ops rest Q n F w0 L := fun A w ha hw => by
  have m : ∀ k, k < 3 → L[i + k]? = [a, b, c][k]? := fun k hk => by rw [← hi, List.getElem?_take_of_lt hk, List.getElem?_drop]
  have h1 := hw.dup (i := i + 2) (m 2 (by omega)) hr.2.2
  have h2 := h1.dup (i := i + 1 + 1) (m 1 (by omega)) hr.2.1
  exact next A w ha (h2.dup (i := i + 0 + 1 + 1) (m 0 (by omega)) hr.1)
end
def badL (ts : List T3) : List Value := vI (-1) :: vN 0 :: vN 1 :: rowsL t3L ts
structure MB (ps : List Pt) (ts ss : List T3) where
  a : RX (rowsL ptL ps) ps.length
  b : RX (badL ts) (1 + ts.length)
  c : RX (rowsL t3L ss) ss.length
def mbL {ps : List Pt} {ts ss : List T3} (x : MB ps ts ss) : List Value := [x.a.val, x.b.val, x.c.val]
theorem mb_ro {ps : List Pt} {ts ss : List T3} {x : MB ps ts ss} {y : As} (hy : y ∈ [x.a.row, x.b.row, x.c.row]) : y.ro = true := by
  simp only [List.mem_cons, List.not_mem_nil, or_false] at hy
  rcases hy with rfl | rfl | rfl <;> rfl
instance {ps : List Pt} {ts ss : List T3} : Ref (MB ps ts ss) := ⟨fun x => aG (mbL x), fun x => [x.a.row, x.b.row, x.c.row], fun x y hy => mb_ro hy⟩
theorem roMBb {S : Nat → Prop} {w : World} {ps : List Pt} {ts ss : List T3} {x : MB ps ts ss} (h : Ro S w x) : Ro S w x.b := fun y hy => by rcases List.mem_singleton.1 hy with rfl; exact h _ (List.mem_cons_of_mem _ List.mem_cons_self)
theorem At.mb {w0 : Base} {S : Nat → Prop} {ps : List Pt} {ts ss : List T3} {x : MB ps ts ss} (h1 : At w0 S x.a) (h2 : At w0 S x.b) (h3 : At w0 S x.c) : At w0 S x := fun y hy b e => by
  have hy : y ∈ [x.a.row, x.b.row, x.c.row] := hy
  simp only [List.mem_cons, List.not_mem_nil, or_false] at hy
  rcases hy with rfl | rfl | rfl
  · exact h1 _ List.mem_cons_self b e
  · exact h2 _ List.mem_cons_self b e
  · exact h3 _ List.mem_cons_self b e
theorem At.ma {w0 : Base} {S : Nat → Prop} {ps : List Pt} {ts ss : List T3} {x : MX ps ts ss} (h : At w0 S x) : At w0 S x.a := fun y hy b e => by rcases List.mem_singleton.1 hy with rfl; exact h _ List.mem_cons_self b e
theorem At.mc {w0 : Base} {S : Nat → Prop} {ps : List Pt} {ts ss : List T3} {x : MX ps ts ss} (h : At w0 S x) : At w0 S x.c := fun y hy b e => by rcases List.mem_singleton.1 hy with rfl; exact h _ (List.mem_cons_of_mem _ (List.mem_cons_of_mem _ List.mem_cons_self)) b e
theorem times_60 {g : MG} : timesF 60 (g.ps, g.ts, g.ss) = (([], [], []), 3) :=
  times_lim 60 wf_of (Nat.lt_of_lt_of_le (show 8192 < 4 ^ 60 * 1 by decide) (Nat.mul_le_mul_left _ (wf_of (g := g)).ne))
end
end Go.Proofs.YtaahheddmfddhaaGreat
