import Derived.Test.YtgiacpkjnikjdaaGreatPart06
import Derived.Test.YtgiacpkjnikjdaaGreatPart21
import Derived.Test.YtgiacpkjnikjdaaGreatPart26
import Derived.Test.YtgiacpkjnikjdaaGreatPart36
import Derived.Test.YtgiacpkjnikjdaaGreatPart41
namespace Go.Proofs.YtgiacpkjnikjdaaGreat
open Go Go.RowKit
set_option linter.unusedVariables false
set_option linter.unusedSimpArgs false
section
set_option maxRecDepth 100000
theorem lz9_pt_0_0 (w : World) : Calls Tryz.prog 47 #[(vI 0), (vI 0)] w (Gives w (aG (ptL (⟨0, 0⟩ : Pt)))) := by
 have h := pInt_ok 0 0 (by decide) (by decide) (by decide) (by decide) w
 rw [show (⟨((0 : Int) : Rat), ((0 : Int) : Rat)⟩ : Pt) = (⟨0, 0⟩ : Pt) from by decide +kernel] at h
 exact h
theorem lz9_pt_1_0 (w : World) : Calls Tryz.prog 47 #[(vI 1), (vI 0)] w (Gives w (aG (ptL (⟨1, 0⟩ : Pt)))) := by
 have h := pInt_ok 1 0 (by decide) (by decide) (by decide) (by decide) w
 rw [show (⟨((1 : Int) : Rat), ((0 : Int) : Rat)⟩ : Pt) = (⟨1, 0⟩ : Pt) from by decide +kernel] at h
 exact h
theorem lz9_pt_1_1 (w : World) : Calls Tryz.prog 47 #[(vI 1), (vI 1)] w (Gives w (aG (ptL (⟨1, 1⟩ : Pt)))) := by
 have h := pInt_ok 1 1 (by decide) (by decide) (by decide) (by decide) w
 rw [show (⟨((1 : Int) : Rat), ((1 : Int) : Rat)⟩ : Pt) = (⟨1, 1⟩ : Pt) from by decide +kernel] at h
 exact h
theorem lz9_pt_0_1 (w : World) : Calls Tryz.prog 47 #[(vI 0), (vI 1)] w (Gives w (aG (ptL (⟨0, 1⟩ : Pt)))) := by
 have h := pInt_ok 0 1 (by decide) (by decide) (by decide) (by decide) w
 rw [show (⟨((0 : Int) : Rat), ((1 : Int) : Rat)⟩ : Pt) = (⟨0, 1⟩ : Pt) from by decide +kernel] at h
 exact h
def l29P : List Pt := [⟨0, 0⟩, ⟨1, 0⟩, ⟨1, 1⟩, ⟨0, 1⟩]
def l29T : List T3 := [(1, 2, 0), (3, 0, 2)]
def f29P : List Pt := [⟨0, 0⟩, ⟨1, 0⟩, ⟨1, 1⟩, ⟨0, 1⟩, ⟨1 / 2, 1 / 2⟩]
def f29T : List T3 := [(4, 1, 2), (4, 0, 1), (4, 3, 0), (4, 2, 3)]
def f29S : List T3 := [(0, 1, 0), (0, 3, 0), (1, 2, 0), (2, 3, 0)]
def g29P : List Pt := [⟨0, 0⟩, ⟨1, 0⟩, ⟨1, 1⟩, ⟨0, 1⟩, ⟨1 / 2, 1 / 2⟩, ⟨1, 1 / 2⟩]
def g29T : List T3 := [(5, 4, 1), (5, 2, 4), (4, 0, 1), (4, 3, 0), (4, 2, 3)]
def g29S : List T3 := [(0, 1, 0), (0, 3, 0), (1, 5, 0), (2, 3, 0), (2, 5, 0)]
theorem cut29a : ∀ (l : List E4) (p : E4 → Bool), l = (edL l29T).filter p → (∀ e, p e = true ↔ Clo l29T (MkK l29T [0]) (e.a, e.b)) → l = (edL l29T).filter fun e => decide ((e.a, e.b) ∈ [((0, 2) : P2)]) := fun l p h ha =>
 cut_lit [((0, 2) : P2)] (by decide +kernel) (by decide +kernel) (fun k hk => .start ⟨0, List.mem_singleton.2 rfl, by decide, by decide, by rw [List.mem_singleton.1 hk]; decide +kernel⟩) h ha
theorem cut29b : ∀ (l : List E4) (p : E4 → Bool), l = (edL f29T).filter p → (∀ e, p e = true ↔ Clo f29T (MkK f29T [0]) (e.a, e.b)) → l = (edL f29T).filter fun e => decide ((e.a, e.b) ∈ [((1, 2) : P2)]) := fun l p h ha =>
 cut_lit [((1, 2) : P2)] (by decide +kernel) (by decide +kernel) (fun k hk => .start ⟨0, List.mem_singleton.2 rfl, by decide, by decide, by rw [List.mem_singleton.1 hk]; decide +kernel⟩) h ha
theorem inr29 {n : Nat} (hn : 0 < n) : ∀ j, j < ([0] : List Int).length → 0 ≤ ([0] : List Int).getD j 0 ∧ ([0] : List Int).getD j 0 < (n : Int) := fun j hj => by
 have e : j = 0 := by simpa using hj
 subst e; exact ⟨by decide, by show (0 : Int) < _; omega⟩
theorem bis29a (x : MX l29P l29T []) (y : RX (zL [0]) ([0] : List Int).length) (w : World) {S : Nat → Prop} (hx : Ro S w x) (hy : Ro S w y) : Calls Tryz.prog 14 #[(aG (mxL x)), y.val] w (GivesR (RdX f29P f29T f29S [0, 0, 1, 1] 0) S w) := by
 refine (Bisect_ok x [0] y (by decide +kernel) (sz_all (by decide +kernel) (by decide +kernel)) (by decide) (by decide) (inr29 (by decide)) (by decide +kernel) w hx hy).mono fun e w' h => ?_
 have h := giveOf _ h cut29a
 generalize hl : (edL l29T).filter (fun e => decide ((e.a, e.b) ∈ [((0, 2) : P2)])) = l at h
 have hl : l = [⟨0, 2, 1, 0⟩] := by rw [← hl]; decide +kernel
 subst hl
 rw [show halP l29P [⟨0, 2, 1, 0⟩] = f29P from by decide +kernel, show hvA (midS l29P.length [⟨0, 2, 1, 0⟩] ([⟨0, 2, 1, 0⟩] : List E4).length) l29T = f29T from by decide +kernel, show halX l29P.length [] [⟨0, 2, 1, 0⟩] f29T = f29S from by decide +kernel, show hpN (midS l29P.length [⟨0, 2, 1, 0⟩] ([⟨0, 2, 1, 0⟩] : List E4).length) l29T l29T.length = [0, 0, 1, 1] from by decide +kernel] at h
 exact h
theorem bis29b (x : MX f29P f29T f29S) (y : RX (zL [0]) ([0] : List Int).length) (w : World) {S : Nat → Prop} (hx : Ro S w x) (hy : Ro S w y) : Calls Tryz.prog 14 #[(aG (mxL x)), y.val] w (GivesR (RdX g29P g29T g29S [0, 0, 1, 2, 3] 0) S w) := by
 refine (Bisect_ok x [0] y (by decide +kernel) (sz_all (by decide +kernel) (by decide +kernel)) (by decide) (by decide) (inr29 (by decide)) (by decide +kernel) w hx hy).mono fun e w' h => ?_
 have h := giveOf _ h cut29b
 generalize hl : (edL f29T).filter (fun e => decide ((e.a, e.b) ∈ [((1, 2) : P2)])) = l at h
 have hl : l = [⟨1, 2, 0, -1⟩] := by rw [← hl]; decide +kernel
 subst hl
 rw [show halP f29P [⟨1, 2, 0, -1⟩] = g29P from by decide +kernel, show hvA (midS f29P.length [⟨1, 2, 0, -1⟩] ([⟨1, 2, 0, -1⟩] : List E4).length) f29T = g29T from by decide +kernel, show halX f29P.length f29S [⟨1, 2, 0, -1⟩] g29T = g29S from by decide +kernel, show hpN (midS f29P.length [⟨1, 2, 0, -1⟩] ([⟨1, 2, 0, -1⟩] : List E4).length) f29T f29T.length = [0, 0, 1, 2, 3] from by decide +kernel] at h
 exact h
theorem tfs_numuw_83_4 (x0 x1 x2 x3 : Pt) : Instr.fill (fun i => some (i * 10, 10)) ((Array.range (4 * 10)).map ((Value.agg (ptL (⟨0, 0⟩ : Pt)).toArray).cells[· % (Value.agg (ptL (⟨0, 0⟩ : Pt)).toArray).cells.size]!)) [(0, .agg (ptL x0).toArray), (1, .agg (ptL x1).toArray), (2, .agg (ptL x2).toArray), (3, .agg (ptL x3).toArray)] = some (ptL x0 ++ ptL x1 ++ ptL x2 ++ ptL x3).toArray := by kernel_rfl
theorem tfill_numuw_45 (x0 x1 x2 : Nat) : Instr.fill (fun i => some (i * 1, 1)) (t3L ((0, 0, 0) : Nat × Nat × Nat)).toArray [(0, vN x0), (1, vN x1), (2, vN x2)] = some (t3L (x0, x1, x2)).toArray := by kernel_rfl
theorem tfs_numuw_45_2 (x0 x1 : Nat × Nat × Nat) : Instr.fill (fun i => some (i * 3, 3)) ((Array.range (2 * 3)).map ((Value.agg (t3L ((0, 0, 0) : Nat × Nat × Nat)).toArray).cells[· % (Value.agg (t3L ((0, 0, 0) : Nat × Nat × Nat)).toArray).cells.size]!)) [(0, .agg (t3L x0).toArray), (1, .agg (t3L x1).toArray)] = some (t3L x0 ++ t3L x1).toArray := by kernel_rfl
set_option maxHeartbeats 1000000 in
theorem lives29_ok  (w : World)  : Calls Tryz.prog 13 #[] w (Gives w (Value.bool true)) := by
 refine calls_of (args := []) Tryz.func13 rfl rfl (leB rfl) (OkC.subF sN (q4 (asg' rfl (OkL.nil (q2 ?_)))))
 refine ck' Tryz.call47 (lz9_pt_0_0) rfl (ck' Tryz.call47 (lz9_pt_1_0) rfl (ck' Tryz.call47 (lz9_pt_1_1) rfl (ck' Tryz.call47 (lz9_pt_0_1) rfl (OkL.openV (V := fun b1 => (Value.slice (some ⟨b1, 0, none⟩) 4 4)) (T := 83) (cs := ptL (⟨0, 0⟩ : Pt) ++ ptL (⟨1, 0⟩ : Pt) ++ ptL (⟨1, 1⟩ : Pt) ++ ptL (⟨0, 1⟩ : Pt)) (wt_none rfl) (op_buildSlice (z := .agg (ptL (⟨0, 0⟩ : Pt)).toArray) (cs := ptL (⟨0, 0⟩ : Pt) ++ ptL (⟨1, 0⟩ : Pt) ++ ptL (⟨1, 1⟩ : Pt) ++ ptL (⟨0, 1⟩ : Pt)) (pv := [(0, (aG (ptL (⟨0, 0⟩ : Pt)))), (1, (aG (ptL (⟨1, 0⟩ : Pt)))), (2, (aG (ptL (⟨1, 1⟩ : Pt)))), (3, (aG (ptL (⟨0, 1⟩ : Pt))))]) Tryz.underlying27 Tryz.sizeOf83 Tryz.zeroValue83 (by decide) (by decide) rfl (tfs_numuw_83_4 (⟨0, 0⟩ : Pt) (⟨1, 0⟩ : Pt) (⟨1, 1⟩ : Pt) (⟨0, 1⟩ : Pt))) rfl (leB rfl) fun b1 => st' (v := (aG (t3L (1, 2, 0)))) (ex_build_array (zs := t3L ((0, 0, 0) : Nat × Nat × Nat)) (vs := t3L (1, 2, 0)) (pv := [(0, (vI 1)), (1, (vI 2)), (2, (vI 0))]) Tryz.zeroValue45 Tryz.underlying45 Tryz.sizeOf3 rfl (tfill_numuw_45 1 2 0)) rfl ?_))))
 refine st' (v := (aG (t3L (3, 0, 2)))) (ex_build_array (zs := t3L ((0, 0, 0) : Nat × Nat × Nat)) (vs := t3L (3, 0, 2)) (pv := [(0, (vI 3)), (1, (vI 0)), (2, (vI 2))]) Tryz.zeroValue45 Tryz.underlying45 Tryz.sizeOf3 rfl (tfill_numuw_45 3 0 2)) rfl (OkL.openV (V := fun b2 => (Value.slice (some ⟨b2, 0, none⟩) 2 2)) (T := 45) (cs := t3L (1, 2, 0) ++ t3L (3, 0, 2)) (wt_none rfl) (op_buildSlice (z := .agg (t3L ((0, 0, 0) : Nat × Nat × Nat)).toArray) (cs := t3L (1, 2, 0) ++ t3L (3, 0, 2)) (pv := [(0, (aG (t3L (1, 2, 0)))), (1, (aG (t3L (3, 0, 2))))]) Tryz.underlying28 Tryz.sizeOf45 Tryz.zeroValue45 (by decide) (by decide) rfl (tfs_numuw_45_2 (1, 2, 0) (3, 0, 2))) rfl (leB rfl) fun b2 => st' (v := (aG ([(Value.slice (some ⟨b1, 0, none⟩) 4 4), (Value.slice (some ⟨b2, 0, none⟩) 2 2), (Value.slice none 0 0)]))) (ex_build_struct (zs := [(Value.slice none 0 0), (Value.slice none 0 0), (Value.slice none 0 0)]) (vs := [(Value.slice (some ⟨b1, 0, none⟩) 4 4), (Value.slice (some ⟨b2, 0, none⟩) 2 2), (Value.slice none 0 0)]) (pv := [(0, (Value.slice (some ⟨b1, 0, none⟩) 4 4)), (1, (Value.slice (some ⟨b2, 0, none⟩) 2 2))]) (places := [(0, 1), (1, 1), (2, 1)]) Tryz.zeroValue31 Tryz.underlying31 (fun w => by simp [Tryz.sizeOf27, Tryz.sizeOf28, Tryz.sizeOf29]) rfl rfl) rfl (al tZ31 rfl fun b3 => stW0' rfl Tryz.sizeOf31 rfl (OkL.litM2 (S := fun _ => False) (ps := l29P) (ts := l29T) (fun mm => [rowR mm.c.p (rowsL t3L ([] : List T3)), blk b3 31 (mxL mm), rowR mm.b.p (rowsL t3L l29T), rowR mm.a.p (rowsL ptL l29P)]) 2 1 (by decide) rfl rfl rfl rfl rfl fun mm hmm => ?_)))
 refine q3 (sL [0, 1] rfl) (ldW' 1 tA31 rfl (OkL.openV (V := fun b4 => (Value.slice (some ⟨b4, 0, none⟩) 1 1)) (T := 3) (cs := zL [0]) (wt_none rfl) (op_buildSlice (cs := zL [0]) (pv := [(0, (vI 0))]) Tryz.underlying34 Tryz.sizeOf3 Tryz.zeroValue3 (by decide) (by decide) rfl (by kernel_rfl)) rfl (leB rfl) fun b4 => OkL.asRow0 (z := 1) 1 rfl (by omega) fun ho_b4 => OkL.frzRow 0 rfl ho_b4 rfl rfl rfl fun hn_b4 => cRd (S := fun _ => False) (args := [(aG (mxL mm)), (Value.slice (some ⟨b4, 0, none⟩) 1 1)]) Tryz.call14 (fun w hw => bis29a mm ⟨(some ⟨b4, 0, none⟩), 1, ho_b4.row⟩ w (inX hw [4, 3, 1] rfl hmm) (inS hw 0 rfl (At.new hn_b4))) rfl fun r1x hmr1x hqr1x => ?_))
 refine mv' rfl (st' (ex_extract (v := (aG (mxL r1x.m))) rfl rfl) rfl (st' (ex_extract (v := (Value.slice r1x.q.p 4 r1x.q.c)) rfl rfl) rfl (st' (ex_extract (v := (vI 0)) rfl rfl) rfl (al tZ31 rfl fun b5 => stW0' rfl Tryz.sizeOf31 rfl ?_))))
 refine asg' rfl (asg' rfl (q3 (sL [0, 1, 2, 3, 4] rfl) (ldW' 0 tA31 rfl (OkL.openV (V := fun b6 => (Value.slice (some ⟨b6, 0, none⟩) 1 1)) (T := 3) (cs := zL [0]) (wt_none rfl) (op_buildSlice (cs := zL [0]) (pv := [(0, (vI 0))]) Tryz.underlying34 Tryz.sizeOf3 Tryz.zeroValue3 (by decide) (by decide) rfl (by kernel_rfl)) rfl (leB rfl) fun b6 => OkL.asRow0 (z := 1) 1 rfl (by omega) fun ho_b6 => ?_))))
 refine OkL.frzRow 0 rfl ho_b6 rfl rfl rfl fun hn_b6 => cRd (S := fun _ => False) (args := [(aG (mxL r1x.m)), (Value.slice (some ⟨b6, 0, none⟩) 1 1)]) Tryz.call14 (fun w hw => bis29b r1x.m ⟨(some ⟨b6, 0, none⟩), 1, ho_b6.row⟩ w (inS hw 2 rfl hmr1x) (inS hw 0 rfl (At.new hn_b6))) rfl fun r2x hmr2x hqr2x => mv' rfl (st' (ex_extract (v := (aG (mxL r2x.m))) rfl rfl) rfl (st' (ex_extract (v := (Value.slice r2x.q.p 5 r2x.q.c)) rfl rfl) rfl (st' (ex_extract (v := (vI 0)) rfl rfl) rfl ?_)))
 refine al tZ31 rfl fun b7 => stW0' rfl Tryz.sizeOf31 rfl (asg' rfl (asg' rfl (q6 (sL [0, 1, 2, 3, 4, 5, 6, 7] rfl) (q4 ?_))))
 refine mv' rfl (st' (ex_neq (c := false) rfl rfl (by decide)) rfl (mv' rfl (OkL.step (v := (vI 0)) (wt_some' rfl) (ex_move rfl) rfl (leB rfl) (OkL.step (v := (Value.bool false)) (wt_some' rfl) (ex_neq (c := false) rfl rfl (by decide)) rfl (leB rfl) (st' (v := (Value.bool false)) (ex_pick_false rfl rfl) rfl ?_)))))
 refine mv' rfl (OkL.step (v := (pP b5 1)) (wt_some' rfl) (ex_fieldAddr rfl Tryz.underlying31 rfl Tryz.sizeOf28 rfl) rfl (leB rfl) (OkL.step (v := (Value.slice r1x.m.b.p f29T.length r1x.m.b.c)) (wt_some' rfl) (ex_load_one (i := 6) (v := (Value.slice r1x.m.b.p f29T.length r1x.m.b.c)) rfl rfl tO28.a rfl) rfl (leB rfl) (OkL.step (v := (vN f29T.length)) (wt_some' rfl) (ex_len_slice rfl Tryz.underlying28) rfl (leB rfl) (OkL.step (v := (Value.bool false)) (wt_some' rfl) (ex_neq (c := false) rfl rfl (by decide)) rfl (leB rfl) (st' (v := (Value.bool false)) (ex_pick_false rfl rfl) rfl ?_)))))
 refine mv' rfl (OkL.step (v := (pP b5 0)) (wt_some' rfl) (ex_fieldAddr rfl Tryz.underlying31 rfl Tryz.sizeOf27 rfl) rfl (leB rfl) (OkL.step (v := (Value.slice r1x.m.a.p f29P.length r1x.m.a.c)) (wt_some' rfl) (ex_load_one (i := 6) (v := (Value.slice r1x.m.a.p f29P.length r1x.m.a.c)) rfl rfl tO27.a rfl) rfl (leB rfl) (OkL.step (v := (vN f29P.length)) (wt_some' rfl) (ex_len_slice rfl Tryz.underlying27) rfl (leB rfl) (OkL.step (v := (Value.bool false)) (wt_some' rfl) (ex_neq (c := false) rfl rfl (by decide)) rfl (leB rfl) (st' (v := (Value.bool false)) (ex_pick_false rfl rfl) rfl ?_)))))
 refine mv' rfl (OkL.step (v := (Value.slice r1x.q.p 4 r1x.q.c)) (wt_some' rfl) (ex_move rfl) rfl (leB rfl) (OkL.step (v := (vI 4)) (wt_some' rfl) (ex_len_slice rfl Tryz.underlying34) rfl (leB rfl) (OkL.step (v := (Value.bool false)) (wt_some' rfl) (ex_neq (c := false) rfl rfl (by decide)) rfl (leB rfl) (st' (v := (Value.bool false)) (ex_pick_false rfl rfl) rfl (mv' rfl ?_)))))
 refine OkL.step (v := (pP b7 1)) (wt_some' rfl) (ex_fieldAddr rfl Tryz.underlying31 rfl Tryz.sizeOf28 rfl) rfl (leB rfl) (OkL.step (v := (Value.slice r2x.m.b.p g29T.length r2x.m.b.c)) (wt_some' rfl) (ex_load_one (i := 0) (v := (Value.slice r2x.m.b.p g29T.length r2x.m.b.c)) rfl rfl tO28.a rfl) rfl (leB rfl) (OkL.step (v := (vN g29T.length)) (wt_some' rfl) (ex_len_slice rfl Tryz.underlying28) rfl (leB rfl) (OkL.step (v := (Value.bool false)) (wt_some' rfl) (ex_neq (c := false) rfl rfl (by decide)) rfl (leB rfl) (st' (v := (Value.bool false)) (ex_pick_false rfl rfl) rfl (mv' rfl ?_)))))
 refine OkL.step (v := (Value.slice r2x.q.p 5 r2x.q.c)) (wt_some' rfl) (ex_move rfl) rfl (leB rfl) (OkL.step (v := (vI 5)) (wt_some' rfl) (ex_len_slice rfl Tryz.underlying34) rfl (leB rfl) (OkL.step (v := (Value.bool false)) (wt_some' rfl) (ex_neq (c := false) rfl rfl (by decide)) rfl (leB rfl) (st' (v := (Value.bool false)) (ex_pick_false rfl rfl) rfl (OkL.nil (OkQ.subF (sL [0, 1, 2, 3, 5, 6, 65] rfl) ?_)))))
 refine OkQ.then_ (OkC.cond_false rfl (OkC.skip (q2 (st' (v := (pP b5 1)) (ex_fieldAddr rfl Tryz.underlying31 rfl Tryz.sizeOf28 rfl) rfl (ldO' 6 (Value.slice r1x.m.b.p f29T.length r1x.m.b.c) tO28 rfl ?_)))))
 refine st' (v := (pP (pB r1x.m.b.p) (pO r1x.m.b.p + 0 * 3))) (ex_index_row (j := 0) rfl rfl r1x.m.b.ok Tryz.underlying28 Tryz.sizeOf45 rfl (by decide)) rfl (st' (v := (aG (t3L (f29T.getD 0 ((0, 0, 0) : Nat × Nat × Nat))))) (ex_load_rowR_agg (vs := t3L (f29T.getD 0 ((0, 0, 0) : Nat × Nat × Nat))) (i := 8) rfl rfl (RowOk.ne r1x.m.b.ok (by decide)) tA45 (rowsL_get t3L_len _ _ _ (by decide)) (t3L_len _)) rfl (st' (v := (aG (t3L (4, 1, 2)))) (ex_build_array (zs := t3L ((0, 0, 0) : Nat × Nat × Nat)) (vs := t3L (4, 1, 2)) (pv := [(0, (vI 4)), (1, (vI 1)), (2, (vI 2))]) Tryz.zeroValue45 Tryz.underlying45 Tryz.sizeOf3 rfl (tfill_numuw_45 4 1 2)) rfl (st' (ex_eql_agg (c := true) rfl rfl Tryz.eqGuardType45 (eqB_t3_t (a := f29T.getD 0 ((0, 0, 0) : Nat × Nat × Nat)) (b := (4, 1, 2)) 9998 rfl)) rfl (mv' rfl (OkL.step (v := (pP b5 1)) (wt_some' rfl) (ex_fieldAddr rfl Tryz.underlying31 rfl Tryz.sizeOf28 rfl) rfl (leB rfl) ?_)))))
 refine OkL.step (v := (Value.slice r1x.m.b.p f29T.length r1x.m.b.c)) (wt_some' rfl) (ex_load_one (i := 6) (v := (Value.slice r1x.m.b.p f29T.length r1x.m.b.c)) rfl rfl tO28.a rfl) rfl (leB rfl) (OkL.step (v := (pP (pB r1x.m.b.p) (pO r1x.m.b.p + 1 * 3))) (wt_some' rfl) (ex_index_row (j := 1) rfl rfl r1x.m.b.ok Tryz.underlying28 Tryz.sizeOf45 rfl (by decide)) rfl (leB rfl) (OkL.step (v := (aG (t3L (f29T.getD 1 ((0, 0, 0) : Nat × Nat × Nat))))) (wt_some' rfl) (ex_load_rowR_agg (vs := t3L (f29T.getD 1 ((0, 0, 0) : Nat × Nat × Nat))) (i := 8) rfl rfl (RowOk.ne r1x.m.b.ok (by decide)) tA45 (rowsL_get t3L_len _ _ _ (by decide)) (t3L_len _)) rfl (leB rfl) (OkL.step (v := (aG (t3L (4, 0, 1)))) (wt_some' rfl) (ex_build_array (zs := t3L ((0, 0, 0) : Nat × Nat × Nat)) (vs := t3L (4, 0, 1)) (pv := [(0, (vI 4)), (1, (vI 0)), (2, (vI 1))]) Tryz.zeroValue45 Tryz.underlying45 Tryz.sizeOf3 rfl (tfill_numuw_45 4 0 1)) rfl (leB rfl) (OkL.step (v := (Value.bool true)) (wt_some' rfl) (ex_eql_agg (c := true) rfl rfl Tryz.eqGuardType45 (eqB_t3_t (a := f29T.getD 1 ((0, 0, 0) : Nat × Nat × Nat)) (b := (4, 0, 1)) 9998 rfl)) rfl (leB rfl) (st' (v := (Value.bool true)) (ex_pick_true rfl rfl) rfl ?_)))))
 refine mv' rfl (OkL.step (v := (pP b5 1)) (wt_some' rfl) (ex_fieldAddr rfl Tryz.underlying31 rfl Tryz.sizeOf28 rfl) rfl (leB rfl) (OkL.step (v := (Value.slice r1x.m.b.p f29T.length r1x.m.b.c)) (wt_some' rfl) (ex_load_one (i := 6) (v := (Value.slice r1x.m.b.p f29T.length r1x.m.b.c)) rfl rfl tO28.a rfl) rfl (leB rfl) (OkL.step (v := (pP (pB r1x.m.b.p) (pO r1x.m.b.p + 2 * 3))) (wt_some' rfl) (ex_index_row (j := 2) rfl rfl r1x.m.b.ok Tryz.underlying28 Tryz.sizeOf45 rfl (by decide)) rfl (leB rfl) (OkL.step (v := (aG (t3L (f29T.getD 2 ((0, 0, 0) : Nat × Nat × Nat))))) (wt_some' rfl) (ex_load_rowR_agg (vs := t3L (f29T.getD 2 ((0, 0, 0) : Nat × Nat × Nat))) (i := 8) rfl rfl (RowOk.ne r1x.m.b.ok (by decide)) tA45 (rowsL_get t3L_len _ _ _ (by decide)) (t3L_len _)) rfl (leB rfl) (OkL.step (v := (aG (t3L (4, 3, 0)))) (wt_some' rfl) (ex_build_array (zs := t3L ((0, 0, 0) : Nat × Nat × Nat)) (vs := t3L (4, 3, 0)) (pv := [(0, (vI 4)), (1, (vI 3)), (2, (vI 0))]) Tryz.zeroValue45 Tryz.underlying45 Tryz.sizeOf3 rfl (tfill_numuw_45 4 3 0)) rfl (leB rfl) ?_)))))
 refine OkL.step (v := (Value.bool true)) (wt_some' rfl) (ex_eql_agg (c := true) rfl rfl Tryz.eqGuardType45 (eqB_t3_t (a := f29T.getD 2 ((0, 0, 0) : Nat × Nat × Nat)) (b := (4, 3, 0)) 9998 rfl)) rfl (leB rfl) (st' (v := (Value.bool true)) (ex_pick_true rfl rfl) rfl (mv' rfl (OkL.step (v := (pP b5 1)) (wt_some' rfl) (ex_fieldAddr rfl Tryz.underlying31 rfl Tryz.sizeOf28 rfl) rfl (leB rfl) (OkL.step (v := (Value.slice r1x.m.b.p f29T.length r1x.m.b.c)) (wt_some' rfl) (ex_load_one (i := 6) (v := (Value.slice r1x.m.b.p f29T.length r1x.m.b.c)) rfl rfl tO28.a rfl) rfl (leB rfl) (OkL.step (v := (pP (pB r1x.m.b.p) (pO r1x.m.b.p + 3 * 3))) (wt_some' rfl) (ex_index_row (j := 3) rfl rfl r1x.m.b.ok Tryz.underlying28 Tryz.sizeOf45 rfl (by decide)) rfl (leB rfl) ?_)))))
 refine OkL.step (v := (aG (t3L (f29T.getD 3 ((0, 0, 0) : Nat × Nat × Nat))))) (wt_some' rfl) (ex_load_rowR_agg (vs := t3L (f29T.getD 3 ((0, 0, 0) : Nat × Nat × Nat))) (i := 8) rfl rfl (RowOk.ne r1x.m.b.ok (by decide)) tA45 (rowsL_get t3L_len _ _ _ (by decide)) (t3L_len _)) rfl (leB rfl) (OkL.step (v := (aG (t3L (4, 2, 3)))) (wt_some' rfl) (ex_build_array (zs := t3L ((0, 0, 0) : Nat × Nat × Nat)) (vs := t3L (4, 2, 3)) (pv := [(0, (vI 4)), (1, (vI 2)), (2, (vI 3))]) Tryz.zeroValue45 Tryz.underlying45 Tryz.sizeOf3 rfl (tfill_numuw_45 4 2 3)) rfl (leB rfl) (OkL.step (v := (Value.bool true)) (wt_some' rfl) (ex_eql_agg (c := true) rfl rfl Tryz.eqGuardType45 (eqB_t3_t (a := f29T.getD 3 ((0, 0, 0) : Nat × Nat × Nat)) (b := (4, 2, 3)) 9998 rfl)) rfl (leB rfl) (st' (v := (Value.bool true)) (ex_pick_true rfl rfl) rfl (mv' rfl (OkL.step (v := (Value.slice r1x.q.p 4 r1x.q.c)) (wt_some' rfl) (ex_move rfl) rfl (leB rfl) ?_)))))
 refine OkL.step (v := (pP (pB r1x.q.p) (pO r1x.q.p + 1 * 1))) (wt_some' rfl) (ex_index_row (j := 1) rfl rfl r1x.q.ok Tryz.underlying34 Tryz.sizeOf3 rfl (by decide)) rfl (leB rfl) (OkL.step (v := (vN (([0, 0, 1, 1]).getD 1 0))) (wt_some' rfl) (ex_load_rowR_one (v := (vN (([0, 0, 1, 1]).getD 1 0))) (i := 10) rfl rfl (r1x.q.ok.ne (by decide)) tO3 (inL_get (l := [0, 0, 1, 1]) (j := 1) (by decide))) rfl (leB rfl) (OkL.step (v := (Value.bool true)) (wt_some' rfl) (ex_eql (c := true) rfl rfl (by decide)) rfl (leB rfl) (st' (v := (Value.bool true)) (ex_pick_true rfl rfl) rfl (mv' rfl (OkL.step (v := (Value.slice r1x.q.p 4 r1x.q.c)) (wt_some' rfl) (ex_move rfl) rfl (leB rfl) ?_)))))
 refine OkL.step (v := (pP (pB r1x.q.p) (pO r1x.q.p + 2 * 1))) (wt_some' rfl) (ex_index_row (j := 2) rfl rfl r1x.q.ok Tryz.underlying34 Tryz.sizeOf3 rfl (by decide)) rfl (leB rfl) (OkL.step (v := (vN (([0, 0, 1, 1]).getD 2 0))) (wt_some' rfl) (ex_load_rowR_one (v := (vN (([0, 0, 1, 1]).getD 2 0))) (i := 10) rfl rfl (r1x.q.ok.ne (by decide)) tO3 (inL_get (l := [0, 0, 1, 1]) (j := 2) (by decide))) rfl (leB rfl) (OkL.step (v := (Value.bool true)) (wt_some' rfl) (ex_eql (c := true) rfl rfl (by decide)) rfl (leB rfl) (st' (v := (Value.bool true)) (ex_pick_true rfl rfl) rfl (asg' rfl (q6 (sL [0, 1, 2, 3, 5, 6, 8] rfl) ?_)))))
 refine rG' [(0, true), (1, true), (2, true), (3, true), (4, true), (5, true), (6, true), (7, true), (8, true), (9, true), (10, true), (11, true), (12, true), (13, true), (14, true), (15, true), (16, true), (17, true), (18, true), (19, true), (20, true), (21, true), (22, true), (23, true), (24, true), (25, true), (26, true), (27, true), (28, true), (29, true), (30, true), (31, true), (32, true), (33, true), (34, true)] sr (pM' rfl (pM' rfl (OkE.pas (v := (pP b7 1)) rfl (wt_some' rfl) (ex_fieldAddr rfl Tryz.underlying31 rfl Tryz.sizeOf28 rfl) rfl rfl (OkE.pas (v := (Value.slice r2x.m.b.p g29T.length r2x.m.b.c)) rfl (wt_some' rfl) (ex_load_one (i := 0) (v := (Value.slice r2x.m.b.p g29T.length r2x.m.b.c)) rfl rfl tO28.a rfl) rfl rfl (OkE.pas (v := (pP (pB r2x.m.b.p) (pO r2x.m.b.p + 0 * 3))) rfl (wt_some' rfl) (ex_index_row (j := 0) rfl rfl r2x.m.b.ok Tryz.underlying28 Tryz.sizeOf45 rfl (by decide)) rfl rfl ?_)))))
 refine OkE.pas (v := (aG (t3L (g29T.getD 0 ((0, 0, 0) : Nat × Nat × Nat))))) rfl (wt_some' rfl) (ex_load_rowR_agg (vs := t3L (g29T.getD 0 ((0, 0, 0) : Nat × Nat × Nat))) (i := 2) rfl rfl (RowOk.ne r2x.m.b.ok (by decide)) tA45 (rowsL_get t3L_len _ _ _ (by decide)) (t3L_len _)) rfl rfl (OkE.pas (v := (aG (t3L (5, 4, 1)))) rfl (wt_some' rfl) (ex_build_array (zs := t3L ((0, 0, 0) : Nat × Nat × Nat)) (vs := t3L (5, 4, 1)) (pv := [(0, (vI 5)), (1, (vI 4)), (2, (vI 1))]) Tryz.zeroValue45 Tryz.underlying45 Tryz.sizeOf3 rfl (tfill_numuw_45 5 4 1)) rfl rfl (OkE.pas (v := (Value.bool true)) rfl (wt_some' rfl) (ex_eql_agg (c := true) rfl rfl Tryz.eqGuardType45 (eqB_t3_t (a := g29T.getD 0 ((0, 0, 0) : Nat × Nat × Nat)) (b := (5, 4, 1)) 9998 rfl)) rfl rfl (pE' (v := (Value.bool true)) rfl (ex_pick_true rfl rfl) (pM' rfl (OkE.pas (v := (pP b7 1)) rfl (wt_some' rfl) (ex_fieldAddr rfl Tryz.underlying31 rfl Tryz.sizeOf28 rfl) rfl rfl ?_)))))
 refine OkE.pas (v := (Value.slice r2x.m.b.p g29T.length r2x.m.b.c)) rfl (wt_some' rfl) (ex_load_one (i := 0) (v := (Value.slice r2x.m.b.p g29T.length r2x.m.b.c)) rfl rfl tO28.a rfl) rfl rfl (OkE.pas (v := (pP (pB r2x.m.b.p) (pO r2x.m.b.p + 1 * 3))) rfl (wt_some' rfl) (ex_index_row (j := 1) rfl rfl r2x.m.b.ok Tryz.underlying28 Tryz.sizeOf45 rfl (by decide)) rfl rfl (OkE.pas (v := (aG (t3L (g29T.getD 1 ((0, 0, 0) : Nat × Nat × Nat))))) rfl (wt_some' rfl) (ex_load_rowR_agg (vs := t3L (g29T.getD 1 ((0, 0, 0) : Nat × Nat × Nat))) (i := 2) rfl rfl (RowOk.ne r2x.m.b.ok (by decide)) tA45 (rowsL_get t3L_len _ _ _ (by decide)) (t3L_len _)) rfl rfl (OkE.pas (v := (aG (t3L (5, 2, 4)))) rfl (wt_some' rfl) (ex_build_array (zs := t3L ((0, 0, 0) : Nat × Nat × Nat)) (vs := t3L (5, 2, 4)) (pv := [(0, (vI 5)), (1, (vI 2)), (2, (vI 4))]) Tryz.zeroValue45 Tryz.underlying45 Tryz.sizeOf3 rfl (tfill_numuw_45 5 2 4)) rfl rfl (OkE.pas (v := (Value.bool true)) rfl (wt_some' rfl) (ex_eql_agg (c := true) rfl rfl Tryz.eqGuardType45 (eqB_t3_t (a := g29T.getD 1 ((0, 0, 0) : Nat × Nat × Nat)) (b := (5, 2, 4)) 9998 rfl)) rfl rfl (pE' (v := (Value.bool true)) rfl (ex_pick_true rfl rfl) ?_)))))
 refine pM' rfl (OkE.pas (v := (pP b7 1)) rfl (wt_some' rfl) (ex_fieldAddr rfl Tryz.underlying31 rfl Tryz.sizeOf28 rfl) rfl rfl (OkE.pas (v := (Value.slice r2x.m.b.p g29T.length r2x.m.b.c)) rfl (wt_some' rfl) (ex_load_one (i := 0) (v := (Value.slice r2x.m.b.p g29T.length r2x.m.b.c)) rfl rfl tO28.a rfl) rfl rfl (OkE.pas (v := (pP (pB r2x.m.b.p) (pO r2x.m.b.p + 2 * 3))) rfl (wt_some' rfl) (ex_index_row (j := 2) rfl rfl r2x.m.b.ok Tryz.underlying28 Tryz.sizeOf45 rfl (by decide)) rfl rfl (OkE.pas (v := (aG (t3L (g29T.getD 2 ((0, 0, 0) : Nat × Nat × Nat))))) rfl (wt_some' rfl) (ex_load_rowR_agg (vs := t3L (g29T.getD 2 ((0, 0, 0) : Nat × Nat × Nat))) (i := 2) rfl rfl (RowOk.ne r2x.m.b.ok (by decide)) tA45 (rowsL_get t3L_len _ _ _ (by decide)) (t3L_len _)) rfl rfl (OkE.pas (v := (pP b5 1)) rfl (wt_some' rfl) (ex_fieldAddr rfl Tryz.underlying31 rfl Tryz.sizeOf28 rfl) rfl rfl ?_)))))
 refine OkE.pas (v := (Value.slice r1x.m.b.p f29T.length r1x.m.b.c)) rfl (wt_some' rfl) (ex_load_one (i := 6) (v := (Value.slice r1x.m.b.p f29T.length r1x.m.b.c)) rfl rfl tO28.a rfl) rfl rfl (OkE.pas (v := (pP (pB r1x.m.b.p) (pO r1x.m.b.p + 1 * 3))) rfl (wt_some' rfl) (ex_index_row (j := 1) rfl rfl r1x.m.b.ok Tryz.underlying28 Tryz.sizeOf45 rfl (by decide)) rfl rfl (OkE.pas (v := (aG (t3L (f29T.getD 1 ((0, 0, 0) : Nat × Nat × Nat))))) rfl (wt_some' rfl) (ex_load_rowR_agg (vs := t3L (f29T.getD 1 ((0, 0, 0) : Nat × Nat × Nat))) (i := 8) rfl rfl (RowOk.ne r1x.m.b.ok (by decide)) tA45 (rowsL_get t3L_len _ _ _ (by decide)) (t3L_len _)) rfl rfl (OkE.pas (v := (Value.bool true)) rfl (wt_some' rfl) (ex_eql_agg (c := true) rfl rfl Tryz.eqGuardType45 (eqB_t3_t (a := g29T.getD 2 ((0, 0, 0) : Nat × Nat × Nat)) (b := f29T.getD 1 ((0, 0, 0) : Nat × Nat × Nat)) 9998 rfl)) rfl rfl (pE' (v := (Value.bool true)) rfl (ex_pick_true rfl rfl) (pM' rfl ?_)))))
 refine OkE.pas (v := (Value.slice r2x.q.p 5 r2x.q.c)) rfl (wt_some' rfl) (ex_move rfl) rfl rfl (OkE.pas (v := (pP (pB r2x.q.p) (pO r2x.q.p + 4 * 1))) rfl (wt_some' rfl) (ex_index_row (j := 4) rfl rfl r2x.q.ok Tryz.underlying34 Tryz.sizeOf3 rfl (by decide)) rfl rfl (OkE.pas (v := (vN (([0, 0, 1, 2, 3]).getD 4 0))) rfl (wt_some' rfl) (ex_load_rowR_one (v := (vN (([0, 0, 1, 2, 3]).getD 4 0))) (i := 4) rfl rfl (r2x.q.ok.ne (by decide)) tO3 (inL_get (l := [0, 0, 1, 2, 3]) (j := 4) (by decide))) rfl rfl (OkE.pas (v := (Value.bool true)) rfl (wt_some' rfl) (ex_eql (c := true) rfl rfl (by decide)) rfl rfl (pE' (v := (Value.bool true)) rfl (ex_pick_true rfl rfl) (pS' rfl ?_)))))
 exact OkE.nil (OkQ.subF (sL [0, 1, 2, 3, 5, 6] rfl) (OkQ.then_ (OkC.ret (ret_one rfl (rd_tmp (v := (Value.bool true)) rfl) (fun w hw => ⟨rfl, hw.out⟩)))))
end
def ltL (p q : Pt) : Prop := p.x < q.x ∨ (p.x = q.x ∧ p.y < q.y)
instance (p q : Pt) : Decidable (ltL p q) := by unfold ltL; infer_instance
def lsP (a b : Pt) : Pt := if ltL b a then b else a
def grP (a b : Pt) : Pt := if ltL a b then b else a
theorem less_1 {p q : Pt} (h : cmpQ p.x q.x ≠ 0) : decide (cmpQ p.x q.x < 0) = decide (ltL p q) := by
  have h2 : ¬ p.x = q.x := fun e => h (cmpQ_eq.2 e)
  refine decide_eq_decide.2 ⟨fun k => .inl (cmpQ_lt.1 k), fun k => ?_⟩
  rcases k with k | k
  · exact cmpQ_lt.2 k
  · exact absurd k.1 h2
theorem less_2 {p q : Pt} (h : cmpQ p.x q.x = 0) : decide (cmpQ p.y q.y < 0) = decide (ltL p q) := by
  have h2 : p.x = q.x := cmpQ_eq.1 h
  refine decide_eq_decide.2 ⟨fun k => .inr ⟨h2, cmpQ_lt.1 k⟩, fun k => ?_⟩
  rcases k with k | k
  · rw [h2] at k; exact absurd k (by grind)
  · exact cmpQ_lt.2 k.2
theorem sgn_eq0 {x : Rat} (h : x.num.sign = 0) : x = 0 := by
  have := Int.sign_eq_zero_iff_zero.1 h
  exact Rat.num_eq_zero.1 this
theorem ls_sz {k : Nat} {a b : Pt} (ha : SzP a ≤ k) (hb : SzP b ≤ k) : SzP (lsP a b) ≤ k := by unfold lsP; split <;> assumption
theorem gr_sz {k : Nat} {a b : Pt} (ha : SzP a ≤ k) (hb : SzP b ≤ k) : SzP (grP a b) ≤ k := by unfold grP; split <;> assumption
theorem ro_blk {w : World} {b T n : Nat} {cs : List Value} (hl : w.heap[b]? = some (.cells cs.toArray T (0, 0))) : Ro (fun _ => True) w (⟨some ⟨b, 0, none⟩, n, rowOk_lit _ _⟩ : RX cs n) := fun y hy => by
  rcases List.mem_singleton.1 hy with rfl
  exact ⟨fun c e => (by injection e with e; subst e; exact ⟨_, hl, lies_blkB (T := T) rfl⟩), fun _ _ => trivial⟩
def m7 (m : MQ) (k : Nat) : List Nat := (m.cs.take k).map (· % 7)
abbrev T2 := P2 × P2 × P2
def lnZ (A B : P2) (X Y : Nat) : Int := ((B.1 : Int) - A.1) * ((Y : Int) - 2 * A.2) - ((B.2 : Int) - A.2) * ((X : Int) - 2 * A.1)
def inZ (t : T2) (X Y : Nat) : Bool := decide (0 ≤ lnZ t.2.1 t.2.2 X Y) && decide (0 ≤ lnZ t.2.2 t.1 X Y) && decide (0 ≤ lnZ t.1 t.2.1 X Y)
def cornB (t : T2) (q : P2) : Bool := t.1 == q || t.2.1 == q || t.2.2 == q
def shpT (u v c : Nat) : List T2 :=
  let x := 2 * u; let y := 2 * v
  if c = 0 then [((x, y), (x + 2, y), (x + 2, y + 2)), ((x, y), (x + 2, y + 2), (x, y + 2))]
  else if c = 1 then [((x, y), (x + 2, y), (x, y + 2)), ((x + 2, y), (x + 2, y + 2), (x, y + 2))]
  else if c = 2 then [((x, y), (x + 2, y), (x + 1, y + 1)), ((x + 2, y), (x + 2, y + 2), (x + 1, y + 1)), ((x + 2, y + 2), (x, y + 2), (x + 1, y + 1)), ((x, y + 2), (x, y), (x + 1, y + 1))] else []
def clsT (way i : Nat) : Nat := if way < 3 ∨ (way = 7 ∧ i = 0) then 0 else if way < 5 then 1 else if way < 7 then 2 else 3
theorem cellT_shp (nx way i : Nat) : cellT nx way i = shpT (i % nx) (i / nx) (clsT way i) := by
  unfold cellT shpT clsT
  simp only
  split
  · rfl
  · split
    · rfl
    · split <;> rfl
theorem clsT_lt (way i : Nat) : clsT way i < 4 := by
  unfold clsT
  split
  · omega
  · split
    · omega
    · split <;> omega
def okPair (s t : T2) : Bool :=
  [s.1, s.2.1, s.2.2].all (fun q => !inZ t (2 * q.1) (2 * q.2) || cornB t q) &&
  [(s.1, s.2.1), (s.2.1, s.2.2), (s.2.2, s.1)].all (fun e => !inZ t (e.1.1 + e.2.1) (e.1.2 + e.2.2) || (cornB t e.1 && cornB t e.2))
def allCells : List (Nat × Nat × Nat) := [0, 1, 2].flatMap fun u => [0, 1, 2].flatMap fun v => [0, 1, 2, 3].map fun c => (u, v, c)
def okAll : Bool := allCells.all fun p => allCells.all fun q => (decide (p.1 = q.1 ∧ p.2.1 = q.2.1 ∧ p.2.2 ≠ q.2.2)) || (shpT p.1 p.2.1 p.2.2).all fun s => (shpT q.1 q.2.1 q.2.2).all fun t => okPair s t
theorem okAll_true : okAll = true := by decide +kernel
theorem mem_allCells {u v c : Nat} (hu : u ≤ 2) (hv : v ≤ 2) (hc : c < 4) : (u, v, c) ∈ allCells := by
  have h1 : u = 0 ∨ u = 1 ∨ u = 2 := by omega
  have h2 : v = 0 ∨ v = 1 ∨ v = 2 := by omega
  have h3 : c = 0 ∨ c = 1 ∨ c = 2 ∨ c = 3 := by omega
  rcases h1 with rfl | rfl | rfl <;> rcases h2 with rfl | rfl | rfl <;> rcases h3 with rfl | rfl | rfl | rfl <;> decide
theorem pair_ok {m : MQ} {s t : T2} (hs : s ∈ cellsM m) (ht : t ∈ cellsM m) : okPair s t = true := by
  obtain ⟨i, hi, h1⟩ := mem_cellsN m _ s hs
  obtain ⟨j, hj, h2⟩ := mem_cellsN m _ t ht
  have hx := nxM_le m
  have hy := nyM_le m
  have b : ∀ k, k < nxM m * nyM m → k % nxM m ≤ 2 ∧ k / nxM m ≤ 2 := fun k hk => by
    have a1 := Nat.mod_lt k (show 0 < nxM m by omega)
    have a2 : k / nxM m < nyM m := Nat.div_lt_of_lt_mul hk
    omega
  rw [cellT_shp] at h1 h2
  have h := List.all_eq_true.1 (List.all_eq_true.1 okAll_true _ (mem_allCells (b i hi).1 (b i hi).2 (clsT_lt (wayM m i) i))) _ (mem_allCells (b j hj).1 (b j hj).2 (clsT_lt (wayM m j) j))
  rw [Bool.or_eq_true, decide_eq_true_eq] at h
  rcases h with ⟨e1, e2, e3⟩ | h
  · exfalso
    have e : i = j := by rw [← Nat.div_add_mod i (nxM m), ← Nat.div_add_mod j (nxM m), show i % nxM m = j % nxM m from e1, show i / nxM m = j / nxM m from e2]
    subst e
    exact e3 rfl
  · exact List.all_eq_true.1 (List.all_eq_true.1 h s h1) t h2
theorem lnQ_half (A B : P2) (X Y : Nat) : lnQ A B ((X : Rat) * (1 / 2)) ((Y : Rat) * (1 / 2)) = ((lnZ A B X Y : Int) : Rat) * (1 / 2) := by
  simp only [lnQ, lnZ, Rat.intCast_sub, Rat.intCast_mul, Rat.intCast_natCast, show ((2 : Int) : Rat) = 2 from rfl]
  grind
theorem inZ_of {t : T2} {X Y : Nat} (h : inC t ((X : Rat) * (1 / 2)) ((Y : Rat) * (1 / 2))) : inZ t X Y = true := by
  obtain ⟨h1, h2, h3⟩ := h
  rw [lnQ_half] at h1 h2 h3
  have c : ∀ z : Int, 0 ≤ (z : Rat) * (1 / 2) → 0 ≤ z := fun z hz => by
    have : (0 : Rat) ≤ (z : Rat) := by grind
    exact_mod_cast this
  simp only [inZ, Bool.and_eq_true, decide_eq_true_eq]
  exact ⟨⟨c _ h1, c _ h2⟩, c _ h3⟩
theorem corn_of {t : T2} {q : P2} (h : cornB t q = true) : ∃ r, r < 3 ∧ comp t r = q := by
  simp only [cornB, Bool.or_eq_true, beq_iff_eq] at h
  rcases h with (h | h) | h
  · exact ⟨0, by omega, h⟩
  · exact ⟨1, by omega, h⟩
  · exact ⟨2, by omega, h⟩
theorem comp_mem (t : T2) {r : Nat} (h : r < 3) : comp t r ∈ [t.1, t.2.1, t.2.2] := by
  have : r = 0 ∨ r = 1 ∨ r = 2 := by omega
  rcases this with rfl | rfl | rfl <;> simp [comp]
theorem conf_corner {m : MQ} {s t : T2} (hs : s ∈ cellsM m) (ht : t ∈ cellsM m) {r : Nat} (hr : r < 3) (h : inC t ((comp s r).1 : Rat) ((comp s r).2 : Rat)) : ∃ k, k < 3 ∧ comp t k = comp s r := by
  have hp := pair_ok hs ht
  unfold okPair at hp
  rw [Bool.and_eq_true] at hp
  have h1 := List.all_eq_true.1 hp.1 _ (comp_mem s hr)
  have h2 : inZ t (2 * (comp s r).1) (2 * (comp s r).2) = true := inZ_of (by
    rw [cast_2, cast_2, show 2 * ((comp s r).1 : Rat) * (1 / 2) = ((comp s r).1 : Rat) by grind, show 2 * ((comp s r).2 : Rat) * (1 / 2) = ((comp s r).2 : Rat) by grind]
    exact h)
  rw [h2] at h1
  exact corn_of (by simpa using h1)
theorem conf_mid {m : MQ} {s t : T2} (hs : s ∈ cellsM m) (ht : t ∈ cellsM m) {r : Nat} (hr : r < 3) (h : inC t ((((comp s r).1 + (comp s ((r + 1) % 3)).1 : Nat) : Rat) * (1 / 2)) ((((comp s r).2 + (comp s ((r + 1) % 3)).2 : Nat) : Rat) * (1 / 2))) :
    (∃ k, k < 3 ∧ comp t k = comp s r) ∧ ∃ k, k < 3 ∧ comp t k = comp s ((r + 1) % 3) := by
  have hp := pair_ok hs ht
  unfold okPair at hp
  rw [Bool.and_eq_true] at hp
  have hm : (comp s r, comp s ((r + 1) % 3)) ∈ [(s.1, s.2.1), (s.2.1, s.2.2), (s.2.2, s.1)] := by
    have : r = 0 ∨ r = 1 ∨ r = 2 := by omega
    rcases this with rfl | rfl | rfl <;> simp [comp]
  have h1 := List.all_eq_true.1 hp.2 _ hm
  rw [inZ_of h] at h1
  have h2 : cornB t (comp s r) = true ∧ cornB t (comp s ((r + 1) % 3)) = true := by simpa using h1
  exact ⟨corn_of h2.1, corn_of h2.2⟩
end Go.Proofs.YtgiacpkjnikjdaaGreat
