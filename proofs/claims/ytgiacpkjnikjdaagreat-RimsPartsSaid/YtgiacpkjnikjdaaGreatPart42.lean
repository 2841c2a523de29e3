import Derived.Test.YtgiacpkjnikjdaaGreatPart33
import Derived.Test.YtgiacpkjnikjdaaGreatPart40
import Derived.Test.YtgiacpkjnikjdaaGreatPart41
namespace Go.Proofs.YtgiacpkjnikjdaaGreat
open Go Go.RowKit
set_option linter.unusedVariables false
set_option linter.unusedSimpArgs false
section
set_option maxRecDepth 100000
theorem Holes_ok {ps : List Pt} {ts ss : List T3} (x : MX ps ts ss) (l : List Int) (n : Nat) (hpt : Pts ts l n) (hnb : numB ps.length ts = true) (hne : 0 < ts.length) (hp : ps.length ≤ 1000000) (htl : ts.length ≤ 1000000) (w : World) {S : Nat → Prop} (hx : Ro S w x) : Calls Tryz.prog 37 #[(aG (mxL x))] w (Gives w (vI (((n : Nat) : Int) - eulZ ts))) := by
 have hel0 := edL_le ts
 have hcl0 := cnrN_len (ts := ts) (3 * ts.length)
 have hez : eulZ ts = ((cnrN ts (3 * ts.length)).length : Int) - (edL ts).length + ts.length := rfl
 have hnle := hpt.nle
 have lx := atA (W := w) hx
 refine calls_ofR (args := [(aG (mxL x))]) (L := [rowR x.a.p (rowsL ptL ps), rowR x.b.p (rowsL t3L ts), rowR x.c.p (rowsL t3L ss)]) Tryz.func37 rfl rfl (leB rfl) (sxA hx roL_nil) (OkC.subF (sL [0] rfl) (q4 (bx' (cs := mxL x) rfl fun b1 => asg' rfl (q3 (sL [1, 2] rfl) ?_))))
 refine ldW' 0 tA31 rfl (OkL.callR (S := S) (α := PaX ts) (args := [(aG (mxL x))]) Tryz.call20 (fun w hw => Parts_ok x hnb hne hp htl w (inS hw 1 rfl lx)) rfl rfl rfl fun pa lpa => mv' rfl (st' (ex_extract (v := (Value.slice pa.r.p pa.l.length pa.r.c)) rfl rfl) rfl (st' (ex_extract (v := (vN pa.n)) rfl rfl) rfl (OkL.retell (k := 9) (u := (vN n)) rfl (by rw [pts_n hpt pa.pts]) ?_))))
 refine asg' rfl (asg' rfl (q3 (sL [1, 2, 4] rfl) (mv' rfl (ldW' 1 tA31 rfl (cl' Tryz.call21 (fun w hw => Euler_ok x hnb hp htl w (inS hw 2 rfl lx)) rfl ?_)))))
 exact st' (ex_sub (c := (((n : Nat) : Int) - eulZ ts)) rfl rfl (wrap_i64 (by omega) (by omega))) rfl (asg' rfl (OkL.nil (OkQ.subF (sL [1, 2] rfl) (OkQ.then_ (OkC.ret (ret_one rfl (rd_tmp (v := (vI (((n : Nat) : Int) - eulZ ts))) rfl) (fun w hw => ⟨rfl, hw.out⟩)))))))
theorem lz6_pt_0_0 (w : World) : Calls Tryz.prog 47 #[(vI 0), (vI 0)] w (Gives w (aG (ptL (⟨0, 0⟩ : Pt)))) := by
 have h := pInt_ok (0) (0) (by decide) (by decide) (by decide) (by decide) w
 rw [show (⟨(((0) : Int) : Rat), (((0) : Int) : Rat)⟩ : Pt) = (⟨0, 0⟩ : Pt) from by decide +kernel] at h
 exact h
theorem lz6_pt_1_0 (w : World) : Calls Tryz.prog 47 #[(vI 1), (vI 0)] w (Gives w (aG (ptL (⟨1, 0⟩ : Pt)))) := by
 have h := pInt_ok (1) (0) (by decide) (by decide) (by decide) (by decide) w
 rw [show (⟨(((1) : Int) : Rat), (((0) : Int) : Rat)⟩ : Pt) = (⟨1, 0⟩ : Pt) from by decide +kernel] at h
 exact h
theorem lz6_pt_1_1 (w : World) : Calls Tryz.prog 47 #[(vI 1), (vI 1)] w (Gives w (aG (ptL (⟨1, 1⟩ : Pt)))) := by
 have h := pInt_ok (1) (1) (by decide) (by decide) (by decide) (by decide) w
 rw [show (⟨(((1) : Int) : Rat), (((1) : Int) : Rat)⟩ : Pt) = (⟨1, 1⟩ : Pt) from by decide +kernel] at h
 exact h
theorem lz6_pt_0_1 (w : World) : Calls Tryz.prog 47 #[(vI 0), (vI 1)] w (Gives w (aG (ptL (⟨0, 1⟩ : Pt)))) := by
 have h := pInt_ok (0) (1) (by decide) (by decide) (by decide) (by decide) w
 rw [show (⟨(((0) : Int) : Rat), (((1) : Int) : Rat)⟩ : Pt) = (⟨0, 1⟩ : Pt) from by decide +kernel] at h
 exact h
theorem lz6_pt_m1_0 (w : World) : Calls Tryz.prog 47 #[(vI (-1 : Int)), (vI 0)] w (Gives w (aG (ptL (⟨-1, 0⟩ : Pt)))) := by
 have h := pInt_ok (-1) (0) (by decide) (by decide) (by decide) (by decide) w
 rw [show (⟨(((-1) : Int) : Rat), (((0) : Int) : Rat)⟩ : Pt) = (⟨-1, 0⟩ : Pt) from by decide +kernel] at h
 exact h
theorem lz6_pt_0_m1 (w : World) : Calls Tryz.prog 47 #[(vI 0), (vI (-1 : Int))] w (Gives w (aG (ptL (⟨0, -1⟩ : Pt)))) := by
 have h := pInt_ok (0) (-1) (by decide) (by decide) (by decide) (by decide) w
 rw [show (⟨(((0) : Int) : Rat), (((-1) : Int) : Rat)⟩ : Pt) = (⟨0, -1⟩ : Pt) from by decide +kernel] at h
 exact h
def l26P : List Pt := [⟨0, 0⟩, ⟨1, 0⟩, ⟨1, 1⟩, ⟨0, 1⟩]
def l26T : List T3 := [(0, 1, 2), (0, 2, 3)]
def k26P : List Pt := [⟨0, 0⟩, ⟨1, 0⟩, ⟨0, 1⟩, ⟨-1, 0⟩, ⟨0, -1⟩]
def k26T : List T3 := [(0, 1, 2), (0, 3, 4)]
def w26L : List T3 := [(0, 1, 0), (3, 0, 1), (1, 2, 0), (2, 3, 1)]
theorem ways26 (x : MX l26P l26T []) (w : World) {S : Nat → Prop} (hx : Ro S w x) : Calls Tryz.prog 29 #[aG (mxL x)] w (GivesR (RX (rowsL t3L w26L) w26L.length) S w) := by
 have h := Ways_ok x (by decide +kernel) (by decide) (by decide) w hx
 rw [show wayL l26T = w26L from by decide +kernel] at h
 exact h
theorem loops26 (x : MX l26P l26T []) (w : World) {S : Nat → Prop} (hx : Ro S w x) : Calls Tryz.prog 30 #[aG (mxL x)] w (GivesR (L1X [0, 1, 2, 3]) S w) :=
 (Loops_ok x (by decide +kernel) (by decide +kernel) (by decide) (by decide) w hx).mono fun e w' h => giveL1 (show lopL l26T = [[0, 1, 2, 3]] from by decide +kernel) h
theorem loops26k (x : MX k26P k26T []) (w : World) {S : Nat → Prop} (hx : Ro S w x) : Calls Tryz.prog 30 #[aG (mxL x)] w (GivesR (LnX 2) S w) :=
 (Loops_ok x (by decide +kernel) (by decide +kernel) (by decide) (by decide) w hx).mono fun e w' h => giveLn (show (lopL k26T).length = 2 from by decide +kernel) h
theorem cnx26 : ∀ s, s < l26T.length → Cnx l26T 0 s := fun s hs => by
 have e : s = 0 ∨ s = 1 := by have : l26T.length = 2 := rfl; omega
 rcases e with rfl | rfl
 ·exact .refl
 ·exact .step .refl (by decide) ⟨0, 0, by decide, by decide, rfl⟩
theorem cnx26k : ∀ s, s < k26T.length → Cnx k26T 0 s := fun s hs => by
 have e : s = 0 ∨ s = 1 := by have : k26T.length = 2 := rfl; omega
 rcases e with rfl | rfl
 ·exact .refl
 ·exact .step .refl (by decide) ⟨0, 0, by decide, by decide, rfl⟩
theorem tfs_numvb_83_4 (x0 x1 x2 x3 : Pt) : Instr.fill (fun i => some (i * 10, 10)) ((Array.range (4 * 10)).map ((Value.agg (ptL (⟨0, 0⟩ : Pt)).toArray).cells[· % (Value.agg (ptL (⟨0, 0⟩ : Pt)).toArray).cells.size]!)) [(0, .agg (ptL x0).toArray), (1, .agg (ptL x1).toArray), (2, .agg (ptL x2).toArray), (3, .agg (ptL x3).toArray)] = some (ptL x0 ++ ptL x1 ++ ptL x2 ++ ptL x3).toArray := by kernel_rfl
theorem tfill_numvb_45 (x0 x1 x2 : Nat) : Instr.fill (fun i => some (i * 1, 1)) (t3L ((0, 0, 0) : Nat × Nat × Nat)).toArray [(0, vN x0), (1, vN x1), (2, vN x2)] = some (t3L (x0, x1, x2)).toArray := by kernel_rfl
theorem tfs_numvb_45_2 (x0 x1 : Nat × Nat × Nat) : Instr.fill (fun i => some (i * 3, 3)) ((Array.range (2 * 3)).map ((Value.agg (t3L ((0, 0, 0) : Nat × Nat × Nat)).toArray).cells[· % (Value.agg (t3L ((0, 0, 0) : Nat × Nat × Nat)).toArray).cells.size]!)) [(0, .agg (t3L x0).toArray), (1, .agg (t3L x1).toArray)] = some (t3L x0 ++ t3L x1).toArray := by kernel_rfl
theorem tfs_numvb_83_5 (x0 x1 x2 x3 x4 : Pt) : Instr.fill (fun i => some (i * 10, 10)) ((Array.range (5 * 10)).map ((Value.agg (ptL (⟨0, 0⟩ : Pt)).toArray).cells[· % (Value.agg (ptL (⟨0, 0⟩ : Pt)).toArray).cells.size]!)) [(0, .agg (ptL x0).toArray), (1, .agg (ptL x1).toArray), (2, .agg (ptL x2).toArray), (3, .agg (ptL x3).toArray), (4, .agg (ptL x4).toArray)] = some (ptL x0 ++ ptL x1 ++ ptL x2 ++ ptL x3 ++ ptL x4).toArray := by kernel_rfl
set_option maxHeartbeats 1000000 in
theorem lives26_ok  (w : World)  : Calls Tryz.prog 22 #[] w (Gives w (Value.bool true)) := by
 refine calls_of (args := []) Tryz.func22 rfl rfl (leB rfl) (OkC.subF sN (q4 (asg' rfl (OkL.nil (q2 ?_)))))
 refine ck' Tryz.call47 (lz6_pt_0_0) rfl (ck' Tryz.call47 (lz6_pt_1_0) rfl (ck' Tryz.call47 (lz6_pt_1_1) rfl (ck' Tryz.call47 (lz6_pt_0_1) rfl (OkL.openV (V := fun b1 => (Value.slice (some ⟨b1, 0, none⟩) 4 4)) (T := 83) (cs := ptL (⟨0, 0⟩ : Pt) ++ ptL (⟨1, 0⟩ : Pt) ++ ptL (⟨1, 1⟩ : Pt) ++ ptL (⟨0, 1⟩ : Pt)) (wt_none rfl) (op_buildSlice (z := .agg (ptL (⟨0, 0⟩ : Pt)).toArray) (cs := ptL (⟨0, 0⟩ : Pt) ++ ptL (⟨1, 0⟩ : Pt) ++ ptL (⟨1, 1⟩ : Pt) ++ ptL (⟨0, 1⟩ : Pt)) (pv := [(0, (aG (ptL (⟨0, 0⟩ : Pt)))), (1, (aG (ptL (⟨1, 0⟩ : Pt)))), (2, (aG (ptL (⟨1, 1⟩ : Pt)))), (3, (aG (ptL (⟨0, 1⟩ : Pt))))]) Tryz.underlying27 Tryz.sizeOf83 Tryz.zeroValue83 (by decide) (by decide) rfl (tfs_numvb_83_4 (⟨0, 0⟩ : Pt) (⟨1, 0⟩ : Pt) (⟨1, 1⟩ : Pt) (⟨0, 1⟩ : Pt))) rfl (leB rfl) fun b1 => st' (v := (aG (t3L (0, 1, 2)))) (ex_build_array (zs := t3L ((0, 0, 0) : Nat × Nat × Nat)) (vs := t3L (0, 1, 2)) (pv := [(0, (vI 0)), (1, (vI 1)), (2, (vI 2))]) Tryz.zeroValue45 Tryz.underlying45 Tryz.sizeOf3 rfl (tfill_numvb_45 0 1 2)) rfl ?_))))
 refine st' (v := (aG (t3L (0, 2, 3)))) (ex_build_array (zs := t3L ((0, 0, 0) : Nat × Nat × Nat)) (vs := t3L (0, 2, 3)) (pv := [(0, (vI 0)), (1, (vI 2)), (2, (vI 3))]) Tryz.zeroValue45 Tryz.underlying45 Tryz.sizeOf3 rfl (tfill_numvb_45 0 2 3)) rfl (OkL.openV (V := fun b2 => (Value.slice (some ⟨b2, 0, none⟩) 2 2)) (T := 45) (cs := t3L (0, 1, 2) ++ t3L (0, 2, 3)) (wt_none rfl) (op_buildSlice (z := .agg (t3L ((0, 0, 0) : Nat × Nat × Nat)).toArray) (cs := t3L (0, 1, 2) ++ t3L (0, 2, 3)) (pv := [(0, (aG (t3L (0, 1, 2)))), (1, (aG (t3L (0, 2, 3))))]) Tryz.underlying28 Tryz.sizeOf45 Tryz.zeroValue45 (by decide) (by decide) rfl (tfs_numvb_45_2 (0, 1, 2) (0, 2, 3))) rfl (leB rfl) fun b2 => st' (v := (aG ([(Value.slice (some ⟨b1, 0, none⟩) 4 4), (Value.slice (some ⟨b2, 0, none⟩) 2 2), (Value.slice none 0 0)]))) (ex_build_struct (zs := [(Value.slice none 0 0), (Value.slice none 0 0), (Value.slice none 0 0)]) (vs := [(Value.slice (some ⟨b1, 0, none⟩) 4 4), (Value.slice (some ⟨b2, 0, none⟩) 2 2), (Value.slice none 0 0)]) (pv := [(0, (Value.slice (some ⟨b1, 0, none⟩) 4 4)), (1, (Value.slice (some ⟨b2, 0, none⟩) 2 2))]) (places := [(0, 1), (1, 1), (2, 1)]) Tryz.zeroValue31 Tryz.underlying31 (fun w => by simp [Tryz.sizeOf27, Tryz.sizeOf28, Tryz.sizeOf29]) rfl rfl) rfl (al tZ31 rfl fun b3 => stW0' rfl Tryz.sizeOf31 rfl (OkL.litM2 (S := fun _ => False) (ps := l26P) (ts := l26T) (fun mm => [rowR mm.c.p (rowsL t3L ([] : List T3)), blk b3 31 (mxL mm), rowR mm.b.p (rowsL t3L l26T), rowR mm.a.p (rowsL ptL l26P)]) 2 1 (by decide) rfl rfl rfl rfl rfl fun mm hmm => ?_)))
 refine q3 (sL [0, 1] rfl) (ldW' 1 tA31 rfl (OkL.callR (S := fun _ => False) (α := RX (rowsL t3L w26L) w26L.length) (args := [(aG (mxL mm))]) Tryz.call29 (fun w hw => ways26 mm w (inX hw [3, 2, 0] rfl hmm)) rfl rfl rfl fun wy lwy => asg' rfl (q3 (sL [0, 1, 2] rfl) (ldW' 2 tA31 rfl ?_))))
 refine OkL.callR (S := fun _ => False) (α := L1X [0, 1, 2, 3]) (args := [(aG (mxL mm))]) Tryz.call30 (fun w hw => loops26 mm w (inX hw [4, 3, 1] rfl hmm)) rfl rfl rfl fun lo llo => asg' rfl (q3 (sL [0, 1, 2, 3] rfl) (ck' Tryz.call47 (lz6_pt_0_0) rfl (ck' Tryz.call47 (lz6_pt_1_0) rfl (ck' Tryz.call47 (lz6_pt_0_1) rfl ?_))))
 refine ck' Tryz.call47 (lz6_pt_m1_0) rfl (ck' Tryz.call47 (lz6_pt_0_m1) rfl (OkL.openV (V := fun b4 => (Value.slice (some ⟨b4, 0, none⟩) 5 5)) (T := 83) (cs := ptL (⟨0, 0⟩ : Pt) ++ ptL (⟨1, 0⟩ : Pt) ++ ptL (⟨0, 1⟩ : Pt) ++ ptL (⟨-1, 0⟩ : Pt) ++ ptL (⟨0, -1⟩ : Pt)) (wt_none rfl) (op_buildSlice (z := .agg (ptL (⟨0, 0⟩ : Pt)).toArray) (cs := ptL (⟨0, 0⟩ : Pt) ++ ptL (⟨1, 0⟩ : Pt) ++ ptL (⟨0, 1⟩ : Pt) ++ ptL (⟨-1, 0⟩ : Pt) ++ ptL (⟨0, -1⟩ : Pt)) (pv := [(0, (aG (ptL (⟨0, 0⟩ : Pt)))), (1, (aG (ptL (⟨1, 0⟩ : Pt)))), (2, (aG (ptL (⟨0, 1⟩ : Pt)))), (3, (aG (ptL (⟨-1, 0⟩ : Pt)))), (4, (aG (ptL (⟨0, -1⟩ : Pt))))]) Tryz.underlying27 Tryz.sizeOf83 Tryz.zeroValue83 (by decide) (by decide) rfl (tfs_numvb_83_5 (⟨0, 0⟩ : Pt) (⟨1, 0⟩ : Pt) (⟨0, 1⟩ : Pt) (⟨-1, 0⟩ : Pt) (⟨0, -1⟩ : Pt))) rfl (leB rfl) fun b4 => st' (v := (aG (t3L (0, 1, 2)))) (ex_build_array (zs := t3L ((0, 0, 0) : Nat × Nat × Nat)) (vs := t3L (0, 1, 2)) (pv := [(0, (vI 0)), (1, (vI 1)), (2, (vI 2))]) Tryz.zeroValue45 Tryz.underlying45 Tryz.sizeOf3 rfl (tfill_numvb_45 0 1 2)) rfl (st' (v := (aG (t3L (0, 3, 4)))) (ex_build_array (zs := t3L ((0, 0, 0) : Nat × Nat × Nat)) (vs := t3L (0, 3, 4)) (pv := [(0, (vI 0)), (1, (vI 3)), (2, (vI 4))]) Tryz.zeroValue45 Tryz.underlying45 Tryz.sizeOf3 rfl (tfill_numvb_45 0 3 4)) rfl (OkL.openV (V := fun b5 => (Value.slice (some ⟨b5, 0, none⟩) 2 2)) (T := 45) (cs := t3L (0, 1, 2) ++ t3L (0, 3, 4)) (wt_none rfl) (op_buildSlice (z := .agg (t3L ((0, 0, 0) : Nat × Nat × Nat)).toArray) (cs := t3L (0, 1, 2) ++ t3L (0, 3, 4)) (pv := [(0, (aG (t3L (0, 1, 2)))), (1, (aG (t3L (0, 3, 4))))]) Tryz.underlying28 Tryz.sizeOf45 Tryz.zeroValue45 (by decide) (by decide) rfl (tfs_numvb_45_2 (0, 1, 2) (0, 3, 4))) rfl (leB rfl) fun b5 => ?_))))
 refine st' (v := (aG ([(Value.slice (some ⟨b4, 0, none⟩) 5 5), (Value.slice (some ⟨b5, 0, none⟩) 2 2), (Value.slice none 0 0)]))) (ex_build_struct (zs := [(Value.slice none 0 0), (Value.slice none 0 0), (Value.slice none 0 0)]) (vs := [(Value.slice (some ⟨b4, 0, none⟩) 5 5), (Value.slice (some ⟨b5, 0, none⟩) 2 2), (Value.slice none 0 0)]) (pv := [(0, (Value.slice (some ⟨b4, 0, none⟩) 5 5)), (1, (Value.slice (some ⟨b5, 0, none⟩) 2 2))]) (places := [(0, 1), (1, 1), (2, 1)]) Tryz.zeroValue31 Tryz.underlying31 (fun w => by simp [Tryz.sizeOf27, Tryz.sizeOf28, Tryz.sizeOf29]) rfl rfl) rfl (al tZ31 rfl fun b6 => stW0' rfl Tryz.sizeOf31 rfl (OkL.litM2 (S := fun _ => False) (ps := k26P) (ts := k26T) (fun m2 => [rowR m2.c.p (rowsL t3L ([] : List T3)), blk b6 31 (mxL m2), rowR m2.b.p (rowsL t3L k26T), rowR m2.a.p (rowsL ptL k26P), rowR lo.q.p ([Value.slice lo.r.p 4 lo.r.c]), rowR lo.r.p (inL ([0, 1, 2, 3])), rowR wy.p (rowsL t3L w26L), rowR mm.c.p (rowsL t3L ([] : List T3)), blk b3 31 (mxL mm), rowR mm.b.p (rowsL t3L l26T), rowR mm.a.p (rowsL ptL l26P)]) 2 1 (by decide) rfl rfl rfl rfl rfl fun m2 hm2 => q3 (sL [0, 1, 2, 3, 4] rfl) (ldW' 1 tA31 rfl ?_)))
 refine OkL.callR (S := fun _ => False) (α := PaX k26T) (args := [(aG (mxL m2))]) Tryz.call20 (fun w hw => Parts_ok m2 (by decide +kernel) (by decide) (by decide) (by decide) w (inX hw [3, 2, 0] rfl hm2)) rfl rfl rfl fun pk lpk => mv' rfl (st' (ex_extract (v := (Value.slice pk.r.p pk.l.length pk.r.c)) rfl rfl) rfl ?_)
 have hpk : pk.n = 1 := pts_one pk.pts (by decide) cnx26k
 refine st' (ex_extract (v := (vN pk.n)) rfl rfl) rfl (asg' rfl (asg' rfl (q3 (sL [0, 1, 2, 3, 4, 6] rfl) (ldW' 9 tA31 rfl (OkL.callR (S := fun _ => False) (α := PaX l26T) (args := [(aG (mxL mm))]) Tryz.call20 (fun w hw => Parts_ok mm (by decide +kernel) (by decide) (by decide) (by decide) w (inX hw [11, 10, 8] rfl hmm)) rfl rfl rfl fun pb lpb => ?_)))))
 refine mv' rfl (st' (ex_extract (v := (Value.slice pb.r.p pb.l.length pb.r.c)) rfl rfl) rfl ?_)
 have hpb : pb.n = 1 := pts_one pb.pts (by decide) cnx26
 refine st' (ex_extract (v := (vN pb.n)) rfl rfl) rfl (asg' rfl (asg' rfl (q3 (sL [0, 1, 2, 3, 4, 6, 8] rfl) (mv' rfl (st' (v := (vI 4)) (ex_len_slice rfl Tryz.underlying63) rfl ?_)))))
 refine st' (ex_eql (c := true) rfl rfl (by decide)) rfl (mv' rfl (OkL.step (v := (Value.slice wy.p 4 wy.c)) (wt_some' rfl) (ex_move rfl) rfl (leB rfl) (OkL.step (v := (pP (pB wy.p) (pO wy.p + 0 * 3))) (wt_some' rfl) (ex_index_row (j := 0) rfl rfl wy.ok Tryz.underlying63 Tryz.sizeOf68 rfl (by decide)) rfl (leB rfl) (OkL.step (v := (aG (t3L (w26L.getD 0 ((0, 0, 0) : Nat × Nat × Nat))))) (wt_some' rfl) (ex_load_rowR_agg (vs := t3L (w26L.getD 0 ((0, 0, 0) : Nat × Nat × Nat))) (i := 8) rfl rfl (RowOk.ne wy.ok (by decide)) tA68 (rowsL_get t3L_len _ _ _ (by decide)) (t3L_len _)) rfl (leB rfl) (OkL.step (v := (aG ([(vI 0), (vI 1), (vI 0)]))) (wt_some' rfl) (ex_build_struct (zs := t3L ((0, 0, 0) : Nat × Nat × Nat)) (vs := [(vI 0), (vI 1), (vI 0)]) (pv := [(0, (vI 0)), (1, (vI 1)), (2, (vI 0))]) (places := [(0, 1), (1, 1), (2, 1)]) Tryz.zeroValue68 Tryz.underlying68 (fun w => by simp [Tryz.sizeOf3]) rfl rfl) rfl (leB rfl) ?_)))))
 refine OkL.step (v := (Value.bool true)) (wt_some' rfl) (ex_eql_agg (c := true) rfl rfl Tryz.eqGuardType68 (eqB_way_t (a := w26L.getD 0 ((0, 0, 0) : Nat × Nat × Nat)) (b := ((0, 1, 0) : T3)) 9998 rfl)) rfl (leB rfl) (st' (v := (Value.bool true)) (ex_pick_true rfl rfl) rfl (mv' rfl (OkL.step (v := (Value.slice wy.p 4 wy.c)) (wt_some' rfl) (ex_move rfl) rfl (leB rfl) (OkL.step (v := (pP (pB wy.p) (pO wy.p + 1 * 3))) (wt_some' rfl) (ex_index_row (j := 1) rfl rfl wy.ok Tryz.underlying63 Tryz.sizeOf68 rfl (by decide)) rfl (leB rfl) (OkL.step (v := (aG (t3L (w26L.getD 1 ((0, 0, 0) : Nat × Nat × Nat))))) (wt_some' rfl) (ex_load_rowR_agg (vs := t3L (w26L.getD 1 ((0, 0, 0) : Nat × Nat × Nat))) (i := 8) rfl rfl (RowOk.ne wy.ok (by decide)) tA68 (rowsL_get t3L_len _ _ _ (by decide)) (t3L_len _)) rfl (leB rfl) ?_)))))
 refine OkL.step (v := (aG ([(vI 3), (vI 0), (vI 1)]))) (wt_some' rfl) (ex_build_struct (zs := t3L ((0, 0, 0) : Nat × Nat × Nat)) (vs := [(vI 3), (vI 0), (vI 1)]) (pv := [(0, (vI 3)), (1, (vI 0)), (2, (vI 1))]) (places := [(0, 1), (1, 1), (2, 1)]) Tryz.zeroValue68 Tryz.underlying68 (fun w => by simp [Tryz.sizeOf3]) rfl rfl) rfl (leB rfl) (OkL.step (v := (Value.bool true)) (wt_some' rfl) (ex_eql_agg (c := true) rfl rfl Tryz.eqGuardType68 (eqB_way_t (a := w26L.getD 1 ((0, 0, 0) : Nat × Nat × Nat)) (b := ((3, 0, 1) : T3)) 9998 rfl)) rfl (leB rfl) (st' (v := (Value.bool true)) (ex_pick_true rfl rfl) rfl (mv' rfl (OkL.step (v := (Value.slice lo.q.p 1 lo.q.c)) (wt_some' rfl) (ex_move rfl) rfl (leB rfl) (OkL.step (v := (vI 1)) (wt_some' rfl) (ex_len_slice rfl Tryz.underlying69) rfl (leB rfl) ?_)))))
 refine OkL.step (v := (Value.bool true)) (wt_some' rfl) (ex_eql (c := true) rfl rfl (by decide)) rfl (leB rfl) (st' (v := (Value.bool true)) (ex_pick_true rfl rfl) rfl (mv' rfl (OkL.step (v := (Value.slice lo.q.p 1 lo.q.c)) (wt_some' rfl) (ex_move rfl) rfl (leB rfl) (OkL.step (v := (pP (pB lo.q.p) (pO lo.q.p + 0 * 1))) (wt_some' rfl) (ex_index_row (j := 0) rfl rfl lo.q.ok Tryz.underlying69 Tryz.sizeOf34 rfl (by decide)) rfl (leB rfl) (OkL.step (v := (Value.slice lo.r.p 4 lo.r.c)) (wt_some' rfl) (ex_load_rowR_one (v := (Value.slice lo.r.p 4 lo.r.c)) (i := 6) rfl rfl (lo.q.ok.ne (by decide)) tO34 rfl) rfl (leB rfl) ?_)))))
 refine OkL.step (v := (vI 4)) (wt_some' rfl) (ex_len_slice rfl Tryz.underlying34) rfl (leB rfl) (OkL.step (v := (Value.bool true)) (wt_some' rfl) (ex_eql (c := true) rfl rfl (by decide)) rfl (leB rfl) (st' (v := (Value.bool true)) (ex_pick_true rfl rfl) rfl (mv' rfl (OkL.step (v := (Value.slice lo.q.p 1 lo.q.c)) (wt_some' rfl) (ex_move rfl) rfl (leB rfl) (OkL.step (v := (pP (pB lo.q.p) (pO lo.q.p + 0 * 1))) (wt_some' rfl) (ex_index_row (j := 0) rfl rfl lo.q.ok Tryz.underlying69 Tryz.sizeOf34 rfl (by decide)) rfl (leB rfl) ?_)))))
 refine OkL.step (v := (Value.slice lo.r.p 4 lo.r.c)) (wt_some' rfl) (ex_load_rowR_one (v := (Value.slice lo.r.p 4 lo.r.c)) (i := 6) rfl rfl (lo.q.ok.ne (by decide)) tO34 rfl) rfl (leB rfl) (OkL.step (v := (pP (pB lo.r.p) (pO lo.r.p + 1 * 1))) (wt_some' rfl) (ex_index_row (j := 1) rfl rfl lo.r.ok Tryz.underlying34 Tryz.sizeOf3 rfl (by decide)) rfl (leB rfl) (OkL.step (v := (vN (([0, 1, 2, 3]).getD 1 0))) (wt_some' rfl) (ex_load_rowR_one (v := (vN (([0, 1, 2, 3]).getD 1 0))) (i := 7) rfl rfl (lo.r.ok.ne (by decide)) tO3 (inL_get (l := [0, 1, 2, 3]) (j := 1) (by decide))) rfl (leB rfl) (OkL.step (v := (Value.bool true)) (wt_some' rfl) (ex_eql (c := true) rfl rfl (by decide)) rfl (leB rfl) (st' (v := (Value.bool true)) (ex_pick_true rfl rfl) rfl (mv' rfl ?_)))))
 refine OkL.step (v := (aG (mxL mm))) (wt_some' rfl) (ex_load_agg (i := 10) (vs := mxL mm) rfl rfl tA31.a tA31.s rfl rfl) rfl (leB rfl) (OkL.call (v := (vI 1)) (wt_some' rfl) (op_call0 (args := [(aG (mxL mm))]) rfl rfl Tryz.call21) (fun w hw => (by have h9 := Euler_ok mm (by decide +kernel) (by decide) (by decide) w (inX hw [12, 11, 9] rfl hmm); rw [show eulZ l26T = 1 from by decide +kernel] at h9; exact h9)) rfl (leB rfl) (OkL.step (v := (Value.bool true)) (wt_some' rfl) (ex_eql (c := true) rfl rfl (by decide)) rfl (leB rfl) (st' (v := (Value.bool true)) (ex_pick_true rfl rfl) rfl (mv' rfl (OkL.step (v := (aG (mxL mm))) (wt_some' rfl) (ex_load_agg (i := 10) (vs := mxL mm) rfl rfl tA31.a tA31.s rfl rfl) rfl (leB rfl) ?_)))))
 refine OkL.call (v := (vI 0)) (wt_some' rfl) (op_call0 (args := [(aG (mxL mm))]) rfl rfl Tryz.call37) (fun w hw => (by have h9 := Holes_ok mm pb.l pb.n pb.pts (by decide +kernel) (by decide) (by decide) (by decide) w (inX hw [12, 11, 9] rfl hmm); rw [hpb, show (((1 : Nat) : Int) - eulZ l26T) = 0 from by decide +kernel] at h9; exact h9)) rfl (leB rfl) (OkL.step (v := (Value.bool true)) (wt_some' rfl) (ex_eql (c := true) rfl rfl (by decide)) rfl (leB rfl) (st' (v := (Value.bool true)) (ex_pick_true rfl rfl) rfl (mv' rfl (OkL.step (v := (vN pb.n)) (wt_some' rfl) (ex_move rfl) rfl (leB rfl) (OkL.step (v := (Value.bool true)) (wt_some' rfl) (ex_eql (c := true) rfl rfl (decide_eq_true (by omega))) rfl (leB rfl) ?_)))))
 refine st' (v := (Value.bool true)) (ex_pick_true rfl rfl) rfl (mv' rfl (OkL.step (v := (vN pk.n)) (wt_some' rfl) (ex_move rfl) rfl (leB rfl) (OkL.step (v := (Value.bool true)) (wt_some' rfl) (ex_eql (c := true) rfl rfl (decide_eq_true (by omega))) rfl (leB rfl) (st' (v := (Value.bool true)) (ex_pick_true rfl rfl) rfl (mv' rfl ?_)))))
 refine OkL.step (v := (aG (mxL m2))) (wt_some' rfl) (ex_load_agg (i := 3) (vs := mxL m2) rfl rfl tA31.a tA31.s rfl rfl) rfl (leB rfl) (OkL.unguard (wt_some' rfl) (OkL.callR (S := fun _ => False) (α := LnX 2) (args := [(aG (mxL m2))]) Tryz.call30 (fun w hw => loops26k m2 w (inX hw [5, 4, 2] rfl hm2)) rfl rfl rfl fun lk llk => OkL.step (v := (vI 2)) (wt_some' rfl) (ex_len_slice rfl Tryz.underlying69) rfl (leB rfl) (OkL.step (v := (Value.bool true)) (wt_some' rfl) (ex_eql (c := true) rfl rfl (by decide)) rfl (leB rfl) (st' (v := (Value.bool true)) (ex_pick_true rfl rfl) rfl ?_))))
 exact asg' rfl (OkL.nil (OkQ.subF (sL [0, 1, 4] rfl) (OkQ.then_ (OkC.ret (ret_one rfl (rd_tmp (v := (Value.bool true)) rfl) (fun w hw => ⟨rfl, hw.out⟩))))))
end
section
def sumN (g : Nat → Nat) : Nat → Nat
  | 0 => 0
  | k + 1 => sumN g k + g k
theorem sumN_zero {g : Nat → Nat} : ∀ n, (∀ k, k < n → g k = 0) → sumN g n = 0
  | 0, _ => rfl
  | n + 1, h => by rw [sumN, sumN_zero n fun k hk => h k (by omega), h n (by omega)]
theorem sumN_add (g h : Nat → Nat) : ∀ n, sumN (fun k => g k + h k) n = sumN g n + sumN h n
  | 0 => rfl
  | n + 1 => by rw [sumN, sumN, sumN, sumN_add g h n]; omega
theorem sumN_congr {g h : Nat → Nat} : ∀ n, (∀ k, k < n → g k = h k) → sumN g n = sumN h n
  | 0, _ => rfl
  | n + 1, e => by rw [sumN, sumN, sumN_congr n fun k hk => e k (by omega), e n (by omega)]
theorem sumN_one {g : Nat → Nat} {k : Nat} : ∀ n, k < n → g k = 1 → (∀ j, j < n → j ≠ k → g j = 0) → sumN g n = 1
  | 0, h, _, _ => absurd h (Nat.not_lt_zero _)
  | n + 1, h, h1, h2 => by
    rw [sumN]
    rcases Nat.lt_or_ge k n with h3 | h3
    · rw [sumN_one n h3 h1 fun j hj hne => h2 j (by omega) hne, h2 n (by omega) (by omega)]
    · have e : k = n := by omega
      subst e
      rw [sumN_zero k fun j hj => h2 j (by omega) (by omega), h1]
theorem part_len {α : Type} (f : Nat → α → Bool) (n : Nat) : ∀ X : List α, (∀ x ∈ X, ∃ k, k < n ∧ f k x = true ∧ ∀ j, j < n → f j x = true → j = k) → X.length = sumN (fun k => (X.filter (f k)).length) n
  | [], _ => (sumN_zero n fun k _ => rfl).symm
  | x :: r, h => by
    have ih := part_len f n r fun y hy => h y (List.mem_cons_of_mem _ hy)
    obtain ⟨k, hk, h1, h2⟩ := h x List.mem_cons_self
    have e : sumN (fun k => ((x :: r).filter (f k)).length) n = sumN (fun k => (if f k x = true then 1 else 0) + (r.filter (f k)).length) n := sumN_congr n fun k _ => by
      rw [List.filter_cons]
      split
      · rw [List.length_cons]; omega
      · omega
    have e2 : sumN (fun k => if f k x = true then 1 else 0) n = 1 := sumN_one (k := k) n hk (if_pos h1) fun j hj hne => if_neg (c := f j x = true) fun h3 => hne (h2 j hj h3)
    rw [e, sumN_add (fun k => if f k x = true then 1 else 0) (fun k => (r.filter (f k)).length), ← ih, e2, List.length_cons]
    omega
def prtN (ts : List T3) (l : List Int) (k q : Nat) : List T3 := ((List.range q).filter fun t => decide (gZ l t = (k : Int))).map fun t => ts.getD t (0, 0, 0)
def prtL (ts : List T3) (l : List Int) (k : Nat) : List T3 := prtN ts l k ts.length
def sumE (ts : List T3) (l : List Int) : Nat → Int
  | 0 => 0
  | k + 1 => sumE ts l k + eulZ (prtL ts l k)
def cnL (ts : List T3) : List Nat := ts.flatMap fun t => [t.1, t.2.1, t.2.2]
section
variable {ts : List T3} {l : List Int} {k q N n : Nat}
theorem prtN_yes (h : gZ l q = (k : Int)) : prtN ts l k (q + 1) = prtN ts l k q ++ [ts.getD q (0, 0, 0)] := by
  unfold prtN
  rw [List.range_succ, List.filter_append, List.map_append, List.filter_cons, if_pos (decide_eq_true h)]; rfl
theorem prtN_no (h : ¬ gZ l q = (k : Int)) : prtN ts l k (q + 1) = prtN ts l k q := by
  unfold prtN
  rw [List.range_succ, List.filter_append, List.map_append, List.filter_cons, if_neg (by simpa using h)]; simp
theorem prtN_len : (prtN ts l k q).length ≤ q := by
  unfold prtN
  rw [List.length_map]
  exact Nat.le_trans (List.length_filter_le _ _) (by rw [List.length_range]; exact Nat.le_refl _)
theorem prt_mem {t : T3} : t ∈ prtL ts l k ↔ ∃ i, i < ts.length ∧ gZ l i = (k : Int) ∧ ts.getD i (0, 0, 0) = t := by
  unfold prtL prtN
  rw [List.mem_map]
  constructor
  · rintro ⟨i, hi, rfl⟩
    obtain ⟨h1, h2⟩ := List.mem_filter.1 hi
    exact ⟨i, List.mem_range.1 h1, of_decide_eq_true h2, rfl⟩
  · rintro ⟨i, h1, h2, rfl⟩
    exact ⟨i, List.mem_filter.2 ⟨List.mem_range.2 h1, decide_eq_true h2⟩, rfl⟩
theorem getT_mem {i : Nat} (h : i < ts.length) : ts.getD i (0, 0, 0) ∈ ts := by rw [List.getD, List.getElem?_eq_getElem h]; exact List.getElem_mem h
theorem mem_getT {t : T3} (h : t ∈ ts) : ∃ i, i < ts.length ∧ ts.getD i (0, 0, 0) = t := by
  obtain ⟨i, hi, e⟩ := List.getElem_of_mem h
  exact ⟨i, hi, by rw [List.getD, List.getElem?_eq_getElem hi]; exact e⟩
theorem prt_num (hn : numB N ts = true) : numB N (prtL ts l k) = true := List.all_eq_true.2 fun t ht => by
  obtain ⟨i, h1, _, rfl⟩ := prt_mem.1 ht
  exact List.all_eq_true.1 hn _ (getT_mem h1)
theorem cnL_mem {p : Nat} : p ∈ cnL ts ↔ ∃ t ∈ ts, ∃ r, r < 3 ∧ crT t r = p := by
  unfold cnL
  rw [List.mem_flatMap]
  constructor
  · rintro ⟨t, ht, hp⟩
    simp only [List.mem_cons, List.not_mem_nil, or_false] at hp
    refine ⟨t, ht, ?_⟩
    rcases hp with rfl | rfl | rfl
    · exact ⟨0, by decide, rfl⟩
    · exact ⟨1, by decide, rfl⟩
    · exact ⟨2, by decide, rfl⟩
  · rintro ⟨t, ht, r, hr, rfl⟩
    refine ⟨t, ht, ?_⟩
    have e : r = 0 ∨ r = 1 ∨ r = 2 := by omega
    rcases e with rfl | rfl | rfl <;> simp [crT]
theorem cnr_some {p : Nat} : ∀ s, (getM (cnrN ts s) p).isSome = true ↔ ∃ u, u < s ∧ cnU ts u = p
  | 0 => ⟨fun h => (by cases h), fun ⟨u, h, _⟩ => absurd h (Nat.not_lt_zero _)⟩
  | s + 1 => by
    show (getM (putM (cnrN ts s) (cnU ts s) _) p).isSome = true ↔ _
    rw [getM_put]
    split
    · rename_i e
      exact ⟨fun _ => ⟨s, by omega, e.symm⟩, fun _ => rfl⟩
    · rename_i e
      rw [cnr_some s]
      constructor
      · rintro ⟨u, h1, h2⟩; exact ⟨u, by omega, h2⟩
      · rintro ⟨u, h1, h2⟩
        refine ⟨u, ?_, h2⟩
        rcases Nat.lt_or_ge u s with h3 | h3
        · exact h3
        · exact absurd (by rw [← h2, show u = s by omega]) e
theorem keys_mem {β : Type} {kvs : List (Nat × β)} {p : Nat} : p ∈ kvs.map (·.1) ↔ (getM kvs p).isSome = true := by
  induction kvs with
  | nil => simp [getM]
  | cons x r ih =>
    obtain ⟨a, b⟩ := x
    rw [List.map_cons, List.mem_cons, ih]
    have e : getM ((a, b) :: r) p = if p = a then some b else getM r p := rfl
    rw [e]
    by_cases h : p = a
    · simp [h]
    · simp [h]
theorem cnr_keys {p : Nat} : p ∈ (cnrN ts (3 * ts.length)).map (·.1) ↔ p ∈ cnL ts := by
  rw [keys_mem, cnr_some, cnL_mem]
  constructor
  · rintro ⟨u, h1, h2⟩
    exact ⟨_, getT_mem (show u / 3 < ts.length by omega), u % 3, Nat.mod_lt _ (by decide), h2⟩
  · rintro ⟨t, ht, r, hr, rfl⟩
    obtain ⟨i, hi, rfl⟩ := mem_getT ht
    refine ⟨3 * i + r, by omega, ?_⟩
    unfold cnU
    rw [show (3 * i + r) / 3 = i by omega, show (3 * i + r) % 3 = r by omega]
theorem cnr_nodup (hn : numB N ts = true) (hN : N ≤ 4611686018427387904) : ((cnrN ts (3 * ts.length)).map (·.1)).Nodup := List.pairwise_map.2 ((cnrN_ok hn hN _ (Nat.le_refl _)).once.imp fun {a b} h e => h e)
theorem corner_part (h : Pts ts l n) {p : Nat} (hp : p ∈ cnL ts) : ∃ k, k < n ∧ p ∈ cnL (prtL ts l k) ∧ ∀ j, j < n → p ∈ cnL (prtL ts l j) → j = k := by
  obtain ⟨t, ht, r, hr, e⟩ := cnL_mem.1 hp
  obtain ⟨i, hi, rfl⟩ := mem_getT ht
  have hrg := h.rng i hi
  refine ⟨(gZ l i).toNat, by omega, cnL_mem.2 ⟨_, prt_mem.2 ⟨i, hi, by omega, rfl⟩, r, hr, e⟩, fun j hj hm => ?_⟩
  obtain ⟨t', ht', r', hr', e'⟩ := cnL_mem.1 hm
  obtain ⟨i', hi', k', rfl⟩ := prt_mem.1 ht'
  have := h.clo i i' hi hi' ⟨r, r', hr, hr', by rw [e, e']⟩
  omega
theorem corners_sum (h : Pts ts l n) (hn : numB N ts = true) (hN : N ≤ 4611686018427387904) : (cnrN ts (3 * ts.length)).length = sumN (fun k => (cnrN (prtL ts l k) (3 * (prtL ts l k).length)).length) n := by
  have h1 := part_len (fun k p => decide (p ∈ cnL (prtL ts l k))) n ((cnrN ts (3 * ts.length)).map (·.1)) fun p hp => by
    obtain ⟨k, a, b, c⟩ := corner_part h (cnr_keys.1 hp)
    exact ⟨k, a, decide_eq_true b, fun j hj hm => c j hj (of_decide_eq_true hm)⟩
  rw [List.length_map] at h1
  rw [h1]
  refine sumN_congr n fun k hk => ?_
  have h2 : ((cnrN ts (3 * ts.length)).map (·.1)).filter (fun p => decide (p ∈ cnL (prtL ts l k))) |>.Perm ((cnrN (prtL ts l k) (3 * (prtL ts l k).length)).map (·.1)) :=
    (List.perm_ext_iff_of_nodup ((cnr_nodup hn hN).filter _) (cnr_nodup (prt_num hn) hN)).2 fun p => by
      rw [List.mem_filter, cnr_keys, cnr_keys, decide_eq_true_eq]
      refine ⟨fun h => h.2, fun h3 => ⟨?_, h3⟩⟩
      obtain ⟨t, ht, r, hr, e⟩ := cnL_mem.1 h3
      obtain ⟨i, hi, _, rfl⟩ := prt_mem.1 ht
      exact cnL_mem.2 ⟨_, getT_mem hi, r, hr, e⟩
  rw [h2.length_eq, List.length_map]
theorem allK_mem {a : P2} : a ∈ allK ts ↔ ∃ t ∈ ts, a = kyE t.1 t.2.1 ∨ a = kyE t.2.1 t.2.2 ∨ a = kyE t.2.2 t.1 := by
  unfold allK
  rw [List.mem_flatMap]
  simp only [List.mem_cons, List.not_mem_nil, or_false]
theorem key_corner {t : T3} {a : P2} (h : a = kyE t.1 t.2.1 ∨ a = kyE t.2.1 t.2.2 ∨ a = kyE t.2.2 t.1) : ∃ r, r < 3 ∧ crT t r = a.1 := by
  have key : ∀ x y : Nat, (kyE x y).1 = x ∨ (kyE x y).1 = y := fun x y => by unfold kyE; simp only; omega
  rcases h with rfl | rfl | rfl
  · rcases key t.1 t.2.1 with e | e
    · exact ⟨0, by decide, e.symm⟩
    · exact ⟨1, by decide, e.symm⟩
  · rcases key t.2.1 t.2.2 with e | e
    · exact ⟨1, by decide, e.symm⟩
    · exact ⟨2, by decide, e.symm⟩
  · rcases key t.2.2 t.1 with e | e
    · exact ⟨2, by decide, e.symm⟩
    · exact ⟨0, by decide, e.symm⟩
theorem key_part (h : Pts ts l n) {a : P2} (hp : a ∈ allK ts) : ∃ k, k < n ∧ a ∈ allK (prtL ts l k) ∧ ∀ j, j < n → a ∈ allK (prtL ts l j) → j = k := by
  obtain ⟨t, ht, e⟩ := allK_mem.1 hp
  obtain ⟨i, hi, rfl⟩ := mem_getT ht
  have hrg := h.rng i hi
  obtain ⟨r, hr, hc⟩ := key_corner e
  refine ⟨(gZ l i).toNat, by omega, allK_mem.2 ⟨_, prt_mem.2 ⟨i, hi, by omega, rfl⟩, e⟩, fun j hj hm => ?_⟩
  obtain ⟨t', ht', e'⟩ := allK_mem.1 hm
  obtain ⟨i', hi', k', rfl⟩ := prt_mem.1 ht'
  obtain ⟨r', hr', hc'⟩ := key_corner e'
  have := h.clo i i' hi hi' ⟨r, r', hr, hr', by rw [hc, hc']⟩
  omega
def LtK (x y : P2) : Prop := x.1 < y.1 ∨ (x.1 = y.1 ∧ x.2 < y.2)
theorem LtK.asymm (x y : P2) (h : LtK x y) : ¬ LtK y x := by unfold LtK at *; omega
theorem edges_sum (h : Pts ts l n) (hn : numB N ts = true) (hN : N ≤ 4611686018427387904) : (edL ts).length = sumN (fun k => (edL (prtL ts l k)).length) n := by
  have h1 := part_len (fun k (e : E4) => decide ((e.a, e.b) ∈ allK (prtL ts l k))) n (edL ts) fun e he => by
    obtain ⟨k, a, b, c⟩ := key_part h ((mem_keys hn hN (a := e.a) (b := e.b)).2 ⟨e, he, rfl, rfl⟩)
    exact ⟨k, a, decide_eq_true b, fun j hj hm => c j hj (of_decide_eq_true hm)⟩
  rw [h1]
  refine sumN_congr n fun k hk => ?_
  have h2 : ((edL ts).filter fun e => decide ((e.a, e.b) ∈ allK (prtL ts l k))).map (fun e => (e.a, e.b)) = (edL (prtL ts l k)).map fun e => (e.a, e.b) := by
    refine sorted_ext LtK.asymm ?_ ?_ fun a => ?_
    · exact List.pairwise_map.2 (((edL_sorted hn hN).filter _).imp fun {x y} h => h)
    · exact List.pairwise_map.2 ((edL_sorted (prt_num hn) hN).imp fun {x y} h => h)
    · rw [List.mem_map, List.mem_map]
      constructor
      · rintro ⟨e, he, rfl⟩
        obtain ⟨_, h3⟩ := List.mem_filter.1 he
        obtain ⟨e', he', a1, a2⟩ := (mem_keys (prt_num hn) hN (a := e.a) (b := e.b)).1 (of_decide_eq_true h3)
        exact ⟨e', he', Prod.ext a1 a2⟩
      · rintro ⟨e, he, rfl⟩
        have h3 : (e.a, e.b) ∈ allK (prtL ts l k) := (mem_keys (prt_num hn) hN (a := e.a) (b := e.b)).2 ⟨e, he, rfl, rfl⟩
        obtain ⟨t, ht, e3⟩ := allK_mem.1 h3
        obtain ⟨i, hi, _, rfl⟩ := prt_mem.1 ht
        obtain ⟨e', he', a1, a2⟩ := (mem_keys hn hN (a := e.a) (b := e.b)).1 (allK_mem.2 ⟨_, getT_mem hi, e3⟩)
        exact ⟨e', List.mem_filter.2 ⟨he', decide_eq_true (by rw [a1, a2]; exact h3)⟩, Prod.ext a1 a2⟩
  have h3 := congrArg List.length h2
  rw [List.length_map, List.length_map] at h3
  exact h3
theorem tris_sum (h : Pts ts l n) : ts.length = sumN (fun k => (prtL ts l k).length) n := by
  have h1 := part_len (fun k t => decide (gZ l t = (k : Int))) n (List.range ts.length) fun t ht => by
    have hrg := h.rng t (List.mem_range.1 ht)
    exact ⟨(gZ l t).toNat, by omega, decide_eq_true (by omega), fun j hj hm => by have := of_decide_eq_true hm; omega⟩
  rw [List.length_range] at h1
  conv => lhs; rw [h1]
  refine sumN_congr n fun k _ => ?_
  unfold prtL prtN
  rw [List.length_map]
theorem sumE_parts : ∀ n, sumE ts l n = ((sumN (fun k => (cnrN (prtL ts l k) (3 * (prtL ts l k).length)).length) n : Nat) : Int) - (sumN (fun k => (edL (prtL ts l k)).length) n : Nat) + (sumN (fun k => (prtL ts l k).length) n : Nat)
  | 0 => rfl
  | n + 1 => by
    rw [sumE, sumE_parts n]
    unfold eulZ
    simp only [sumN]
    omega
theorem sumE_eq (h : Pts ts l n) (hn : numB N ts = true) (hN : N ≤ 4611686018427387904) : sumE ts l n = eulZ ts := by
  rw [sumE_parts, ← corners_sum h hn hN, ← edges_sum h hn hN, ← tris_sum h]; rfl
theorem eulZ_le (ts : List T3) : -(3 * ts.length : Int) ≤ eulZ ts ∧ eulZ ts ≤ 4 * ts.length := by
  have h1 := edL_le ts
  have h2 := cnrN_len (ts := ts) (3 * ts.length)
  unfold eulZ
  omega
theorem prtL_le : (prtL ts l k).length ≤ ts.length := prtN_len
theorem sumE_le : ∀ n : Nat, -(3 * (ts.length : Int) * (n : Int)) ≤ sumE ts l n ∧ sumE ts l n ≤ 4 * (ts.length : Int) * (n : Int)
  | 0 => by simp [sumE]
  | n + 1 => by
    have h1 := sumE_le n
    have h2 := eulZ_le (prtL ts l n)
    have h3 := prtL_le (ts := ts) (l := l) (k := n)
    rw [sumE]
    have e1 : 3 * (ts.length : Int) * ((n + 1 : Nat) : Int) = 3 * (ts.length : Int) * (n : Int) + 3 * (ts.length : Int) := by rw [Int.natCast_add, Int.mul_add]; simp
    have e2 : 4 * (ts.length : Int) * ((n + 1 : Nat) : Int) = 4 * (ts.length : Int) * (n : Int) + 4 * (ts.length : Int) := by rw [Int.natCast_add, Int.mul_add]; simp
    rw [e1, e2]
    omega
def tchB (A B : T3) : Nat → Bool
  | 0 => false
  | i + 1 => tchB A B i || decide (crT A (i % 3) = crT B (i / 3))
theorem tchB_tch {A B : T3} : ∀ i, tchB A B i = true → ∃ q, q < i ∧ crT A (q % 3) = crT B (q / 3)
  | 0, h => by cases h
  | i + 1, h => by
    have h : (tchB A B i || decide _) = true := h
    rw [Bool.or_eq_true, decide_eq_true_eq] at h
    rcases h with h | h
    · obtain ⟨q, a, b⟩ := tchB_tch i h; exact ⟨q, by omega, b⟩
    · exact ⟨i, by omega, h⟩
theorem tchB_pts (h : Pts ts l n) {s t : Nat} (hs : s < ts.length) (ht : t < ts.length) (hb : tchB (ts.getD t (0, 0, 0)) (ts.getD s (0, 0, 0)) 9 = true) : gZ l s = gZ l t := by
  obtain ⟨q, hq, e⟩ := tchB_tch 9 hb
  exact h.clo t s ht hs ⟨q % 3, q / 3, Nat.mod_lt _ (by decide), by omega, e⟩
theorem next_le (h : Pts ts l n) {t nx : Nat} (ht : t < ts.length) (hj : ∀ s, s < t → gZ l s < nx) (hn : nx ≤ n) : gZ l t ≤ nx := by
  rcases Int.lt_or_le (nx : Int) (gZ l t) with h1 | h1
  · have hr := h.rng t ht
    obtain ⟨f, hf, f1, f2⟩ := h.fst nx (by omega)
    rcases Nat.lt_trichotomy f t with h2 | h2 | h2
    · have := hj f h2; omega
    · subst h2; omega
    · have := f2 t h2; omega
  · exact h1
theorem next_all (h : Pts ts l n) {nx : Nat} (hj : ∀ s, s < ts.length → gZ l s < nx) (hn : nx ≤ n) : nx = n := by
  rcases Nat.lt_or_ge nx n with h1 | h1
  · obtain ⟨f, hf, f1, _⟩ := h.fst nx h1
    have := hj f hf; omega
  · omega
end
theorem roMX3 {S : Nat → Prop} {w : World} {ps : List Pt} {ts : List T3} {a : RX (rowsL ptL ps) ps.length} {b : RX (rowsL t3L ts) ts.length} (h1 : Ro S w a) (h2 : Ro S w b) : Ro S w (⟨a, b, ⟨none, 0, OwnOk.none.row⟩⟩ : MX ps ts []) := fun y hy => by
  have hy : y ∈ [a.row, b.row, rowR none (rowsL t3L [])] := hy
  simp only [List.mem_cons, List.not_mem_nil, or_false] at hy
  rcases hy with rfl | rfl | rfl
  · exact h1 _ List.mem_cons_self
  · exact h2 _ List.mem_cons_self
  · exact ⟨(fun b e => by cases e), (fun b e => by cases e)⟩
end
end Go.Proofs.YtgiacpkjnikjdaaGreat
