import Derived.Test.YtgiacpkjnikjdaaGreatPart24
import Derived.Test.YtgiacpkjnikjdaaGreatPart33
import Derived.Test.YtgiacpkjnikjdaaGreatPart35
import Derived.Test.YtgiacpkjnikjdaaGreatPart39
import Derived.Test.YtgiacpkjnikjdaaGreatPart41
namespace Go.Proofs.YtgiacpkjnikjdaaGreat
open Go Go.RowKit
set_option linter.unusedVariables false
set_option linter.unusedSimpArgs false
section
set_option maxRecDepth 100000
theorem Holes_ok {ps : List Pt} {ts ss : List T3} (x : MX ps ts ss) (l : List Int) (n : Nat) (hpt : Pts ts l n) (hnb : numB ps.length ts = true) (hne : 0 < ts.length) (hp : ps.length ≤ 1000000) (htl : ts.length ≤ 1000000) (w : World) {S : Nat → Prop} (hx : Ro S w x) : Calls Tryz.prog 37 #[(aG (mxL x))] w (Gives w (vI (((n : Nat) : Int) - eulZ ts))) := by
 have hel0 := edL_le ts
 have hcl0 := cnrN_len (ts := ts) (3 * ts.length)
 have hez : eulZ ts = ((cnrN ts (3 * ts.length)).length : Int) - (edL ts).length + ts.length := rfl
 have hnle := hpt.nle
 have lx := atA (W := w) hx
 refine calls_ofR (args := [(aG (mxL x))]) (L := [rowR x.a.p (rowsL ptL ps), rowR x.b.p (rowsL t3L ts), rowR x.c.p (rowsL t3L ss)]) Tryz.func37 rfl rfl (leB rfl) (sxA hx roL_nil) (OkC.subF (sL [0] rfl) (q4 (bx' (cs := mxL x) rfl fun b1 => asg' rfl (q3 (sL [1, 2] rfl) ?_))))
 refine ldW' 0 tA31 rfl (OkL.callR (S := S) (α := PaX ts) (args := [(aG (mxL x))]) Tryz.call20 (fun w hw => Parts_ok x hnb hne hp htl w (inS hw 1 rfl lx)) rfl rfl rfl fun pa lpa => mv' rfl (st' (ex_extract (v := (Value.slice pa.r.p pa.l.length pa.r.c)) rfl rfl) rfl (st' (ex_extract (v := (vN pa.n)) rfl rfl) rfl (OkL.retell (k := 9) (u := (vN n)) rfl (by rw [pts_n hpt pa.pts]) ?_))))
 refine asg' rfl (asg' rfl (q3 (sL [1, 2, 4] rfl) (mv' rfl (ldW' 1 tA31 rfl (cl' Tryz.call21 (fun w hw => Euler_ok x hnb hp htl w (inS hw 2 rfl lx)) rfl ?_)))))
 exact st' (ex_sub (c := (((n : Nat) : Int) - eulZ ts)) rfl rfl (wrap_i64 (by omega) (by omega))) rfl (asg' rfl (OkL.nil (OkQ.subF (sL [1, 2] rfl) (OkQ.then_ (OkC.ret (ret_one rfl (rd_tmp (v := (vI (((n : Nat) : Int) - eulZ ts))) rfl) (fun w hw => ⟨rfl, hw.out⟩)))))))
theorem lz6_pt_0_0 (w : World) : Calls Tryz.prog 47 #[(vI 0), (vI 0)] w (Gives w (aG (ptL (⟨0, 0⟩ : Pt)))) := by
 have h := pInt_ok (0) (0) (by decide) (by decide) (by decide) (by decide) w
 rw [show (⟨(((0) : Int) : Rat), (((0) : Int) : Rat)⟩ : Pt) = (⟨0, 0⟩ : Pt) from by decide +kernel] at h
 exact h
theorem lz6_pt_1_0 (w : World) : Calls Tryz.prog 47 #[(vI 1), (vI 0)] w (Gives w (aG (ptL (⟨1, 0⟩ : Pt)))) := by
 have h := pInt_ok (1) (0) (by decide) (by decide) (by decide) (by decide) w
 rw [show (⟨(((1) : Int) : Rat), (((0) : Int) : Rat)⟩ : Pt) = (⟨1, 0⟩ : Pt) from by decide +kernel] at h
 exact h
theorem lz6_pt_1_1 (w : World) : Calls Tryz.prog 47 #[(vI 1), (vI 1)] w (Gives w (aG (ptL (⟨1, 1⟩ : Pt)))) := by
 have h := pInt_ok (1) (1) (by decide) (by decide) (by decide) (by decide) w
 rw [show (⟨(((1) : Int) : Rat), (((1) : Int) : Rat)⟩ : Pt) = (⟨1, 1⟩ : Pt) from by decide +kernel] at h
 exact h
theorem lz6_pt_0_1 (w : World) : Calls Tryz.prog 47 #[(vI 0), (vI 1)] w (Gives w (aG (ptL (⟨0, 1⟩ : Pt)))) := by
 have h := pInt_ok (0) (1) (by decide) (by decide) (by decide) (by decide) w
 rw [show (⟨(((0) : Int) : Rat), (((1) : Int) : Rat)⟩ : Pt) = (⟨0, 1⟩ : Pt) from by decide +kernel] at h
 exact h
theorem lz6_pt_m1_0 (w : World) : Calls Tryz.prog 47 #[(vI (-1 : Int)), (vI 0)] w (Gives w (aG (ptL (⟨-1, 0⟩ : Pt)))) := by
 have h := pInt_ok (-1) (0) (by decide) (by decide) (by decide) (by decide) w
 rw [show (⟨(((-1) : Int) : Rat), (((0) : Int) : Rat)⟩ : Pt) = (⟨-1, 0⟩ : Pt) from by decide +kernel] at h
 exact h
theorem lz6_pt_0_m1 (w : World) : Calls Tryz.prog 47 #[(vI 0), (vI (-1 : Int))] w (Gives w (aG (ptL (⟨0, -1⟩ : Pt)))) := by
 have h := pInt_ok (0) (-1) (by decide) (by decide) (by decide) (by decide) w
 rw [show (⟨(((0) : Int) : Rat), (((-1) : Int) : Rat)⟩ : Pt) = (⟨0, -1⟩ : Pt) from by decide +kernel] at h
 exact h
def l26P : List Pt := [⟨0, 0⟩, ⟨1, 0⟩, ⟨1, 1⟩, ⟨0, 1⟩]
def l26T : List T3 := [(0, 1, 2), (0, 2, 3)]
def k26P : List Pt := [⟨0, 0⟩, ⟨1, 0⟩, ⟨0, 1⟩, ⟨-1, 0⟩, ⟨0, -1⟩]
def k26T : List T3 := [(0, 1, 2), (0, 3, 4)]
def w26L : List T3 := [(0, 1, 0), (3, 0, 1), (1, 2, 0), (2, 3, 1)]
theorem ways26 (x : MX l26P l26T []) (w : World) {S : Nat → Prop} (hx : Ro S w x) : Calls Tryz.prog 29 #[aG (mxL x)] w (GivesR (RX (rowsL t3L w26L) w26L.length) S w) := by
 have h := Ways_ok x (by decide +kernel) (by decide) (by decide) w hx
 rw [show wayL l26T = w26L from by decide +kernel] at h
 exact h
theorem loops26 (x : MX l26P l26T []) (w : World) {S : Nat → Prop} (hx : Ro S w x) : Calls Tryz.prog 30 #[aG (mxL x)] w (GivesR (L1X [0, 1, 2, 3]) S w) :=
 (Loops_ok x (by decide +kernel) (by decide +kernel) (by decide) (by decide) w hx).mono fun e w' h => giveL1 (show lopL l26T = [[0, 1, 2, 3]] from by decide +kernel) h
theorem loops26k (x : MX k26P k26T []) (w : World) {S : Nat → Prop} (hx : Ro S w x) : Calls Tryz.prog 30 #[aG (mxL x)] w (GivesR (LnX 2) S w) :=
 (Loops_ok x (by decide +kernel) (by decide +kernel) (by decide) (by decide) w hx).mono fun e w' h => giveLn (show (lopL k26T).length = 2 from by decide +kernel) h
theorem cnx26 : ∀ s, s < l26T.length → Cnx l26T 0 s := fun s hs => by
 have e : s = 0 ∨ s = 1 := by have : l26T.length = 2 := rfl; omega
 rcases e with rfl | rfl
 ·exact .refl
 ·exact .step .refl (by decide) ⟨0, 0, by decide, by decide, rfl⟩
theorem cnx26k : ∀ s, s < k26T.length → Cnx k26T 0 s := fun s hs => by
 have e : s = 0 ∨ s = 1 := by have : k26T.length = 2 := rfl; omega
 rcases e with rfl | rfl
 ·exact .refl
 ·exact .step .refl (by decide) ⟨0, 0, by decide, by decide, rfl⟩
theorem tfs_numvb_83_4 (x0 x1 x2 x3 : Pt) : Instr.fill (fun i => some (i * 10, 10)) ((Array.range (4 * 10)).map ((Value.agg (ptL (⟨0, 0⟩ : Pt)).toArray).cells[· % (Value.agg (ptL (⟨0, 0⟩ : Pt)).toArray).cells.size]!)) [(0, .agg (ptL x0).toArray), (1, .agg (ptL x1).toArray), (2, .agg (ptL x2).toArray), (3, .agg (ptL x3).toArray)] = some (ptL x0 ++ ptL x1 ++ ptL x2 ++ ptL x3).toArray := by kernel_rfl
theorem tfill_numvb_45 (x0 x1 x2 : Nat) : Instr.fill (fun i => some (i * 1, 1)) (t3L ((0, 0, 0) : Nat × Nat × Nat)).toArray [(0, vN x0), (1, vN x1), (2, vN x2)] = some (t3L (x0, x1, x2)).toArray := by kernel_rfl
theorem tfs_numvb_45_2 (x0 x1 : Nat × Nat × Nat) : Instr.fill (fun i => some (i * 3, 3)) ((Array.range (2 * 3)).map ((Value.agg (t3L ((0, 0, 0) : Nat × Nat × Nat)).toArray).cells[· % (Value.agg (t3L ((0, 0, 0) : Nat × Nat × Nat)).toArray).cells.size]!)) [(0, .agg (t3L x0).toArray), (1, .agg (t3L x1).toArray)] = some (t3L x0 ++ t3L x1).toArray := by kernel_rfl
theorem tfs_numvb_83_5 (x0 x1 x2 x3 x4 : Pt) : Instr.fill (fun i => some (i * 10, 10)) ((Array.range (5 * 10)).map ((Value.agg (ptL (⟨0, 0⟩ : Pt)).toArray).cells[· % (Value.agg (ptL (⟨0, 0⟩ : Pt)).toArray).cells.size]!)) [(0, .agg (ptL x0).toArray), (1, .agg (ptL x1).toArray), (2, .agg (ptL x2).toArray), (3, .agg (ptL x3).toArray), (4, .agg (ptL x4).toArray)] = some (ptL x0 ++ ptL x1 ++ ptL x2 ++ ptL x3 ++ ptL x4).toArray := by kernel_rfl
set_option maxHeartbeats 1000000 in
theorem lives26_ok  (w : World)  : Calls Tryz.prog 22 #[] w (Gives w (Value.bool true)) := by
 refine calls_of (args := []) Tryz.func22 rfl rfl (leB rfl) (OkC.subF sN (q4 (asg' rfl (OkL.nil (q2 ?_)))))
 refine ck' Tryz.call47 (lz6_pt_0_0) rfl (ck' Tryz.call47 (lz6_pt_1_0) rfl (ck' Tryz.call47 (lz6_pt_1_1) rfl (ck' Tryz.call47 (lz6_pt_0_1) rfl (OkL.openV (V := fun b1 => (Value.slice (some ⟨b1, 0, none⟩) 4 4)) (T := 83) (cs := ptL (⟨0, 0⟩ : Pt) ++ ptL (⟨1, 0⟩ : Pt) ++ ptL (⟨1, 1⟩ : Pt) ++ ptL (⟨0, 1⟩ : Pt)) (wt_none rfl) (op_buildSlice (z := .agg (ptL (⟨0, 0⟩ : Pt)).toArray) (cs := ptL (⟨0, 0⟩ : Pt) ++ ptL (⟨1, 0⟩ : Pt) ++ ptL (⟨1, 1⟩ : Pt) ++ ptL (⟨0, 1⟩ : Pt)) (pv := [(0, (aG (ptL (⟨0, 0⟩ : Pt)))), (1, (aG (ptL (⟨1, 0⟩ : Pt)))), (2, (aG (ptL (⟨1, 1⟩ : Pt)))), (3, (aG (ptL (⟨0, 1⟩ : Pt))))]) Tryz.underlying27 Tryz.sizeOf83 Tryz.zeroValue83 (by decide) (by decide) rfl (tfs_numvb_83_4 (⟨0, 0⟩ : Pt) (⟨1, 0⟩ : Pt) (⟨1, 1⟩ : Pt) (⟨0, 1⟩ : Pt))) rfl (leB rfl) fun b1 => st' (v := (aG (t3L (0, 1, 2)))) (ex_build_array (zs := t3L ((0, 0, 0) : Nat × Nat × Nat)) (vs := t3L (0, 1, 2)) (pv := [(0, (vI 0)), (1, (vI 1)), (2, (vI 2))]) Tryz.zeroValue45 Tryz.underlying45 Tryz.sizeOf3 rfl (tfill_numvb_45 0 1 2)) rfl ?_))))
 refine st' (v := (aG (t3L (0, 2, 3)))) (ex_build_array (zs := t3L ((0, 0, 0) : Nat × Nat × Nat)) (vs := t3L (0, 2, 3)) (pv := [(0, (vI 0)), (1, (vI 2)), (2, (vI 3))]) Tryz.zeroValue45 Tryz.underlying45 Tryz.sizeOf3 rfl (tfill_numvb_45 0 2 3)) rfl (OkL.openV (V := fun b2 => (Value.slice (some ⟨b2, 0, none⟩) 2 2)) (T := 45) (cs := t3L (0, 1, 2) ++ t3L (0, 2, 3)) (wt_none rfl) (op_buildSlice (z := .agg (t3L ((0, 0, 0) : Nat × Nat × Nat)).toArray) (cs := t3L (0, 1, 2) ++ t3L (0, 2, 3)) (pv := [(0, (aG (t3L (0, 1, 2)))), (1, (aG (t3L (0, 2, 3))))]) Tryz.underlying28 Tryz.sizeOf45 Tryz.zeroValue45 (by decide) (by decide) rfl (tfs_numvb_45_2 (0, 1, 2) (0, 2, 3))) rfl (leB rfl) fun b2 => st' (v := (aG ([(Value.slice (some ⟨b1, 0, none⟩) 4 4), (Value.slice (some ⟨b2, 0, none⟩) 2 2), (Value.slice none 0 0)]))) (ex_build_struct (zs := [(Value.slice none 0 0), (Value.slice none 0 0), (Value.slice none 0 0)]) (vs := [(Value.slice (some ⟨b1, 0, none⟩) 4 4), (Value.slice (some ⟨b2, 0, none⟩) 2 2), (Value.slice none 0 0)]) (pv := [(0, (Value.slice (some ⟨b1, 0, none⟩) 4 4)), (1, (Value.slice (some ⟨b2, 0, none⟩) 2 2))]) (places := [(0, 1), (1, 1), (2, 1)]) Tryz.zeroValue31 Tryz.underlying31 (fun w => by simp [Tryz.sizeOf27, Tryz.sizeOf28, Tryz.sizeOf29]) rfl rfl) rfl (al tZ31 rfl fun b3 => stW0' rfl Tryz.sizeOf31 rfl (OkL.litM2 (S := fun _ => False) (ps := l26P) (ts := l26T) (fun mm => [rowR mm.c.p (rowsL t3L ([] : List T3)), blk b3 31 (mxL mm), rowR mm.b.p (rowsL t3L l26T), rowR mm.a.p (rowsL ptL l26P)]) 2 1 (by decide) rfl rfl rfl rfl rfl fun mm hmm => ?_)))
 refine q3 (sL [0, 1] rfl) (ldW' 1 tA31 rfl (OkL.callR (S := fun _ => False) (α := RX (rowsL t3L w26L) w26L.length) (args := [(aG (mxL mm))]) Tryz.call29 (fun w hw => ways26 mm w (inX hw [3, 2, 0] rfl hmm)) rfl rfl rfl fun wy lwy => asg' rfl (q3 (sL [0, 1, 2] rfl) (ldW' 2 tA31 rfl ?_))))
 refine OkL.callR (S := fun _ => False) (α := L1X [0, 1, 2, 3]) (args := [(aG (mxL mm))]) Tryz.call30 (fun w hw => loops26 mm w (inX hw [4, 3, 1] rfl hmm)) rfl rfl rfl fun lo llo => asg' rfl (q3 (sL [0, 1, 2, 3] rfl) (ck' Tryz.call47 (lz6_pt_0_0) rfl (ck' Tryz.call47 (lz6_pt_1_0) rfl (ck' Tryz.call47 (lz6_pt_0_1) rfl ?_))))
 refine ck' Tryz.call47 (lz6_pt_m1_0) rfl (ck' Tryz.call47 (lz6_pt_0_m1) rfl (OkL.openV (V := fun b4 => (Value.slice (some ⟨b4, 0, none⟩) 5 5)) (T := 83) (cs := ptL (⟨0, 0⟩ : Pt) ++ ptL (⟨1, 0⟩ : Pt) ++ ptL (⟨0, 1⟩ : Pt) ++ ptL (⟨-1, 0⟩ : Pt) ++ ptL (⟨0, -1⟩ : Pt)) (wt_none rfl) (op_buildSlice (z := .agg (ptL (⟨0, 0⟩ : Pt)).toArray) (cs := ptL (⟨0, 0⟩ : Pt) ++ ptL (⟨1, 0⟩ : Pt) ++ ptL (⟨0, 1⟩ : Pt) ++ ptL (⟨-1, 0⟩ : Pt) ++ ptL (⟨0, -1⟩ : Pt)) (pv := [(0, (aG (ptL (⟨0, 0⟩ : Pt)))), (1, (aG (ptL (⟨1, 0⟩ : Pt)))), (2, (aG (ptL (⟨0, 1⟩ : Pt)))), (3, (aG (ptL (⟨-1, 0⟩ : Pt)))), (4, (aG (ptL (⟨0, -1⟩ : Pt))))]) Tryz.underlying27 Tryz.sizeOf83 Tryz.zeroValue83 (by decide) (by decide) rfl (tfs_numvb_83_5 (⟨0, 0⟩ : Pt) (⟨1, 0⟩ : Pt) (⟨0, 1⟩ : Pt) (⟨-1, 0⟩ : Pt) (⟨0, -1⟩ : Pt))) rfl (leB rfl) fun b4 => st' (v := (aG (t3L (0, 1, 2)))) (ex_build_array (zs := t3L ((0, 0, 0) : Nat × Nat × Nat)) (vs := t3L (0, 1, 2)) (pv := [(0, (vI 0)), (1, (vI 1)), (2, (vI 2))]) Tryz.zeroValue45 Tryz.underlying45 Tryz.sizeOf3 rfl (tfill_numvb_45 0 1 2)) rfl (st' (v := (aG (t3L (0, 3, 4)))) (ex_build_array (zs := t3L ((0, 0, 0) : Nat × Nat × Nat)) (vs := t3L (0, 3, 4)) (pv := [(0, (vI 0)), (1, (vI 3)), (2, (vI 4))]) Tryz.zeroValue45 Tryz.underlying45 Tryz.sizeOf3 rfl (tfill_numvb_45 0 3 4)) rfl (OkL.openV (V := fun b5 => (Value.slice (some ⟨b5, 0, none⟩) 2 2)) (T := 45) (cs := t3L (0, 1, 2) ++ t3L (0, 3, 4)) (wt_none rfl) (op_buildSlice (z := .agg (t3L ((0, 0, 0) : Nat × Nat × Nat)).toArray) (cs := t3L (0, 1, 2) ++ t3L (0, 3, 4)) (pv := [(0, (aG (t3L (0, 1, 2)))), (1, (aG (t3L (0, 3, 4))))]) Tryz.underlying28 Tryz.sizeOf45 Tryz.zeroValue45 (by decide) (by decide) rfl (tfs_numvb_45_2 (0, 1, 2) (0, 3, 4))) rfl (leB rfl) fun b5 => ?_))))
 refine st' (v := (aG ([(Value.slice (some ⟨b4, 0, none⟩) 5 5), (Value.slice (some ⟨b5, 0, none⟩) 2 2), (Value.slice none 0 0)]))) (ex_build_struct (zs := [(Value.slice none 0 0), (Value.slice none 0 0), (Value.slice none 0 0)]) (vs := [(Value.slice (some ⟨b4, 0, none⟩) 5 5), (Value.slice (some ⟨b5, 0, none⟩) 2 2), (Value.slice none 0 0)]) (pv := [(0, (Value.slice (some ⟨b4, 0, none⟩) 5 5)), (1, (Value.slice (some ⟨b5, 0, none⟩) 2 2))]) (places := [(0, 1), (1, 1), (2, 1)]) Tryz.zeroValue31 Tryz.underlying31 (fun w => by simp [Tryz.sizeOf27, Tryz.sizeOf28, Tryz.sizeOf29]) rfl rfl) rfl (al tZ31 rfl fun b6 => stW0' rfl Tryz.sizeOf31 rfl (OkL.litM2 (S := fun _ => False) (ps := k26P) (ts := k26T) (fun m2 => [rowR m2.c.p (rowsL t3L ([] : List T3)), blk b6 31 (mxL m2), rowR m2.b.p (rowsL t3L k26T), rowR m2.a.p (rowsL ptL k26P), rowR lo.q.p ([Value.slice lo.r.p 4 lo.r.c]), rowR lo.r.p (inL ([0, 1, 2, 3])), rowR wy.p (rowsL t3L w26L), rowR mm.c.p (rowsL t3L ([] : List T3)), blk b3 31 (mxL mm), rowR mm.b.p (rowsL t3L l26T), rowR mm.a.p (rowsL ptL l26P)]) 2 1 (by decide) rfl rfl rfl rfl rfl fun m2 hm2 => q3 (sL [0, 1, 2, 3, 4] rfl) (ldW' 1 tA31 rfl ?_)))
 refine OkL.callR (S := fun _ => False) (α := PaX k26T) (args := [(aG (mxL m2))]) Tryz.call20 (fun w hw => Parts_ok m2 (by decide +kernel) (by decide) (by decide) (by decide) w (inX hw [3, 2, 0] rfl hm2)) rfl rfl rfl fun pk lpk => mv' rfl (st' (ex_extract (v := (Value.slice pk.r.p pk.l.length pk.r.c)) rfl rfl) rfl ?_)
 have hpk : pk.n = 1 := pts_one pk.pts (by decide) cnx26k
 refine st' (ex_extract (v := (vN pk.n)) rfl rfl) rfl (asg' rfl (asg' rfl (q3 (sL [0, 1, 2, 3, 4, 6] rfl) (ldW' 9 tA31 rfl (OkL.callR (S := fun _ => False) (α := PaX l26T) (args := [(aG (mxL mm))]) Tryz.call20 (fun w hw => Parts_ok mm (by decide +kernel) (by decide) (by decide) (by decide) w (inX hw [11, 10, 8] rfl hmm)) rfl rfl rfl fun pb lpb => ?_)))))
 refine mv' rfl (st' (ex_extract (v := (Value.slice pb.r.p pb.l.length pb.r.c)) rfl rfl) rfl ?_)
 have hpb : pb.n = 1 := pts_one pb.pts (by decide) cnx26
 refine st' (ex_extract (v := (vN pb.n)) rfl rfl) rfl (asg' rfl (asg' rfl (q3 (sL [0, 1, 2, 3, 4, 6, 8] rfl) (mv' rfl (st' (v := (vI 4)) (ex_len_slice rfl Tryz.underlying63) rfl ?_)))))
 refine st' (ex_eql (c := true) rfl rfl (by decide)) rfl (mv' rfl (OkL.step (v := (Value.slice wy.p 4 wy.c)) (wt_some' rfl) (ex_move rfl) rfl (leB rfl) (OkL.step (v := (pP (pB wy.p) (pO wy.p + 0 * 3))) (wt_some' rfl) (ex_index_row (j := 0) rfl rfl wy.ok Tryz.underlying63 Tryz.sizeOf68 rfl (by decide)) rfl (leB rfl) (OkL.step (v := (aG (t3L (w26L.getD 0 ((0, 0, 0) : Nat × Nat × Nat))))) (wt_some' rfl) (ex_load_rowR_agg (vs := t3L (w26L.getD 0 ((0, 0, 0) : Nat × Nat × Nat))) (i := 8) rfl rfl (RowOk.ne wy.ok (by decide)) tA68 (rowsL_get t3L_len _ _ _ (by decide)) (t3L_len _)) rfl (leB rfl) (OkL.step (v := (aG ([(vI 0), (vI 1), (vI 0)]))) (wt_some' rfl) (ex_build_struct (zs := t3L ((0, 0, 0) : Nat × Nat × Nat)) (vs := [(vI 0), (vI 1), (vI 0)]) (pv := [(0, (vI 0)), (1, (vI 1)), (2, (vI 0))]) (places := [(0, 1), (1, 1), (2, 1)]) Tryz.zeroValue68 Tryz.underlying68 (fun w => by simp [Tryz.sizeOf3]) rfl rfl) rfl (leB rfl) ?_)))))
 refine OkL.step (v := (Value.bool true)) (wt_some' rfl) (ex_eql_agg (c := true) rfl rfl Tryz.eqGuardType68 (eqB_way_t (a := w26L.getD 0 ((0, 0, 0) : Nat × Nat × Nat)) (b := ((0, 1, 0) : T3)) 9998 rfl)) rfl (leB rfl) (st' (v := (Value.bool true)) (ex_pick_true rfl rfl) rfl (mv' rfl (OkL.step (v := (Value.slice wy.p 4 wy.c)) (wt_some' rfl) (ex_move rfl) rfl (leB rfl) (OkL.step (v := (pP (pB wy.p) (pO wy.p + 1 * 3))) (wt_some' rfl) (ex_index_row (j := 1) rfl rfl wy.ok Tryz.underlying63 Tryz.sizeOf68 rfl (by decide)) rfl (leB rfl) (OkL.step (v := (aG (t3L (w26L.getD 1 ((0, 0, 0) : Nat × Nat × Nat))))) (wt_some' rfl) (ex_load_rowR_agg (vs := t3L (w26L.getD 1 ((0, 0, 0) : Nat × Nat × Nat))) (i := 8) rfl rfl (RowOk.ne wy.ok (by decide)) tA68 (rowsL_get t3L_len _ _ _ (by decide)) (t3L_len _)) rfl (leB rfl) ?_)))))
 refine OkL.step (v := (aG ([(vI 3), (vI 0), (vI 1)]))) (wt_some' rfl) (ex_build_struct (zs := t3L ((0, 0, 0) : Nat × Nat × Nat)) (vs := [(vI 3), (vI 0), (vI 1)]) (pv := [(0, (vI 3)), (1, (vI 0)), (2, (vI 1))]) (places := [(0, 1), (1, 1), (2, 1)]) Tryz.zeroValue68 Tryz.underlying68 (fun w => by simp [Tryz.sizeOf3]) rfl rfl) rfl (leB rfl) (OkL.step (v := (Value.bool true)) (wt_some' rfl) (ex_eql_agg (c := true) rfl rfl Tryz.eqGuardType68 (eqB_way_t (a := w26L.getD 1 ((0, 0, 0) : Nat × Nat × Nat)) (b := ((3, 0, 1) : T3)) 9998 rfl)) rfl (leB rfl) (st' (v := (Value.bool true)) (ex_pick_true rfl rfl) rfl (mv' rfl (OkL.step (v := (Value.slice lo.q.p 1 lo.q.c)) (wt_some' rfl) (ex_move rfl) rfl (leB rfl) (OkL.step (v := (vI 1)) (wt_some' rfl) (ex_len_slice rfl Tryz.underlying69) rfl (leB rfl) ?_)))))
 refine OkL.step (v := (Value.bool true)) (wt_some' rfl) (ex_eql (c := true) rfl rfl (by decide)) rfl (leB rfl) (st' (v := (Value.bool true)) (ex_pick_true rfl rfl) rfl (mv' rfl (OkL.step (v := (Value.slice lo.q.p 1 lo.q.c)) (wt_some' rfl) (ex_move rfl) rfl (leB rfl) (OkL.step (v := (pP (pB lo.q.p) (pO lo.q.p + 0 * 1))) (wt_some' rfl) (ex_index_row (j := 0) rfl rfl lo.q.ok Tryz.underlying69 Tryz.sizeOf34 rfl (by decide)) rfl (leB rfl) (OkL.step (v := (Value.slice lo.r.p 4 lo.r.c)) (wt_some' rfl) (ex_load_rowR_one (v := (Value.slice lo.r.p 4 lo.r.c)) (i := 6) rfl rfl (lo.q.ok.ne (by decide)) tO34 rfl) rfl (leB rfl) ?_)))))
 refine OkL.step (v := (vI 4)) (wt_some' rfl) (ex_len_slice rfl Tryz.underlying34) rfl (leB rfl) (OkL.step (v := (Value.bool true)) (wt_some' rfl) (ex_eql (c := true) rfl rfl (by decide)) rfl (leB rfl) (st' (v := (Value.bool true)) (ex_pick_true rfl rfl) rfl (mv' rfl (OkL.step (v := (Value.slice lo.q.p 1 lo.q.c)) (wt_some' rfl) (ex_move rfl) rfl (leB rfl) (OkL.step (v := (pP (pB lo.q.p) (pO lo.q.p + 0 * 1))) (wt_some' rfl) (ex_index_row (j := 0) rfl rfl lo.q.ok Tryz.underlying69 Tryz.sizeOf34 rfl (by decide)) rfl (leB rfl) ?_)))))
 refine OkL.step (v := (Value.slice lo.r.p 4 lo.r.c)) (wt_some' rfl) (ex_load_rowR_one (v := (Value.slice lo.r.p 4 lo.r.c)) (i := 6) rfl rfl (lo.q.ok.ne (by decide)) tO34 rfl) rfl (leB rfl) (OkL.step (v := (pP (pB lo.r.p) (pO lo.r.p + 1 * 1))) (wt_some' rfl) (ex_index_row (j := 1) rfl rfl lo.r.ok Tryz.underlying34 Tryz.sizeOf3 rfl (by decide)) rfl (leB rfl) (OkL.step (v := (vN (([0, 1, 2, 3]).getD 1 0))) (wt_some' rfl) (ex_load_rowR_one (v := (vN (([0, 1, 2, 3]).getD 1 0))) (i := 7) rfl rfl (lo.r.ok.ne (by decide)) tO3 (inL_get (l := [0, 1, 2, 3]) (j := 1) (by decide))) rfl (leB rfl) (OkL.step (v := (Value.bool true)) (wt_some' rfl) (ex_eql (c := true) rfl rfl (by decide)) rfl (leB rfl) (st' (v := (Value.bool true)) (ex_pick_true rfl rfl) rfl (mv' rfl ?_)))))
 refine OkL.step (v := (aG (mxL mm))) (wt_some' rfl) (ex_load_agg (i := 10) (vs := mxL mm) rfl rfl tA31.a tA31.s rfl rfl) rfl (leB rfl) (OkL.call (v := (vI 1)) (wt_some' rfl) (op_call0 (args := [(aG (mxL mm))]) rfl rfl Tryz.call21) (fun w hw => (by have h9 := Euler_ok mm (by decide +kernel) (by decide) (by decide) w (inX hw [12, 11, 9] rfl hmm); rw [show eulZ l26T = 1 from by decide +kernel] at h9; exact h9)) rfl (leB rfl) (OkL.step (v := (Value.bool true)) (wt_some' rfl) (ex_eql (c := true) rfl rfl (by decide)) rfl (leB rfl) (st' (v := (Value.bool true)) (ex_pick_true rfl rfl) rfl (mv' rfl (OkL.step (v := (aG (mxL mm))) (wt_some' rfl) (ex_load_agg (i := 10) (vs := mxL mm) rfl rfl tA31.a tA31.s rfl rfl) rfl (leB rfl) ?_)))))
 refine OkL.call (v := (vI 0)) (wt_some' rfl) (op_call0 (args := [(aG (mxL mm))]) rfl rfl Tryz.call37) (fun w hw => (by have h9 := Holes_ok mm pb.l pb.n pb.pts (by decide +kernel) (by decide) (by decide) (by decide) w (inX hw [12, 11, 9] rfl hmm); rw [hpb, show (((1 : Nat) : Int) - eulZ l26T) = 0 from by decide +kernel] at h9; exact h9)) rfl (leB rfl) (OkL.step (v := (Value.bool true)) (wt_some' rfl) (ex_eql (c := true) rfl rfl (by decide)) rfl (leB rfl) (st' (v := (Value.bool true)) (ex_pick_true rfl rfl) rfl (mv' rfl (OkL.step (v := (vN pb.n)) (wt_some' rfl) (ex_move rfl) rfl (leB rfl) (OkL.step (v := (Value.bool true)) (wt_some' rfl) (ex_eql (c := true) rfl rfl (decide_eq_true (by omega))) rfl (leB rfl) ?_)))))
 refine st' (v := (Value.bool true)) (ex_pick_true rfl rfl) rfl (mv' rfl (OkL.step (v := (vN pk.n)) (wt_some' rfl) (ex_move rfl) rfl (leB rfl) (OkL.step (v := (Value.bool true)) (wt_some' rfl) (ex_eql (c := true) rfl rfl (decide_eq_true (by omega))) rfl (leB rfl) (st' (v := (Value.bool true)) (ex_pick_true rfl rfl) rfl (mv' rfl ?_)))))
 refine OkL.step (v := (aG (mxL m2))) (wt_some' rfl) (ex_load_agg (i := 3) (vs := mxL m2) rfl rfl tA31.a tA31.s rfl rfl) rfl (leB rfl) (OkL.unguard (wt_some' rfl) (OkL.callR (S := fun _ => False) (α := LnX 2) (args := [(aG (mxL m2))]) Tryz.call30 (fun w hw => loops26k m2 w (inX hw [5, 4, 2] rfl hm2)) rfl rfl rfl fun lk llk => OkL.step (v := (vI 2)) (wt_some' rfl) (ex_len_slice rfl Tryz.underlying69) rfl (leB rfl) (OkL.step (v := (Value.bool true)) (wt_some' rfl) (ex_eql (c := true) rfl rfl (by decide)) rfl (leB rfl) (st' (v := (Value.bool true)) (ex_pick_true rfl rfl) rfl ?_))))
 exact asg' rfl (OkL.nil (OkQ.subF (sL [0, 1, 4] rfl) (OkQ.then_ (OkC.ret (ret_one rfl (rd_tmp (v := (Value.bool true)) rfl) (fun w hw => ⟨rfl, hw.out⟩))))))
end
abbrev T2 := P2 × P2 × P2
def shpT (u v c : Nat) : List T2 :=
  let x := 2 * u; let y := 2 * v
  if c = 0 then [((x, y), (x + 2, y), (x + 2, y + 2)), ((x, y), (x + 2, y + 2), (x, y + 2))]
  else if c = 1 then [((x, y), (x + 2, y), (x, y + 2)), ((x + 2, y), (x + 2, y + 2), (x, y + 2))]
  else if c = 2 then [((x, y), (x + 2, y), (x + 1, y + 1)), ((x + 2, y), (x + 2, y + 2), (x + 1, y + 1)), ((x + 2, y + 2), (x, y + 2), (x + 1, y + 1)), ((x, y + 2), (x, y), (x + 1, y + 1))] else []
def clsT (way i : Nat) : Nat := if way < 3 ∨ (way = 7 ∧ i = 0) then 0 else if way < 5 then 1 else if way < 7 then 2 else 3
theorem cellT_shp (nx way i : Nat) : cellT nx way i = shpT (i % nx) (i / nx) (clsT way i) := by
  unfold cellT shpT clsT
  simp only
  split
  · rfl
  · split
    · rfl
    · split <;> rfl
theorem clsT_lt (way i : Nat) : clsT way i < 4 := by
  unfold clsT
  split
  · omega
  · split
    · omega
    · split <;> omega
def allCells : List (Nat × Nat × Nat) := [0, 1, 2].flatMap fun u => [0, 1, 2].flatMap fun v => [0, 1, 2, 3].map fun c => (u, v, c)
theorem mem_allCells {u v c : Nat} (hu : u ≤ 2) (hv : v ≤ 2) (hc : c < 4) : (u, v, c) ∈ allCells := by
  have h1 : u = 0 ∨ u = 1 ∨ u = 2 := by omega
  have h2 : v = 0 ∨ v = 1 ∨ v = 2 := by omega
  have h3 : c = 0 ∨ c = 1 ∨ c = 2 ∨ c = 3 := by omega
  rcases h1 with rfl | rfl | rfl <;> rcases h2 with rfl | rfl | rfl <;> rcases h3 with rfl | rfl | rfl | rfl <;> decide
section
def dirL (s : T2) : List (P2 × P2) := [(s.1, s.2.1), (s.2.1, s.2.2), (s.2.2, s.1)]
def okDir (s t : T2) : Bool := s == t || (dirL s).all fun e => (dirL t).all fun f => !(e == f)
def okDirAll : Bool := allCells.all fun p => allCells.all fun q => (decide (p.1 = q.1 ∧ p.2.1 = q.2.1 ∧ p.2.2 ≠ q.2.2)) || (shpT p.1 p.2.1 p.2.2).all fun s => (shpT q.1 q.2.1 q.2.2).all fun t => okDir s t
theorem okDirAll_true : okDirAll = true := by decide +kernel
theorem pair_dir {m : MQ} {s t : T2} (hs : s ∈ cellsM m) (ht : t ∈ cellsM m) : okDir s t = true := by
  obtain ⟨i, hi, h1⟩ := mem_cellsN m _ s hs
  obtain ⟨j, hj, h2⟩ := mem_cellsN m _ t ht
  have hx := nxM_le m
  have hy := nyM_le m
  have b : ∀ k, k < nxM m * nyM m → k % nxM m ≤ 2 ∧ k / nxM m ≤ 2 := fun k hk => by
    have a1 := Nat.mod_lt k (show 0 < nxM m by omega)
    have a2 : k / nxM m < nyM m := Nat.div_lt_of_lt_mul hk
    omega
  rw [cellT_shp] at h1 h2
  have h := List.all_eq_true.1 (List.all_eq_true.1 okDirAll_true _ (mem_allCells (b i hi).1 (b i hi).2 (clsT_lt (wayM m i) i))) _ (mem_allCells (b j hj).1 (b j hj).2 (clsT_lt (wayM m j) j))
  rw [Bool.or_eq_true, decide_eq_true_eq] at h
  rcases h with ⟨e1, e2, e3⟩ | h
  · exfalso
    have e : i = j := by rw [← Nat.div_add_mod i (nxM m), ← Nat.div_add_mod j (nxM m), show i % nxM m = j % nxM m from e1, show i / nxM m = j / nxM m from e2]
    subst e
    exact e3 rfl
  · exact List.all_eq_true.1 (List.all_eq_true.1 h s h1) t h2
theorem cen_in {c : T2} (h : 0 < turn2 c.1 c.2.1 c.2.2) : ∃ x y : Rat, inO c x y := by
  obtain ⟨⟨a1, a2⟩, ⟨b1, b2⟩, ⟨c1, c2⟩⟩ := c
  have h2 : (0 : Rat) < (turn2 (a1, a2) (b1, b2) (c1, c2) : Int) := by exact_mod_cast h
  have e : ((turn2 (a1, a2) (b1, b2) (c1, c2) : Int) : Rat) = ((b1 : Rat) - a1) * ((c2 : Rat) - a2) - ((b2 : Rat) - a2) * ((c1 : Rat) - a1) := by
    simp only [turn2, Rat.intCast_sub, Rat.intCast_mul, Rat.intCast_natCast]
  rw [e] at h2
  refine ⟨((a1 : Rat) + b1 + c1) / 3, ((a2 : Rat) + b2 + c2) / 3, ?_, ?_, ?_⟩ <;> simp only [lnQ] <;> grind
section
variable {ps : List Pt} {ts : List T3}
theorem dirL_at (c : T2) {k : Nat} (hk : k < 3) : (comp c k, comp c ((k + 1) % 3)) ∈ dirL c := by
  have e : k = 0 ∨ k = 1 ∨ k = 2 := by omega
  rcases e with rfl | rfl | rfl <;> simp [dirL, comp]
theorem triAt_cr {m : MQ} {pl : List P2} {n : T3} {t : Nat} (h : TriAt m pl n t) {r : Nat} (hr : r < 3) : pl.getD (crT n r) (0, 0) = cornM m t r := by
  have e : r = 0 ∨ r = 1 ∨ r = 2 := by omega
  rcases e with rfl | rfl | rfl
  · exact h.a.2
  · exact h.b.2
  · exact h.c.2
theorem dirE_inj (g : GoodM ps ts) (hn : numB ps.length ts = true) {u v : Nat} (hu : u < 3 * ts.length) (hv : v < 3 * ts.length) (h : dirE ts u = dirE ts v) : u = v := by
  obtain ⟨m, pl, hi, _, _⟩ := g.lat
  have htl := hi.tl
  have key : ∀ w, w < 3 * ts.length → (pl.getD (dirE ts w).1 (0, 0), pl.getD (dirE ts w).2 (0, 0)) ∈ dirL ((cellsM m).getD (w / 3) ((0, 0), (0, 0), (0, 0))) := fun w hw => by
    have ha := hi.at_ (w / 3) (by omega)
    have e1 := triAt_cr ha (Nat.mod_lt w (show 0 < 3 by decide))
    have e2 := triAt_cr ha (Nat.mod_lt (w % 3 + 1) (show 0 < 3 by decide))
    unfold dirE
    rw [e1, e2]
    unfold cornM
    rw [show rotM m (w / 3) ((w % 3 + 1) % 3) = (rotM m (w / 3) (w % 3) + 1) % 3 by unfold rotM; omega]
    exact dirL_at _ (by unfold rotM; exact Nat.mod_lt _ (by decide))
  have cell : ∀ w, w < 3 * ts.length → (cellsM m).getD (w / 3) ((0, 0), (0, 0), (0, 0)) ∈ cellsM m := fun w hw => by
    rw [List.getD, List.getElem?_eq_getElem (by omega)]; exact List.getElem_mem _
  have h1 := key u hu
  have h2 := key v hv
  rw [← h] at h2
  have h3 := pair_dir (cell u hu) (cell v hv)
  have h4 : u / 3 = v / 3 := by
    simp only [okDir, Bool.or_eq_true, beq_iff_eq] at h3
    rcases h3 with h3 | h3
    · by_cases e : u / 3 = v / 3
      · exact e
      · exfalso
        obtain ⟨x, y, ho⟩ := cen_in (cellsM_ok m _ (cell u hu)).1
        refine cells_sep m (show u / 3 < (cellsM m).length by omega) (show v / 3 < (cellsM m).length by omega) e ((0, 0), (0, 0), (0, 0)) x y ho ?_
        rw [← h3]
        exact ⟨by have := ho.1; grind, by have := ho.2.1; grind, by have := ho.2.2; grind⟩
    · have h5 := List.all_eq_true.1 (List.all_eq_true.1 h3 _ h1) _ h2
      simp at h5
  have hne := okT_ne (numB_at hn (show u / 3 < ts.length by omega))
  have e1 : (dirE ts u).1 = (dirE ts v).1 := by rw [h]
  unfold dirE at e1
  rw [← h4] at e1
  generalize ts.getD (u / 3) (0, 0, 0) = t at *
  have a : u % 3 = 0 ∨ u % 3 = 1 ∨ u % 3 = 2 := by omega
  have b : v % 3 = 0 ∨ v % 3 = 1 ∨ v % 3 = 2 := by omega
  have e2 : u % 3 = v % 3 := by
    rcases a with a | a | a <;> rcases b with b | b | b <;> rw [a, b] <;> rw [a, b] at e1 <;> simp [crT] at e1 <;> omega
  omega
theorem mesh_orn (g : GoodM ps ts) (hn : numB ps.length ts = true) : ornB ts (3 * ts.length) = true := by
  have key : ∀ n, n ≤ 3 * ts.length → ornB ts n = true := fun n => by
    induction n with
    | zero => intro _; rfl
    | succ n ih =>
      intro hle
      show (ornB ts n && (getM (stpN ts n) (dirE ts n)).isNone) = true
      rw [ih (by omega), Bool.true_and]
      cases hg : getM (stpN ts n) (dirE ts n) with
      | none => rfl
      | some z =>
        obtain ⟨u, h1, h2, _⟩ := stpN_some _ hg
        have := dirE_inj g hn (by omega) (by omega) h2
        omega
  exact key _ (Nat.le_refl _)
end
end
section
def alB (T : T3) (a b : Nat) : Nat → Bool
  | 0 => false
  | k + 1 => alB T a b k || (decide (crT T k = a) && decide (crT T ((k + 1) % 3) = b))
section
variable {T : T3} {a b k N i : Nat} {ts ss : List T3} {m : MQ} {x : Bool}
theorem al_t (h : x = alB T a b k) (hx : x = true) : true = alB T a b (k + 1) := by show true = (alB T a b k || _); rw [← h, hx]; rfl
theorem al_f1 (h : x = alB T a b k) (hx : x = false) (h1 : ¬ crT T k = a) : false = alB T a b (k + 1) := by show false = (alB T a b k || (decide _ && _)); rw [← h, hx, decide_eq_false h1]; rfl
theorem al_f2 (h : x = alB T a b k) (hx : x = false) (h1 : crT T k = a) : decide (crT T ((k + 1) % 3) = b) = alB T a b (k + 1) := by show _ = (alB T a b k || (decide _ && _)); rw [← h, hx, decide_eq_true h1]; rfl
theorem al_iff : ∀ k, alB T a b k = true ↔ ∃ r, r < k ∧ crT T r = a ∧ crT T ((r + 1) % 3) = b
  | 0 => ⟨fun h => (by cases h), fun ⟨r, h, _⟩ => absurd h (Nat.not_lt_zero _)⟩
  | k + 1 => by
    show (alB T a b k || (decide _ && decide _)) = true ↔ _
    rw [Bool.or_eq_true, Bool.and_eq_true, decide_eq_true_eq, decide_eq_true_eq, al_iff k]
    constructor
    · rintro (⟨r, h1, h2⟩ | h)
      · exact ⟨r, by omega, h2⟩
      · exact ⟨k, by omega, h⟩
    · rintro ⟨r, h1, h2⟩
      rcases Nat.lt_or_ge r k with h3 | h3
      · exact .inl ⟨r, h3, h2⟩
      · exact .inr (by rw [show k = r by omega]; exact h2)
theorem al_dir {t : Nat} (ht : t < ts.length) : alB (ts.getD t (0, 0, 0)) a b 3 = true ↔ ∃ u, u < 3 * ts.length ∧ u / 3 = t ∧ dirE ts u = (a, b) := by
  rw [al_iff]
  constructor
  · rintro ⟨r, hr, h1, h2⟩
    exact ⟨3 * t + r, by omega, by omega, by rw [dirE_at hr, h1, h2]⟩
  · rintro ⟨u, hu, rfl, h⟩
    refine ⟨u % 3, Nat.mod_lt _ (by decide), ?_⟩
    unfold dirE at h
    injection h with h1 h2
    exact ⟨h1, h2⟩
theorem way_len (hn : numB N ts = true) (hN : N ≤ 4611686018427387904) (hs : ss = sidesW m ts N N) : (wayL ts).length = ss.length := by
  rw [wayL_len, hs, sides_rim hn hN, List.length_map]
theorem way_side (hn : numB N ts = true) (hN : N ≤ 4611686018427387904) (hs : ss = sidesW m ts N N) (hi : i < (wayL ts).length) : min ((wayL ts).getD i (0, 0, 0)).1 ((wayL ts).getD i (0, 0, 0)).2.1 = (ss.getD i (0, 0, 0)).1 ∧ max ((wayL ts).getD i (0, 0, 0)).1 ((wayL ts).getD i (0, 0, 0)).2.1 = (ss.getD i (0, 0, 0)).2.1 := by
  have hr : i < (rimL ts).length := by rw [← wayL_len]; exact hi
  have e1 : (wayL ts).getD i (0, 0, 0) = wayE (mdS ts) (rimL ts)[i] := by
    rw [List.getD, List.getElem?_eq_getElem hi]; simp [wayL]
  have e2 : ss.getD i (0, 0, 0) = sidW m (rimL ts)[i].1 (rimL ts)[i].2.1 := by
    rw [hs, sides_rim hn hN, List.getD, List.getElem?_eq_getElem (by rw [List.length_map]; exact hr)]; simp
  have hm := (mem_rimL hn hN).1 (List.getElem_mem hr)
  have hk := key_ends hn hN (List.count_pos_iff.1 (by rw [hm.1]; decide))
  rw [e1, e2]
  show _ = (rimL ts)[i].1 ∧ _ = (rimL ts)[i].2.1
  unfold wayE
  split <;> simp only <;> omega
theorem way_val (hi : i < (wayL ts).length) : ((wayL ts).getD i (0, 0, 0)).2.2 = (getM (mdS ts) (((wayL ts).getD i (0, 0, 0)).1, ((wayL ts).getD i (0, 0, 0)).2.1)).getD 0 := by
  have hr : i < (rimL ts).length := by rw [← wayL_len]; exact hi
  have e1 : (wayL ts).getD i (0, 0, 0) = wayE (mdS ts) (rimL ts)[i] := by
    rw [List.getD, List.getElem?_eq_getElem hi]; simp [wayL]
  rw [e1]
  cases hg : getM (mdS ts) ((rimL ts)[i].1, (rimL ts)[i].2.1) with
  | some t =>
    have e : wayE (mdS ts) (rimL ts)[i] = ((rimL ts)[i].1, (rimL ts)[i].2.1, t) := by unfold wayE; rw [hg]
    rw [e]; simp only; rw [hg]; rfl
  | none =>
    have e : wayE (mdS ts) (rimL ts)[i] = ((rimL ts)[i].2.1, (rimL ts)[i].1, (getM (mdS ts) ((rimL ts)[i].2.1, (rimL ts)[i].1)).getD 0) := by unfold wayE; rw [hg]
    rw [e]
theorem way_tri (hn : numB N ts = true) (hN : N ≤ 4611686018427387904) (ho : ornB ts (3 * ts.length) = true) (hi : i < (wayL ts).length) : ((wayL ts).getD i (0, 0, 0)).2.2 < ts.length := by
  rw [way_val hi]
  exact (stepQ hn ho (way_at hn hN hi rfl).1).1
theorem way_along (hn : numB N ts = true) (hN : N ≤ 4611686018427387904) (ho : ornB ts (3 * ts.length) = true) (hi : i < (wayL ts).length) {t : Nat} (ht : t < ts.length) : alB (ts.getD t (0, 0, 0)) ((wayL ts).getD i (0, 0, 0)).1 ((wayL ts).getD i (0, 0, 0)).2.1 3 = decide (t = ((wayL ts).getD i (0, 0, 0)).2.2) := by
  rw [Bool.eq_iff_iff, al_dir ht, decide_eq_true_eq, way_val hi]
  constructor
  · rintro ⟨u, h1, rfl, h2⟩
    rw [← h2, stpN_get ho h1]; rfl
  · intro h
    obtain ⟨u, h1, h2⟩ := isS_iff.1 (way_at hn hN hi rfl).1
    refine ⟨u, h1, ?_, h2⟩
    rw [h, ← h2, stpN_get ho h1]; rfl
theorem way_back (hn : numB N ts = true) (hN : N ≤ 4611686018427387904) (hi : i < (wayL ts).length) {t : Nat} (ht : t < ts.length) : alB (ts.getD t (0, 0, 0)) ((wayL ts).getD i (0, 0, 0)).2.1 ((wayL ts).getD i (0, 0, 0)).1 3 = false := by
  rw [← Bool.not_eq_true]
  intro h
  obtain ⟨u, h1, _, h2⟩ := (al_dir ht).1 h
  exact (way_at hn hN hi rfl).2 (isS_iff.2 ⟨u, h1, h2⟩)
theorem dup_orn {k : Nat} (hk : k < ts.length) : ornB (ts ++ [ts.getD k (0, 0, 0)]) (3 * (ts ++ [ts.getD k (0, 0, 0)]).length) = false := by
  rw [← Bool.not_eq_true]
  intro h
  have hl : (ts ++ [ts.getD k (0, 0, 0)]).length = ts.length + 1 := by simp
  have e1 : (ts ++ [ts.getD k (0, 0, 0)]).getD k (0, 0, 0) = ts.getD k (0, 0, 0) := by simp [List.getD, List.getElem?_append_left hk]
  have e2 : (ts ++ [ts.getD k (0, 0, 0)]).getD ts.length (0, 0, 0) = ts.getD k (0, 0, 0) := by simp [List.getD]
  have := dirE_once h (u := 3 * k + 0) (v := 3 * ts.length + 0) (by rw [hl]; omega) (by rw [hl]; omega) (by rw [dirE_at (by decide), dirE_at (by decide), e1, e2])
  omega
end
section
variable {P : Program} {Q : Exit → Act → World → Prop} {n : Nat} {F : List (Nat × Value)} {w0 : Base} {L A : List As} {c : Code}
theorem OkC.thaw {p : Option Addr} {T z m cp : Nat} {cs : List Value} (hs : (A ++ [rowF p T z m cp cs]).Sublist L) (hnew : ∀ b, p.map (·.block) = some b → w0.w.heap.size ≤ b) (hap : ∀ y ∈ A, y.ro = false ∨ ∀ b, p.map (·.block) = some b → y.foot ≠ some b) (next : OkC P c Q n F w0 (A ++ [rowW p T z m cp cs])) : OkC P c Q n F w0 L := fun a w ha hW => by
  refine next a w ha ?_
  obtain ⟨h1, h2, h3⟩ := hW.weak hs
  obtain ⟨p1, p2, p3⟩ := List.pairwise_append.1 h3
  refine ⟨h1, fun x hx b e => ?_, List.pairwise_append.2 ⟨p1, List.pairwise_singleton _ _, fun x hx y hy => ?_⟩⟩
  · rcases List.mem_append.1 hx with hx | hx
    · exact h2 x (List.mem_append_left _ hx) b e
    · rw [List.mem_singleton] at hx
      subst hx
      obtain ⟨_, o, ho, hp⟩ := h2 (rowF p T z m cp cs) (List.mem_append_right _ (List.mem_singleton.2 rfl)) b e
      exact ⟨.inr (.inl (hnew b e)), o, ho, hp⟩
  · rw [List.mem_singleton] at hy
    subst hy
    refine .inr fun b e1 e2 => ?_
    rcases hap x hx with h | h
    · rcases p3 x hx (rowF p T z m cp cs) (List.mem_singleton.2 rfl) with k | k
      · rw [h] at k; cases k.1
      · exact k b e1 e2
    · exact h b e2 e1
end
theorem At.mgx {m : MQ} {w0 : Base} {S : Nat → Prop} {y : MGF m} (h : At w0 (fun _ => False) y) : At w0 S y.f.g.mx := fun z hz b e => by
  have hz : z ∈ [y.f.g.a.row, y.f.g.b.row, y.f.g.c.row] := hz
  have h1 := h z (by
    show z ∈ [y.f.g.a.row, y.f.g.b.row, y.f.g.c.row, mgfR y]
    simp only [List.mem_cons, List.not_mem_nil, or_false] at hz ⊢
    rcases hz with rfl | rfl | rfl <;> simp) b e
  exact h1.imp id fun k => k.elim
theorem At.mgf {m : MQ} {w0 : Base} {y : MGF m} (h : At w0 (fun _ => False) y) : ∀ b, y.f.g.b.p.map (·.block) = some b → w0.w.heap.size ≤ b := fun b e => (h (mgfR y) (by
  show mgfR y ∈ [y.f.g.a.row, y.f.g.b.row, y.f.g.c.row, mgfR y]
  simp) b e).elim id fun k => k.elim
theorem At.mxa {w0 : Base} {S : Nat → Prop} {ps : List Pt} {ts ss : List T3} {x : MX ps ts ss} (h : At w0 S x) : At w0 S x.a := fun z hz => h z (by rcases List.mem_singleton.1 hz with rfl; exact List.mem_cons_self)
theorem At.mxc {w0 : Base} {S : Nat → Prop} {ps : List Pt} {ts ss : List T3} {x : MX ps ts ss} (h : At w0 S x) : At w0 S x.c := fun z hz => h z (by rcases List.mem_singleton.1 hz with rfl; exact List.mem_cons_of_mem _ (List.mem_cons_of_mem _ List.mem_cons_self))
theorem roMX {S : Nat → Prop} {w : World} {ps : List Pt} {ts ss : List T3} {a : RX (rowsL ptL ps) ps.length} {b : RX (rowsL t3L ts) ts.length} {c : RX (rowsL t3L ss) ss.length} (h1 : Ro S w a) (h2 : Ro S w b) (h3 : Ro S w c) : Ro S w (⟨a, b, c⟩ : MX ps ts ss) := fun y hy => by
  have hy : y ∈ [a.row, b.row, c.row] := hy
  simp only [List.mem_cons, List.not_mem_nil, or_false] at hy
  rcases hy with rfl | rfl | rfl
  · exact h1 _ List.mem_cons_self
  · exact h2 _ List.mem_cons_self
  · exact h3 _ List.mem_cons_self
end
end Go.Proofs.YtgiacpkjnikjdaaGreat
