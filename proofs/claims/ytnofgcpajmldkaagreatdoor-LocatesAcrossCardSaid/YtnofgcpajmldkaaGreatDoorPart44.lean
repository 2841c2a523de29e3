import Derived.Test.YtnofgcpajmldkaaGreatDoorPart05
import Derived.Test.YtnofgcpajmldkaaGreatDoorPart27
import Derived.Test.YtnofgcpajmldkaaGreatDoorPart34
import Derived.Test.YtnofgcpajmldkaaGreatDoorPart37
import Derived.Test.YtnofgcpajmldkaaGreatDoorPart40
import Derived.Test.YtnofgcpajmldkaaGreatDoorPart41
import Derived.Test.YtnofgcpajmldkaaGreatDoorPart42
import Derived.Test.YtnofgcpajmldkaaGreatDoorPart43
namespace Go.Proofs.YtnofgcpajmldkaaGreatDoor
open Go Go.RowKit
set_option linter.unusedVariables false
set_option linter.unusedSimpArgs false
section
set_option maxRecDepth 100000
theorem lz_int_0 (w : World) : Calls Tryz.prog 11 #[(vI 0)] w (Gives w (aG (fracL (0 : Rat)))) := by
 have h := fInt_ok (0 : Int) (by decide) (by decide) w
 rw [show ((0 : Int) : Rat) = (0 : Rat) from rfl] at h
 exact h
theorem tE22 : ElemT Tryz.prog 22 5 1 1 := ⟨Tryz.underlying22, elemT_of (by kernel_rfl)⟩
set_option maxHeartbeats 1000000 in
theorem LocatesAcross1_ok (m : MQ) (l0 l1 : PD) (k0 : l0.ok) (k1 : l1.ok) (h : ¬ ptOf l0 = ptOf l1) (w : World) {S : Nat → Prop} (hm : Ro S w m) : Calls Tryz.prog 3 #[(aG (mqL m)), (aG (pdL l0 ++ pdL l1))] w (Gives w (Value.bool true)) := by
 obtain ⟨a, ha⟩ : ∃ q, q = ptOf l0 := ⟨_, rfl⟩
 have sa : SzP a ≤ 4 := by rw [ha]; exact SzP_ptOf k0
 obtain ⟨b, hb⟩ : ∃ q, q = ptOf l1 := ⟨_, rfl⟩
 have sb : SzP b ≤ 4 := by rw [hb]; exact SzP_ptOf k1
 have hab : ¬ a = b := by rw [ha, hb]; exact h
 have lm := atA (W := w) hm
 refine calls_ofR (args := [(aG (mqL m)), (aG (pdL l0 ++ pdL l1))]) (L := [rowR m.p (bytL m.cs)]) Tryz.func3 rfl rfl (leB rfl) (sxA hm roL_nil) (OkC.subF (sL [0, 1] rfl) (q4 (bx' (cs := mqL m) rfl fun b1 => bx' (cs := pdL l0 ++ pdL l1) rfl fun b2 => asg' rfl ?_)))
 refine q3 (sL [2, 3, 4] rfl) (asg' rfl (OkL.nilRow 5 1 (OkL.nil (q1 (q4 ?_)))))
 refine asg' rfl (OkL.nil (OkQ.then_ (OkC.block ?_)))
 refine OkC.lp4 (tg fun (i : Nat) (p1 : Option Addr) (c1 : Nat) (xs : List Nat) => i ≤ m.cs.length ∧ OwnOk p1 xs.length c1 ∧ xs = m7 m i ∧ i ≤ 16) (tg fun (i : Nat) (p1 : Option Addr) (c1 : Nat) (xs : List Nat) => [(2, (pP b1 0)), (3, (pP b2 0)), (4, (Value.bool false)), (6, (vN i)), (5, (Value.slice p1 xs.length c1))]) (tg fun (i : Nat) (p1 : Option Addr) (c1 : Nat) (xs : List Nat) => [rowW p1 5 1 xs.length c1 (bytL xs), blk b2 32 (pdL l0 ++ pdL l1), blk b1 26 (mqL m), rowR m.p (bytL m.cs)]) (tg fun (i : Nat) (p1 : Option Addr) (c1 : Nat) (xs : List Nat) => m.cs.length - i) 0 none 0 ([] : List Nat) (⟨Nat.zero_le _, OwnOk.none, rfl, by decide⟩) (sF rfl) sr (fun i p1 c1 xs hJ => ?_)
 obtain ⟨hi, ho, hxs, hi16⟩ := hJ
 have hxl : xs.length ≤ 16 := by rw [hxs]; unfold m7; rw [List.length_map, List.length_take]; omega
 refine OkC.seq (q4 (mv' rfl (st' (v := (pP b1 2)) (ex_fieldAddr rfl Tryz.underlying26 rfl Tryz.sizeOf22 rfl) rfl (ldO' 2 (Value.slice m.p m.cs.length m.cap) tO22 rfl (st' (v := (vN m.cs.length)) (ex_len_slice rfl Tryz.underlying22) rfl ?_)))))
 refine st' (ex_lss (c := (decide (i < m.cs.length))) rfl rfl (ltN (a := i) (b := m.cs.length))) rfl (mv' rfl ?_)
 refine OkL.mid (FM := [(2, (pP b1 0)), (3, (pP b2 0)), (4, (Value.bool false)), (6, (vN i)), (5, (Value.slice p1 xs.length c1)), (20, (vN i)), (21, (pP b1 2)), (22, (Value.slice m.p m.cs.length m.cap)), (23, (vN m.cs.length)), (24, (Value.bool (decide (i < m.cs.length)))), (25, (Value.bool (decide (i < m.cs.length)))), (28, (Value.bool ((decide (i < m.cs.length)) && (decide (i < 16)))))]) (LM := [rowW p1 5 1 xs.length c1 (bytL xs), blk b2 32 (pdL l0 ++ pdL l1), blk b1 26 (mqL m), rowR m.p (bytL m.cs)]) 3 ?_ ?_
 ·rcases Bool.eq_false_or_eq_true (decide (i < m.cs.length)) with hg1 | hg1
  ·skip
   refine OkL.retell (k := 25) (u := Value.bool true) rfl (by rw [hg1]) ?_
   have hg1' := hg1
   replace hg1' := of_decide_eq_true hg1'
   exact OkL.step (v := (vN i)) (wt_some' rfl) (ex_move rfl) rfl (leB rfl) (OkL.step (v := (Value.bool (decide (i < 16)))) (wt_some' rfl) (ex_lss (c := (decide (i < 16))) rfl rfl (ltN (a := i) (b := 16))) rfl (leB rfl) (st' (v := (Value.bool (decide (i < 16)))) (ex_pick_true rfl rfl) rfl (OkL.nil (OkQ.mid (sS rfl (sS rfl (sS rfl (sS rfl (sS rfl (sS rfl (sS rfl (sS rfl (sS rfl (sS rfl (sS (by first | rfl | (rw [hg1]; rfl) | rw [hg1]) (sS (by first | rfl | (rw [hg1]; rfl) | rw [hg1]) (sN))))))))))))) (List.Sublist.refl _)))))
  ·skip
   refine OkL.retell (k := 25) (u := Value.bool false) rfl (by rw [hg1]) ?_
   have hg1' := hg1
   replace hg1' := of_decide_eq_false hg1'
   exact OkL.skip (wt_not' rfl) rfl (leB rfl) (OkL.skip (wt_not' rfl) rfl (leB rfl) (st' (v := (Value.bool false)) (ex_pick_false rfl rfl) rfl (OkL.nil (OkQ.mid (sS rfl (sS rfl (sS rfl (sS rfl (sS rfl (sS rfl (sS rfl (sS rfl (sS rfl (sS rfl (sS (by first | rfl | (rw [hg1]; rfl) | rw [hg1]) (sS (by first | rfl | (rw [hg1]; rfl) | rw [hg1]) (sN))))))))))))) (List.Sublist.refl _)))))
 refine OkL.nil (OkQ.subF (sL [2, 3, 4, 6, 5, 28] rfl) (OkQ.then_ ?_))
 refine OkC.cond rfl (fun hc0 => ?_) (fun hc0 => ?_)
 ·simp only [Bool.and_eq_true, Bool.or_eq_true, Bool.and_eq_false_iff, Bool.or_eq_false_iff, Bool.not_eq_true', Bool.not_eq_false', decide_eq_true_eq, decide_eq_false_iff_not] at hc0
  refine OkC.skip (q1 (OkC.block (OkC.region (mv' rfl (st' (v := (pP b1 2)) (ex_fieldAddr rfl Tryz.underlying26 rfl Tryz.sizeOf22 rfl) rfl ?_)))))
  refine ldO' 2 (Value.slice m.p m.cs.length m.cap) tO22 rfl (mv' rfl (st' (v := (pP (pB m.p) (pO m.p + i * 1))) (ex_index_row (j := i) rfl rfl m.ok Tryz.underlying22 Tryz.sizeOf5 rfl (by omega)) rfl (st' (ex_load_rowR_one (v := (vK .u8 (m.cs.getD i 0))) (i := 3) rfl rfl (m.ok.ne (by omega)) tO5 (bytL_get (by omega))) rfl (st' (ex_rem (c := (((m.cs.getD i 0) % 7 : Nat) : Int)) rfl rfl (by omega) (remN (a := m.cs.getD i 0) (b := 7))) rfl (OkL.openV (V := fun b3 => (Value.slice (some ⟨b3, 0, none⟩) 1 1)) (T := 5) (cs := u8s ([(m.cs.getD i 0) % 7])) (wt_none rfl) (op_buildSlice (cs := u8s ([(m.cs.getD i 0) % 7])) (pv := [(0, (vK .u8 ((m.cs.getD i 0) % 7)))]) Tryz.underlying22 Tryz.sizeOf5 Tryz.zeroValue5 (by decide) (by decide) rfl (by kernel_rfl)) rfl (leB rfl) fun b3 => ?_)))))
  refine OkL.append1 (j := 0) (cs2 := bytL (xs ++ [(m.cs.getD i 0) % 7])) tE22 rfl ho bytL_len rfl rfl rfl rfl (by decide) (mxl (by omega)) (by omega) (by simp [bytL, u8s]) rfl fun p_1 c_1 ho_1 hne_1 => asg' rfl (OkL.nil (OkQ.subF (sL [2, 3, 4, 6, 5] rfl) (OkQ.in_normal (OkQ.then_ ?_))))
  refine OkC.region (mv' rfl (st' (ex_add (c := ((i + 1 : Nat) : Int)) rfl rfl (addN_i64 (a := i) (b := 1) (by omega))) rfl (asg' rfl (OkL.nil (OkQ.subF (sL [2, 3, 4, 6, 5] rfl) ?_)))))
  rw [show xs.length + 1 = (xs ++ [(m.cs.getD i 0) % 7]).length by simp]
  exact OkQ.round4 (i + 1) p_1 c_1 (xs ++ [(m.cs.getD i 0) % 7]) (⟨by omega, (by simpa using ho_1), by rw [hxs]; exact (m7_succ (m := m) (k := i) (by omega)).symm, by omega⟩) (by omega) (sF rfl) (sl sr)
 ·simp only [Bool.and_eq_true, Bool.or_eq_true, Bool.and_eq_false_iff, Bool.or_eq_false_iff, Bool.not_eq_true', Bool.not_eq_false', decide_eq_true_eq, decide_eq_false_iff_not] at hc0
  refine OkC.exit (OkQ.then_exit (OkQ.round4_exit (OkQ.in_exit (q2 ?_))))
  have hx7 : ∀ x ∈ xs, x < 7 := fun x hx => by rw [hxs] at hx; exact m7_lt hx
  refine mv' rfl (OkL.frzRow 0 rfl ho bytL_len rfl rfl fun hn_CL => st' (v := (pP b1 2)) (ex_fieldAddr rfl Tryz.underlying26 rfl Tryz.sizeOf22 rfl) rfl (stX 2 (off := 2) (vs := [(Value.slice p1 xs.length c1)]) (cs' := [(vK .u8 m.nx), (vK .u8 m.ny), (Value.slice p1 xs.length c1), (Value.int .i8 m.a), (Value.int .i8 m.b), (Value.int .i8 m.c), (Value.int .i8 m.d), (vK .u8 m.den), (vK .u8 m.fst)]) (wt_none rfl) rfl Tryz.sizeOf22 rfl (q3 (sL [2, 3, 4, 6, 5] rfl) (ldW' 2 tA26 rfl ?_))))
  refine OkL.retell (k := 42) (u := (aG (mqL (m.set7 p1 c1 xs hx7 ho.row)))) rfl (by rfl) ?_
  refine OkL.callR (S := S) (α := MF (m.set7 p1 c1 xs hx7 ho.row)) (args := [(aG (mqL (m.set7 p1 c1 xs hx7 ho.row)))]) Tryz.call4 (fun w hw => mMeshF_ok (m.set7 p1 c1 xs hx7 ho.row) w (inX (S := S) hw [0] rfl (fun y hy => At.new (a := (⟨p1, c1, ho.row⟩ : RX (bytL xs) xs.length)) hn_CL y hy))) rfl rfl rfl ?_; intro ⟨g, hlat⟩ lg
  have hG := g.good
  have hnb : numB g.ps.length g.ts = true := numB_good hG
  have htl := hG.tl
  have hpl := hG.pl
  have hel : (edL g.ts).length ≤ 3 * g.ts.length := by rw [edL_len]; exact edS_len _
  have hz : ∀ i, SzP (cor g.ps i) ≤ 4 := hG.sz
  have hz1k : ∀ i, SzP (cor g.ps i) ≤ 1000 := fun i => Nat.le_trans (hz i) (by decide)
  have hne : ∀ j, j < g.ts.length → turnP (cor g.ps (g.ts.getD j (0, 0, 0)).1) (cor g.ps (g.ts.getD j (0, 0, 0)).2.1) (cor g.ps (g.ts.getD j (0, 0, 0)).2.2) ≠ 0 := fun j hj => pos_ne (hG.tri j hj).pos
  have hN : nB g.ps.length g.ts = g.ts.length := if_pos hnb
  obtain ⟨s1, hs1⟩ : ∃ s, s = rayS g.ps g.ts a b (nB g.ps.length g.ts) := ⟨_, rfl⟩
  have hn1 : s1 = rayS g.ps g.ts a b g.ts.length := by rw [hs1, hN]
  have hl1 : s1.length ≤ 36 := by rw [hn1]; show (srtP _).length ≤ 36; rw [srtP_len]; have y1 := rayL_len (ps := g.ps) (ts := g.ts) (a := a) (b := b) g.ts.length; omega
  obtain ⟨⟨ta, wa⟩, hfa⟩ : ∃ z, z = findB g.ps g.ts a := ⟨_, rfl⟩
  replace hfa := hfa.symm
  obtain ⟨⟨tb, wb⟩, hfb⟩ : ∃ z, z = findB g.ps g.ts b := ⟨_, rfl⟩
  replace hfb := hfb.symm
  refine al tZ37 rfl fun b3 => stW0' rfl Tryz.sizeOf37 rfl (q3 (sL [2, 3, 4, 6, 5, 7] rfl) (st' (v := (pP b2 0)) (ex_indexAddr_array (j := 0) rfl rfl Tryz.underlying32 Tryz.sizeOf31 rfl (by decide) rfl) rfl (ldA' 5 (pdL l0) tA31 rfl (cl' (args := [(aG (pdL l0))]) (v := (aG (ptL a))) Tryz.call5 (fun w hw => (by rw [ha]; exact POf_ok l0 k0 w)) rfl ?_))))
  refine al tZ49 rfl fun b4 => stW0' rfl Tryz.sizeOf49 rfl (q3 (sL [2, 3, 4, 6, 5, 7, 8] rfl) (st' (v := (pP b2 4)) (ex_indexAddr_array (j := 1) rfl rfl Tryz.underlying32 Tryz.sizeOf31 rfl (by decide) rfl) rfl (ldA' 6 (pdL l1) tA31 rfl (cl' (args := [(aG (pdL l1))]) (v := (aG (ptL b))) Tryz.call5 (fun w hw => (by rw [hb]; exact POf_ok l1 k1 w)) rfl ?_))))
  refine al tZ49 rfl fun b5 => stW0' rfl Tryz.sizeOf49 rfl (q3 (sL [2, 3, 4, 6, 5, 7, 8, 9] rfl) (ldW' 2 tA37 rfl (ldW' 1 tA49 rfl (ldW' 0 tA49 rfl ?_))))
  refine OkL.callR (S := S) (α := RX (rowsL pcL s1) s1.length) (args := [(aG (mxL g.mx)), (aG (ptL a)), (aG (ptL b))]) Tryz.call6 (fun w hw => (by rw [hs1]; exact Ray_ok g.mx (by omega) a b hz (by omega) (by omega) hab hne w (inS hw 3 rfl lg : Ro _ w g.mx))) rfl rfl rfl fun r1 lr1 => asg' rfl (q3 (sL [2, 3, 4, 6, 5, 7, 8, 9, 10] rfl) (ldW' 3 tA37 rfl (cX (S := S) (cs := rowsL e4L (edL g.ts)) (k := (edL g.ts).length) (args := [(aG (mxL g.mx))]) Tryz.call7 (fun w hw => Edges_ok g.mx (by omega) (by omega) hnb w (inS hw 4 rfl lg : Ro _ w g.mx)) rfl rfl rfl fun o lo => asg' rfl ?_)))
  refine q6 (sL [2, 3, 4, 6, 5, 7, 8, 9, 10, 11] rfl) (q4 (asg' rfl (OkL.nil (OkQ.then_ (OkC.block ?_)))))
  refine OkC.lp1 (tg fun (i : Nat) => i ≤ (edL g.ts).length ∧ ∀ k, k < i → cutQ a b (cor g.ps ((edL g.ts).getD k (⟨0, 0, 0, 0⟩ : E4)).a) (cor g.ps ((edL g.ts).getD k (⟨0, 0, 0, 0⟩ : E4)).b) ≠ 2) (tg fun (i : Nat) => [(7, (pP b3 0)), (8, (pP b4 0)), (9, (pP b5 0)), (10, (Value.slice r1.p s1.length r1.c)), (11, (Value.slice o.p ((edL g.ts).length) o.c)), (12, (vN i))]) (tg fun (i : Nat) => [rowR o.p (rowsL e4L (edL g.ts)), rowR r1.p (rowsL pcL s1), blk b5 49 (ptL b), blk b4 49 (ptL a), blk b3 37 (mxL g.mx), rowR g.mx.a.p (rowsL ptL g.ps), rowR g.mx.b.p (rowsL t3L g.ts), rowR g.mx.c.p (rowsL t3L g.ss), rowR p1 (bytL xs), blk b2 32 (pdL l0 ++ pdL l1), blk b1 26 ([(vK .u8 m.nx), (vK .u8 m.ny), (Value.slice p1 xs.length c1), (Value.int .i8 m.a), (Value.int .i8 m.b), (Value.int .i8 m.c), (Value.int .i8 m.d), (vK .u8 m.den), (vK .u8 m.fst)]), rowR m.p (bytL m.cs)]) (tg fun (i : Nat) => (edL g.ts).length - i) 0 (⟨Nat.zero_le _, fun k hk => absurd hk (Nat.not_lt_zero _)⟩) (sF rfl) sr (fun i hJ => ?_)
  obtain ⟨hi1, hcq⟩ := hJ
  refine OkC.seq (q4 (mv' rfl (mv' rfl (st' (v := (vN ((edL g.ts).length))) (ex_len_slice rfl Tryz.underlying53) rfl (st' (ex_lss (c := (decide (i < ((edL g.ts).length)))) rfl rfl (ltN (a := i) (b := (edL g.ts).length))) rfl ?_)))))
  refine OkL.nil (OkQ.subF (sL [7, 8, 9, 10, 11, 12, 59] rfl) (OkQ.then_ ?_))
  refine OkC.cond rfl (fun hc1 => ?_) (fun hc1 => ?_)
  ·replace hc1 := of_decide_eq_true hc1
   have hmem : ((edL g.ts).getD i (⟨0, 0, 0, 0⟩ : E4)) ∈ edL g.ts := by rw [List.getD, List.getElem?_eq_getElem hc1]; exact List.getElem_mem hc1
   obtain ⟨hea, heb, _⟩ := edge_lt hG hmem
   refine OkC.skip (q1 (OkC.block (OkC.seq (rN [(0, true), (1, true), (2, true), (3, true), (4, true), (5, true), (6, true), (7, true), (8, true), (9, true), (10, true), (11, true), (12, true), (13, true), (14, true), (15, true), (16, true), (17, true), (18, true), (19, true), (20, false), (21, true), (22, true), (23, true)] [⟨24, 14, 49, ptL (⟨0, 0⟩ : Pt)⟩] [(25, true), (26, false)] sr (by kernel_rfl) (fun _ _ d _ _ h => by cases d <;> exact h) (newC rfl rfl tZ49 rfl (newN)) rfl (uW' 3 tA49 rfl ?_)))))
   refine uW' 2 tA49 rfl (uE' (v := (pP b3 0)) rfl (ex_fieldAddr rfl Tryz.underlying37 rfl Tryz.sizeOf33 rfl) rfl (uO'' 4 (Value.slice g.mx.a.p g.ps.length g.mx.a.c) tO33 rfl (uM' rfl (uM' rfl (uE' (v := (pP (pB o.p) (pO o.p + i * 4))) rfl (ex_index_row (j := i) rfl rfl o.ok Tryz.underlying53 Tryz.sizeOf58 rfl (by omega)) rfl ?_)))))
   refine uE' (v := (pP (pB o.p) (pO o.p + (i * 4 + 0)))) rfl (ex_fieldAddr rfl Tryz.underlying58 rfl Tryz.sizeOf3 (Nat.add_assoc _ _ _)) rfl (uE' rfl (ex_load_rowR_one (v := (vN (((edL g.ts).getD i (⟨0, 0, 0, 0⟩ : E4)).a))) (i := 0) rfl rfl (RowOk.ne o.ok (by omega)) tO3 (rowsL_at e4L_len (⟨0, 0, 0, 0⟩ : E4) _ _ 0 (by omega) (by decide) rfl)) rfl (uE' (v := (pP (pB g.mx.a.p) (pO g.mx.a.p + (((edL g.ts).getD i (⟨0, 0, 0, 0⟩ : E4)).a) * 10))) rfl (ex_index_row (j := ((edL g.ts).getD i (⟨0, 0, 0, 0⟩ : E4)).a) rfl rfl g.mx.a.ok Tryz.underlying33 Tryz.sizeOf49 rfl (by omega)) rfl (uE' (v := (aG (ptL (g.ps.getD (((edL g.ts).getD i (⟨0, 0, 0, 0⟩ : E4)).a) (⟨0, 0⟩ : Pt))))) rfl (ex_load_rowR_agg (vs := ptL (g.ps.getD (((edL g.ts).getD i (⟨0, 0, 0, 0⟩ : E4)).a) (⟨0, 0⟩ : Pt))) (i := 5) rfl rfl (RowOk.ne g.mx.a.ok (by omega)) tA49 (rowsL_get ptL_len _ _ _ (by omega)) (ptL_len _)) rfl (uE' (v := (pP b3 0)) rfl (ex_fieldAddr rfl Tryz.underlying37 rfl Tryz.sizeOf33 rfl) rfl (uO'' 4 (Value.slice g.mx.a.p g.ps.length g.mx.a.c) tO33 rfl ?_)))))
   refine uM' rfl (uM' rfl (uE' (v := (pP (pB o.p) (pO o.p + i * 4))) rfl (ex_index_row (j := i) rfl rfl o.ok Tryz.underlying53 Tryz.sizeOf58 rfl (by omega)) rfl (uE' (v := (pP (pB o.p) (pO o.p + (i * 4 + 1)))) rfl (ex_fieldAddr rfl Tryz.underlying58 rfl Tryz.sizeOf3 (Nat.add_assoc _ _ _)) rfl (uE' rfl (ex_load_rowR_one (v := (vN (((edL g.ts).getD i (⟨0, 0, 0, 0⟩ : E4)).b))) (i := 0) rfl rfl (RowOk.ne o.ok (by omega)) tO3 (rowsL_at e4L_len (⟨0, 0, 0, 0⟩ : E4) _ _ 1 (by omega) (by decide) rfl)) rfl (uE' (v := (pP (pB g.mx.a.p) (pO g.mx.a.p + (((edL g.ts).getD i (⟨0, 0, 0, 0⟩ : E4)).b) * 10))) rfl (ex_index_row (j := ((edL g.ts).getD i (⟨0, 0, 0, 0⟩ : E4)).b) rfl rfl g.mx.a.ok Tryz.underlying33 Tryz.sizeOf49 rfl (by omega)) rfl ?_)))))
   refine uE' (v := (aG (ptL (g.ps.getD (((edL g.ts).getD i (⟨0, 0, 0, 0⟩ : E4)).b) (⟨0, 0⟩ : Pt))))) rfl (ex_load_rowR_agg (vs := ptL (g.ps.getD (((edL g.ts).getD i (⟨0, 0, 0, 0⟩ : E4)).b) (⟨0, 0⟩ : Pt))) (i := 5) rfl rfl (RowOk.ne g.mx.a.ok (by omega)) tA49 (rowsL_get ptL_len _ _ _ (by omega)) (ptL_len _)) rfl (OkN.imp rfl fun EF EL => ck' Tryz.call8 (Cut_ok a b (g.ps.getD (((edL g.ts).getD i (⟨0, 0, 0, 0⟩ : E4)).a) (⟨0, 0⟩ : Pt)) (g.ps.getD (((edL g.ts).getD i (⟨0, 0, 0, 0⟩ : E4)).b) (⟨0, 0⟩ : Pt)) (by omega) (by omega) (hz1k _) (hz1k _)) rfl (OkN.back0 sr rfl (uM' rfl (uE' rfl (ex_extract (v := (vN (cutQ a b (g.ps.getD (((edL g.ts).getD i (⟨0, 0, 0, 0⟩ : E4)).a) (⟨0, 0⟩ : Pt)) (g.ps.getD (((edL g.ts).getD i (⟨0, 0, 0, 0⟩ : E4)).b) (⟨0, 0⟩ : Pt))))) rfl rfl) rfl ?_))))
   refine uE' rfl (ex_extract (v := (aG (ptL (cutP a b (g.ps.getD (((edL g.ts).getD i (⟨0, 0, 0, 0⟩ : E4)).a) (⟨0, 0⟩ : Pt)) (g.ps.getD (((edL g.ts).getD i (⟨0, 0, 0, 0⟩ : E4)).b) (⟨0, 0⟩ : Pt)))))) rfl rfl) rfl (OkN.news1 fun b6 => pS' rfl (OkE.imp rfl (stW0' rfl Tryz.sizeOf49 rfl (OkE.back (sl sr) ?_))))
   refine OkE.nil (OkQ.subF (sL [7, 8, 9, 10, 11, 12, 13] rfl) (q2 (mv' rfl (st' (ex_eql (c := (decide ((cutQ a b (g.ps.getD (((edL g.ts).getD i (⟨0, 0, 0, 0⟩ : E4)).a) (⟨0, 0⟩ : Pt)) (g.ps.getD (((edL g.ts).getD i (⟨0, 0, 0, 0⟩ : E4)).b) (⟨0, 0⟩ : Pt))) = 2))) rfl rfl (eqN (a := (cutQ a b (g.ps.getD (((edL g.ts).getD i (⟨0, 0, 0, 0⟩ : E4)).a) (⟨0, 0⟩ : Pt)) (g.ps.getD (((edL g.ts).getD i (⟨0, 0, 0, 0⟩ : E4)).b) (⟨0, 0⟩ : Pt)))) (b := 2))) rfl (OkL.nil ?_)))))
   refine OkQ.subF (sL [7, 8, 9, 10, 11, 12, 87] rfl) (OkQ.then_ ?_)
   refine OkC.cond rfl (fun hc2 => ?_) (fun hc2 => ?_)
   ·replace hc2 := of_decide_eq_true hc2
    refine q4 (ck' Tryz.call9 (lives31_ok) rfl (asg' rfl (OkL.nil (OkQ.subF (sL [7, 8, 9, 10, 11, 12, 4] rfl) (OkQ.then_ ?_)))))
    exact OkC.ret (OkQ.in_ret (OkQ.then_ret (OkQ.round1_ret (OkQ.in_ret (OkQ.then_ret (ret_one rfl (rd_tmp (v := (Value.bool true)) rfl) (fun w hw => ⟨rfl, hw.out⟩)))))))
   ·replace hc2 := of_decide_eq_false hc2
    refine OkC.skip (OkQ.in_normal (OkQ.then_ (OkC.region (mv' rfl (st' (ex_add (c := ((i + 1 : Nat) : Int)) rfl rfl (addN_i64 (a := i) (b := 1) (by omega))) rfl ?_)))))
    exact asg' rfl (OkL.nil (OkQ.subF (sL [7, 8, 9, 10, 11, 12] rfl) (OkQ.round1 (i + 1) (⟨by omega, fun k hk => by rcases Nat.lt_or_ge k i with h9 | h9; exact hcq k h9; rw [show k = i by omega]; exact hc2⟩) (by omega) (sF rfl) (sl sr))))
  ·replace hc1 := of_decide_eq_false hc1
   have hac := across hG hlat (full_of hx7) hab (fun k hk => hcq k (by omega)) (⟨0, 0, 0⟩ : Pc)
   refine OkC.exit (OkQ.then_exit (OkQ.round1_exit (OkQ.in_exit (q1 (q4 ?_)))))
   refine asg' rfl (OkL.nil (OkQ.then_ (OkC.block ?_)))
   refine OkC.lp1 (tg fun (i : Nat) => 1 ≤ i ∧ (i ≤ s1.length ∨ i = 1)) (tg fun (i : Nat) => [(7, (pP b3 0)), (8, (pP b4 0)), (9, (pP b5 0)), (10, (Value.slice r1.p s1.length r1.c)), (15, (vN i))]) (tg fun (i : Nat) => [rowR o.p (rowsL e4L (edL g.ts)), rowR r1.p (rowsL pcL s1), blk b5 49 (ptL b), blk b4 49 (ptL a), blk b3 37 (mxL g.mx), rowR g.mx.a.p (rowsL ptL g.ps), rowR g.mx.b.p (rowsL t3L g.ts), rowR g.mx.c.p (rowsL t3L g.ss), rowR p1 (bytL xs), blk b2 32 (pdL l0 ++ pdL l1), blk b1 26 ([(vK .u8 m.nx), (vK .u8 m.ny), (Value.slice p1 xs.length c1), (Value.int .i8 m.a), (Value.int .i8 m.b), (Value.int .i8 m.c), (Value.int .i8 m.d), (vK .u8 m.den), (vK .u8 m.fst)]), rowR m.p (bytL m.cs)]) (tg fun (i : Nat) => s1.length - i) 1 (⟨by decide, .inr rfl⟩) (sF rfl) sr (fun i hJ => ?_)
   obtain ⟨hi2, hi3⟩ := hJ
   refine OkC.seq (q4 (mv' rfl (mv' rfl (st' (v := (vN s1.length)) (ex_len_slice rfl Tryz.underlying51) rfl (st' (ex_lss (c := (decide (i < s1.length))) rfl rfl (ltN (a := i) (b := s1.length))) rfl ?_)))))
   refine OkL.nil (OkQ.subF (sL [7, 8, 9, 10, 15, 92] rfl) (OkQ.then_ ?_))
   refine OkC.cond rfl (fun hc3 => ?_) (fun hc3 => ?_)
   ·replace hc3 := of_decide_eq_true hc3
    have hcg : (s1.getD i (⟨0, 0, 0⟩ : Pc)).lo = (s1.getD (i - 1) (⟨0, 0, 0⟩ : Pc)).hi := by have h9 := hac.1 (i - 1) (by rw [← hn1]; omega); rw [show i - 1 + 1 = i by omega, ← hn1] at h9; exact h9.symm
    refine OkC.skip (q1 (OkC.block (OkC.seq (rG' [(0, true), (1, true), (2, true), (3, true), (4, true), (5, true), (6, true), (7, true), (8, true), (9, true), (10, true), (11, true)] sr (pM' rfl ?_)))))
    refine pM' rfl (pE' (v := (pP (pB r1.p) (pO r1.p + i * 11))) rfl (ex_index_row (j := i) rfl rfl r1.ok Tryz.underlying51 Tryz.sizeOf61 rfl (by omega)) (pE' (v := (pP (pB r1.p) (pO r1.p + (i * 11 + 1)))) rfl (ex_fieldAddr rfl Tryz.underlying61 rfl Tryz.sizeOf47 (Nat.add_assoc _ _ _)) (pE' (v := (aG (fracL ((s1.getD i (⟨0, 0, 0⟩ : Pc)).lo)))) rfl (ex_load_rowR_agg (vs := fracL ((s1.getD i (⟨0, 0, 0⟩ : Pc)).lo)) (i := 1) rfl rfl (RowOk.ne r1.ok (by omega)) tA47 (rowsL_part pcL_len (⟨0, 0, 0⟩ : Pc) _ _ 1 5 (by omega) (by decide) rfl) rfl) (pM' rfl (pM' rfl ?_)))))
    refine pE' rfl (ex_sub (c := ((i - 1 : Nat) : Int)) rfl rfl (by rw [wrap_i64 (by omega) (by omega)]; omega)) (pE' (v := (pP (pB r1.p) (pO r1.p + (i - 1) * 11))) rfl (ex_index_row (j := i - 1) rfl rfl r1.ok Tryz.underlying51 Tryz.sizeOf61 rfl (by omega)) (pE' (v := (pP (pB r1.p) (pO r1.p + ((i - 1) * 11 + 6)))) rfl (ex_fieldAddr rfl Tryz.underlying61 rfl Tryz.sizeOf47 (Nat.add_assoc _ _ _)) (pE' (v := (aG (fracL ((s1.getD (i - 1) (⟨0, 0, 0⟩ : Pc)).hi)))) rfl (ex_load_rowR_agg (vs := fracL ((s1.getD (i - 1) (⟨0, 0, 0⟩ : Pc)).hi)) (i := 1) rfl rfl (RowOk.ne r1.ok (by omega)) tA47 (rowsL_part pcL_len (⟨0, 0, 0⟩ : Pc) _ _ 6 5 (by omega) (by decide) rfl) rfl) (pE' (v := (Value.bool false)) rfl (ex_neq_agg_f rfl rfl Tryz.eqGuardType47 (eqB_frac_t 9995 hcg)) (OkE.nil ?_)))))
    refine OkQ.subF (sL [7, 8, 9, 10, 15, 106] rfl) (OkQ.then_ (OkC.cond_false rfl (OkC.skip (OkQ.in_normal (OkQ.then_ ?_)))))
    exact OkC.region (mv' rfl (st' (ex_add (c := ((i + 1 : Nat) : Int)) rfl rfl (addN_i64 (a := i) (b := 1) (by omega))) rfl (asg' rfl (OkL.nil (OkQ.subF (sL [7, 8, 9, 10, 15] rfl) (OkQ.round1 (i + 1) (⟨by omega, by omega⟩) (by omega) (sF rfl) sr))))))
   ·replace hc3 := of_decide_eq_false hc3
    refine OkC.exit (OkQ.then_exit (OkQ.round1_exit (OkQ.in_exit (q1 (q4 ?_)))))
    refine mv' rfl (st' (v := (vN s1.length)) (ex_len_slice rfl Tryz.underlying51) rfl (st' (ex_eql (c := (decide (s1.length = 0))) rfl rfl (eqN (a := s1.length) (b := 0))) rfl (OkL.nil (OkQ.subF (sL [7, 8, 9, 10, 15, 109] rfl) (OkQ.then_ ?_)))))
    refine OkC.cond rfl (fun hc5 => ?_) (fun hc5 => ?_)
    ·replace hc5 := of_decide_eq_true hc5
     refine q4 (ck' Tryz.call9 (lives31_ok) rfl (asg' rfl (OkL.nil (OkQ.subF (sL [7, 8, 9, 10, 15, 4] rfl) (OkQ.then_ ?_)))))
     exact OkC.ret (OkQ.then_ret (ret_one rfl (rd_tmp (v := (Value.bool true)) rfl) (fun w hw => ⟨rfl, hw.out⟩)))
    ·replace hc5 := of_decide_eq_false hc5
     refine OkC.skip (q2 (ldW' 4 tA37 rfl (ldW' 3 tA49 rfl (cl' (args := [(aG (mxL g.mx)), (aG (ptL a))]) (v := (Value.tuple #[(vI ta), (vN wa)])) Tryz.call10 (fun w hw => (by have h9 := Find_ok g.mx (by omega) a hz (by omega) w (inS hw 5 rfl lg : Ro _ w g.mx); rw [hfa] at h9; exact h9)) rfl (mv' rfl ?_)))))
     refine st' (ex_extract (v := (vI ta)) rfl rfl) rfl (st' (ex_extract (v := (vN wa)) rfl rfl) rfl (asg' rfl (asg' rfl (q3 (sL [7, 8, 9, 10, 15, 17] rfl) (ldW' 4 tA37 rfl ?_)))))
     refine ldW' 2 tA49 rfl (cl' (args := [(aG (mxL g.mx)), (aG (ptL b))]) (v := (Value.tuple #[(vI tb), (vN wb)])) Tryz.call10 (fun w hw => (by have h9 := Find_ok g.mx (by omega) b hz (by omega) w (inS hw 5 rfl lg : Ro _ w g.mx); rw [hfb] at h9; exact h9)) rfl (mv' rfl (st' (ex_extract (v := (vI tb)) rfl rfl) rfl (st' (ex_extract (v := (vN wb)) rfl rfl) rfl (asg' rfl ?_)))))
     refine asg' rfl (q6 (sL [7, 8, 9, 10, 15, 17, 19] rfl) ?_)
     by_cases hwa : wa = 0
     ·skip
      by_cases hwb : wb = 0
      ·skip
       refine rG' [(0, true), (1, true), (2, true), (3, true), (4, true), (5, true), (6, true), (7, false), (8, true), (9, true), (10, true), (11, true), (12, true), (13, true), (14, true), (15, true), (16, true), (17, true), (18, true), (19, true), (20, true), (21, false), (22, true), (23, true), (24, true), (25, true), (26, false), (27, true), (28, true)] sr (pM' rfl (pE' rfl (ex_eql (c := true) rfl rfl (decide_eq_true (by omega))) (pM' rfl (OkE.skp rfl (wt_not' rfl) rfl rfl (OkE.skp rfl (wt_not' rfl) rfl rfl ?_)))))
       refine OkE.skp rfl (wt_not' rfl) rfl rfl (OkE.skp rfl (wt_not' rfl) rfl rfl (OkE.imp rfl (OkL.skip (wt_not' rfl) rfl (leB rfl) (OkE.back sr (OkE.skp rfl (wt_not' rfl) rfl rfl ?_)))))
       refine pE' (v := (Value.bool true)) rfl (ex_pick_true rfl rfl) (pM' rfl (OkE.pas (v := (vN wb)) rfl (wt_some' rfl) (ex_move rfl) rfl rfl (OkE.pas (v := (Value.bool true)) rfl (wt_some' rfl) (ex_eql (c := true) rfl rfl (decide_eq_true (by omega))) rfl rfl (OkE.pas (v := (Value.bool true)) rfl (wt_some' rfl) (ex_move rfl) rfl rfl (OkE.skp rfl (wt_not' rfl) rfl rfl ?_)))))
       refine OkE.skp rfl (wt_not' rfl) rfl rfl (OkE.skp rfl (wt_not' rfl) rfl rfl (OkE.skp rfl (wt_not' rfl) rfl rfl (OkE.skp rfl (wt_not' rfl) rfl rfl (OkE.skp rfl (wt_not' rfl) rfl rfl (OkE.skp rfl (wt_not' rfl) rfl rfl ?_)))))
       refine OkE.imp rfl (OkL.skip (wt_not' rfl) rfl (leB rfl) (OkE.back sr (OkE.skp rfl (wt_not' rfl) rfl rfl (OkE.pas (v := (Value.bool true)) rfl (wt_some' rfl) (ex_pick_true rfl rfl) rfl rfl (pE' (v := (Value.bool true)) rfl (ex_pick_true rfl rfl) ?_)))))
       refine pM' rfl (OkE.imp rfl (OkL.call (v := (Value.bool true)) (wt_some' rfl) (op_call0 (args := []) rfl rfl Tryz.call9) (fun w hw => lives31_ok w) rfl (leB rfl) (OkE.back sr (pE' (v := (Value.bool true)) rfl (ex_pick_true rfl rfl) (pS' rfl ?_)))))
       exact OkE.nil (OkQ.subF (sL [7, 8, 9, 10, 15, 4] rfl) (OkQ.then_ (OkC.ret (ret_one rfl (rd_tmp (v := (Value.bool true)) rfl) (fun w hw => ⟨rfl, hw.out⟩)))))
      ·skip
       have hz9 : (s1.getD (s1.length - 1) (⟨0, 0, 0⟩ : Pc)).hi = 1 := by rw [hn1]; exact hac.2.2 (by rw [← hn1]; omega) (found_inM hG hfb hwb)
       refine rG' [(0, true), (1, true), (2, true), (3, true), (4, true), (5, true), (6, true), (7, false), (8, true), (9, true), (10, true), (11, true), (12, true), (13, true), (14, true), (15, true), (16, true), (17, true), (18, true), (19, true), (20, true), (21, false), (22, true), (23, true), (24, true), (25, true), (26, false), (27, true), (28, true)] sr (pM' rfl (pE' rfl (ex_eql (c := true) rfl rfl (decide_eq_true (by omega))) (pM' rfl (OkE.skp rfl (wt_not' rfl) rfl rfl (OkE.skp rfl (wt_not' rfl) rfl rfl ?_)))))
       refine OkE.skp rfl (wt_not' rfl) rfl rfl (OkE.skp rfl (wt_not' rfl) rfl rfl (OkE.imp rfl (OkL.skip (wt_not' rfl) rfl (leB rfl) (OkE.back sr (OkE.skp rfl (wt_not' rfl) rfl rfl ?_)))))
       refine pE' (v := (Value.bool true)) rfl (ex_pick_true rfl rfl) (pM' rfl (OkE.pas (v := (vN wb)) rfl (wt_some' rfl) (ex_move rfl) rfl rfl (OkE.pas (v := (Value.bool false)) rfl (wt_some' rfl) (ex_eql (c := false) rfl rfl (decide_eq_false (by omega))) rfl rfl (OkE.pas (v := (Value.bool false)) rfl (wt_some' rfl) (ex_move rfl) rfl rfl (OkE.pas (v := (Value.slice r1.p s1.length r1.c)) rfl (wt_some' rfl) (ex_move rfl) rfl rfl ?_)))))
       refine OkE.pas (v := (Value.slice r1.p s1.length r1.c)) rfl (wt_some' rfl) (ex_move rfl) rfl rfl (OkE.pas (v := (vN s1.length)) rfl (wt_some' rfl) (ex_len_slice rfl Tryz.underlying51) rfl rfl (OkE.pas (v := (vN (s1.length - 1))) rfl (wt_some' rfl) (ex_sub (c := ((s1.length - 1 : Nat) : Int)) rfl rfl (by rw [wrap_i64 (by omega) (by omega)]; omega)) rfl rfl (OkE.pas (v := (pP (pB r1.p) (pO r1.p + (s1.length - 1) * 11))) rfl (wt_some' rfl) (ex_index_row (j := s1.length - 1) rfl rfl r1.ok Tryz.underlying51 Tryz.sizeOf61 rfl (by omega)) rfl rfl (OkE.pas (v := (pP (pB r1.p) (pO r1.p + ((s1.length - 1) * 11 + 6)))) rfl (wt_some' rfl) (ex_fieldAddr rfl Tryz.underlying61 rfl Tryz.sizeOf47 (Nat.add_assoc _ _ _)) rfl rfl (OkE.pas (v := (aG (fracL ((s1.getD (s1.length - 1) (⟨0, 0, 0⟩ : Pc)).hi)))) rfl (wt_some' rfl) (ex_load_rowR_agg (vs := fracL ((s1.getD (s1.length - 1) (⟨0, 0, 0⟩ : Pc)).hi)) (i := 1) rfl rfl (RowOk.ne r1.ok (by omega)) tA47 (rowsL_part pcL_len (⟨0, 0, 0⟩ : Pc) _ _ 6 5 (by omega) (by decide) rfl) rfl) rfl rfl ?_)))))
       refine OkE.imp rfl (OkL.call (v := (aG (fracL (1 : Rat)))) (wt_some' rfl) (op_call0 (args := [(vI 1)]) rfl rfl Tryz.call11) (fun w hw => lz_int_1 w) rfl (leB rfl) (OkE.back sr (OkE.pas (v := (Value.bool true)) rfl (wt_some' rfl) (ex_eql_agg (c := true) rfl rfl Tryz.eqGuardType47 (eqB_frac_t 9995 hz9)) rfl rfl (OkE.pas (v := (Value.bool true)) rfl (wt_some' rfl) (ex_pick_false rfl rfl) rfl rfl (pE' (v := (Value.bool true)) rfl (ex_pick_true rfl rfl) ?_)))))
       refine pM' rfl (OkE.imp rfl (OkL.call (v := (Value.bool true)) (wt_some' rfl) (op_call0 (args := []) rfl rfl Tryz.call9) (fun w hw => lives31_ok w) rfl (leB rfl) (OkE.back sr (pE' (v := (Value.bool true)) rfl (ex_pick_true rfl rfl) (pS' rfl ?_)))))
       exact OkE.nil (OkQ.subF (sL [7, 8, 9, 10, 15, 4] rfl) (OkQ.then_ (OkC.ret (ret_one rfl (rd_tmp (v := (Value.bool true)) rfl) (fun w hw => ⟨rfl, hw.out⟩)))))
     ·skip
      have hz0 : (s1.getD 0 (⟨0, 0, 0⟩ : Pc)).lo = 0 := by rw [hn1]; exact hac.2.1 (by rw [← hn1]; omega) (found_inM hG hfa hwa)
      by_cases hwb : wb = 0
      ·skip
       refine rG' [(0, true), (1, true), (2, true), (3, true), (4, true), (5, true), (6, true), (7, false), (8, true), (9, true), (10, true), (11, true), (12, true), (13, true), (14, true), (15, true), (16, true), (17, true), (18, true), (19, true), (20, true), (21, false), (22, true), (23, true), (24, true), (25, true), (26, false), (27, true), (28, true)] sr (pM' rfl (pE' rfl (ex_eql (c := false) rfl rfl (decide_eq_false (by omega))) (pM' rfl (OkE.pas (v := (Value.slice r1.p s1.length r1.c)) rfl (wt_some' rfl) (ex_move rfl) rfl rfl (OkE.pas (v := (pP (pB r1.p) (pO r1.p + 0 * 11))) rfl (wt_some' rfl) (ex_index_row (j := 0) rfl rfl r1.ok Tryz.underlying51 Tryz.sizeOf61 rfl (by omega)) rfl rfl ?_)))))
       refine OkE.pas (v := (pP (pB r1.p) (pO r1.p + (0 * 11 + 1)))) rfl (wt_some' rfl) (ex_fieldAddr rfl Tryz.underlying61 rfl Tryz.sizeOf47 (Nat.add_assoc _ _ _)) rfl rfl (OkE.pas (v := (aG (fracL ((s1.getD 0 (⟨0, 0, 0⟩ : Pc)).lo)))) rfl (wt_some' rfl) (ex_load_rowR_agg (vs := fracL ((s1.getD 0 (⟨0, 0, 0⟩ : Pc)).lo)) (i := 1) rfl rfl (RowOk.ne r1.ok (by omega)) tA47 (rowsL_part pcL_len (⟨0, 0, 0⟩ : Pc) _ _ 1 5 (by omega) (by decide) rfl) rfl) rfl rfl (OkE.imp rfl (OkL.call (v := (aG (fracL (0 : Rat)))) (wt_some' rfl) (op_call0 (args := [(vI 0)]) rfl rfl Tryz.call11) (fun w hw => lz_int_0 w) rfl (leB rfl) (OkE.back sr (OkE.pas (v := (Value.bool true)) rfl (wt_some' rfl) (ex_eql_agg (c := true) rfl rfl Tryz.eqGuardType47 (eqB_frac_t 9995 hz0)) rfl rfl ?_)))))
       refine pE' (v := (Value.bool true)) rfl (ex_pick_false rfl rfl) (pM' rfl (OkE.pas (v := (vN wb)) rfl (wt_some' rfl) (ex_move rfl) rfl rfl (OkE.pas (v := (Value.bool true)) rfl (wt_some' rfl) (ex_eql (c := true) rfl rfl (decide_eq_true (by omega))) rfl rfl (OkE.pas (v := (Value.bool true)) rfl (wt_some' rfl) (ex_move rfl) rfl rfl (OkE.skp rfl (wt_not' rfl) rfl rfl ?_)))))
       refine OkE.skp rfl (wt_not' rfl) rfl rfl (OkE.skp rfl (wt_not' rfl) rfl rfl (OkE.skp rfl (wt_not' rfl) rfl rfl (OkE.skp rfl (wt_not' rfl) rfl rfl (OkE.skp rfl (wt_not' rfl) rfl rfl (OkE.skp rfl (wt_not' rfl) rfl rfl ?_)))))
       refine OkE.imp rfl (OkL.skip (wt_not' rfl) rfl (leB rfl) (OkE.back sr (OkE.skp rfl (wt_not' rfl) rfl rfl (OkE.pas (v := (Value.bool true)) rfl (wt_some' rfl) (ex_pick_true rfl rfl) rfl rfl (pE' (v := (Value.bool true)) rfl (ex_pick_true rfl rfl) ?_)))))
       refine pM' rfl (OkE.imp rfl (OkL.call (v := (Value.bool true)) (wt_some' rfl) (op_call0 (args := []) rfl rfl Tryz.call9) (fun w hw => lives31_ok w) rfl (leB rfl) (OkE.back sr (pE' (v := (Value.bool true)) rfl (ex_pick_true rfl rfl) (pS' rfl ?_)))))
       exact OkE.nil (OkQ.subF (sL [7, 8, 9, 10, 15, 4] rfl) (OkQ.then_ (OkC.ret (ret_one rfl (rd_tmp (v := (Value.bool true)) rfl) (fun w hw => ⟨rfl, hw.out⟩)))))
      ·skip
       have hz9 : (s1.getD (s1.length - 1) (⟨0, 0, 0⟩ : Pc)).hi = 1 := by rw [hn1]; exact hac.2.2 (by rw [← hn1]; omega) (found_inM hG hfb hwb)
       refine rG' [(0, true), (1, true), (2, true), (3, true), (4, true), (5, true), (6, true), (7, false), (8, true), (9, true), (10, true), (11, true), (12, true), (13, true), (14, true), (15, true), (16, true), (17, true), (18, true), (19, true), (20, true), (21, false), (22, true), (23, true), (24, true), (25, true), (26, false), (27, true), (28, true)] sr (pM' rfl (pE' rfl (ex_eql (c := false) rfl rfl (decide_eq_false (by omega))) (pM' rfl (OkE.pas (v := (Value.slice r1.p s1.length r1.c)) rfl (wt_some' rfl) (ex_move rfl) rfl rfl (OkE.pas (v := (pP (pB r1.p) (pO r1.p + 0 * 11))) rfl (wt_some' rfl) (ex_index_row (j := 0) rfl rfl r1.ok Tryz.underlying51 Tryz.sizeOf61 rfl (by omega)) rfl rfl ?_)))))
       refine OkE.pas (v := (pP (pB r1.p) (pO r1.p + (0 * 11 + 1)))) rfl (wt_some' rfl) (ex_fieldAddr rfl Tryz.underlying61 rfl Tryz.sizeOf47 (Nat.add_assoc _ _ _)) rfl rfl (OkE.pas (v := (aG (fracL ((s1.getD 0 (⟨0, 0, 0⟩ : Pc)).lo)))) rfl (wt_some' rfl) (ex_load_rowR_agg (vs := fracL ((s1.getD 0 (⟨0, 0, 0⟩ : Pc)).lo)) (i := 1) rfl rfl (RowOk.ne r1.ok (by omega)) tA47 (rowsL_part pcL_len (⟨0, 0, 0⟩ : Pc) _ _ 1 5 (by omega) (by decide) rfl) rfl) rfl rfl (OkE.imp rfl (OkL.call (v := (aG (fracL (0 : Rat)))) (wt_some' rfl) (op_call0 (args := [(vI 0)]) rfl rfl Tryz.call11) (fun w hw => lz_int_0 w) rfl (leB rfl) (OkE.back sr (OkE.pas (v := (Value.bool true)) rfl (wt_some' rfl) (ex_eql_agg (c := true) rfl rfl Tryz.eqGuardType47 (eqB_frac_t 9995 hz0)) rfl rfl ?_)))))
       refine pE' (v := (Value.bool true)) rfl (ex_pick_false rfl rfl) (pM' rfl (OkE.pas (v := (vN wb)) rfl (wt_some' rfl) (ex_move rfl) rfl rfl (OkE.pas (v := (Value.bool false)) rfl (wt_some' rfl) (ex_eql (c := false) rfl rfl (decide_eq_false (by omega))) rfl rfl (OkE.pas (v := (Value.bool false)) rfl (wt_some' rfl) (ex_move rfl) rfl rfl (OkE.pas (v := (Value.slice r1.p s1.length r1.c)) rfl (wt_some' rfl) (ex_move rfl) rfl rfl ?_)))))
       refine OkE.pas (v := (Value.slice r1.p s1.length r1.c)) rfl (wt_some' rfl) (ex_move rfl) rfl rfl (OkE.pas (v := (vN s1.length)) rfl (wt_some' rfl) (ex_len_slice rfl Tryz.underlying51) rfl rfl (OkE.pas (v := (vN (s1.length - 1))) rfl (wt_some' rfl) (ex_sub (c := ((s1.length - 1 : Nat) : Int)) rfl rfl (by rw [wrap_i64 (by omega) (by omega)]; omega)) rfl rfl (OkE.pas (v := (pP (pB r1.p) (pO r1.p + (s1.length - 1) * 11))) rfl (wt_some' rfl) (ex_index_row (j := s1.length - 1) rfl rfl r1.ok Tryz.underlying51 Tryz.sizeOf61 rfl (by omega)) rfl rfl (OkE.pas (v := (pP (pB r1.p) (pO r1.p + ((s1.length - 1) * 11 + 6)))) rfl (wt_some' rfl) (ex_fieldAddr rfl Tryz.underlying61 rfl Tryz.sizeOf47 (Nat.add_assoc _ _ _)) rfl rfl (OkE.pas (v := (aG (fracL ((s1.getD (s1.length - 1) (⟨0, 0, 0⟩ : Pc)).hi)))) rfl (wt_some' rfl) (ex_load_rowR_agg (vs := fracL ((s1.getD (s1.length - 1) (⟨0, 0, 0⟩ : Pc)).hi)) (i := 1) rfl rfl (RowOk.ne r1.ok (by omega)) tA47 (rowsL_part pcL_len (⟨0, 0, 0⟩ : Pc) _ _ 6 5 (by omega) (by decide) rfl) rfl) rfl rfl ?_)))))
       refine OkE.imp rfl (OkL.call (v := (aG (fracL (1 : Rat)))) (wt_some' rfl) (op_call0 (args := [(vI 1)]) rfl rfl Tryz.call11) (fun w hw => lz_int_1 w) rfl (leB rfl) (OkE.back sr (OkE.pas (v := (Value.bool true)) rfl (wt_some' rfl) (ex_eql_agg (c := true) rfl rfl Tryz.eqGuardType47 (eqB_frac_t 9995 hz9)) rfl rfl (OkE.pas (v := (Value.bool true)) rfl (wt_some' rfl) (ex_pick_false rfl rfl) rfl rfl (pE' (v := (Value.bool true)) rfl (ex_pick_true rfl rfl) ?_)))))
       refine pM' rfl (OkE.imp rfl (OkL.call (v := (Value.bool true)) (wt_some' rfl) (op_call0 (args := []) rfl rfl Tryz.call9) (fun w hw => lives31_ok w) rfl (leB rfl) (OkE.back sr (pE' (v := (Value.bool true)) rfl (ex_pick_true rfl rfl) (pS' rfl ?_)))))
       exact OkE.nil (OkQ.subF (sL [7, 8, 9, 10, 15, 4] rfl) (OkQ.then_ (OkC.ret (ret_one rfl (rd_tmp (v := (Value.bool true)) rfl) (fun w hw => ⟨rfl, hw.out⟩)))))
set_option maxHeartbeats 1000000 in
theorem LocatesAcross0_ok (m : MQ) (l0 l1 : PD) (k0 : l0.ok) (k1 : l1.ok) (h : ptOf l0 = ptOf l1) (w : World) {S : Nat → Prop} (hm : Ro S w m) : Calls Tryz.prog 3 #[(aG (mqL m)), (aG (pdL l0 ++ pdL l1))] w (Gives w (Value.bool true)) := by
 obtain ⟨a, ha⟩ : ∃ q, q = ptOf l0 := ⟨_, rfl⟩
 have sa : SzP a ≤ 4 := by rw [ha]; exact SzP_ptOf k0
 obtain ⟨b, hb⟩ : ∃ q, q = ptOf l1 := ⟨_, rfl⟩
 have sb : SzP b ≤ 4 := by rw [hb]; exact SzP_ptOf k1
 have hab : a = b := by rw [ha, hb]; exact h
 have lm := atA (W := w) hm
 refine calls_ofR (args := [(aG (mqL m)), (aG (pdL l0 ++ pdL l1))]) (L := [rowR m.p (bytL m.cs)]) Tryz.func3 rfl rfl (leB rfl) (sxA hm roL_nil) (OkC.subF (sL [0, 1] rfl) (q4 (bx' (cs := mqL m) rfl fun b1 => bx' (cs := pdL l0 ++ pdL l1) rfl fun b2 => asg' rfl ?_)))
 refine q3 (sL [2, 3, 4] rfl) (asg' rfl (OkL.nilRow 5 1 (OkL.nil (q1 (q4 ?_)))))
 refine asg' rfl (OkL.nil (OkQ.then_ (OkC.block ?_)))
 refine OkC.lp4 (tg fun (i : Nat) (p1 : Option Addr) (c1 : Nat) (xs : List Nat) => i ≤ m.cs.length ∧ OwnOk p1 xs.length c1 ∧ xs = m7 m i ∧ i ≤ 16) (tg fun (i : Nat) (p1 : Option Addr) (c1 : Nat) (xs : List Nat) => [(2, (pP b1 0)), (3, (pP b2 0)), (4, (Value.bool false)), (6, (vN i)), (5, (Value.slice p1 xs.length c1))]) (tg fun (i : Nat) (p1 : Option Addr) (c1 : Nat) (xs : List Nat) => [rowW p1 5 1 xs.length c1 (bytL xs), blk b2 32 (pdL l0 ++ pdL l1), blk b1 26 (mqL m), rowR m.p (bytL m.cs)]) (tg fun (i : Nat) (p1 : Option Addr) (c1 : Nat) (xs : List Nat) => m.cs.length - i) 0 none 0 ([] : List Nat) (⟨Nat.zero_le _, OwnOk.none, rfl, by decide⟩) (sF rfl) sr (fun i p1 c1 xs hJ => ?_)
 obtain ⟨hi, ho, hxs, hi16⟩ := hJ
 have hxl : xs.length ≤ 16 := by rw [hxs]; unfold m7; rw [List.length_map, List.length_take]; omega
 refine OkC.seq (q4 (mv' rfl (st' (v := (pP b1 2)) (ex_fieldAddr rfl Tryz.underlying26 rfl Tryz.sizeOf22 rfl) rfl (ldO' 2 (Value.slice m.p m.cs.length m.cap) tO22 rfl (st' (v := (vN m.cs.length)) (ex_len_slice rfl Tryz.underlying22) rfl ?_)))))
 refine st' (ex_lss (c := (decide (i < m.cs.length))) rfl rfl (ltN (a := i) (b := m.cs.length))) rfl (mv' rfl ?_)
 refine OkL.mid (FM := [(2, (pP b1 0)), (3, (pP b2 0)), (4, (Value.bool false)), (6, (vN i)), (5, (Value.slice p1 xs.length c1)), (20, (vN i)), (21, (pP b1 2)), (22, (Value.slice m.p m.cs.length m.cap)), (23, (vN m.cs.length)), (24, (Value.bool (decide (i < m.cs.length)))), (25, (Value.bool (decide (i < m.cs.length)))), (28, (Value.bool ((decide (i < m.cs.length)) && (decide (i < 16)))))]) (LM := [rowW p1 5 1 xs.length c1 (bytL xs), blk b2 32 (pdL l0 ++ pdL l1), blk b1 26 (mqL m), rowR m.p (bytL m.cs)]) 3 ?_ ?_
 ·rcases Bool.eq_false_or_eq_true (decide (i < m.cs.length)) with hg1 | hg1
  ·skip
   refine OkL.retell (k := 25) (u := Value.bool true) rfl (by rw [hg1]) ?_
   have hg1' := hg1
   replace hg1' := of_decide_eq_true hg1'
   exact OkL.step (v := (vN i)) (wt_some' rfl) (ex_move rfl) rfl (leB rfl) (OkL.step (v := (Value.bool (decide (i < 16)))) (wt_some' rfl) (ex_lss (c := (decide (i < 16))) rfl rfl (ltN (a := i) (b := 16))) rfl (leB rfl) (st' (v := (Value.bool (decide (i < 16)))) (ex_pick_true rfl rfl) rfl (OkL.nil (OkQ.mid (sS rfl (sS rfl (sS rfl (sS rfl (sS rfl (sS rfl (sS rfl (sS rfl (sS rfl (sS rfl (sS (by first | rfl | (rw [hg1]; rfl) | rw [hg1]) (sS (by first | rfl | (rw [hg1]; rfl) | rw [hg1]) (sN))))))))))))) (List.Sublist.refl _)))))
  ·skip
   refine OkL.retell (k := 25) (u := Value.bool false) rfl (by rw [hg1]) ?_
   have hg1' := hg1
   replace hg1' := of_decide_eq_false hg1'
   exact OkL.skip (wt_not' rfl) rfl (leB rfl) (OkL.skip (wt_not' rfl) rfl (leB rfl) (st' (v := (Value.bool false)) (ex_pick_false rfl rfl) rfl (OkL.nil (OkQ.mid (sS rfl (sS rfl (sS rfl (sS rfl (sS rfl (sS rfl (sS rfl (sS rfl (sS rfl (sS rfl (sS (by first | rfl | (rw [hg1]; rfl) | rw [hg1]) (sS (by first | rfl | (rw [hg1]; rfl) | rw [hg1]) (sN))))))))))))) (List.Sublist.refl _)))))
 refine OkL.nil (OkQ.subF (sL [2, 3, 4, 6, 5, 28] rfl) (OkQ.then_ ?_))
 refine OkC.cond rfl (fun hc0 => ?_) (fun hc0 => ?_)
 ·simp only [Bool.and_eq_true, Bool.or_eq_true, Bool.and_eq_false_iff, Bool.or_eq_false_iff, Bool.not_eq_true', Bool.not_eq_false', decide_eq_true_eq, decide_eq_false_iff_not] at hc0
  refine OkC.skip (q1 (OkC.block (OkC.region (mv' rfl (st' (v := (pP b1 2)) (ex_fieldAddr rfl Tryz.underlying26 rfl Tryz.sizeOf22 rfl) rfl ?_)))))
  refine ldO' 2 (Value.slice m.p m.cs.length m.cap) tO22 rfl (mv' rfl (st' (v := (pP (pB m.p) (pO m.p + i * 1))) (ex_index_row (j := i) rfl rfl m.ok Tryz.underlying22 Tryz.sizeOf5 rfl (by omega)) rfl (st' (ex_load_rowR_one (v := (vK .u8 (m.cs.getD i 0))) (i := 3) rfl rfl (m.ok.ne (by omega)) tO5 (bytL_get (by omega))) rfl (st' (ex_rem (c := (((m.cs.getD i 0) % 7 : Nat) : Int)) rfl rfl (by omega) (remN (a := m.cs.getD i 0) (b := 7))) rfl (OkL.openV (V := fun b3 => (Value.slice (some ⟨b3, 0, none⟩) 1 1)) (T := 5) (cs := u8s ([(m.cs.getD i 0) % 7])) (wt_none rfl) (op_buildSlice (cs := u8s ([(m.cs.getD i 0) % 7])) (pv := [(0, (vK .u8 ((m.cs.getD i 0) % 7)))]) Tryz.underlying22 Tryz.sizeOf5 Tryz.zeroValue5 (by decide) (by decide) rfl (by kernel_rfl)) rfl (leB rfl) fun b3 => ?_)))))
  refine OkL.append1 (j := 0) (cs2 := bytL (xs ++ [(m.cs.getD i 0) % 7])) tE22 rfl ho bytL_len rfl rfl rfl rfl (by decide) (mxl (by omega)) (by omega) (by simp [bytL, u8s]) rfl fun p_1 c_1 ho_1 hne_1 => asg' rfl (OkL.nil (OkQ.subF (sL [2, 3, 4, 6, 5] rfl) (OkQ.in_normal (OkQ.then_ ?_))))
  refine OkC.region (mv' rfl (st' (ex_add (c := ((i + 1 : Nat) : Int)) rfl rfl (addN_i64 (a := i) (b := 1) (by omega))) rfl (asg' rfl (OkL.nil (OkQ.subF (sL [2, 3, 4, 6, 5] rfl) ?_)))))
  rw [show xs.length + 1 = (xs ++ [(m.cs.getD i 0) % 7]).length by simp]
  exact OkQ.round4 (i + 1) p_1 c_1 (xs ++ [(m.cs.getD i 0) % 7]) (⟨by omega, (by simpa using ho_1), by rw [hxs]; exact (m7_succ (m := m) (k := i) (by omega)).symm, by omega⟩) (by omega) (sF rfl) (sl sr)
 ·simp only [Bool.and_eq_true, Bool.or_eq_true, Bool.and_eq_false_iff, Bool.or_eq_false_iff, Bool.not_eq_true', Bool.not_eq_false', decide_eq_true_eq, decide_eq_false_iff_not] at hc0
  refine OkC.exit (OkQ.then_exit (OkQ.round4_exit (OkQ.in_exit (q2 ?_))))
  have hx7 : ∀ x ∈ xs, x < 7 := fun x hx => by rw [hxs] at hx; exact m7_lt hx
  refine mv' rfl (OkL.frzRow 0 rfl ho bytL_len rfl rfl fun hn_CL => st' (v := (pP b1 2)) (ex_fieldAddr rfl Tryz.underlying26 rfl Tryz.sizeOf22 rfl) rfl (stX 2 (off := 2) (vs := [(Value.slice p1 xs.length c1)]) (cs' := [(vK .u8 m.nx), (vK .u8 m.ny), (Value.slice p1 xs.length c1), (Value.int .i8 m.a), (Value.int .i8 m.b), (Value.int .i8 m.c), (Value.int .i8 m.d), (vK .u8 m.den), (vK .u8 m.fst)]) (wt_none rfl) rfl Tryz.sizeOf22 rfl (q3 (sL [2, 3, 4, 6, 5] rfl) (ldW' 2 tA26 rfl ?_))))
  refine OkL.retell (k := 42) (u := (aG (mqL (m.set7 p1 c1 xs hx7 ho.row)))) rfl (by rfl) ?_
  refine OkL.callR (S := S) (α := MF (m.set7 p1 c1 xs hx7 ho.row)) (args := [(aG (mqL (m.set7 p1 c1 xs hx7 ho.row)))]) Tryz.call4 (fun w hw => mMeshF_ok (m.set7 p1 c1 xs hx7 ho.row) w (inX (S := S) hw [0] rfl (fun y hy => At.new (a := (⟨p1, c1, ho.row⟩ : RX (bytL xs) xs.length)) hn_CL y hy))) rfl rfl rfl ?_; intro ⟨g, hlat⟩ lg
  have hG := g.good
  have hnb : numB g.ps.length g.ts = true := numB_good hG
  have htl := hG.tl
  have hpl := hG.pl
  have hel : (edL g.ts).length ≤ 3 * g.ts.length := by rw [edL_len]; exact edS_len _
  have hz : ∀ i, SzP (cor g.ps i) ≤ 4 := hG.sz
  have hz1k : ∀ i, SzP (cor g.ps i) ≤ 1000 := fun i => Nat.le_trans (hz i) (by decide)
  have hne : ∀ j, j < g.ts.length → turnP (cor g.ps (g.ts.getD j (0, 0, 0)).1) (cor g.ps (g.ts.getD j (0, 0, 0)).2.1) (cor g.ps (g.ts.getD j (0, 0, 0)).2.2) ≠ 0 := fun j hj => pos_ne (hG.tri j hj).pos
  have hN : nB g.ps.length g.ts = g.ts.length := if_pos hnb
  obtain ⟨s1, hs1⟩ : ∃ s, s = rayS g.ps g.ts a b (nB g.ps.length g.ts) := ⟨_, rfl⟩
  have hn1 : s1 = rayS g.ps g.ts a b g.ts.length := by rw [hs1, hN]
  have hl1 : s1.length ≤ 36 := by rw [hn1]; show (srtP _).length ≤ 36; rw [srtP_len]; have y1 := rayL_len (ps := g.ps) (ts := g.ts) (a := a) (b := b) g.ts.length; omega
  obtain ⟨⟨ta, wa⟩, hfa⟩ : ∃ z, z = findB g.ps g.ts a := ⟨_, rfl⟩
  replace hfa := hfa.symm
  obtain ⟨⟨tb, wb⟩, hfb⟩ : ∃ z, z = findB g.ps g.ts b := ⟨_, rfl⟩
  replace hfb := hfb.symm
  refine al tZ37 rfl fun b3 => stW0' rfl Tryz.sizeOf37 rfl (q3 (sL [2, 3, 4, 6, 5, 7] rfl) (st' (v := (pP b2 0)) (ex_indexAddr_array (j := 0) rfl rfl Tryz.underlying32 Tryz.sizeOf31 rfl (by decide) rfl) rfl (ldA' 5 (pdL l0) tA31 rfl (cl' (args := [(aG (pdL l0))]) (v := (aG (ptL a))) Tryz.call5 (fun w hw => (by rw [ha]; exact POf_ok l0 k0 w)) rfl ?_))))
  refine al tZ49 rfl fun b4 => stW0' rfl Tryz.sizeOf49 rfl (q3 (sL [2, 3, 4, 6, 5, 7, 8] rfl) (st' (v := (pP b2 4)) (ex_indexAddr_array (j := 1) rfl rfl Tryz.underlying32 Tryz.sizeOf31 rfl (by decide) rfl) rfl (ldA' 6 (pdL l1) tA31 rfl (cl' (args := [(aG (pdL l1))]) (v := (aG (ptL b))) Tryz.call5 (fun w hw => (by rw [hb]; exact POf_ok l1 k1 w)) rfl ?_))))
  refine al tZ49 rfl fun b5 => stW0' rfl Tryz.sizeOf49 rfl (q3 (sL [2, 3, 4, 6, 5, 7, 8, 9] rfl) (ldW' 2 tA37 rfl (ldW' 1 tA49 rfl (ldW' 0 tA49 rfl ?_))))
  refine cl' (args := [(aG (mxL g.mx)), (aG (ptL a)), (aG (ptL b))]) (v := (Value.slice none 0 0)) Tryz.call6 (fun w hw => (by rw [← hab]; exact RayP_ok g.mx a w (inS hw 3 rfl lg : Ro _ w g.mx))) rfl (asg' rfl (q3 (sL [2, 3, 4, 6, 5, 7, 8, 9, 10] rfl) (ldW' 2 tA37 rfl (cX (S := S) (cs := rowsL e4L (edL g.ts)) (k := (edL g.ts).length) (args := [(aG (mxL g.mx))]) Tryz.call7 (fun w hw => Edges_ok g.mx (by omega) (by omega) hnb w (inS hw 3 rfl lg : Ro _ w g.mx)) rfl rfl rfl fun o lo => asg' rfl ?_))))
  refine q6 (sL [2, 3, 4, 6, 5, 7, 8, 9, 10, 11] rfl) (q4 (asg' rfl (OkL.nil (OkQ.then_ (OkC.block ?_)))))
  refine OkC.lp1 (tg fun (i : Nat) => i ≤ (edL g.ts).length ∧ ∀ k, k < i → cutQ a b (cor g.ps ((edL g.ts).getD k (⟨0, 0, 0, 0⟩ : E4)).a) (cor g.ps ((edL g.ts).getD k (⟨0, 0, 0, 0⟩ : E4)).b) ≠ 2) (tg fun (i : Nat) => [(7, (pP b3 0)), (8, (pP b4 0)), (9, (pP b5 0)), (10, (Value.slice none 0 0)), (11, (Value.slice o.p ((edL g.ts).length) o.c)), (12, (vN i))]) (tg fun (i : Nat) => [rowR o.p (rowsL e4L (edL g.ts)), blk b5 49 (ptL b), blk b4 49 (ptL a), blk b3 37 (mxL g.mx), rowR g.mx.a.p (rowsL ptL g.ps), rowR g.mx.b.p (rowsL t3L g.ts), rowR g.mx.c.p (rowsL t3L g.ss), rowR p1 (bytL xs), blk b2 32 (pdL l0 ++ pdL l1), blk b1 26 ([(vK .u8 m.nx), (vK .u8 m.ny), (Value.slice p1 xs.length c1), (Value.int .i8 m.a), (Value.int .i8 m.b), (Value.int .i8 m.c), (Value.int .i8 m.d), (vK .u8 m.den), (vK .u8 m.fst)]), rowR m.p (bytL m.cs)]) (tg fun (i : Nat) => (edL g.ts).length - i) 0 (⟨Nat.zero_le _, fun k hk => absurd hk (Nat.not_lt_zero _)⟩) (sF rfl) sr (fun i hJ => ?_)
  obtain ⟨hi1, hcq⟩ := hJ
  refine OkC.seq (q4 (mv' rfl (mv' rfl (st' (v := (vN ((edL g.ts).length))) (ex_len_slice rfl Tryz.underlying53) rfl (st' (ex_lss (c := (decide (i < ((edL g.ts).length)))) rfl rfl (ltN (a := i) (b := (edL g.ts).length))) rfl ?_)))))
  refine OkL.nil (OkQ.subF (sL [7, 8, 9, 10, 11, 12, 59] rfl) (OkQ.then_ ?_))
  refine OkC.cond rfl (fun hc1 => ?_) (fun hc1 => ?_)
  ·replace hc1 := of_decide_eq_true hc1
   have hmem : ((edL g.ts).getD i (⟨0, 0, 0, 0⟩ : E4)) ∈ edL g.ts := by rw [List.getD, List.getElem?_eq_getElem hc1]; exact List.getElem_mem hc1
   obtain ⟨hea, heb, _⟩ := edge_lt hG hmem
   refine OkC.skip (q1 (OkC.block (OkC.seq (rN [(0, true), (1, true), (2, true), (3, true), (4, true), (5, true), (6, true), (7, true), (8, true), (9, true), (10, true), (11, true), (12, true), (13, true), (14, true), (15, true), (16, true), (17, true), (18, true), (19, true), (20, false), (21, true), (22, true), (23, true)] [⟨24, 14, 49, ptL (⟨0, 0⟩ : Pt)⟩] [(25, true), (26, false)] sr (by kernel_rfl) (fun _ _ d _ _ h => by cases d <;> exact h) (newC rfl rfl tZ49 rfl (newN)) rfl (uW' 2 tA49 rfl ?_)))))
   refine uW' 1 tA49 rfl (uE' (v := (pP b3 0)) rfl (ex_fieldAddr rfl Tryz.underlying37 rfl Tryz.sizeOf33 rfl) rfl (uO'' 3 (Value.slice g.mx.a.p g.ps.length g.mx.a.c) tO33 rfl (uM' rfl (uM' rfl (uE' (v := (pP (pB o.p) (pO o.p + i * 4))) rfl (ex_index_row (j := i) rfl rfl o.ok Tryz.underlying53 Tryz.sizeOf58 rfl (by omega)) rfl ?_)))))
   refine uE' (v := (pP (pB o.p) (pO o.p + (i * 4 + 0)))) rfl (ex_fieldAddr rfl Tryz.underlying58 rfl Tryz.sizeOf3 (Nat.add_assoc _ _ _)) rfl (uE' rfl (ex_load_rowR_one (v := (vN (((edL g.ts).getD i (⟨0, 0, 0, 0⟩ : E4)).a))) (i := 0) rfl rfl (RowOk.ne o.ok (by omega)) tO3 (rowsL_at e4L_len (⟨0, 0, 0, 0⟩ : E4) _ _ 0 (by omega) (by decide) rfl)) rfl (uE' (v := (pP (pB g.mx.a.p) (pO g.mx.a.p + (((edL g.ts).getD i (⟨0, 0, 0, 0⟩ : E4)).a) * 10))) rfl (ex_index_row (j := ((edL g.ts).getD i (⟨0, 0, 0, 0⟩ : E4)).a) rfl rfl g.mx.a.ok Tryz.underlying33 Tryz.sizeOf49 rfl (by omega)) rfl (uE' (v := (aG (ptL (g.ps.getD (((edL g.ts).getD i (⟨0, 0, 0, 0⟩ : E4)).a) (⟨0, 0⟩ : Pt))))) rfl (ex_load_rowR_agg (vs := ptL (g.ps.getD (((edL g.ts).getD i (⟨0, 0, 0, 0⟩ : E4)).a) (⟨0, 0⟩ : Pt))) (i := 4) rfl rfl (RowOk.ne g.mx.a.ok (by omega)) tA49 (rowsL_get ptL_len _ _ _ (by omega)) (ptL_len _)) rfl (uE' (v := (pP b3 0)) rfl (ex_fieldAddr rfl Tryz.underlying37 rfl Tryz.sizeOf33 rfl) rfl (uO'' 3 (Value.slice g.mx.a.p g.ps.length g.mx.a.c) tO33 rfl ?_)))))
   refine uM' rfl (uM' rfl (uE' (v := (pP (pB o.p) (pO o.p + i * 4))) rfl (ex_index_row (j := i) rfl rfl o.ok Tryz.underlying53 Tryz.sizeOf58 rfl (by omega)) rfl (uE' (v := (pP (pB o.p) (pO o.p + (i * 4 + 1)))) rfl (ex_fieldAddr rfl Tryz.underlying58 rfl Tryz.sizeOf3 (Nat.add_assoc _ _ _)) rfl (uE' rfl (ex_load_rowR_one (v := (vN (((edL g.ts).getD i (⟨0, 0, 0, 0⟩ : E4)).b))) (i := 0) rfl rfl (RowOk.ne o.ok (by omega)) tO3 (rowsL_at e4L_len (⟨0, 0, 0, 0⟩ : E4) _ _ 1 (by omega) (by decide) rfl)) rfl (uE' (v := (pP (pB g.mx.a.p) (pO g.mx.a.p + (((edL g.ts).getD i (⟨0, 0, 0, 0⟩ : E4)).b) * 10))) rfl (ex_index_row (j := ((edL g.ts).getD i (⟨0, 0, 0, 0⟩ : E4)).b) rfl rfl g.mx.a.ok Tryz.underlying33 Tryz.sizeOf49 rfl (by omega)) rfl ?_)))))
   refine uE' (v := (aG (ptL (g.ps.getD (((edL g.ts).getD i (⟨0, 0, 0, 0⟩ : E4)).b) (⟨0, 0⟩ : Pt))))) rfl (ex_load_rowR_agg (vs := ptL (g.ps.getD (((edL g.ts).getD i (⟨0, 0, 0, 0⟩ : E4)).b) (⟨0, 0⟩ : Pt))) (i := 4) rfl rfl (RowOk.ne g.mx.a.ok (by omega)) tA49 (rowsL_get ptL_len _ _ _ (by omega)) (ptL_len _)) rfl (OkN.imp rfl fun EF EL => ck' Tryz.call8 (Cut_ok a b (g.ps.getD (((edL g.ts).getD i (⟨0, 0, 0, 0⟩ : E4)).a) (⟨0, 0⟩ : Pt)) (g.ps.getD (((edL g.ts).getD i (⟨0, 0, 0, 0⟩ : E4)).b) (⟨0, 0⟩ : Pt)) (by omega) (by omega) (hz1k _) (hz1k _)) rfl (OkN.back0 sr rfl (uM' rfl (uE' rfl (ex_extract (v := (vN (cutQ a b (g.ps.getD (((edL g.ts).getD i (⟨0, 0, 0, 0⟩ : E4)).a) (⟨0, 0⟩ : Pt)) (g.ps.getD (((edL g.ts).getD i (⟨0, 0, 0, 0⟩ : E4)).b) (⟨0, 0⟩ : Pt))))) rfl rfl) rfl ?_))))
   refine uE' rfl (ex_extract (v := (aG (ptL (cutP a b (g.ps.getD (((edL g.ts).getD i (⟨0, 0, 0, 0⟩ : E4)).a) (⟨0, 0⟩ : Pt)) (g.ps.getD (((edL g.ts).getD i (⟨0, 0, 0, 0⟩ : E4)).b) (⟨0, 0⟩ : Pt)))))) rfl rfl) rfl (OkN.news1 fun b6 => pS' rfl (OkE.imp rfl (stW0' rfl Tryz.sizeOf49 rfl (OkE.back (sl sr) ?_))))
   refine OkE.nil (OkQ.subF (sL [7, 8, 9, 10, 11, 12, 13] rfl) (q2 (mv' rfl (st' (ex_eql (c := (decide ((cutQ a b (g.ps.getD (((edL g.ts).getD i (⟨0, 0, 0, 0⟩ : E4)).a) (⟨0, 0⟩ : Pt)) (g.ps.getD (((edL g.ts).getD i (⟨0, 0, 0, 0⟩ : E4)).b) (⟨0, 0⟩ : Pt))) = 2))) rfl rfl (eqN (a := (cutQ a b (g.ps.getD (((edL g.ts).getD i (⟨0, 0, 0, 0⟩ : E4)).a) (⟨0, 0⟩ : Pt)) (g.ps.getD (((edL g.ts).getD i (⟨0, 0, 0, 0⟩ : E4)).b) (⟨0, 0⟩ : Pt)))) (b := 2))) rfl (OkL.nil ?_)))))
   refine OkQ.subF (sL [7, 8, 9, 10, 11, 12, 87] rfl) (OkQ.then_ ?_)
   refine OkC.cond rfl (fun hc2 => ?_) (fun hc2 => ?_)
   ·replace hc2 := of_decide_eq_true hc2
    refine q4 (ck' Tryz.call9 (lives31_ok) rfl (asg' rfl (OkL.nil (OkQ.subF (sL [7, 8, 9, 10, 11, 12, 4] rfl) (OkQ.then_ ?_)))))
    exact OkC.ret (OkQ.in_ret (OkQ.then_ret (OkQ.round1_ret (OkQ.in_ret (OkQ.then_ret (ret_one rfl (rd_tmp (v := (Value.bool true)) rfl) (fun w hw => ⟨rfl, hw.out⟩)))))))
   ·replace hc2 := of_decide_eq_false hc2
    refine OkC.skip (OkQ.in_normal (OkQ.then_ (OkC.region (mv' rfl (st' (ex_add (c := ((i + 1 : Nat) : Int)) rfl rfl (addN_i64 (a := i) (b := 1) (by omega))) rfl ?_)))))
    exact asg' rfl (OkL.nil (OkQ.subF (sL [7, 8, 9, 10, 11, 12] rfl) (OkQ.round1 (i + 1) (⟨by omega, fun k hk => by rcases Nat.lt_or_ge k i with h9 | h9; exact hcq k h9; rw [show k = i by omega]; exact hc2⟩) (by omega) (sF rfl) (sl sr))))
  ·replace hc1 := of_decide_eq_false hc1
   refine OkC.exit (OkQ.then_exit (OkQ.round1_exit (OkQ.in_exit (q1 (q4 ?_)))))
   refine asg' rfl (OkL.nil (OkQ.then_ (OkC.block (OkC.unroll 1 (OkR.step ?_)))))
   refine OkC.seq (q4 (mv' rfl (mv' rfl (st' (v := (vI 0)) (ex_len_slice rfl Tryz.underlying51) rfl (st' (ex_lss (c := false) rfl rfl (by decide)) rfl ?_)))))
   refine OkL.nil (OkQ.subF (sL [7, 8, 9, 10, 11, 12, 15, 92] rfl) (OkQ.then_ (OkC.cond_false rfl (OkC.exit (OkQ.then_exit ?_)))))
   refine OkQ.then_exit (OkQ.in_exit (q1 (q4 (mv' rfl (st' (v := (vI 0)) (ex_len_slice rfl Tryz.underlying51) rfl ?_)))))
   refine st' (ex_eql (c := true) rfl rfl (by decide)) rfl (OkL.nil (OkQ.subF (sL [7, 8, 9, 10, 11, 12, 15, 109] rfl) (OkQ.then_ (OkC.cond_true rfl (q4 ?_)))))
   refine ck' Tryz.call9 (lives31_ok) rfl (asg' rfl (OkL.nil (OkQ.subF (sL [7, 8, 9, 10, 11, 12, 15, 4] rfl) (OkQ.then_ (OkC.ret ?_)))))
   exact OkQ.then_ret (ret_one rfl (rd_tmp (v := (Value.bool true)) rfl) (fun w hw => ⟨rfl, hw.out⟩))
theorem LocatesAcross_ok (m : MQ) (l0 l1 : PD) (k0 : l0.ok) (k1 : l1.ok) (w : World) {S : Nat → Prop} (hm : Ro S w m) : Calls Tryz.prog 3 #[(aG (mqL m)), (aG (pdL l0 ++ pdL l1))] w (Gives w (Value.bool true)) := by
 by_cases h : ptOf l0 = ptOf l1
 ·exact LocatesAcross0_ok m l0 l1 k0 k1 h w hm
 ·exact LocatesAcross1_ok m l0 l1 k0 k1 h w hm
end
end Go.Proofs.YtnofgcpajmldkaaGreatDoor
