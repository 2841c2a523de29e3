import Derived.Test.YtgiacpkjnikjdaaGreatPart06
import Derived.Test.YtgiacpkjnikjdaaGreatPart39
namespace Go.Proofs.YtgiacpkjnikjdaaGreat
open Go Go.RowKit
set_option linter.unusedVariables false
set_option linter.unusedSimpArgs false
section
set_option maxRecDepth 100000
theorem tfill_numuu_119 (x0 x1 : Nat) : Instr.fill (fun i => some (i * 1, 1)) (posL ((0, 0) : P2)).toArray [(0, vN x0), (1, vN x1)] = some (posL (x0, x1)).toArray := by kernel_rfl
set_option maxHeartbeats 4000000 in
theorem Bisect_ok {ps : List Pt} {ts ss : List T3} (x : MX ps ts ss) (ms : List Int) (y : RX (zL ms) ms.length) (hnb : numB ps.length ts = true) (hz : ∀ i, SzP (cor ps i) ≤ 1000000) (hsl : ss.length ≤ 1000000) (hml : ms.length ≤ 1000000) (hv : ∀ j, j < ms.length → 0 ≤ ms.getD j 0 ∧ ms.getD j 0 < (ts.length : Int)) (hlim : ps.length + (edL ts).length ≤ 4096 ∧ 4 * ts.length ≤ 8192) (w : World) {S : Nat → Prop} (hx : Ro S w x) (hy : Ro S w y) : Calls Tryz.prog 14 #[(aG (mxL x)), (Value.slice y.p ms.length y.c)] w (GivesR (BsX ps ts ss ms) S w) := by
 obtain ⟨hl1, hl2⟩ := hlim
 have hel0 := edL_le ts
 have lx := atA (W := w) hx
 have ly := atA (W := w) hy
 refine calls_ofR (args := [(aG (mxL x)), (Value.slice y.p ms.length y.c)]) (L := [rowR x.a.p (rowsL ptL ps), rowR x.b.p (rowsL t3L ts), rowR x.c.p (rowsL t3L ss), rowR y.p (zL ms)]) Tryz.func14 rfl rfl (leB rfl) (sxA hx (sxA hy roL_nil)) (OkC.subF (sL [0, 1] rfl) (q4 (bx' (cs := mxL x) rfl fun b1 => OkL.frzX 0 rfl rfl fun hnb1 => al tZ31 rfl fun b2 => ?_)))
 refine al tZ34 rfl fun b3 => OkL.nilRow 3 1 (asg' rfl (q6 (sL [1, 2, 4, 5, 6] rfl) (q4 (st' (v := (aG (mxL x))) (ex_load_rowR_agg (q := some ⟨b1, 0, none⟩) (vs := mxL x) (off := 0) (i := 3) rfl rfl (fun e => by cases e) tA31 rfl rfl) rfl ?_))))
 refine cl' (args := [(aG (mxL x))]) (v := (Value.bool true)) Tryz.call48 (fun w hw => (by have h9 := Numd_ok x (by omega) w (inS hw 4 rfl lx); rw [hnb] at h9; exact h9)) rfl (st' (ex_not (c := false) rfl rfl) rfl (mv' rfl (OkL.step (v := (Value.slice y.p ms.length y.c)) (wt_some' rfl) (ex_move rfl) rfl (leB rfl) (OkL.step (v := (Value.func (.func 50) #[] #[(pP b1 0)])) (wt_some' rfl) (ex_makeFunc (vs := []) (us := [(pP b1 0)]) rfl rfl) rfl (leB rfl) (OkL.call (v := (Value.bool false)) (wt_some' rfl) (op_call0 (args := [(Value.slice y.p ms.length y.c), (Value.func (.func 50) #[] #[(pP b1 0)])]) rfl rfl Tryz.call49) (fun w hw => inrC_ok x ⟨b1⟩ ms y (by omega) hv w (inB (x := (⟨b1⟩ : BX (mxL x))) hw 3 rfl hnb1) (inS hw 7 rfl ly)) rfl (leB rfl) ?_)))))
 refine st' (v := (Value.bool false)) (ex_pick_false rfl rfl) rfl (OkL.nil (OkQ.subF (sL [1, 2, 4, 5, 6, 22] rfl) (OkQ.then_ (OkC.cond_false rfl (OkC.skip ?_)))))
 refine q1 (rG' [(0, true), (1, true), (2, true), (3, false), (4, false), (5, true)] sr (pE' (v := (aG (mxL x))) rfl (ex_load_rowR_agg (q := some ⟨b1, 0, none⟩) (vs := mxL x) (off := 0) (i := 3) rfl rfl (fun e => by cases e) tA31 rfl rfl) (pE' (v := (aG (mxL x))) rfl (ex_load_rowR_agg (q := some ⟨b1, 0, none⟩) (vs := mxL x) (off := 0) (i := 3) rfl rfl (fun e => by cases e) tA31 rfl rfl) (pM' rfl (OkE.imp rfl ?_)))))
 refine OkL.callR (S := S) (α := HC ts ms) (args := [(aG (mxL x)), (Value.slice y.p ms.length y.c)]) Tryz.call52 (fun w hw => closure_ok x ms y hnb (by omega) (by omega) (by omega) w (inS hw 4 rfl lx) (inS hw 7 rfl ly)) rfl rfl rfl fun h lh => OkE.back (sl sr) (OkE.imp rfl (OkL.callR (S := S) (α := DX ts ms) (args := [(aG (mxL x)), (Value.map (some h.b))]) Tryz.call51 (fun w hw => bedges_ok x h hnb (by omega) (by omega) w (inS hw 5 rfl lx) (inS hw 0 rfl lh)) rfl rfl rfl fun u lu => OkE.back (sl (sl sr)) (pS' rfl ?_)))
 have hul := filter_le u.el
 refine OkE.nil (OkQ.subF (sL [1, 2, 4, 5, 6, 7] rfl) (q2 (OkL.makeMap kEd vN (wt_none rfl) rfl fun b4 => ?_)))
 rw [show ([] : List (P2 × Nat)) = midS ps.length u.l 0 from rfl]
 refine al tZ116 rfl fun b5 => stW0' rfl Tryz.sizeOf116 rfl (q6 (sL [1, 2, 4, 5, 6, 7, 8] rfl) (q4 (mv' rfl (st' (v := (vN u.l.length)) (ex_len_slice rfl Tryz.underlying40) rfl ?_))))
 refine mv' rfl (OkL.nil (OkQ.then_ (OkC.block ?_)))
 refine OkC.lp1 (tg fun (i : Nat) => i ≤ u.l.length) (tg fun (i : Nat) => [(2, (pP b1 0)), (4, (pP b2 0)), (5, (pP b3 0)), (6, (vI 0)), (7, (Value.slice u.r.p u.l.length u.r.c)), (8, (pP b5 0)), (30, (Value.slice u.r.p u.l.length u.r.c)), (31, (vN u.l.length)), (32, (vN i))]) (tg fun (i : Nat) => [blk b5 116 ([(Value.map (some b4))]), mapA b4 kEd vN (midS ps.length u.l i), rowR u.r.p (rowsL e4L u.l), mapR h.b kEd vN h.kvs, rowW none 3 1 0 0 (inL ([])), blk b3 34 ([(Value.slice none 0 0)]), blk b2 31 ([(Value.slice none 0 0), (Value.slice none 0 0), (Value.slice none 0 0)]), rowR (some ⟨b1, 0, none⟩) (mxL x), rowR x.a.p (rowsL ptL ps), rowR x.b.p (rowsL t3L ts), rowR x.c.p (rowsL t3L ss), rowR y.p (zL ms)]) (tg fun (i : Nat) => u.l.length - i) 0 (Nat.zero_le _) (sF rfl) sr (fun i hJ => ?_)
 have hi := hJ
 refine q4 (st' (ex_lss (c := (decide (i < u.l.length))) rfl rfl (ltN (a := i) (b := u.l.length))) rfl (OkL.nil (q1 ?_)))
 refine OkC.cond rfl (fun hc1 => ?_) (fun hc1 => ?_)
 ·replace hc1 := of_decide_eq_true hc1
  obtain ⟨ed, hed⟩ : ∃ q, q = u.l.getD i (⟨0, 0, 0, 0⟩ : E4) := ⟨_, rfl⟩
  obtain ⟨hea, heb⟩ := edge_ends hnb (by omega) (e := ed) (by have h9 : ed ∈ u.l := (by rw [hed, List.getD, List.getElem?_eq_getElem hc1]; exact List.getElem_mem hc1); rw [u.el] at h9; exact (List.mem_filter.1 h9).1)
  refine OkC.skip (q1 (OkC.block (q4 (mv' rfl (st' (v := (pP (pB u.r.p) (pO u.r.p + i * 4))) (ex_index_row (j := i) rfl rfl u.r.ok Tryz.underlying40 Tryz.sizeOf44 rfl (by omega)) rfl ?_)))))
  refine st' (v := (aG (e4L (u.l.getD i (⟨0, 0, 0, 0⟩ : E4))))) (ex_load_rowR_agg (vs := e4L (u.l.getD i (⟨0, 0, 0, 0⟩ : E4))) (i := 2) rfl rfl (RowOk.ne u.r.ok (by omega)) tA44 (rowsL_get e4L_len _ _ _ (by omega)) (e4L_len _)) rfl (OkL.retell (k := 36) (u := (aG (e4L ed))) rfl (by rw [hed]) (al tZ44 rfl fun b6 => asg' rfl (stW0' rfl Tryz.sizeOf44 rfl (OkL.nil ?_))))
  refine OkQ.subF (sL [2, 4, 5, 6, 7, 8, 30, 31, 32, 10, 9] rfl) (OkQ.then_ (OkC.region (ldO' 1 (Value.map (some b4)) tO116 rfl (st' (v := (pP b6 0)) (ex_fieldAddr rfl Tryz.underlying44 rfl Tryz.sizeOf3 rfl) rfl (ldO' 0 (vN ed.a) tO3 rfl ?_)))))
  refine st' (v := (pP b6 1)) (ex_fieldAddr rfl Tryz.underlying44 rfl Tryz.sizeOf3 rfl) rfl (ldO' 0 (vN ed.b) tO3 rfl (st' (v := (aG (posL (ed.a, ed.b)))) (ex_build_array (zs := posL ((0, 0) : P2)) (vs := posL (ed.a, ed.b)) (pv := [(0, (vN ed.a)), (1, (vN ed.b))]) Tryz.zeroValue119 Tryz.underlying119 Tryz.sizeOf3 rfl (tfill_numuu_119 ed.a ed.b)) rfl (st' (v := (pP b1 0)) (ex_fieldAddr rfl Tryz.underlying31 rfl Tryz.sizeOf27 rfl) rfl (st' (ex_load_rowR_one (q := some ⟨b1, 0, none⟩) (v := (Value.slice x.a.p ps.length x.a.c)) (off := 0) (i := 8) rfl rfl (fun e => by cases e) tO27 rfl) rfl (st' (v := (vN ps.length)) (ex_len_slice rfl Tryz.underlying27) rfl ?_)))))
  refine mv' rfl (st' (ex_add (c := ((ps.length + i : Nat) : Int)) rfl rfl (addN_i64 (a := ps.length) (b := i) (by omega))) rfl (OkL.mapUpdate keyCl 2 (kvs := midS ps.length u.l i) (x := (ed.a, ed.b)) (y := ps.length + i) (wt_none rfl) rfl rfl rfl Tryz.underlying116 rfl (midS_ok (filter_two hnb (by omega) u.el) (by omega) _ (by omega)) (⟨by show ed.a < _; omega, by show ed.b < _; omega⟩) ?_))
  rw [show putM (midS ps.length u.l i) (ed.a, ed.b) (ps.length + i) = midS ps.length u.l (i + 1) from by rw [show ((ed.a, ed.b) : P2) = kyE ed.a ed.b from Prod.ext (by show _ = min _ _; omega) (by show _ = max _ _; omega), hed]; rfl]
  refine OkL.nil (OkQ.subF (sL [2, 4, 5, 6, 7, 8, 30, 31, 32, 10] rfl) (OkQ.in_normal (OkQ.then_ (OkC.region (st' (ex_add (c := ((i + 1 : Nat) : Int)) rfl rfl (addN_i64 (a := i) (b := 1) (by omega))) rfl ?_)))))
  exact mv' rfl (OkL.nil (OkQ.subF (sL [2, 4, 5, 6, 7, 8, 30, 31, 32, 10] rfl) (OkQ.round1 (i + 1) (by omega) (by omega) (sF rfl) (sl sr))))
 ·replace hc1 := of_decide_eq_false hc1
  have hie : i = u.l.length := by omega
  obtain ⟨md, hmdq⟩ : ∃ q, q = midS ps.length u.l u.l.length := ⟨_, rfl⟩
  have hmd1 : OkM okE md := hmdq ▸ midS_ok (filter_two hnb (by omega) u.el) (by omega) _ (Nat.le_refl _)
  have hmd2 : ∀ k n, getM md k = some n → n < 4611686018427387904 := fun k n h => by have := midS_lt (N := ps.length) _ (Nat.le_refl _) k n (by rw [← hmdq]; exact h); omega
  rw [show midS ps.length u.l i = md by rw [hie, hmdq]]
  refine OkC.exit (OkQ.then_exit (OkQ.round1_exit (OkQ.in_exit (q2 (al tZ28 rfl fun b6 => ?_)))))
  refine OkL.nilRow 45 3 (OkL.nil (q2 (al tZ120 rfl fun b7 => OkL.nil (q2 ?_))))
  refine st' (v := (Value.func (.func 53) #[] #[(pP b5 0), (pP b6 0), (pP b3 0), (pP b7 0)])) (ex_makeFunc (vs := []) (us := [(pP b5 0), (pP b6 0), (pP b3 0), (pP b7 0)]) rfl rfl) rfl (stW0' rfl Tryz.sizeOf120 rfl (q6 (sL [2, 4, 5, 6, 7, 8, 30, 31, 32, 11, 12] rfl) (q4 (st' (v := (pP b1 1)) (ex_fieldAddr rfl Tryz.underlying31 rfl Tryz.sizeOf28 rfl) rfl (st' (ex_load_rowR_one (q := some ⟨b1, 0, none⟩) (v := (Value.slice x.b.p ts.length x.b.c)) (off := 1) (i := 10) rfl rfl (fun e => by cases e) tO28 rfl) rfl ?_)))))
  refine st' (v := (vN ts.length)) (ex_len_slice rfl Tryz.underlying28) rfl (mv' rfl (OkL.nil (OkQ.subF (sL [2, 4, 5, 6, 7, 8, 30, 31, 32, 11, 12, 51, 52, 53] rfl) (OkQ.then_ (OkC.block ?_)))))
  refine OkC.lp5 (tg fun (t : Nat) (p1 : Option Addr) (c1 : Nat) (p2 : Option Addr) (c2 : Nat) => t ≤ ts.length ∧ OwnOk p1 (hvN md ts t).length c1 ∧ OwnOk p2 (hpN md ts t).length c2) (tg fun (t : Nat) (p1 : Option Addr) (c1 : Nat) (p2 : Option Addr) (c2 : Nat) => [(2, (pP b1 0)), (4, (pP b2 0)), (5, (pP b3 0)), (6, (vI 0)), (7, (Value.slice u.r.p u.l.length u.r.c)), (11, (pP b6 0)), (12, (pP b7 0)), (51, (Value.slice x.b.p ts.length x.b.c)), (52, (vN ts.length)), (53, (vN t))]) (tg fun (t : Nat) (p1 : Option Addr) (c1 : Nat) (p2 : Option Addr) (c2 : Nat) => [blk b7 120 ([(Value.func (.func 53) #[] #[(pP b5 0), (pP b6 0), (pP b3 0), (pP b7 0)])]), rowW p1 45 3 ((hvN md ts t).length) c1 (rowsL t3L (hvN md ts t)), blk b6 28 ([(Value.slice p1 ((hvN md ts t).length) c1)]), blk b5 116 ([(Value.map (some b4))]), mapA b4 kEd vN md, rowR u.r.p (rowsL e4L u.l), mapR h.b kEd vN h.kvs, rowW p2 3 1 ((hpN md ts t).length) c2 (inL (hpN md ts t)), blk b3 34 ([(Value.slice p2 ((hpN md ts t).length) c2)]), blk b2 31 ([(Value.slice none 0 0), (Value.slice none 0 0), (Value.slice none 0 0)]), rowR (some ⟨b1, 0, none⟩) (mxL x), rowR x.a.p (rowsL ptL ps), rowR x.b.p (rowsL t3L ts), rowR x.c.p (rowsL t3L ss), rowR y.p (zL ms)]) (tg fun (t : Nat) (p1 : Option Addr) (c1 : Nat) (p2 : Option Addr) (c2 : Nat) => ts.length - t) 0 none 0 none 0 (⟨Nat.zero_le _, OwnOk.none, OwnOk.none⟩) (sF rfl) sr (fun t p1 c1 p2 c2 hJ => ?_)
  obtain ⟨ht, ho1, ho2⟩ := hJ
  have hvl := hvN_le (md := md) t ht
  have hvp := hpN_len (md := md) t ht
  refine q4 (st' (ex_lss (c := (decide (t < ts.length))) rfl rfl (ltN (a := t) (b := ts.length))) rfl (OkL.nil (q1 ?_)))
  refine OkC.cond rfl (fun hc2 => ?_) (fun hc2 => ?_)
  ·replace hc2 := of_decide_eq_true hc2
   obtain ⟨T, hT⟩ : ∃ q, q = ts.getD t (0, 0, 0) := ⟨_, rfl⟩
   obtain ⟨g1, g2, g3⟩ := okT_spec (numB_at hnb hc2)
   rw [← hT] at g1 g2 g3
   refine OkC.skip (q1 (OkC.block (q4 (mv' rfl (st' (v := (pP (pB x.b.p) (pO x.b.p + t * 3))) (ex_index_row (j := t) rfl rfl x.b.ok Tryz.underlying28 Tryz.sizeOf45 rfl (by omega)) rfl ?_)))))
   refine st' (v := (aG (t3L (ts.getD t ((0, 0, 0) : Nat × Nat × Nat))))) (ex_load_rowR_agg (vs := t3L (ts.getD t ((0, 0, 0) : Nat × Nat × Nat))) (i := 12) rfl rfl (RowOk.ne x.b.ok (by omega)) tA45 (rowsL_get t3L_len _ _ _ (by omega)) (t3L_len _)) rfl (OkL.retell (k := 57) (u := (aG (t3L T))) rfl (by rw [hT]) (al tZ45 rfl fun b8 => asg' rfl (stW0' rfl Tryz.sizeOf45 rfl (OkL.nil ?_))))
   refine OkQ.subF (sL [2, 4, 5, 6, 7, 11, 12, 51, 52, 53, 14, 13] rfl) (OkQ.then_ (OkC.region (ldO' 1 (Value.func (.func 53) #[] #[(pP b5 0), (pP b6 0), (pP b3 0), (pP b7 0)]) tO120 rfl (ldW' 0 tA45 rfl (mv' rfl ?_)))))
   have hq := hvT_len md 2 T
   refine OkL.callT (v := .tuple #[]) (α := HvO) (K := fun a => OwnOk a.pa (hvN md ts t ++ hvT md 2 T).length a.ca ∧ OwnOk a.pp (hpN md ts t ++ rpN (hvT md 2 T).length t).length a.cp) (LO := fun a => [blk b8 45 (t3L T), blk b7 120 ([(Value.func (.func 53) #[] #[(pP b5 0), (pP b6 0), (pP b3 0), (pP b7 0)])]), rowW a.pa 45 3 ((hvN md ts t ++ hvT md 2 T).length) a.ca (rowsL t3L (hvN md ts t ++ hvT md 2 T)), blk b6 28 ([(Value.slice a.pa ((hvN md ts t ++ hvT md 2 T).length) a.ca)]), blk b5 116 ([(Value.map (some b4))]), mapA b4 kEd vN md, rowR u.r.p (rowsL e4L u.l), mapR h.b kEd vN h.kvs, rowW a.pp 3 1 ((hpN md ts t ++ rpN (hvT md 2 T).length t).length) a.cp (inL (hpN md ts t ++ rpN (hvT md 2 T).length t)), blk b3 34 ([(Value.slice a.pp ((hpN md ts t ++ rpN (hvT md 2 T).length t).length) a.cp)]), blk b2 31 ([(Value.slice none 0 0), (Value.slice none 0 0), (Value.slice none 0 0)]), rowR (some ⟨b1, 0, none⟩) (mxL x), rowR x.a.p (rowsL ptL ps), rowR x.b.p (rowsL t3L ts), rowR x.c.p (rowsL t3L ss), rowR y.p (zL ms)]) (wt_none rfl) (op_call (args := [(aG (t3L T)), (vN t), (vI 2)]) (caps := [(pP b5 0), (pP b6 0), (pP b3 0), (pP b7 0)]) (all := [(aG (t3L T)), (vN t), (vI 2), (pP b5 0), (pP b6 0), (pP b3 0), (pP b7 0)]) rfl rfl rfl Tryz.call53) (perm_idx [5, 4, 2, 3, 8, 9, 1, 0, 6, 7, 10, 11, 12, 13, 14, 15] (show List.Perm [5, 4, 2, 3, 8, 9, 1, 0, 6, 7, 10, 11, 12, 13, 14, 15] (List.range 16) by decide) rfl) (fun w hw => (halve_two ⟨b4, b5, b6, b3, b7⟩ md t hmd1 hmd2 (by omega) (hvN md ts t) p1 c1 ho1 (hpN md ts t) p2 c2 ho2 T ⟨by omega, by omega, by omega⟩ (by simp only [Nat.reducePow]; omega) (by simp only [Nat.reducePow]; omega) w _ [blk b8 45 (t3L T), rowR u.r.p (rowsL e4L u.l), mapR h.b kEd vN h.kvs, blk b2 31 ([(Value.slice none 0 0), (Value.slice none 0 0), (Value.slice none 0 0)]), rowR (some ⟨b1, 0, none⟩) (mxL x), rowR x.a.p (rowsL ptL ps), rowR x.b.p (rowsL t3L ts), rowR x.c.p (rowsL t3L ss), rowR y.p (zL ms)] hw).mono fun e w' ⟨h1, a, h2, h3⟩ => ⟨h1, a, h2, h3.perm (perm_idx [7, 6, 2, 3, 1, 0, 8, 9, 4, 5, 10, 11, 12, 13, 14, 15] (show List.Perm [7, 6, 2, 3, 1, 0, 8, 9, 4, 5, 10, 11, 12, 13, 14, 15] (List.range 16) by decide) rfl)⟩) (fun d hd => by cases hd <;> exact (leB rfl)) ?_; intro a ⟨ho3, ho4⟩
   have hsA : hvN md ts (t + 1) = hvN md ts t ++ hvT md 2 T := by rw [hT]; exact hvN_succ (by omega)
   have hsP : hpN md ts (t + 1) = hpN md ts t ++ rpN (hvT md 2 T).length t := by rw [hT]; rfl
   refine OkL.nil (OkQ.subF (sL [2, 4, 5, 6, 7, 11, 12, 51, 52, 53, 14] rfl) (OkQ.in_normal (OkQ.then_ (OkC.region (st' (ex_add (c := ((t + 1 : Nat) : Int)) rfl rfl (addN_i64 (a := t) (b := 1) (by omega))) rfl ?_)))))
   refine mv' rfl (OkL.nil (OkQ.subF (sL [2, 4, 5, 6, 7, 11, 12, 51, 52, 53, 14] rfl) ?_))
   rw [← hsA, ← hsP]
   exact OkQ.round5 (t + 1) a.pa a.ca a.pp a.cp (⟨by omega, (by rw [hsA]; exact ho3), (by rw [hsP]; exact ho4)⟩) (by omega) (sF rfl) (sl sr)
  ·replace hc2 := of_decide_eq_false hc2
   have hte : t = ts.length := by omega
   have hA : hvN md ts t = hvA md ts := by rw [hte, hvN_all]
   have hP : hpN md ts t = hpN md ts ts.length := by rw [hte]
   rw [hA] at ho1 hvl
   rw [hP] at ho2
   rw [hA, hP]
   refine OkC.exit (OkQ.then_exit (OkQ.round5_exit (OkQ.in_exit (q1 (q4 ?_)))))
   refine st' (v := (pP b1 0)) (ex_fieldAddr rfl Tryz.underlying31 rfl Tryz.sizeOf27 rfl) rfl (st' (ex_load_rowR_one (q := some ⟨b1, 0, none⟩) (v := (Value.slice x.a.p ps.length x.a.c)) (off := 0) (i := 10) rfl rfl (fun e => by cases e) tO27 rfl) rfl (st' (v := (vN ps.length)) (ex_len_slice rfl Tryz.underlying27) rfl (mv' rfl (st' (v := (vN u.l.length)) (ex_len_slice rfl Tryz.underlying40) rfl (st' (ex_add (c := ((ps.length + u.l.length : Nat) : Int)) rfl rfl (addN_i64 (a := ps.length) (b := u.l.length) (by omega))) rfl ?_)))))
   refine st' (ex_gtr (c := false) rfl rfl (decide_eq_false (by omega))) rfl (mv' rfl (OkL.step (v := (Value.slice p1 ((hvA md ts).length) c1)) (wt_some' rfl) (ex_load_one (i := 2) (v := (Value.slice p1 ((hvA md ts).length) c1)) rfl rfl tO28.a rfl) rfl (leB rfl) (OkL.step (v := (vN ((hvA md ts).length))) (wt_some' rfl) (ex_len_slice rfl Tryz.underlying28) rfl (leB rfl) (OkL.step (v := (Value.bool false)) (wt_some' rfl) (ex_gtr (c := false) rfl rfl (decide_eq_false (by omega))) rfl (leB rfl) (st' (v := (Value.bool false)) (ex_pick_false rfl rfl) rfl ?_)))))
   refine OkL.frzRow 1 rfl ho1 (rowsL_length t3L_len _) rfl rfl fun hn_AL => OkL.nil (OkQ.subF (sL [2, 4, 5, 6, 7, 11, 12, 51, 52, 53, 74] rfl) (OkQ.then_ (OkC.cond_false rfl (OkC.skip ?_))))
   refine q1 (rCP 3 [0, 1, 2, 4] [(5, false)] 6 [(7, false), (8, true)] sr (sk (sk (sk (sk (sk (sk (sk (sk (sl (sl sr)))))))))) (by kernel_rfl) (fun _ _ d _ _ h => by cases d <;> exact h) (OkP.pas (v := (aG (mxL x))) rfl (wt_none rfl) (ex_load_rowR_agg (q := some ⟨b1, 0, none⟩) (vs := mxL x) (off := 0) (i := 10) rfl rfl (fun e => by cases e) tA31 rfl rfl) rfl rfl (OkP.pas (v := (Value.slice u.r.p u.l.length u.r.c)) rfl (wt_none rfl) (ex_move rfl) rfl rfl (OkP.pas (v := (Value.slice p1 ((hvA md ts).length) c1)) rfl (wt_none rfl) (ex_load_one (i := 2) (v := (Value.slice p1 ((hvA md ts).length) c1)) rfl rfl tO28.a rfl) rfl rfl (OkP.pas (v := (Value.slice p2 ((hpN md ts ts.length).length) c2)) rfl (wt_none rfl) (ex_load_one (i := 8) (v := (Value.slice p2 ((hpN md ts ts.length).length) c2)) rfl rfl tO34.a rfl) rfl rfl ?_)))))
   refine OkP.nil (OkG.one rfl rfl (by kernel_rfl) (cM (S := S) (args := [(aG (mxL x)), (Value.slice u.r.p u.l.length u.r.c), (Value.slice p1 ((hvA md ts).length) c1)]) Tryz.call55 (fun w hw => Halves_ok x u.l u.r (hvA md ts) ⟨p1, c1, ho1.row⟩ (filter_two hnb (by omega) u.el) (by rw [hmdq]; exact hvA_num hnb) hz (by omega) (by omega) (by omega) (by omega) w (inS hw 11 rfl lx) (inS hw 5 rfl lu) (inS hw 1 rfl (At.new hn_AL))) rfl fun f hf => OkF.back (sl (sl (sl sr))) (OkF.imp rfl (ck' Tryz.call56 (clipI_ok p2 ((hpN md ts ts.length).length) c2 ho2.row.le) rfl ?_))))
   refine OkF.back (sl (sl (sl sr))) (OkF.cut rfl (stX 12 (off := 0) (vs := mxL f) (cs' := mxL f) (wt_none rfl) rfl Tryz.sizeOf31 rfl (OkE.back (sl (sl (sl (sk (sk (sk (sk (sk (sk (sk (sk (sl (sl sr))))))))))))) (OkE.imp rfl (stX 11 (off := 0) (vs := [(Value.slice p2 ((hpN md ts ts.length).length) ((hpN md ts ts.length).length))]) (cs' := [(Value.slice p2 ((hpN md ts ts.length).length) ((hpN md ts ts.length).length))]) (wt_none rfl) rfl Tryz.sizeOf34 rfl ?_)))))
   exact OkE.back (sl (sl (sl (sk (sk (sk (sk (sk (sk (sk (sk (sl (sl sr))))))))))))) (pS' rfl (OkE.nil (OkQ.subF (sL [2, 4, 5, 6, 7, 11, 12, 51, 52, 53] rfl) (OkQ.then_ (OkC.ret (ret_three rfl (rd_agg (i := 12) (cs := mxL f) rfl rfl Tryz.isAgg31 Tryz.sizeOf31 rfl) (rd_one (i := 11) (v := (Value.slice p2 ((hpN md ts ts.length).length) ((hpN md ts ts.length).length))) rfl rfl Tryz.isAgg34 rfl) (rd_tmp (v := (vI 0)) rfl) (fun w hw => (giveBs u (by rw [← hmdq]; exact retRdC hw (inS hw 0 rfl hf) 10 rfl ho2 rfl rfl)))))))))
end
section
set_option maxRecDepth 100000
theorem tM34 : MakeT Tryz.prog 34 3 (vN 0) 8 := ⟨Tryz.underlying34, _, _, rfl, rfl, rfl, rfl, rfl⟩
set_option maxHeartbeats 1000000 in
theorem All_ok {ps : List Pt} {ts ss : List T3} (x : MX ps ts ss) (hnb : numB ps.length ts = true) (hz : ∀ i, SzP (cor ps i) ≤ 1000000) (hsl : ss.length ≤ 1000000) (hlim : ps.length + (edL ts).length ≤ 4096 ∧ 4 * ts.length ≤ 8192) (w : World) {S : Nat → Prop} (hx : Ro S w x) : Calls Tryz.prog 15 #[(aG (mxL x))] w (GivesR (BsX ps ts ss (rngZ ts.length)) S w) := by
 have lx := atA (W := w) hx
 refine calls_ofR (args := [(aG (mxL x))]) (L := [rowR x.a.p (rowsL ptL ps), rowR x.b.p (rowsL t3L ts), rowR x.c.p (rowsL t3L ss)]) Tryz.func15 rfl rfl (leB rfl) (sxA hx roL_nil) (OkC.subF (sL [0] rfl) (q4 (bx' (cs := mxL x) rfl fun b1 => al tZ31 rfl fun b2 => asg' rfl ?_)))
 refine asg' rfl (q3 (sL [1, 2, 3, 4] rfl) (st' (v := (pP b1 1)) (ex_fieldAddr rfl Tryz.underlying31 rfl Tryz.sizeOf28 rfl) rfl (ldO' 1 (Value.slice x.b.p ts.length x.b.c) tO28 rfl (st' (v := (vN ts.length)) (ex_len_slice rfl Tryz.underlying28) rfl ?_))))
 refine OkL.makeInt (m := ts.length) tM34 rfl rfl (by omega) rfl rfl ?_; intro bm hbm; rw [rngN_zero]
 refine asg' rfl (q6 (sL [1, 2, 3, 4, 5] rfl) (q4 (mv' rfl (st' (v := (vN ts.length)) (ex_len_slice rfl Tryz.underlying34) rfl (mv' rfl ?_)))))
 refine OkL.nil (OkQ.subF (sL [1, 2, 3, 4, 5, 12, 13] rfl) (OkQ.then_ (OkC.block ?_)))
 refine OkC.lp1 (tg fun (t : Nat) => t ≤ ts.length) (tg fun (t : Nat) => [(1, (pP b1 0)), (2, (pP b2 0)), (3, (Value.slice none 0 0)), (4, (vI 0)), (5, (Value.slice (some ⟨bm, 0, none⟩) ts.length ts.length)), (12, (vN ts.length)), (13, (vN t))]) (tg fun (t : Nat) => [rowW (some ⟨bm, 0, none⟩) 3 1 ts.length ts.length (zL (rngN ts.length t)), blk b2 31 ([(Value.slice none 0 0), (Value.slice none 0 0), (Value.slice none 0 0)]), blk b1 31 (mxL x), rowR x.a.p (rowsL ptL ps), rowR x.b.p (rowsL t3L ts), rowR x.c.p (rowsL t3L ss)]) (tg fun (t : Nat) => ts.length - t) 0 (Nat.zero_le _) (sF rfl) sr (fun t hJ => ?_)
 have ht := hJ
 refine q4 (st' (ex_lss (c := (decide (t < ts.length))) rfl rfl (ltN (a := t) (b := ts.length))) rfl (OkL.nil (q1 ?_)))
 refine OkC.cond rfl (fun hc0 => ?_) (fun hc0 => ?_)
 ·replace hc0 := of_decide_eq_true hc0
  refine OkC.skip (q1 (OkC.block (q4 (mv' rfl (asg' rfl ?_)))))
  refine OkL.nil (OkQ.subF (sL [1, 2, 3, 4, 5, 12, 13, 6] rfl) (OkQ.then_ (OkC.region (mv' rfl (mv' rfl ?_)))))
  refine mv' rfl (st' (v := (pP (pB (some ⟨bm, 0, none⟩)) (pO (some ⟨bm, 0, none⟩) + t * 1))) (ex_index_row (j := t) rfl rfl hbm.row Tryz.underlying34 Tryz.sizeOf3 rfl (by omega)) rfl (OkL.storeRow0 (j := t) (v := (vN t)) rfl rfl hbm (by rw [zL_length, Nat.mul_one, rngN_len (by omega)]) (by omega) rfl Tryz.sizeOf3 rfl (zL_set _ _ _) (OkL.nil (OkQ.subF (sL [1, 2, 3, 4, 5, 12, 13] rfl) (OkQ.in_normal ?_)))))
  refine OkQ.then_ (OkC.region (st' (ex_add (c := ((t + 1 : Nat) : Int)) rfl rfl (addN_i64 (a := t) (b := 1) (by omega))) rfl (mv' rfl (OkL.nil (OkQ.subF (sL [1, 2, 3, 4, 5, 12, 13] rfl) ?_)))))
  rw [rngN_set (by omega)]
  exact OkQ.round1 (t + 1) (by omega) (by omega) (sF rfl) sr
 ·replace hc0 := of_decide_eq_false hc0
  rw [show rngN ts.length t = rngZ ts.length by rw [show t = ts.length by omega, rngN_all]]
  refine OkC.exit (OkQ.then_exit (OkQ.round1_exit (OkQ.in_exit (q2 (ldW' 2 tA31 rfl ?_)))))
  refine OkL.frzRow 0 rfl hbm (by rw [zL_length, Nat.mul_one, rngZ_len]) rfl rfl fun hn_MK => mv' rfl (OkL.retell (k := 22) (u := (Value.slice (some ⟨bm, 0, none⟩) ((rngZ ts.length).length) ts.length)) rfl (by rw [rngZ_len]) (cBs (S := S) (args := [(aG (mxL x)), (Value.slice (some ⟨bm, 0, none⟩) ((rngZ ts.length).length) ts.length)]) Tryz.call14 (fun w hw => Bisect_ok x (rngZ ts.length) ⟨(some ⟨bm, 0, none⟩), ts.length, (by rw [rngZ_len]; exact hbm.row)⟩ hnb hz hsl (by rw [rngZ_len]; omega) (fun j hj => by rw [rngZ_len] at hj; rw [rngZ_get hj]; exact ⟨by omega, by omega⟩) hlim w (inS hw 3 rfl lx) (inS hw 0 rfl (At.new hn_MK))) rfl fun bs lbs hmbs hqbs => st' (ex_extract (v := (aG (mxL bs.x.m))) rfl rfl) rfl (st' (ex_extract (v := (Value.slice bs.x.q.p ((hpN (midS ps.length bs.l bs.l.length) ts ts.length).length) bs.x.q.c)) rfl rfl) rfl ?_)))
  refine st' (ex_extract (v := (vI 0)) rfl rfl) rfl (stX 5 (off := 0) (vs := mxL bs.x.m) (cs' := mxL bs.x.m) (wt_none rfl) rfl Tryz.sizeOf31 rfl (asg' rfl (asg' rfl (OkL.nil (OkQ.subF (sL [1, 2, 3, 4, 5, 12, 13] rfl) ?_)))))
  exact OkQ.then_ (OkC.ret (ret_three rfl (rd_agg (i := 5) (cs := mxL bs.x.m) rfl rfl Tryz.isAgg31 Tryz.sizeOf31 rfl) (rd_tmp (v := (Value.slice bs.x.q.p ((hpN (midS ps.length bs.l bs.l.length) ts ts.length).length) bs.x.q.c)) rfl) (rd_tmp (v := (vI 0)) rfl) (fun w hw => (retR hw (inS hw 0 rfl lbs) rfl))))
theorem hasE_ok  (l : List E4) (o : RX (rowsL e4L l) l.length) (hl : l.length ≤ 1000000) (e : E4) (w : World) {S : Nat → Prop} (ho : Ro S w o) : Calls Tryz.prog 18 #[(Value.slice o.p l.length o.c), (aG (e4L e))] w (Gives w (Value.bool (decide (e ∈ l)))) := by
 have lo := atA (W := w) ho
 refine calls_ofR (args := [(Value.slice o.p l.length o.c), (aG (e4L e))]) (L := [rowR o.p (rowsL e4L l)]) Tryz.func18 rfl rfl (leB rfl) (sxA ho roL_nil) (OkC.subF (sL [0, 1] rfl) (q4 (bx' (cs := e4L e) rfl fun b1 => asg' rfl (q6 (sL [0, 3, 4] rfl) ?_))))
 refine q4 (asg' rfl (OkL.nil (OkQ.then_ (OkC.block ?_))))
 refine OkC.lp1 (tg fun (i : Nat) => i ≤ l.length ∧ ∀ j, j < i → ¬ l.getD j (⟨0, 0, 0, 0⟩ : E4) = e) (tg fun (i : Nat) => [(0, (Value.slice o.p l.length o.c)), (3, (pP b1 0)), (5, (vN i))]) (tg fun (i : Nat) => [blk b1 44 (e4L e), rowR o.p (rowsL e4L l)]) (tg fun (i : Nat) => l.length - i) 0 (⟨Nat.zero_le _, fun j hj => absurd hj (Nat.not_lt_zero _)⟩) (sF rfl) sr (fun i hJ => ?_)
 obtain ⟨hi, hn⟩ := hJ
 refine OkC.seq (q4 (mv' rfl (mv' rfl (st' (v := (vN l.length)) (ex_len_slice rfl Tryz.underlying40) rfl (st' (ex_lss (c := (decide (i < l.length))) rfl rfl (ltN (a := i) (b := l.length))) rfl ?_)))))
 refine OkL.nil (OkQ.subF (sL [0, 3, 5, 9] rfl) (OkQ.then_ ?_))
 refine OkC.cond rfl (fun hc0 => ?_) (fun hc0 => ?_)
 ·replace hc0 := of_decide_eq_true hc0
  refine OkC.skip (q1 (OkC.block (OkC.seq (rG' [(0, true), (1, true), (2, true), (3, true), (4, true), (5, true)] sr (pM' rfl ?_)))))
  refine pM' rfl (pE' (v := (pP (pB o.p) (pO o.p + i * 4))) rfl (ex_index_row (j := i) rfl rfl o.ok Tryz.underlying40 Tryz.sizeOf44 rfl (by omega)) (pE' (v := (aG (e4L (l.getD i (⟨0, 0, 0, 0⟩ : E4))))) rfl (ex_load_rowR_agg (vs := e4L (l.getD i (⟨0, 0, 0, 0⟩ : E4))) (i := 1) rfl rfl (RowOk.ne o.ok (by omega)) tA44 (rowsL_get e4L_len _ _ _ (by omega)) (e4L_len _)) (pW' 0 tA44 rfl (pE' rfl (ex_eql_agg (c := decide (l.getD i (⟨0, 0, 0, 0⟩ : E4) = e)) rfl rfl Tryz.eqGuardType44 (eqB_e4 9998 (l.getD i (⟨0, 0, 0, 0⟩ : E4)) e)) (OkE.nil ?_)))))
  refine OkQ.subF (sL [0, 3, 5, 17] rfl) (OkQ.then_ ?_)
  refine OkC.cond rfl (fun hc1 => ?_) (fun hc1 => ?_)
  ·replace hc1 := of_decide_eq_true hc1
   refine q4 (asg' rfl (OkL.nil (OkQ.then_ (OkC.ret (OkQ.in_ret ?_)))))
   refine OkQ.then_ret (OkQ.round1_ret (OkQ.in_ret (OkQ.then_ret ?_)))
   exact ret_one rfl (rd_tmp (v := (Value.bool true)) rfl) (fun w hw => ⟨by rw [show decide (e ∈ l) = true from decide_eq_true (by rw [← hc1, List.getD, List.getElem?_eq_getElem hc0]; exact List.getElem_mem hc0)], hw.out⟩)
  ·replace hc1 := of_decide_eq_false hc1
   refine OkC.skip (OkQ.in_normal (OkQ.then_ (OkC.region (mv' rfl (st' (ex_add (c := ((i + 1 : Nat) : Int)) rfl rfl (addN_i64 (a := i) (b := 1) (by omega))) rfl ?_)))))
   exact asg' rfl (OkL.nil (OkQ.subF (sL [0, 3, 5] rfl) (OkQ.round1 (i + 1) (⟨by omega, fun j hj => by rcases Nat.lt_or_ge j i with h9 | h9; exact hn j h9; rw [show j = i by omega]; exact hc1⟩) (by omega) (sF rfl) sr)))
 ·replace hc0 := of_decide_eq_false hc0
  refine OkC.exit (OkQ.then_exit (OkQ.round1_exit (OkQ.in_exit (q2 (asg' rfl ?_)))))
  refine OkL.nil (OkQ.then_ (OkC.ret ?_))
  exact ret_one rfl (rd_tmp (v := (Value.bool false)) rfl) (fun w hw => ⟨by rw [show decide (e ∈ l) = false from decide_eq_false (fun hm => by obtain ⟨j, hj, hje⟩ := List.getElem_of_mem hm; exact hn j (by omega) (by rw [List.getD, List.getElem?_eq_getElem hj, hje]; rfl))], hw.out⟩)
set_option maxHeartbeats 1000000 in
theorem basE_ok  (l : List E4) (o : RX (rowsL e4L l) l.length) (hl : l.length ≤ 1000000) (C : T3) (hC : C.1 < 4611686018427387904 ∧ C.2.1 < 4611686018427387904 ∧ C.2.2 < 4611686018427387904) (w : World) {S : Nat → Prop} (ho : Ro S w o) : Calls Tryz.prog 19 #[(Value.slice o.p l.length o.c), (aG (t3L C))] w (Gives w (Value.bool (basB l C))) := by
 have lo := atA (W := w) ho
 refine calls_ofR (args := [(Value.slice o.p l.length o.c), (aG (t3L C))]) (L := [rowR o.p (rowsL e4L l)]) Tryz.func19 rfl rfl (leB rfl) (sxA ho roL_nil) (OkC.subF (sL [0, 1] rfl) (q4 (bx' (cs := t3L C) rfl fun b1 => asg' rfl (q6 (sL [0, 3, 4] rfl) ?_))))
 refine q4 (asg' rfl (OkL.nil (OkQ.then_ (OkC.block ?_))))
 refine OkC.lp1 (tg fun (i : Nat) => i ≤ l.length ∧ ∀ j, j < i → ¬ ((l.getD j (⟨0, 0, 0, 0⟩ : E4)).a = min C.2.1 C.2.2 ∧ (l.getD j (⟨0, 0, 0, 0⟩ : E4)).b = max C.2.1 C.2.2)) (tg fun (i : Nat) => [(0, (Value.slice o.p l.length o.c)), (3, (pP b1 0)), (5, (vN i))]) (tg fun (i : Nat) => [blk b1 45 (t3L C), rowR o.p (rowsL e4L l)]) (tg fun (i : Nat) => l.length - i) 0 (⟨Nat.zero_le _, fun j hj => absurd hj (Nat.not_lt_zero _)⟩) (sF rfl) sr (fun i hJ => ?_)
 obtain ⟨hi, hn⟩ := hJ
 refine OkC.seq (q4 (mv' rfl (mv' rfl (st' (v := (vN l.length)) (ex_len_slice rfl Tryz.underlying40) rfl (st' (ex_lss (c := (decide (i < l.length))) rfl rfl (ltN (a := i) (b := l.length))) rfl ?_)))))
 refine OkL.nil (OkQ.subF (sL [0, 3, 5, 9] rfl) (OkQ.then_ ?_))
 refine OkC.cond rfl (fun hc0 => ?_) (fun hc0 => ?_)
 ·replace hc0 := of_decide_eq_true hc0
  refine OkC.skip (q1 (OkC.block (OkC.seq ?_)))
  by_cases hs4 : (l.getD i (⟨0, 0, 0, 0⟩ : E4)).a = min C.2.1 C.2.2
  ·skip
   refine rG' [(0, true), (1, true), (2, true), (3, true), (4, true), (5, true), (6, true), (7, true), (8, true), (9, true), (10, true), (11, true), (12, true), (13, true), (14, true), (15, true), (16, true), (17, true), (18, true), (19, true), (20, true), (21, true), (22, true), (23, true)] sr (pM' rfl (pM' rfl (pE' (v := (pP (pB o.p) (pO o.p + i * 4))) rfl (ex_index_row (j := i) rfl rfl o.ok Tryz.underlying40 Tryz.sizeOf44 rfl (by omega)) (pE' (v := (pP (pB o.p) (pO o.p + (i * 4 + 0)))) rfl (ex_fieldAddr rfl Tryz.underlying44 rfl Tryz.sizeOf3 (Nat.add_assoc _ _ _)) (pE' rfl (ex_load_rowR_one (v := (vN ((l.getD i (⟨0, 0, 0, 0⟩ : E4)).a))) (i := 1) rfl rfl (RowOk.ne o.ok (by omega)) tO3 (rowsL_at e4L_len (⟨0, 0, 0, 0⟩ : E4) _ _ 0 (by omega) (by decide) rfl)) ?_)))))
   refine pE' (v := (pP b1 1)) rfl (ex_indexAddr_array (j := 1) rfl rfl Tryz.underlying45 Tryz.sizeOf3 rfl (by decide) rfl) (pO'' 0 (vN C.2.1) tO3 rfl (pE' (v := (pP b1 2)) rfl (ex_indexAddr_array (j := 2) rfl rfl Tryz.underlying45 Tryz.sizeOf3 rfl (by decide) rfl) (pO'' 0 (vN C.2.2) tO3 rfl (pE' rfl (ex_min (c := ((min C.2.1 C.2.2 : Nat) : Int)) rfl rfl (by split <;> omega)) (pE' rfl (ex_eql (c := true) rfl rfl (decide_eq_true (by omega))) ?_)))))
   refine pM' rfl (OkE.pas (v := (Value.slice o.p l.length o.c)) rfl (wt_some' rfl) (ex_move rfl) rfl rfl (OkE.pas (v := (vN i)) rfl (wt_some' rfl) (ex_move rfl) rfl rfl (OkE.pas (v := (pP (pB o.p) (pO o.p + i * 4))) rfl (wt_some' rfl) (ex_index_row (j := i) rfl rfl o.ok Tryz.underlying40 Tryz.sizeOf44 rfl (by omega)) rfl rfl (OkE.pas (v := (pP (pB o.p) (pO o.p + (i * 4 + 1)))) rfl (wt_some' rfl) (ex_fieldAddr rfl Tryz.underlying44 rfl Tryz.sizeOf3 (Nat.add_assoc _ _ _)) rfl rfl (OkE.pas (v := (vN ((l.getD i (⟨0, 0, 0, 0⟩ : E4)).b))) rfl (wt_some' rfl) (ex_load_rowR_one (v := (vN ((l.getD i (⟨0, 0, 0, 0⟩ : E4)).b))) (i := 1) rfl rfl (RowOk.ne o.ok (by omega)) tO3 (rowsL_at e4L_len (⟨0, 0, 0, 0⟩ : E4) _ _ 1 (by omega) (by decide) rfl)) rfl rfl ?_)))))
   refine OkE.pas (v := (pP b1 1)) rfl (wt_some' rfl) (ex_indexAddr_array (j := 1) rfl rfl Tryz.underlying45 Tryz.sizeOf3 rfl (by decide) rfl) rfl rfl (OkE.pas (v := (vN C.2.1)) rfl (wt_some' rfl) (ex_load_one (i := 0) (v := (vN C.2.1)) rfl rfl tO3.a rfl) rfl rfl (OkE.pas (v := (pP b1 2)) rfl (wt_some' rfl) (ex_indexAddr_array (j := 2) rfl rfl Tryz.underlying45 Tryz.sizeOf3 rfl (by decide) rfl) rfl rfl (OkE.pas (v := (vN C.2.2)) rfl (wt_some' rfl) (ex_load_one (i := 0) (v := (vN C.2.2)) rfl rfl tO3.a rfl) rfl rfl (OkE.pas (v := (vN (max C.2.1 C.2.2))) rfl (wt_some' rfl) (ex_max (c := ((max C.2.1 C.2.2 : Nat) : Int)) rfl rfl (by split <;> omega)) rfl rfl (OkE.pas (v := (Value.bool (decide (((l.getD i (⟨0, 0, 0, 0⟩ : E4)).b) = (max C.2.1 C.2.2))))) rfl (wt_some' rfl) (ex_eql (c := (decide (((l.getD i (⟨0, 0, 0, 0⟩ : E4)).b) = (max C.2.1 C.2.2)))) rfl rfl (eqN (a := (l.getD i (⟨0, 0, 0, 0⟩ : E4)).b) (b := max C.2.1 C.2.2))) rfl rfl ?_)))))
   refine pE' (v := (Value.bool (decide (((l.getD i (⟨0, 0, 0, 0⟩ : E4)).b) = (max C.2.1 C.2.2))))) rfl (ex_pick_true rfl rfl) (OkE.nil (OkQ.subF (sL [0, 3, 5, 35] rfl) (OkQ.then_ ?_)))
   refine OkC.cond rfl (fun hc1 => ?_) (fun hc1 => ?_)
   ·replace hc1 := of_decide_eq_true hc1
    refine q4 (asg' rfl (OkL.nil (OkQ.then_ (OkC.ret (OkQ.in_ret ?_)))))
    refine OkQ.then_ret (OkQ.round1_ret (OkQ.in_ret (OkQ.then_ret ?_)))
    exact ret_one rfl (rd_tmp (v := (Value.bool true)) rfl) (fun w hw => ⟨by rw [show basB l C = true from List.any_eq_true.2 ⟨l.getD i (⟨0, 0, 0, 0⟩ : E4), by rw [List.getD, List.getElem?_eq_getElem hc0]; exact List.getElem_mem hc0, decide_eq_true ⟨hs4, by omega⟩⟩], hw.out⟩)
   ·replace hc1 := of_decide_eq_false hc1
    refine OkC.skip (OkQ.in_normal (OkQ.then_ (OkC.region (mv' rfl (st' (ex_add (c := ((i + 1 : Nat) : Int)) rfl rfl (addN_i64 (a := i) (b := 1) (by omega))) rfl ?_)))))
    exact asg' rfl (OkL.nil (OkQ.subF (sL [0, 3, 5] rfl) (OkQ.round1 (i + 1) (⟨by omega, fun j hj => by rcases Nat.lt_or_ge j i with h9 | h9; exact hn j h9; rw [show j = i by omega]; exact (fun h9 => by first | exact hs4 h9.1 | exact hc1 (by have := h9.2; omega))⟩) (by omega) (sF rfl) sr)))
  ·skip
   refine rG' [(0, true), (1, true), (2, true), (3, true), (4, true), (5, true), (6, true), (7, true), (8, true), (9, true), (10, true), (11, true), (12, true), (13, true), (14, true), (15, true), (16, true), (17, true), (18, true), (19, true), (20, true), (21, true), (22, true), (23, true)] sr (pM' rfl (pM' rfl (pE' (v := (pP (pB o.p) (pO o.p + i * 4))) rfl (ex_index_row (j := i) rfl rfl o.ok Tryz.underlying40 Tryz.sizeOf44 rfl (by omega)) (pE' (v := (pP (pB o.p) (pO o.p + (i * 4 + 0)))) rfl (ex_fieldAddr rfl Tryz.underlying44 rfl Tryz.sizeOf3 (Nat.add_assoc _ _ _)) (pE' rfl (ex_load_rowR_one (v := (vN ((l.getD i (⟨0, 0, 0, 0⟩ : E4)).a))) (i := 1) rfl rfl (RowOk.ne o.ok (by omega)) tO3 (rowsL_at e4L_len (⟨0, 0, 0, 0⟩ : E4) _ _ 0 (by omega) (by decide) rfl)) ?_)))))
   refine pE' (v := (pP b1 1)) rfl (ex_indexAddr_array (j := 1) rfl rfl Tryz.underlying45 Tryz.sizeOf3 rfl (by decide) rfl) (pO'' 0 (vN C.2.1) tO3 rfl (pE' (v := (pP b1 2)) rfl (ex_indexAddr_array (j := 2) rfl rfl Tryz.underlying45 Tryz.sizeOf3 rfl (by decide) rfl) (pO'' 0 (vN C.2.2) tO3 rfl (pE' rfl (ex_min (c := ((min C.2.1 C.2.2 : Nat) : Int)) rfl rfl (by split <;> omega)) (pE' rfl (ex_eql (c := false) rfl rfl (decide_eq_false (by omega))) ?_)))))
   refine pM' rfl (OkE.skp rfl (wt_not' rfl) rfl rfl (OkE.skp rfl (wt_not' rfl) rfl rfl (OkE.skp rfl (wt_not' rfl) rfl rfl (OkE.skp rfl (wt_not' rfl) rfl rfl (OkE.skp rfl (wt_not' rfl) rfl rfl ?_)))))
   refine OkE.skp rfl (wt_not' rfl) rfl rfl (OkE.skp rfl (wt_not' rfl) rfl rfl (OkE.skp rfl (wt_not' rfl) rfl rfl (OkE.skp rfl (wt_not' rfl) rfl rfl (OkE.skp rfl (wt_not' rfl) rfl rfl (OkE.skp rfl (wt_not' rfl) rfl rfl ?_)))))
   refine pE' (v := (Value.bool false)) rfl (ex_pick_false rfl rfl) (OkE.nil (OkQ.subF (sL [0, 3, 5, 35] rfl) (OkQ.then_ (OkC.cond_false rfl (OkC.skip ?_)))))
   refine OkQ.in_normal (OkQ.then_ (OkC.region (mv' rfl (st' (ex_add (c := ((i + 1 : Nat) : Int)) rfl rfl (addN_i64 (a := i) (b := 1) (by omega))) rfl (asg' rfl ?_)))))
   exact OkL.nil (OkQ.subF (sL [0, 3, 5] rfl) (OkQ.round1 (i + 1) (⟨by omega, fun j hj => by rcases Nat.lt_or_ge j i with h9 | h9; exact hn j h9; rw [show j = i by omega]; exact (fun h9 => by first | exact hs4 h9.1 | exact hc1 (by have := h9.2; omega))⟩) (by omega) (sF rfl) sr))
 ·replace hc0 := of_decide_eq_false hc0
  refine OkC.exit (OkQ.then_exit (OkQ.round1_exit (OkQ.in_exit (q2 (asg' rfl ?_)))))
  refine OkL.nil (OkQ.then_ (OkC.ret ?_))
  exact ret_one rfl (rd_tmp (v := (Value.bool false)) rfl) (fun w hw => ⟨by rw [show basB l C = false from List.any_eq_false.2 (fun e hm h8 => by obtain ⟨j, hj, hje⟩ := List.getElem_of_mem hm; refine hn j (by omega) ?_; rw [List.getD, List.getElem?_eq_getElem hj, hje]; exact of_decide_eq_true h8)], hw.out⟩)
end
end Go.Proofs.YtgiacpkjnikjdaaGreat
