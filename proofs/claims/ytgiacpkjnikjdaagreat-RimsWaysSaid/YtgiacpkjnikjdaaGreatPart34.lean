import Derived.Test.YtgiacpkjnikjdaaGreatPart06
import Derived.Test.YtgiacpkjnikjdaaGreatPart33
namespace Go.Proofs.YtgiacpkjnikjdaaGreat
open Go Go.RowKit
set_option linter.unusedVariables false
set_option linter.unusedSimpArgs false
section
def stpN (ts : List T3) : Nat → List (P2 × Nat)
  | 0 => []
  | s + 1 => putM (stpN ts s) (dirE ts s) (s / 3)
def ornB (ts : List T3) : Nat → Bool
  | 0 => true
  | s + 1 => ornB ts s && (getM (stpN ts s) (dirE ts s)).isNone
section
variable {ts : List T3} {N t r s : Nat}
theorem stpN_succ (hr : r < 3) : putM (stpN ts (3 * t + r)) (crT (ts.getD t (0, 0, 0)) r, crT (ts.getD t (0, 0, 0)) ((r + 1) % 3)) t = stpN ts (3 * t + r + 1) := by
  show _ = putM (stpN ts (3 * t + r)) (dirE ts (3 * t + r)) ((3 * t + r) / 3)
  rw [dirE_at hr, show (3 * t + r) / 3 = t by omega]
theorem ornB_succ (hr : r < 3) (h : ornB ts (3 * t + r) = true) (hn : (getM (stpN ts (3 * t + r)) (crT (ts.getD t (0, 0, 0)) r, crT (ts.getD t (0, 0, 0)) ((r + 1) % 3))).isSome = false) : ornB ts (3 * t + r + 1) = true := by
  show (ornB ts (3 * t + r) && _) = true
  rw [h, dirE_at hr, ← Option.not_isSome, hn]; rfl
theorem ornB_le : ∀ n, s ≤ n → ornB ts n = true → ornB ts s = true
  | 0, h, k => by rw [show s = 0 by omega]; rfl
  | n + 1, h, k => by
    have k : (ornB ts n && _) = true := k
    rcases Nat.lt_or_ge s (n + 1) with h1 | h1
    · exact ornB_le n (by omega) (Bool.and_eq_true _ _ ▸ k).1
    · rw [show s = n + 1 by omega]; exact k
theorem ornB_no (hr : r < 3) (ht : t < ts.length) (hn : (getM (stpN ts (3 * t + r)) (crT (ts.getD t (0, 0, 0)) r, crT (ts.getD t (0, 0, 0)) ((r + 1) % 3))).isSome = true) : ornB ts (3 * ts.length) = false := by
  cases h : ornB ts (3 * ts.length) with
  | false => rfl
  | true =>
    have h1 := ornB_le (s := 3 * t + r + 1) _ (by omega) h
    have h1 : (ornB ts (3 * t + r) && _) = true := h1
    rw [dirE_at hr, ← Option.not_isSome, hn, Bool.and_eq_true] at h1
    exact absurd h1.2 (by decide)
theorem stpN_ok (hn : numB N ts = true) (hN : N ≤ 4611686018427387904) : ∀ s, s ≤ 3 * ts.length → OkM okE (stpN ts s)
  | 0, _ => ⟨fun p hp => (by cases hp), List.Pairwise.nil⟩
  | s + 1, h => (stpN_ok hn hN s (by omega)).put (by have := dirE_lt hn (u := s) (by omega); exact ⟨by omega, by omega⟩)
end
structure SX (ts : List T3) (o : Bool) where
  b : Nat
  kvs : List (P2 × Nat)
  ok : OkM okE kvs
  fin : o = true → kvs = stpN ts (3 * ts.length)
instance {ts : List T3} {o : Bool} : Ref (SX ts o) := ⟨fun x => .tuple #[.map (some x.b), .bool o], fun x => [mapR x.b kEd vN x.kvs], fun x y hy => by rcases List.mem_singleton.1 hy with rfl; rfl⟩
theorem retSX {S : Nat → Prop} {W w : World} {L : List As} {ts : List T3} {o : Bool} (hw : Own ⟨W, none⟩ w L) (i : Nat) {b : Nat} {kvs : List (P2 × Nat)} (hi : L[i]? = some (mapA b kEd vN kvs)) (h : OkM okE kvs) (hf : o = true → kvs = stpN ts (3 * ts.length)) {v : Value} (hv : v = .tuple #[.map (some b), .bool o]) : GivesR (SX ts o) S W (.returned v) w := by
  refine ⟨⟨b, kvs, h, hf⟩, by rw [hv]; rfl, hw.out, fun y hy => ?_⟩
  rcases List.mem_singleton.1 hy with rfl
  have h1 := hw.2.1 _ (List.mem_of_getElem? hi) b rfl
  refine ⟨fun c e => ?_, fun c e => ?_⟩
  · injection e with e; subst e; exact h1.2
  · injection e with e; subst e
    rcases h1.1 with h2 | h2 | h2
    · cases h2
    · exact .inl h2
    · cases h2
def wayE (kvs : List (P2 × Nat)) (s : T3) : T3 := match getM kvs (s.1, s.2.1) with
  | some t => (s.1, s.2.1, t)
  | none => (s.2.1, s.1, (getM kvs (s.2.1, s.1)).getD 0)
def wayN (kvs : List (P2 × Nat)) (rs : List T3) (i : Nat) : List T3 := (rs.take i).map (wayE kvs)
def wayL (ts : List T3) : List T3 := (rimL ts).map (wayE (stpN ts (3 * ts.length)))
theorem wayN_succ {kvs : List (P2 × Nat)} {rs : List T3} {i : Nat} (h : i < rs.length) : wayN kvs rs (i + 1) = wayN kvs rs i ++ [wayE kvs (rs.getD i (0, 0, 0))] := by
  unfold wayN
  rw [take_snoc h, List.map_append]; rfl
theorem wayE_yes {kvs : List (P2 × Nat)} {s : T3} (h : (getM kvs (s.1, s.2.1)).isSome = true) : wayE kvs s = (s.1, s.2.1, (getM kvs (s.1, s.2.1)).getD 0) := by
  obtain ⟨t, e⟩ := Option.isSome_iff_exists.1 h
  unfold wayE; rw [e]; rfl
theorem wayE_no {kvs : List (P2 × Nat)} {s : T3} (h : (getM kvs (s.1, s.2.1)).isSome = false) : wayE kvs s = (s.2.1, s.1, (getM kvs (s.2.1, s.1)).getD 0) := by
  have e : getM kvs (s.1, s.2.1) = none := by rw [← Option.isNone_iff_eq_none, ← Option.not_isSome, h]; rfl
  unfold wayE; rw [e]
theorem wayN_len {kvs : List (P2 × Nat)} {rs : List T3} (i : Nat) : (wayN kvs rs i).length ≤ i := by unfold wayN; rw [List.length_map]; exact List.length_take_le _ _
theorem wayN_all {ts : List T3} {kvs : List (P2 × Nat)} (h : kvs = stpN ts (3 * ts.length)) : wayN kvs (rimL ts) (rimL ts).length = wayL ts := by unfold wayN wayL; rw [h, List.take_length]
theorem rimL_le {ts : List T3} : (rimL ts).length ≤ 3 * ts.length := by
  have h1 := rimN_len (ts := ts) (edL ts).length
  have h2 := edL_le ts
  show (rimN ts (edL ts).length).length ≤ _
  omega
end
section
set_option maxRecDepth 100000
theorem keySt : KeyE Tryz.prog 156 kEd okE := keyPair laidB (by decide +kernel) (by kernel_rfl) (by kernel_rfl) Tryz.underlying156 Tryz.underlying3 (by kernel_rfl) (by kernel_rfl) (by kernel_rfl)
theorem tfill_numup_156 (x0 x1 : Nat) : Instr.fill (fun i => some (i * 1, 1)) (posL ((0, 0) : P2)).toArray [(0, vN x0), (1, vN x1)] = some (posL (x0, x1)).toArray := by kernel_rfl
set_option maxHeartbeats 1000000 in
theorem steps_ok {ps : List Pt} {ts ss : List T3} (x : MX ps ts ss) (hp : ps.length ≤ 1000000) (htl : ts.length ≤ 1000000) (w : World) {S : Nat → Prop} (hx : Ro S w x) : Calls Tryz.prog 72 #[(aG (mxL x))] w (GivesR (SX ts (numB ps.length ts && ornB ts (3 * ts.length))) S w) := by
 have lx := atA (W := w) hx
 refine calls_ofR (args := [(aG (mxL x))]) (L := [rowR x.a.p (rowsL ptL ps), rowR x.b.p (rowsL t3L ts), rowR x.c.p (rowsL t3L ss)]) Tryz.func72 rfl rfl (leB rfl) (sxA hx roL_nil) (OkC.subF (sL [0] rfl) (q4 (bx' (cs := mxL x) rfl fun b1 => asg' rfl (asg' rfl ?_))))
 refine q3 (sL [1, 2, 3] rfl) (OkL.makeMap kEd vN (wt_none rfl) rfl fun b2 => asg' rfl (q6 (sL [1, 2, 3, 4] rfl) (q4 (ldW' 1 tA31 rfl ?_))))
 refine cl' Tryz.call48 (fun w hw => Numd_ok x (by omega) w (inS hw 2 rfl lx)) rfl (st' (ex_not (c := (!(numB ps.length ts))) rfl rfl) rfl (OkL.nil (OkQ.subF (sL [1, 2, 3, 4, 14] rfl) (OkQ.then_ ?_))))
 refine OkC.cond rfl (fun hc0 => ?_) (fun hc0 => ?_)
 ·simp only [Bool.and_eq_true, Bool.or_eq_true, Bool.and_eq_false_iff, Bool.or_eq_false_iff, Bool.not_eq_true', Bool.not_eq_false', decide_eq_true_eq, decide_eq_false_iff_not] at hc0
  refine q4 (mv' rfl (asg' rfl (asg' rfl (OkL.nil (OkQ.subF (sL [1, 2, 3, 4] rfl) ?_)))))
  exact OkQ.then_ (OkC.ret (OkQ.then_ret (ret_two rfl (rd_tmp (v := (Value.map (some b2))) rfl) (rd_tmp (v := (Value.bool false)) rfl) (fun w hw => (by rw [show (numB ps.length ts && ornB ts (3 * ts.length)) = false from by rw [hc0]; rfl]; exact retSX hw 0 rfl ⟨fun p hp => (by cases hp), List.Pairwise.nil⟩ (fun h => by cases h) rfl)))))
 ·simp only [Bool.and_eq_true, Bool.or_eq_true, Bool.and_eq_false_iff, Bool.or_eq_false_iff, Bool.not_eq_true', Bool.not_eq_false', decide_eq_true_eq, decide_eq_false_iff_not] at hc0
  refine OkC.skip (q1 (q4 (st' (v := (pP b1 1)) (ex_fieldAddr rfl Tryz.underlying31 rfl Tryz.sizeOf28 rfl) rfl (ldO' 1 (Value.slice x.b.p ts.length x.b.c) tO28 rfl (st' (v := (vN ts.length)) (ex_len_slice rfl Tryz.underlying28) rfl ?_)))))
  refine mv' rfl (OkL.nil (OkQ.subF (sL [1, 2, 3, 4, 17, 18, 19] rfl) (OkQ.then_ (OkC.block ?_))))
  refine OkC.lp1 (tg fun (t : Nat) => t ≤ ts.length ∧ ornB ts (3 * t + 0) = true) (tg fun (t : Nat) => [(4, (Value.map (some b2))), (17, (Value.slice x.b.p ts.length x.b.c)), (18, (vN ts.length)), (19, (vN t))]) (tg fun (t : Nat) => [mapA b2 kEd vN (stpN ts (3 * t + 0)), blk b1 31 (mxL x), rowR x.a.p (rowsL ptL ps), rowR x.b.p (rowsL t3L ts), rowR x.c.p (rowsL t3L ss)]) (tg fun (t : Nat) => ts.length - t) 0 (⟨Nat.zero_le _, rfl⟩) (sF rfl) sr (fun t hJ => ?_)
  obtain ⟨ht, hor0⟩ := hJ
  refine q4 (st' (ex_lss (c := (decide (t < ts.length))) rfl rfl (ltN (a := t) (b := ts.length))) rfl (OkL.nil (q1 ?_)))
  refine OkC.cond rfl (fun hc1 => ?_) (fun hc1 => ?_)
  ·replace hc1 := of_decide_eq_true hc1
   obtain ⟨T, hT⟩ : ∃ q, q = ts.getD t (0, 0, 0) := ⟨_, rfl⟩
   obtain ⟨g1, g2, g3⟩ := okT_spec (numB_at hc0 hc1)
   rw [← hT] at g1 g2 g3
   refine OkC.skip (q1 (OkC.block (q4 (mv' rfl (st' (v := (pP (pB x.b.p) (pO x.b.p + t * 3))) (ex_index_row (j := t) rfl rfl x.b.ok Tryz.underlying28 Tryz.sizeOf45 rfl (by omega)) rfl ?_)))))
   refine st' (v := (aG (t3L (ts.getD t ((0, 0, 0) : Nat × Nat × Nat))))) (ex_load_rowR_agg (vs := t3L (ts.getD t ((0, 0, 0) : Nat × Nat × Nat))) (i := 3) rfl rfl (RowOk.ne x.b.ok (by omega)) tA45 (rowsL_get t3L_len _ _ _ (by omega)) (t3L_len _)) rfl (OkL.retell (k := 23) (u := (aG (t3L T))) rfl (by rw [hT]) (al tZ45 rfl fun b3 => asg' rfl (stW0' rfl Tryz.sizeOf45 rfl (q3 (sL [4, 17, 18, 19, 6, 5] rfl) ?_))))
   refine mv' rfl (OkL.nil (OkQ.then_ (OkC.block (OkC.unroll 4 (OkR.step ?_)))))
   refine q4 (st' (ex_lss (c := true) rfl rfl (by decide)) rfl (OkL.nil (q1 (OkC.cond_true rfl (OkC.skip ?_)))))
   refine q1 (OkC.block (q4 (mv' rfl (asg' rfl (q6 (sL [4, 17, 18, 19, 6, 5, 24, 7] rfl) ?_)))))
   refine rG' [(0, true), (1, true), (2, true), (3, true), (4, true), (5, true), (6, true), (7, true), (8, true), (9, false), (10, false)] sr (pM' rfl (pE' (v := (pP b3 0)) rfl (ex_indexAddr_array (j := 0) rfl rfl Tryz.underlying45 Tryz.sizeOf3 rfl (by decide) rfl) (pO'' 0 (vN T.1) tO3 rfl (pM' rfl (pE' rfl (ex_add (c := (1 : Int)) rfl rfl (by decide)) ?_)))))
   refine pE' rfl (ex_rem (c := (1 : Int)) rfl rfl (by decide) (by decide)) (pE' (v := (pP b3 1)) rfl (ex_indexAddr_array (j := 1) rfl rfl Tryz.underlying45 Tryz.sizeOf3 rfl (by decide) rfl) (pO'' 0 (vN T.2.1) tO3 rfl (pE' (v := (aG (posL (T.1, T.2.1)))) rfl (ex_build_array (zs := posL ((0, 0) : P2)) (vs := posL (T.1, T.2.1)) (pv := [(0, (vN T.1)), (1, (vN T.2.1))]) Tryz.zeroValue156 Tryz.underlying156 Tryz.sizeOf3 rfl (tfill_numup_156 T.1 T.2.1)) (OkE.imp rfl (al tZ156 rfl fun b4 => ?_)))))
   refine OkE.back (sl sr) (OkE.imp rfl (stW0' rfl Tryz.sizeOf156 rfl (OkE.back (sl sr) (OkE.nil (OkQ.subF (sL [4, 17, 18, 19, 6, 5, 24, 8] rfl) ?_)))))
   refine q1 (q4 (mv' rfl (ldW' 0 tA156 rfl (st' (v := (Value.tuple #[(vN ((getM (stpN ts (3 * t + 0)) (T.1, T.2.1)).getD 0)), (Value.bool ((getM (stpN ts (3 * t + 0)) (T.1, T.2.1)).isSome))])) (ex_lookup keySt 2 (eV := vN) (kvs := stpN ts (3 * t + 0)) (x := (T.1, T.2.1)) (z0 := 0) (co := true) rfl rfl Tryz.underlying152 Tryz.zeroValue3 rfl (stpN_ok hc0 (by omega) _ (by omega)) (okE_mk (by omega) (by omega))) rfl (mv' rfl ?_)))))
   refine st' (ex_extract (v := (vN ((getM (stpN ts (3 * t + 0)) (T.1, T.2.1)).getD 0))) rfl rfl) rfl (st' (ex_extract (v := (Value.bool ((getM (stpN ts (3 * t + 0)) (T.1, T.2.1)).isSome))) rfl rfl) rfl (asg' rfl (asg' rfl (q3 (sL [4, 17, 18, 19, 6, 5, 24, 8, 10] rfl) (mv' rfl ?_)))))
   refine OkL.nil (OkQ.subF (sL [4, 17, 18, 19, 6, 5, 24, 8, 42] rfl) (OkQ.then_ ?_))
   refine OkC.cond rfl (fun hc3 => ?_) (fun hc3 => ?_)
   ·skip
    have hsy0 := hc3
    refine q4 (mv' rfl (asg' rfl (asg' rfl (OkL.nil (OkQ.subF (sL [4, 17, 18, 19, 6, 5, 24, 8, 2, 3] rfl) ?_)))))
    refine OkQ.then_ (OkC.ret (OkQ.then_ret (OkQ.in_ret (OkQ.then_ret (OkQ.then_ret ?_)))))
    exact OkQ.in_ret (OkQ.in_ret (OkQ.then_ret (OkQ.round1_ret (OkQ.in_ret (OkQ.then_ret (ret_two rfl (rd_tmp (v := (Value.map (some b2))) rfl) (rd_tmp (v := (Value.bool false)) rfl) (fun w hw => (by rw [show (numB ps.length ts && ornB ts (3 * ts.length)) = false from by rw [hc0]; exact ornB_no (r := 0) (by omega) hc1 (by rw [← hT]; exact hsy0)]; exact retSX hw 2 rfl (stpN_ok hc0 (by omega) _ (by omega)) (fun h => by cases h) rfl))))))))
   ·skip
    have hsn0 := hc3
    refine OkC.skip (OkQ.then_ (OkC.region (mv' rfl (ldW' 0 tA156 rfl (mv' rfl ?_)))))
    refine OkL.mapUpdate keySt 2 (kvs := stpN ts (3 * t + 0)) (x := (T.1, T.2.1)) (y := t) (wt_none rfl) rfl rfl rfl Tryz.underlying152 rfl (stpN_ok hc0 (by omega) _ (by omega)) (okE_mk (by omega) (by omega)) ?_
    have hor1 : ornB ts (3 * t + 0 + 1) = true := ornB_succ (by omega) hor0 (by rw [← hT]; exact hsn0)
    rw [show putM (stpN ts (3 * t + 0)) (T.1, T.2.1) t = stpN ts (3 * t + 1) from by rw [hT]; exact stpN_succ (by omega)]
    refine OkL.nil (OkQ.subF (sL [4, 17, 18, 19, 6, 5, 24, 8] rfl) (OkQ.in_normal (OkQ.then_ (OkC.region (st' (ex_add (c := (1 : Int)) rfl rfl (by decide)) rfl ?_)))))
    refine mv' rfl (OkL.nil (OkQ.subF (sL [4, 17, 18, 19, 6, 5, 24, 8] rfl) (OkQ.again (OkR.step (q4 ?_)))))
    refine st' (ex_lss (c := true) rfl rfl (by decide)) rfl (OkL.nil (q1 (OkC.cond_true rfl (OkC.skip (q1 ?_)))))
    refine OkC.block (q4 (mv' rfl (asg' rfl (q6 (sL [4, 17, 18, 19, 6, 5, 24, 8, 7] rfl) (rG' [(0, true), (1, true), (2, true), (3, true), (4, true), (5, true), (6, true), (7, true), (8, true), (9, false), (10, false)] sr ?_)))))
    refine pM' rfl (pE' (v := (pP b3 1)) rfl (ex_indexAddr_array (j := 1) rfl rfl Tryz.underlying45 Tryz.sizeOf3 rfl (by decide) rfl) (pO'' 1 (vN T.2.1) tO3 rfl (pM' rfl (pE' rfl (ex_add (c := (2 : Int)) rfl rfl (by decide)) (pE' rfl (ex_rem (c := (2 : Int)) rfl rfl (by decide) (by decide)) ?_)))))
    refine pE' (v := (pP b3 2)) rfl (ex_indexAddr_array (j := 2) rfl rfl Tryz.underlying45 Tryz.sizeOf3 rfl (by decide) rfl) (pO'' 1 (vN T.2.2) tO3 rfl (pE' (v := (aG (posL (T.2.1, T.2.2)))) rfl (ex_build_array (zs := posL ((0, 0) : P2)) (vs := posL (T.2.1, T.2.2)) (pv := [(0, (vN T.2.1)), (1, (vN T.2.2))]) Tryz.zeroValue156 Tryz.underlying156 Tryz.sizeOf3 rfl (tfill_numup_156 T.2.1 T.2.2)) (OkE.imp rfl (al tZ156 rfl fun b5 => OkE.back (sl sr) ?_))))
    refine OkE.imp rfl (stW0' rfl Tryz.sizeOf156 rfl (OkE.back (sl sr) (OkE.nil (OkQ.subF (sL [4, 17, 18, 19, 6, 5, 24, 8] rfl) (q1 ?_)))))
    refine q4 (mv' rfl (ldW' 0 tA156 rfl (st' (v := (Value.tuple #[(vN ((getM (stpN ts (3 * t + 1)) (T.2.1, T.2.2)).getD 0)), (Value.bool ((getM (stpN ts (3 * t + 1)) (T.2.1, T.2.2)).isSome))])) (ex_lookup keySt 3 (eV := vN) (kvs := stpN ts (3 * t + 1)) (x := (T.2.1, T.2.2)) (z0 := 0) (co := true) rfl rfl Tryz.underlying152 Tryz.zeroValue3 rfl (stpN_ok hc0 (by omega) _ (by omega)) (okE_mk (by omega) (by omega))) rfl (mv' rfl (st' (ex_extract (v := (vN ((getM (stpN ts (3 * t + 1)) (T.2.1, T.2.2)).getD 0))) rfl rfl) rfl ?_)))))
    refine st' (ex_extract (v := (Value.bool ((getM (stpN ts (3 * t + 1)) (T.2.1, T.2.2)).isSome))) rfl rfl) rfl (asg' rfl (asg' rfl (q3 (sL [4, 17, 18, 19, 6, 5, 24, 8, 10] rfl) (mv' rfl (OkL.nil ?_)))))
    refine OkQ.subF (sL [4, 17, 18, 19, 6, 5, 24, 8, 42] rfl) (OkQ.then_ ?_)
    refine OkC.cond rfl (fun hc3 => ?_) (fun hc3 => ?_)
    ·skip
     have hsy1 := hc3
     refine q4 (mv' rfl (asg' rfl (asg' rfl (OkL.nil (OkQ.subF (sL [4, 17, 18, 19, 6, 5, 24, 8, 2, 3] rfl) ?_)))))
     refine OkQ.then_ (OkC.ret (OkQ.then_ret (OkQ.in_ret (OkQ.then_ret (OkQ.then_ret ?_)))))
     exact OkQ.in_ret (OkQ.in_ret (OkQ.then_ret (OkQ.round1_ret (OkQ.in_ret (OkQ.then_ret (ret_two rfl (rd_tmp (v := (Value.map (some b2))) rfl) (rd_tmp (v := (Value.bool false)) rfl) (fun w hw => (by rw [show (numB ps.length ts && ornB ts (3 * ts.length)) = false from by rw [hc0]; exact ornB_no (r := 1) (by omega) hc1 (by rw [← hT]; exact hsy1)]; exact retSX hw 3 rfl (stpN_ok hc0 (by omega) _ (by omega)) (fun h => by cases h) rfl))))))))
    ·skip
     have hsn1 := hc3
     refine OkC.skip (OkQ.then_ (OkC.region (mv' rfl (ldW' 0 tA156 rfl (mv' rfl ?_)))))
     refine OkL.mapUpdate keySt 3 (kvs := stpN ts (3 * t + 1)) (x := (T.2.1, T.2.2)) (y := t) (wt_none rfl) rfl rfl rfl Tryz.underlying152 rfl (stpN_ok hc0 (by omega) _ (by omega)) (okE_mk (by omega) (by omega)) ?_
     have hor2 : ornB ts (3 * t + 1 + 1) = true := ornB_succ (by omega) hor1 (by rw [← hT]; exact hsn1)
     rw [show putM (stpN ts (3 * t + 1)) (T.2.1, T.2.2) t = stpN ts (3 * t + 2) from by rw [hT]; exact stpN_succ (by omega)]
     refine OkL.nil (OkQ.subF (sL [4, 17, 18, 19, 6, 5, 24, 8] rfl) (OkQ.in_normal (OkQ.then_ (OkC.region (st' (ex_add (c := (2 : Int)) rfl rfl (by decide)) rfl ?_)))))
     refine mv' rfl (OkL.nil (OkQ.subF (sL [4, 17, 18, 19, 6, 5, 24, 8] rfl) (OkQ.again (OkR.step (q4 ?_)))))
     refine st' (ex_lss (c := true) rfl rfl (by decide)) rfl (OkL.nil (q1 (OkC.cond_true rfl (OkC.skip (q1 ?_)))))
     refine OkC.block (q4 (mv' rfl (asg' rfl (q6 (sL [4, 17, 18, 19, 6, 5, 24, 8, 7] rfl) (rG' [(0, true), (1, true), (2, true), (3, true), (4, true), (5, true), (6, true), (7, true), (8, true), (9, false), (10, false)] sr ?_)))))
     refine pM' rfl (pE' (v := (pP b3 2)) rfl (ex_indexAddr_array (j := 2) rfl rfl Tryz.underlying45 Tryz.sizeOf3 rfl (by decide) rfl) (pO'' 2 (vN T.2.2) tO3 rfl (pM' rfl (pE' rfl (ex_add (c := (3 : Int)) rfl rfl (by decide)) (pE' rfl (ex_rem (c := (0 : Int)) rfl rfl (by decide) (by decide)) ?_)))))
     refine pE' (v := (pP b3 0)) rfl (ex_indexAddr_array (j := 0) rfl rfl Tryz.underlying45 Tryz.sizeOf3 rfl (by decide) rfl) (pO'' 2 (vN T.1) tO3 rfl (pE' (v := (aG (posL (T.2.2, T.1)))) rfl (ex_build_array (zs := posL ((0, 0) : P2)) (vs := posL (T.2.2, T.1)) (pv := [(0, (vN T.2.2)), (1, (vN T.1))]) Tryz.zeroValue156 Tryz.underlying156 Tryz.sizeOf3 rfl (tfill_numup_156 T.2.2 T.1)) (OkE.imp rfl (al tZ156 rfl fun b6 => OkE.back (sl sr) ?_))))
     refine OkE.imp rfl (stW0' rfl Tryz.sizeOf156 rfl (OkE.back (sl sr) (OkE.nil (OkQ.subF (sL [4, 17, 18, 19, 6, 5, 24, 8] rfl) (q1 ?_)))))
     refine q4 (mv' rfl (ldW' 0 tA156 rfl (st' (v := (Value.tuple #[(vN ((getM (stpN ts (3 * t + 2)) (T.2.2, T.1)).getD 0)), (Value.bool ((getM (stpN ts (3 * t + 2)) (T.2.2, T.1)).isSome))])) (ex_lookup keySt 4 (eV := vN) (kvs := stpN ts (3 * t + 2)) (x := (T.2.2, T.1)) (z0 := 0) (co := true) rfl rfl Tryz.underlying152 Tryz.zeroValue3 rfl (stpN_ok hc0 (by omega) _ (by omega)) (okE_mk (by omega) (by omega))) rfl (mv' rfl (st' (ex_extract (v := (vN ((getM (stpN ts (3 * t + 2)) (T.2.2, T.1)).getD 0))) rfl rfl) rfl ?_)))))
     refine st' (ex_extract (v := (Value.bool ((getM (stpN ts (3 * t + 2)) (T.2.2, T.1)).isSome))) rfl rfl) rfl (asg' rfl (asg' rfl (q3 (sL [4, 17, 18, 19, 6, 5, 24, 8, 10] rfl) (mv' rfl (OkL.nil ?_)))))
     refine OkQ.subF (sL [4, 17, 18, 19, 6, 5, 24, 8, 42] rfl) (OkQ.then_ ?_)
     refine OkC.cond rfl (fun hc3 => ?_) (fun hc3 => ?_)
     ·skip
      have hsy2 := hc3
      refine q4 (mv' rfl (asg' rfl (asg' rfl (OkL.nil (OkQ.subF (sL [4, 17, 18, 19, 6, 5, 24, 8, 2, 3] rfl) ?_)))))
      refine OkQ.then_ (OkC.ret (OkQ.then_ret (OkQ.in_ret (OkQ.then_ret (OkQ.then_ret ?_)))))
      exact OkQ.in_ret (OkQ.in_ret (OkQ.then_ret (OkQ.round1_ret (OkQ.in_ret (OkQ.then_ret (ret_two rfl (rd_tmp (v := (Value.map (some b2))) rfl) (rd_tmp (v := (Value.bool false)) rfl) (fun w hw => (by rw [show (numB ps.length ts && ornB ts (3 * ts.length)) = false from by rw [hc0]; exact ornB_no (r := 2) (by omega) hc1 (by rw [← hT]; exact hsy2)]; exact retSX hw 4 rfl (stpN_ok hc0 (by omega) _ (by omega)) (fun h => by cases h) rfl))))))))
     ·skip
      have hsn2 := hc3
      refine OkC.skip (OkQ.then_ (OkC.region (mv' rfl (ldW' 0 tA156 rfl (mv' rfl ?_)))))
      refine OkL.mapUpdate keySt 4 (kvs := stpN ts (3 * t + 2)) (x := (T.2.2, T.1)) (y := t) (wt_none rfl) rfl rfl rfl Tryz.underlying152 rfl (stpN_ok hc0 (by omega) _ (by omega)) (okE_mk (by omega) (by omega)) ?_
      have hor3 : ornB ts (3 * t + 2 + 1) = true := ornB_succ (by omega) hor2 (by rw [← hT]; exact hsn2)
      rw [show putM (stpN ts (3 * t + 2)) (T.2.2, T.1) t = stpN ts (3 * t + 3) from by rw [hT]; exact stpN_succ (by omega)]
      refine OkL.nil (OkQ.subF (sL [4, 17, 18, 19, 6, 5, 24, 8] rfl) (OkQ.in_normal (OkQ.then_ (OkC.region (st' (ex_add (c := (3 : Int)) rfl rfl (by decide)) rfl ?_)))))
      refine mv' rfl (OkL.nil (OkQ.subF (sL [4, 17, 18, 19, 6, 5, 24, 8] rfl) (OkQ.again (OkR.step (q4 ?_)))))
      refine st' (ex_lss (c := false) rfl rfl (by decide)) rfl (OkL.nil (q1 (OkC.cond_false rfl (OkC.exit (OkQ.then_exit ?_)))))
      refine OkQ.then_exit (OkQ.in_exit (OkQ.in_normal (OkQ.then_ (OkC.region (st' (ex_add (c := ((t + 1 : Nat) : Int)) rfl rfl (addN_i64 (a := t) (b := 1) (by omega))) rfl ?_)))))
      refine mv' rfl (OkL.nil (OkQ.subF (sL [4, 17, 18, 19, 6, 5, 24, 8] rfl) ?_))
      rw [show 3 * t + 3 = 3 * (t + 1) + 0 by omega]
      exact OkQ.round1 (t + 1) (⟨by omega, hor3⟩) (by omega) (sF rfl) (sl (sl (sl (sl sr))))
  ·replace hc1 := of_decide_eq_false hc1
   refine OkC.exit (OkQ.then_exit (OkQ.round1_exit (OkQ.in_exit (q2 (mv' rfl ?_)))))
   exact asg' rfl (asg' rfl (OkL.nil (OkQ.subF (sL [4, 17, 18, 19, 2, 3] rfl) (OkQ.then_ (OkC.ret (ret_two rfl (rd_tmp (v := (Value.map (some b2))) rfl) (rd_tmp (v := (Value.bool true)) rfl) (fun w hw => (by rw [show (numB ps.length ts && ornB ts (3 * ts.length)) = true from by rw [hc0]; rw [show t = ts.length by omega] at hor0; exact hor0]; exact retSX hw 0 rfl (stpN_ok hc0 (by omega) _ (by omega)) (fun _ => by rw [show t = ts.length by omega]; rfl) rfl))))))))
theorem Plain_ok {ps : List Pt} {ts ss : List T3} (x : MX ps ts ss) (hp : ps.length ≤ 1000000) (htl : ts.length ≤ 1000000) (w : World) {S : Nat → Prop} (hx : Ro S w x) : Calls Tryz.prog 27 #[(aG (mxL x))] w (Gives w (Value.bool (numB ps.length ts && ornB ts (3 * ts.length)))) := by
 have lx := atA (W := w) hx
 refine calls_ofR (args := [(aG (mxL x))]) (L := [rowR x.a.p (rowsL ptL ps), rowR x.b.p (rowsL t3L ts), rowR x.c.p (rowsL t3L ss)]) Tryz.func27 rfl rfl (leB rfl) (sxA hx roL_nil) (OkC.subF (sL [0] rfl) (q4 (bx' (cs := mxL x) rfl fun b1 => asg' rfl (q3 (sL [1, 2] rfl) ?_))))
 refine ldW' 0 tA31 rfl (OkL.callR (S := S) (α := SX ts (numB ps.length ts && ornB ts (3 * ts.length))) (args := [(aG (mxL x))]) Tryz.call72 (fun w hw => steps_ok x hp htl w (inS hw 1 rfl lx)) rfl rfl rfl fun sx lsx => mv' rfl (st' (ex_extract (v := (Value.map (some sx.b))) rfl rfl) rfl (st' (ex_extract (v := (Value.bool (numB ps.length ts && ornB ts (3 * ts.length)))) rfl rfl) rfl (asg' rfl ?_))))
 refine asg' rfl (q3 (sL [2, 4] rfl) (mv' rfl (asg' rfl (OkL.nil (OkQ.subF (sL [2] rfl) ?_)))))
 exact OkQ.then_ (OkC.ret (ret_one rfl (rd_tmp (v := (Value.bool (numB ps.length ts && ornB ts (3 * ts.length)))) rfl) (fun w hw => ⟨rfl, hw.out⟩)))
end
section
set_option maxRecDepth 100000
theorem tE63 : ElemT Tryz.prog 63 68 3 24 := ⟨Tryz.underlying63, elemT_of (by kernel_rfl)⟩
theorem clipW_ok (p : Option Addr) (n cp : Nat) (h : n ≤ cp) (w : World)  : Calls Tryz.prog 126 #[(Value.slice p n cp)] w (Gives w (Value.slice p n n)) := by
 refine calls_of (args := [(Value.slice p n cp)]) Tryz.func126 rfl rfl (leB rfl) (OkC.subF (sL [0] rfl) (q4 (asg' rfl (OkL.nil (q2 ?_)))))
 refine mv' rfl (mv' rfl (st' (v := (vN n)) (ex_len_slice rfl Tryz.underlying63) rfl (mv' rfl (st' (v := (vN n)) (ex_len_slice rfl Tryz.underlying63) rfl (st' (v := (Value.slice p n n)) (ex_slice_clip (m := n) rfl rfl rfl Tryz.underlying63 Tryz.sizeOf68 (by omega)) rfl ?_)))))
 exact asg' rfl (OkL.nil (OkQ.subF (sL [2] rfl) (OkQ.then_ (OkC.ret (ret_one rfl (rd_tmp (v := (Value.slice p n n)) rfl) (fun w hw => ⟨rfl, hw.out⟩))))))
theorem tfill_numuq_156 (x0 x1 : Nat) : Instr.fill (fun i => some (i * 1, 1)) (posL ((0, 0) : P2)).toArray [(0, vN x0), (1, vN x1)] = some (posL (x0, x1)).toArray := by kernel_rfl
theorem tfs_numuq_68_1 (x0 : Nat × Nat × Nat) : Instr.fill (fun i => some (i * 3, 3)) ((Array.range (1 * 3)).map ((Value.agg (t3L ((0, 0, 0) : Nat × Nat × Nat)).toArray).cells[· % (Value.agg (t3L ((0, 0, 0) : Nat × Nat × Nat)).toArray).cells.size]!)) [(0, .agg (t3L x0).toArray)] = some (t3L x0).toArray := by kernel_rfl
set_option maxHeartbeats 1000000 in
theorem ways_ok {ps : List Pt} {ts ss : List T3} (x : MX ps ts ss) (sx : SX ts true) (hnb : numB ps.length ts = true) (hp : ps.length ≤ 1000000) (htl : ts.length ≤ 1000000) (w : World) {S : Nat → Prop} (hx : Ro S w x) (hsx : Ro S w sx) : Calls Tryz.prog 73 #[(aG (mxL x)), (Value.map (some sx.b))] w (GivesR (RX (rowsL t3L (wayL ts)) (wayL ts).length) S w) := by
 have hrl := rimL_le (ts := ts)
 have lx := atA (W := w) hx
 have lsx := atA (W := w) hsx
 refine calls_ofR (args := [(aG (mxL x)), (Value.map (some sx.b))]) (L := [rowR x.a.p (rowsL ptL ps), rowR x.b.p (rowsL t3L ts), rowR x.c.p (rowsL t3L ss), mapR sx.b kEd vN sx.kvs]) Tryz.func73 rfl rfl (leB rfl) (sxA hx (sxA hsx roL_nil)) (OkC.subF (sL [0, 1] rfl) (q4 (bx' (cs := mxL x) rfl fun b1 => asg' rfl (q3 (sL [1, 2, 4] rfl) ?_))))
 refine asg' rfl (OkL.nilRow 68 3 (OkL.nil (q1 (q4 (st' (v := (pP b1 0)) (ex_fieldAddr rfl Tryz.underlying31 rfl Tryz.sizeOf27 rfl) rfl ?_)))))
 refine ldO' 1 (Value.slice x.a.p ps.length x.a.c) tO27 rfl (st' (v := (pP b1 1)) (ex_fieldAddr rfl Tryz.underlying31 rfl Tryz.sizeOf28 rfl) rfl (ldO' 1 (Value.slice x.b.p ts.length x.b.c) tO28 rfl (OkL.callL (S := S) (V := oxC) (LW := oxL (T := 66) (z := 3) (cs := rowsL t3L (rimL ts)) (n := (rimL ts).length)) (args := [(Value.slice x.a.p ps.length x.a.c), (Value.slice x.b.p ts.length x.b.c)]) Tryz.call118 (fun w hw => Rim_ok ts x.b x.a.p ps.length x.a.c hnb (by omega) (by omega) w (roMb (inS hw 2 rfl lx))) rfl fun rm hrm => st' (v := (vN ((rimL ts).length))) (ex_len_slice rfl Tryz.underlying29) rfl (mv' rfl ?_))))
 refine OkL.nil (OkQ.subF (sL [1, 4, 5, 14, 15, 16] rfl) (OkQ.then_ (OkC.block ?_)))
 refine OkC.lp4 (tg fun (i : Nat) (p1 : Option Addr) (c1 : Nat) (out : List T3) => i ≤ (rimL ts).length ∧ OwnOk p1 out.length c1 ∧ out = wayN sx.kvs (rimL ts) i) (tg fun (i : Nat) (p1 : Option Addr) (c1 : Nat) (out : List T3) => [(1, (Value.map (some sx.b))), (4, (Value.slice none 0 0)), (14, (Value.slice rm.p ((rimL ts).length) ((rimL ts).length))), (15, (vN ((rimL ts).length))), (16, (vN i)), (5, (Value.slice p1 out.length c1))]) (tg fun (i : Nat) (p1 : Option Addr) (c1 : Nat) (out : List T3) => [rowW rm.p 66 3 ((rimL ts).length) rm.c (rowsL t3L (rimL ts)), rowW p1 68 3 out.length c1 (rowsL t3L out), blk b1 31 (mxL x), rowR x.a.p (rowsL ptL ps), rowR x.b.p (rowsL t3L ts), rowR x.c.p (rowsL t3L ss), mapR sx.b kEd vN sx.kvs]) (tg fun (i : Nat) (p1 : Option Addr) (c1 : Nat) (out : List T3) => (rimL ts).length - i) 0 none 0 ([] : List T3) (⟨Nat.zero_le _, OwnOk.none, rfl⟩) (sF rfl) sr (fun i p1 c1 out hJ => ?_)
 obtain ⟨hi, ho, hou⟩ := hJ
 have hol := wayN_len (kvs := sx.kvs) (rs := rimL ts) i
 rw [← hou] at hol
 refine q4 (st' (ex_lss (c := (decide (i < ((rimL ts).length)))) rfl rfl (ltN (a := i) (b := (rimL ts).length))) rfl (OkL.nil (q1 ?_)))
 refine OkC.cond rfl (fun hc0 => ?_) (fun hc0 => ?_)
 ·replace hc0 := of_decide_eq_true hc0
  obtain ⟨sd, hsd⟩ : ∃ q, q = (rimL ts).getD i (0, 0, 0) := ⟨_, rfl⟩
  obtain ⟨hea, heb⟩ := rimL_lt hnb (by omega) (s := sd) (by rw [hsd, List.getD, List.getElem?_eq_getElem hc0]; exact List.getElem_mem hc0)
  refine OkC.skip (q1 (OkC.block (q4 (st' (v := (pP (pB rm.p) (pO rm.p + i * 3))) (ex_index_row (j := i) rfl rfl rm.ok.clip Tryz.underlying29 Tryz.sizeOf66 rfl (by omega)) rfl (st' (v := (aG (t3L ((rimL ts).getD i ((0, 0, 0) : Nat × Nat × Nat))))) (ex_load_rowW_agg (vs := t3L ((rimL ts).getD i ((0, 0, 0) : Nat × Nat × Nat))) (i := 0) rfl rfl rm.ok (rowsL_length t3L_len _) (RowOk.ne rm.ok.clip (by omega)) tA66 (rowsL_get t3L_len _ _ _ (by omega)) (t3L_len _)) rfl ?_)))))
  refine OkL.retell (k := 19) (u := (aG (t3L sd))) rfl (by rw [hsd]) (al tZ66 rfl fun b2 => stW0' rfl Tryz.sizeOf66 rfl (q3 (sL [1, 4, 14, 15, 16, 5, 7] rfl) (mv' rfl (st' (v := (pP b2 0)) (ex_fieldAddr rfl Tryz.underlying66 rfl Tryz.sizeOf3 rfl) rfl ?_))))
  refine ldO' 0 (vN sd.1) tO3 rfl (st' (v := (pP b2 1)) (ex_fieldAddr rfl Tryz.underlying66 rfl Tryz.sizeOf3 rfl) rfl (ldO' 0 (vN sd.2.1) tO3 rfl (st' (v := (aG (posL (sd.1, sd.2.1)))) (ex_build_array (zs := posL ((0, 0) : P2)) (vs := posL (sd.1, sd.2.1)) (pv := [(0, (vN sd.1)), (1, (vN sd.2.1))]) Tryz.zeroValue156 Tryz.underlying156 Tryz.sizeOf3 rfl (tfill_numuq_156 sd.1 sd.2.1)) rfl (st' (v := (Value.tuple #[(vN ((getM sx.kvs (sd.1, sd.2.1)).getD 0)), (Value.bool ((getM sx.kvs (sd.1, sd.2.1)).isSome))])) (ex_lookupR keySt 7 (eV := vN) (kvs := sx.kvs) (x := (sd.1, sd.2.1)) (z0 := 0) (co := true) rfl rfl Tryz.underlying152 Tryz.zeroValue3 rfl (sx.ok) (⟨by show (_ : Nat) < _; omega, by show (_ : Nat) < _; omega⟩)) rfl (mv' rfl ?_)))))
  refine st' (ex_extract (v := (vN ((getM sx.kvs (sd.1, sd.2.1)).getD 0))) rfl rfl) rfl (st' (ex_extract (v := (Value.bool ((getM sx.kvs (sd.1, sd.2.1)).isSome))) rfl rfl) rfl (asg' rfl (asg' rfl (q3 (sL [1, 4, 14, 15, 16, 5, 7, 8, 9] rfl) (mv' rfl ?_)))))
  refine OkL.nil (OkQ.subF (sL [1, 4, 14, 15, 16, 5, 7, 8, 30] rfl) (OkQ.then_ ?_))
  refine OkC.cond rfl (fun hc1 => ?_) (fun hc1 => ?_)
  ·skip
   refine OkC.region (mv' rfl (st' (v := (pP b2 0)) (ex_fieldAddr rfl Tryz.underlying66 rfl Tryz.sizeOf3 rfl) rfl (ldO' 0 (vN sd.1) tO3 rfl (st' (v := (pP b2 1)) (ex_fieldAddr rfl Tryz.underlying66 rfl Tryz.sizeOf3 rfl) rfl (ldO' 0 (vN sd.2.1) tO3 rfl ?_)))))
   refine mv' rfl (st' (v := (aG ([(vN sd.1), (vN sd.2.1), (vN ((getM sx.kvs (sd.1, sd.2.1)).getD 0))]))) (ex_build_struct (zs := t3L ((0, 0, 0) : Nat × Nat × Nat)) (vs := [(vN sd.1), (vN sd.2.1), (vN ((getM sx.kvs (sd.1, sd.2.1)).getD 0))]) (pv := [(0, (vN sd.1)), (1, (vN sd.2.1)), (2, (vN ((getM sx.kvs (sd.1, sd.2.1)).getD 0)))]) (places := [(0, 1), (1, 1), (2, 1)]) Tryz.zeroValue68 Tryz.underlying68 (fun w => by simp [Tryz.sizeOf3]) rfl rfl) rfl (OkL.openV (V := fun b3 => (Value.slice (some ⟨b3, 0, none⟩) 1 1)) (T := 68) (cs := t3L ((sd.1, sd.2.1, (getM sx.kvs (sd.1, sd.2.1)).getD 0) : T3)) (wt_none rfl) (op_buildSlice (z := .agg (t3L ((0, 0, 0) : Nat × Nat × Nat)).toArray) (cs := t3L ((sd.1, sd.2.1, (getM sx.kvs (sd.1, sd.2.1)).getD 0) : T3)) (pv := [(0, (aG ([(vN sd.1), (vN sd.2.1), (vN ((getM sx.kvs (sd.1, sd.2.1)).getD 0))])))]) Tryz.underlying63 Tryz.sizeOf68 Tryz.zeroValue68 (by decide) (by decide) rfl (tfs_numuq_68_1 ((sd.1, sd.2.1, (getM sx.kvs (sd.1, sd.2.1)).getD 0) : T3))) rfl (leB rfl) fun b3 => OkL.appendAt 3 (j := 0) (cs2 := rowsL t3L (out ++ [((sd.1, sd.2.1, (getM sx.kvs (sd.1, sd.2.1)).getD 0) : T3)])) tE63 rfl ho (rowsL_length t3L_len _) rfl rfl rfl rfl rfl (by decide) (mxl (by omega)) (by omega) (by rw [rowsL_append]; rfl) rfl fun p_1 c_1 ho_1 hne_1 => asg' rfl (OkL.nil ?_)))
   refine OkQ.subF (sL [1, 4, 14, 15, 16, 5, 7] rfl) (OkQ.in_normal (OkQ.then_ (OkC.region (st' (ex_add (c := ((i + 1 : Nat) : Int)) rfl rfl (addN_i64 (a := i) (b := 1) (by omega))) rfl (mv' rfl ?_)))))
   refine OkL.nil (OkQ.subF (sL [1, 4, 14, 15, 16, 5, 7] rfl) ?_)
   rw [show out.length + 1 = (out ++ [((sd.1, sd.2.1, (getM sx.kvs (sd.1, sd.2.1)).getD 0) : T3)]).length by simp]
   exact OkQ.round4 (i + 1) p_1 c_1 (out ++ [((sd.1, sd.2.1, (getM sx.kvs (sd.1, sd.2.1)).getD 0) : T3)]) (⟨by omega, (by simpa using ho_1), by rw [hou, wayN_succ hc0, ← hsd]; first | rw [wayE_yes hc1] | rw [wayE_no hc1]⟩) (by omega) (sF rfl) (sl (sl sr))
  ·skip
   refine rG' [(0, true), (1, true), (2, true), (3, true), (4, true), (5, true), (6, true), (7, true), (8, true), (9, true), (10, true), (11, true), (12, true), (13, false), (14, false), (15, true)] (sk (sk (sl sr))) (pM' rfl (pE' (v := (pP b2 1)) rfl (ex_fieldAddr rfl Tryz.underlying66 rfl Tryz.sizeOf3 rfl) (pO'' 0 (vN sd.2.1) tO3 rfl (pE' (v := (pP b2 0)) rfl (ex_fieldAddr rfl Tryz.underlying66 rfl Tryz.sizeOf3 rfl) (pO'' 0 (vN sd.1) tO3 rfl ?_)))))
   refine pM' rfl (pE' (v := (pP b2 1)) rfl (ex_fieldAddr rfl Tryz.underlying66 rfl Tryz.sizeOf3 rfl) (pO'' 0 (vN sd.2.1) tO3 rfl (pE' (v := (pP b2 0)) rfl (ex_fieldAddr rfl Tryz.underlying66 rfl Tryz.sizeOf3 rfl) (pO'' 0 (vN sd.1) tO3 rfl (pE' (v := (aG (posL (sd.2.1, sd.1)))) rfl (ex_build_array (zs := posL ((0, 0) : P2)) (vs := posL (sd.2.1, sd.1)) (pv := [(0, (vN sd.2.1)), (1, (vN sd.1))]) Tryz.zeroValue156 Tryz.underlying156 Tryz.sizeOf3 rfl (tfill_numuq_156 sd.2.1 sd.1)) ?_)))))
   refine pE' (v := (vN ((getM sx.kvs (sd.2.1, sd.1)).getD 0))) rfl (ex_lookupR keySt 6 (eV := vN) (kvs := sx.kvs) (x := (sd.2.1, sd.1)) (z0 := 0) (co := false) rfl rfl Tryz.underlying152 Tryz.zeroValue3 rfl (sx.ok) (⟨by show (_ : Nat) < _; omega, by show (_ : Nat) < _; omega⟩)) (pE' (v := (aG ([(vN sd.2.1), (vN sd.1), (vN ((getM sx.kvs (sd.2.1, sd.1)).getD 0))]))) rfl (ex_build_struct (zs := t3L ((0, 0, 0) : Nat × Nat × Nat)) (vs := [(vN sd.2.1), (vN sd.1), (vN ((getM sx.kvs (sd.2.1, sd.1)).getD 0))]) (pv := [(0, (vN sd.2.1)), (1, (vN sd.1)), (2, (vN ((getM sx.kvs (sd.2.1, sd.1)).getD 0)))]) (places := [(0, 1), (1, 1), (2, 1)]) Tryz.zeroValue68 Tryz.underlying68 (fun w => by simp [Tryz.sizeOf3]) rfl rfl) (OkE.imp rfl (OkL.openV (V := fun b3 => (Value.slice (some ⟨b3, 0, none⟩) 1 1)) (T := 68) (cs := t3L ((sd.2.1, sd.1, (getM sx.kvs (sd.2.1, sd.1)).getD 0) : T3)) (wt_none rfl) (op_buildSlice (z := .agg (t3L ((0, 0, 0) : Nat × Nat × Nat)).toArray) (cs := t3L ((sd.2.1, sd.1, (getM sx.kvs (sd.2.1, sd.1)).getD 0) : T3)) (pv := [(0, (aG ([(vN sd.2.1), (vN sd.1), (vN ((getM sx.kvs (sd.2.1, sd.1)).getD 0))])))]) Tryz.underlying63 Tryz.sizeOf68 Tryz.zeroValue68 (by decide) (by decide) rfl (tfs_numuq_68_1 ((sd.2.1, sd.1, (getM sx.kvs (sd.2.1, sd.1)).getD 0) : T3))) rfl (leB rfl) fun b3 => OkE.back (sl (sk (sk (sl sr)))) (OkE.imp rfl ?_))))
   refine OkL.appendAt 3 (j := 0) (cs2 := rowsL t3L (out ++ [((sd.2.1, sd.1, (getM sx.kvs (sd.2.1, sd.1)).getD 0) : T3)])) tE63 rfl ho (rowsL_length t3L_len _) rfl rfl rfl rfl rfl (by decide) (mxl (by omega)) (by omega) (by rw [rowsL_append]; rfl) rfl fun p_2 c_2 ho_2 hne_2 => OkE.back (sl (sk (sk (sl sr)))) (pS' rfl (OkE.nil (OkQ.subF (sL [1, 4, 14, 15, 16, 5, 7, 8] rfl) (OkQ.in_normal ?_))))
   refine OkQ.then_ (OkC.region (st' (ex_add (c := ((i + 1 : Nat) : Int)) rfl rfl (addN_i64 (a := i) (b := 1) (by omega))) rfl (mv' rfl (OkL.nil (OkQ.subF (sL [1, 4, 14, 15, 16, 5, 7, 8] rfl) ?_)))))
   rw [show out.length + 1 = (out ++ [((sd.2.1, sd.1, (getM sx.kvs (sd.2.1, sd.1)).getD 0) : T3)]).length by simp]
   exact OkQ.round4 (i + 1) p_2 c_2 (out ++ [((sd.2.1, sd.1, (getM sx.kvs (sd.2.1, sd.1)).getD 0) : T3)]) (⟨by omega, (by simpa using ho_2), by rw [hou, wayN_succ hc0, ← hsd]; first | rw [wayE_yes hc1] | rw [wayE_no hc1]⟩) (by omega) (sF rfl) (sl (sl sr))
 ·replace hc0 := of_decide_eq_false hc0
  refine OkC.exit (OkQ.then_exit (OkQ.round4_exit (OkQ.in_exit (q2 (mv' rfl ?_)))))
  exact ck' Tryz.call126 (clipW_ok p1 out.length c1 ho.row.le) rfl (asg' rfl (OkL.nil (OkQ.subF (sL [1, 4, 14, 15, 16, 5] rfl) (OkQ.then_ (OkC.ret (ret_one rfl (rd_tmp (v := (Value.slice p1 out.length out.length)) rfl) (fun w hw => (by rw [show wayL ts = out from by rw [hou, show i = (rimL ts).length by omega]; exact (wayN_all (sx.fin rfl)).symm]; exact retC hw 1 rfl ho (rowsL_length t3L_len _) rfl))))))))
theorem Ways_ok {ps : List Pt} {ts ss : List T3} (x : MX ps ts ss) (hor : (numB ps.length ts && ornB ts (3 * ts.length)) = true) (hp : ps.length ≤ 1000000) (htl : ts.length ≤ 1000000) (w : World) {S : Nat → Prop} (hx : Ro S w x) : Calls Tryz.prog 29 #[(aG (mxL x))] w (GivesR (RX (rowsL t3L (wayL ts)) (wayL ts).length) S w) := by
 have hnb : numB ps.length ts = true := (Bool.and_eq_true _ _ ▸ hor).1
 have lx := atA (W := w) hx
 refine calls_ofR (args := [(aG (mxL x))]) (L := [rowR x.a.p (rowsL ptL ps), rowR x.b.p (rowsL t3L ts), rowR x.c.p (rowsL t3L ss)]) Tryz.func29 rfl rfl (leB rfl) (sxA hx roL_nil) (OkC.subF (sL [0] rfl) (q4 (bx' (cs := mxL x) rfl fun b1 => asg' rfl (q3 (sL [1, 2] rfl) ?_))))
 refine ldW' 0 tA31 rfl (OkL.callR (S := S) (α := SX ts true) (args := [(aG (mxL x))]) Tryz.call72 (fun w hw => (by have h9 := steps_ok x hp htl w (inS hw 1 rfl lx); rw [hor] at h9; exact h9)) rfl rfl rfl fun sx lsx => mv' rfl (st' (ex_extract (v := (Value.map (some sx.b))) rfl rfl) rfl (st' (ex_extract (v := (Value.bool true)) rfl rfl) rfl (asg' rfl ?_))))
 refine asg' rfl (q6 (sL [1, 2, 3, 4] rfl) (q4 (mv' rfl (st' (ex_not (c := false) rfl rfl) rfl (OkL.nil ?_)))))
 refine OkQ.subF (sL [1, 2, 3, 11] rfl) (OkQ.then_ (OkC.cond_false rfl (OkC.skip (q2 (ldW' 1 tA31 rfl ?_)))))
 refine mv' rfl (cX (S := S) (cs := rowsL t3L (wayL ts)) (k := (wayL ts).length) (args := [(aG (mxL x)), (Value.map (some sx.b))]) Tryz.call73 (fun w hw => ways_ok x sx hnb hp htl w (inS hw 2 rfl lx) (inS hw 0 rfl lsx)) rfl rfl rfl fun wy lwy => asg' rfl (OkL.nil (OkQ.subF (sL [1, 2] rfl) (OkQ.then_ ?_))))
 exact OkC.ret (ret_one rfl (rd_tmp (v := (Value.slice wy.p ((wayL ts).length) wy.c)) rfl) (fun w hw => (retR hw (inS hw 0 rfl lwy) rfl)))
theorem Ways_no {ps : List Pt} {ts ss : List T3} (x : MX ps ts ss) (hor : (numB ps.length ts && ornB ts (3 * ts.length)) = false) (hp : ps.length ≤ 1000000) (htl : ts.length ≤ 1000000) (w : World) {S : Nat → Prop} (hx : Ro S w x) : Calls Tryz.prog 29 #[(aG (mxL x))] w (Gives w (Value.slice none 0 0)) := by
 have lx := atA (W := w) hx
 refine calls_ofR (args := [(aG (mxL x))]) (L := [rowR x.a.p (rowsL ptL ps), rowR x.b.p (rowsL t3L ts), rowR x.c.p (rowsL t3L ss)]) Tryz.func29 rfl rfl (leB rfl) (sxA hx roL_nil) (OkC.subF (sL [0] rfl) (q4 (bx' (cs := mxL x) rfl fun b1 => asg' rfl (q3 (sL [1, 2] rfl) ?_))))
 refine ldW' 0 tA31 rfl (OkL.callR (S := S) (α := SX ts false) (args := [(aG (mxL x))]) Tryz.call72 (fun w hw => (by have h9 := steps_ok x hp htl w (inS hw 1 rfl lx); rw [hor] at h9; exact h9)) rfl rfl rfl fun sx lsx => mv' rfl (st' (ex_extract (v := (Value.map (some sx.b))) rfl rfl) rfl (st' (ex_extract (v := (Value.bool false)) rfl rfl) rfl (asg' rfl ?_))))
 refine asg' rfl (q6 (sL [1, 2, 3, 4] rfl) (q4 (mv' rfl (st' (ex_not (c := true) rfl rfl) rfl (OkL.nil ?_)))))
 refine OkQ.subF (sL [1, 2, 3, 11] rfl) (OkQ.then_ (OkC.cond_true rfl (q4 (asg' rfl (OkL.nil ?_)))))
 exact OkQ.subF (sL [1, 2, 3] rfl) (OkQ.then_ (OkC.ret (OkQ.then_ret (ret_one rfl (rd_tmp (v := (Value.slice none 0 0)) rfl) (fun w hw => ⟨rfl, hw.out⟩)))))
end
end Go.Proofs.YtgiacpkjnikjdaaGreat
