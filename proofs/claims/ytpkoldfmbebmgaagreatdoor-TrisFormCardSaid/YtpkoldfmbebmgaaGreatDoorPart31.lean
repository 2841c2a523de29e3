import Derived.Test.YtpkoldfmbebmgaaGreatDoorPart07
import Derived.Test.YtpkoldfmbebmgaaGreatDoorPart11
import Derived.Test.YtpkoldfmbebmgaaGreatDoorPart30
namespace Go.Proofs.YtpkoldfmbebmgaaGreatDoor
open Go Go.RowKit
set_option linter.unusedVariables false
set_option linter.unusedSimpArgs false
section
set_option maxRecDepth 100000
theorem cmpZ_gt {a b : Nat} (h : b < a) : 0 < cmpZ a b := by unfold cmpZ; rw [if_neg (by omega), if_neg (by omega)]; omega
theorem cmpZ_pos {a b : Nat} (h : ¬ cmpZ a b ≤ 0) : b < a := by
 unfold cmpZ at h
 split at h
 ·omega
 ·split at h <;> omega
theorem rDiv_ok (a b : NV) (hb0 : 0 < b.x) (hla : (dg a.x).length ≤ 274877906944) (hlb : (dg b.x).length ≤ 274877906944) (w : World) (ha : Holds w (nA a)) (hb : Holds w (nA b)) : Calls Tryz.prog 141 #[(nV a), (nV b)] w (GivesNN w [] [a.p.map (·.block)] (a.x / b.x) (a.x % b.x)) := by
 obtain ⟨k, hk⟩ : ∃ k, k = (dg b.x).length - 3 := ⟨_, rfl⟩
 obtain ⟨tp, htp⟩ : ∃ tp, tp = b.x / 10000 ^ k := ⟨_, rfl⟩
 have htb := dg_top3 b.x
 have htp1 := dg_top_pos hb0
 rw [← hk] at htb htp1
 rw [← htp] at htp1
 have htb2 := htb
 rw [← htp] at htb2
 have hlb1 := (dg_ge hb0).2
 refine calls_ofR (args := [(nV a), (nV b)]) (L := [nA a, nA b]) Tryz.func141 rfl rfl (leB rfl) (roL_cons rfl ha (roL_cons rfl hb (roL_nil))) (OkC.subF (sC 0 rfl (sC 1 rfl (sN))) (q4 (asg rfl rfl (asg rfl rfl (OkL.nil ?_)))))
 refine q1 (q4 (mv rfl rfl (mv rfl rfl (cl Tryz.call160 (fun w hw => rCmp_ok a b (by first | omega | (dsimp only; omega)) (by first | omega | (dsimp only; omega)) w (hw.holds (i := 0) rfl) (hw.holds (i := 1) rfl)) rfl rfl rfl (st (ex_lss (c := (decide ((cmpZ a.x b.x) < (0 : Int)))) rfl rfl rfl) (leB rfl) ?_)))))
 refine OkL.nil (OkQ.subF (sC 0 rfl (sC 1 rfl (sC 4 rfl (sC 5 rfl (sC 18 rfl (sN)))))) (OkQ.then_ ?_))
 refine OkC.cond rfl (fun hc0 => ?_) (fun hc0 => ?_)
 ·replace hc0 := of_decide_eq_true hc0
  rw [cmpZ_lt] at hc0
  refine q4 (mv rfl rfl (asg rfl rfl (asg rfl rfl (OkL.nil (OkQ.subF (sC 0 rfl (sC 1 rfl (sC 4 rfl (sC 5 rfl (sN))))) ?_)))))
  exact OkQ.then_ (OkC.ret (OkQ.then_ret (ret_two rfl (rd_tmp (v := (Value.slice none 0 0)) rfl) (rd_tmp (v := (nV a)) rfl) (fun w hw => (by rw [Nat.mod_eq_of_lt hc0]; exact retNN0 hw (Nat.div_eq_of_lt hc0) (k := 0) rfl)))))
 ·replace hc0 := of_decide_eq_false hc0
  rw [cmpZ_lt] at hc0
  have hlab := dg_mono (Nat.le_of_not_lt hc0)
  obtain ⟨m, hm1⟩ : ∃ m, m = (dg a.x).length - (dg b.x).length + 1 := ⟨_, rfl⟩
  have hm : m + (dg b.x).length = (dg a.x).length + 1 := by omega
  refine OkC.skip (q2 (mv rfl rfl (st (v := (vN ((dg b.x).length))) (ex_len_slice rfl Tryz.underlying41) (leB rfl) (st (ex_sub (c := ((((dg b.x).length : Nat) : Int) - 3)) rfl rfl (wrap_i64 (by omega) (by omega))) (leB rfl) (st (ex_max (c := ((k : Nat) : Int)) rfl rfl (by split <;> omega)) (leB rfl) ?_)))))
  refine asg rfl rfl (q3 (sC 0 rfl (sC 1 rfl (sC 4 rfl (sC 5 rfl (sC 6 rfl (sN)))))) (mv rfl rfl (mv rfl rfl (cl (args := [(nV b), (vN k)]) (v := (vN tp)) Tryz.call166 (fun w hw => (by rw [htp]; exact rlead_ok b k (by omega) (by first | omega | (dsimp only; omega)) (by first | omega | (dsimp only; omega)) w (hw.holds (i := 1) rfl))) rfl rfl rfl (asg rfl rfl ?_)))))
  refine q3 (sC 0 rfl (sC 1 rfl (sC 4 rfl (sC 5 rfl (sC 6 rfl (sC 7 rfl (sN))))))) (mv rfl rfl (st (v := (vN ((dg a.x).length))) (ex_len_slice rfl Tryz.underlying41) (leB rfl) (mv rfl rfl (st (v := (vN ((dg b.x).length))) (ex_len_slice rfl Tryz.underlying41) (leB rfl) (st (ex_sub (c := (((m : Nat) : Int) - 1)) rfl rfl (by rw [wrap_i64 (by omega) (by omega)]; omega)) (leB rfl) ?_)))))
  refine asg rfl rfl (q3 (sC 0 rfl (sC 1 rfl (sC 4 rfl (sC 5 rfl (sC 6 rfl (sC 7 rfl (sC 8 rfl (sN)))))))) (mv rfl rfl (st (ex_add (c := ((m : Nat) : Int)) rfl rfl (by rw [wrap_i64 (by omega) (by omega)]; omega)) (leB rfl) (OkL.makeDig (m := m) tM41 rfl rfl (by omega) rfl rfl fun b1 ho_b1 => asg rfl rfl ?_))))
  refine q3 (sC 0 rfl (sC 1 rfl (sC 4 rfl (sC 5 rfl (sC 6 rfl (sC 7 rfl (sC 8 rfl (sC 9 rfl (sN))))))))) (OkL.openV (V := fun b2 => (Value.slice (some ⟨b2, 0, none⟩) 0 0)) (T := 3) (cs := []) (wt_none rfl) (op_build0 Tryz.underlying41 Tryz.sizeOf3) rfl (leB rfl) fun b2 => OkL.asRow0 (z := 1) 0 rfl (by omega) fun ho_b2 => mv rfl rfl (mv rfl rfl (st (ex_add (c := ((m : Nat) : Int)) rfl rfl (by rw [wrap_i64 (by omega) (by omega)]; omega)) (leB rfl) ?_)))
  refine st (v := (Value.slice (slP a.p m a.c 1) ((dg a.x).length - m) (a.c - m))) (ex_slice_lo (i := m) rfl rfl Tryz.underlying41 Tryz.sizeOf3 (by omega) a.ok.le) (leB rfl) (OkL.appendS0 (cs2 := dgL (([]) ++ (((dg a.x)).drop m))) (news := dgL (((dg a.x)).drop m)) tE41 rfl ho_b2 rfl rfl (srcLoD (k := 2) rfl a.ok (by omega)) (by simp [dgL_length]) (dgL_one _) (mxl (by omega)) (by omega) (by rw [dgL_append]; rfl) rfl fun p_1 c_1 ho_1 => OkL.frozenD 0 (X := a.x / 10000 ^ m) rfl ho_1 (by simp) (by rw [← dg_drop]; exact (List.take_length).symm) rfl fun hok0 hloc0 => OkL.retell (k := 40) (u := (Value.slice p_1 ((dg (a.x / 10000 ^ m)).length) c_1)) rfl (by rw [show 0 + ((dg a.x).length - m) = (dg (a.x / 10000 ^ m)).length by rw [← dg_drop]; simp]) (asg rfl rfl (q6 (sC 0 rfl (sC 1 rfl (sC 4 rfl (sC 5 rfl (sC 6 rfl (sC 7 rfl (sC 8 rfl (sC 9 rfl (sC 10 rfl (sN)))))))))) ?_)))
  refine OkC.block (OkC.sub (F' := [(0, (nV a)), (1, (nV b)), (4, (Value.slice none 0 0)), (5, (Value.slice none 0 0)), (6, (vN k)), (7, (vN tp)), (9, (Value.slice (some ⟨b1, 0, none⟩) m m)), (8, (vI (((m : Nat) : Int) - 1))), (10, (Value.slice p_1 ((dg (a.x / 10000 ^ m)).length) c_1))]) (L' := [rowR p_1 (dgL (dg (a.x / 10000 ^ m))), rowW (some ⟨b1, 0, none⟩) 3 1 m m (dgL (List.replicate m 0)), nA a, nA b]) (sF rfl) (List.Sublist.refl _) ?_)
  refine OkC.loop5 (J := fun (j : Nat) (qs : List Nat) (R : Nat) (p : Option Addr) (c : Nat) => j ≤ m ∧ D10 qs ∧ m = qs.length ∧ val10 qs = 10000 ^ j * (a.x / 10000 ^ j / b.x) ∧ R = a.x / 10000 ^ j % b.x ∧ RowOk p (dg R).length c ∧ LocIn w [] p) (FI := fun (j : Nat) (qs : List Nat) (R : Nat) (p : Option Addr) (c : Nat) => [(0, (nV a)), (1, (nV b)), (4, (Value.slice none 0 0)), (5, (Value.slice none 0 0)), (6, (vN k)), (7, (vN tp)), (9, (Value.slice (some ⟨b1, 0, none⟩) m m)), (8, (vI (((j : Nat) : Int) - 1))), (10, (Value.slice p ((dg R).length) c))]) (LI := fun (j : Nat) (qs : List Nat) (R : Nat) (p : Option Addr) (c : Nat) => [rowR p (dgL (dg R)), rowW (some ⟨b1, 0, none⟩) 3 1 m m (dgL qs), nA a, nA b]) (m := fun (j : Nat) (qs : List Nat) (R : Nat) (p : Option Addr) (c : Nat) => j) (fun j qs R p c hJ => ?_) m (List.replicate m 0) (a.x / 10000 ^ m) p_1 c_1 (⟨Nat.le_refl _, d10_zeros _, by simp, by rw [val10_zeros, Nat.div_eq_of_lt (div_init hb0 hm), Nat.mul_zero], (Nat.mod_eq_of_lt (div_init hb0 hm)).symm, hok0, hloc0⟩)
  replace hJ : j ≤ m ∧ D10 qs ∧ m = qs.length ∧ val10 qs = 10000 ^ j * (a.x / 10000 ^ j / b.x) ∧ R = a.x / 10000 ^ j % b.x ∧ RowOk p (dg R).length c ∧ LocIn w [] p := hJ
  obtain ⟨hj, hdd, hk, hv, hR, hok, hloc⟩ := hJ
  refine OkC.sub (F' := [(0, (nV a)), (1, (nV b)), (4, (Value.slice none 0 0)), (5, (Value.slice none 0 0)), (6, (vN k)), (7, (vN tp)), (9, (Value.slice (some ⟨b1, 0, none⟩) m m)), (8, (vI (((j : Nat) : Int) - 1))), (10, (Value.slice p ((dg R).length) c))]) (L' := [rowR p (dgL (dg R)), rowW (some ⟨b1, 0, none⟩) 3 1 m m (dgL qs), nA a, nA b]) (sF rfl) (List.Sublist.refl _) (OkC.seq (q4 (mv rfl rfl (st (ex_geq (c := (decide ((0 : Int) ≤ (((j : Nat) : Int) - 1)))) rfl rfl rfl) (leB rfl) (OkL.nil ?_)))))
  refine OkQ.subF (sC 0 rfl (sC 1 rfl (sC 4 rfl (sC 5 rfl (sC 6 rfl (sC 7 rfl (sC 9 rfl (sC 8 rfl (sC 10 rfl (sC 42 rfl (sN))))))))))) (OkQ.then_ ?_)
  refine OkC.cond rfl (fun hc1 => ?_) (fun hc1 => ?_)
  ·replace hc1 := of_decide_eq_true hc1
   have hj1 : 1 ≤ j := by omega
   obtain ⟨R1, hR1⟩ : ∃ R1, R1 = 10000 * R + (dg a.x).getD (j - 1) 0 := ⟨_, rfl⟩
   have hRb : R < b.x := by rw [hR]; exact Nat.mod_lt _ hb0
   have hd1 := dg_lt a.x (j - 1)
   have hR1b : R1 < 10000 * b.x := by omega
   have hA := dg_lead a.x (j - 1)
   rw [Nat.sub_add_cancel hj1] at hA
   have hst := div_step10 hb0 hA hR hR1
   have hR1l : (dg R1).length ≤ (dg b.x).length + 1 := by refine dg_len (Nat.lt_of_lt_of_le hR1b ?_); rw [Nat.pow_succ]; have h8 := val10_lt (dg_d10 b.x); rw [val_dg] at h8; omega
   have hRl := dg_mono (Nat.le_of_lt hRb)
   have hd9 : D10 ([(dg a.x).getD (j - 1) 0] ++ dg R) := fun e he => (List.mem_append.1 he).elim (fun h => by rw [List.mem_singleton.1 h]; omega) (fun h => dg_d10 R e h)
   have hv9 : val10 ([(dg a.x).getD (j - 1) 0] ++ dg R) = R1 := by rw [List.singleton_append, val10, val_dg]; omega
   have hk9 : 1 + (dg R).length = ([(dg a.x).getD (j - 1) 0] ++ dg R).length := by simp [Nat.add_comm]
   obtain ⟨f, hf⟩ : ∃ f, f = R1 / 10000 ^ k := ⟨_, rfl⟩
   have hfb := div_first hR1b htb
   rw [← hf] at hfb
   obtain ⟨q, hq⟩ : ∃ q, q = R1 / b.x := ⟨_, rfl⟩
   have hq1 : q ≤ 9999 := by have := (Nat.div_lt_iff_lt_mul hb0).2 hR1b; omega
   have hqR : b.x * q ≤ R1 := by rw [hq]; exact Nat.mul_div_le _ _
   have hlow : f / (tp + 1) ≤ q := by rw [hf, htp, hq]; exact div_low hb0
   have hhigh : q ≤ f / tp := by rw [hf, htp, hq]; exact div_high (by rw [← htp]; exact htp1)
   have hf2 : f / (tp + 1) ≤ f := Nat.div_le_self _ _
   refine OkC.retell (k := 8) (u := (vN (j - 1))) rfl (by show Value.int _ _ = Value.int _ _; congr 1; omega) (OkC.skip (q1 (OkC.block (q4 (mv rfl rfl ?_)))))
   refine mv rfl rfl (st (v := (pP (pB a.p) (pO a.p + (j - 1) * 1))) (ex_index_row (j := j - 1) rfl rfl a.ok Tryz.underlying41 Tryz.sizeOf3 rfl (by omega)) (leB rfl) (st (ex_load_rowR_one (v := (vN ((dg a.x).getD (j - 1) 0))) (i := 2) rfl rfl (a.ok.ne (by omega)) tO3 (dgL_get (ds := dg a.x) (j := j - 1) (by omega))) (leB rfl) (OkL.openV (V := fun b3 => (Value.slice (some ⟨b3, 0, none⟩) 1 1)) (T := 3) (cs := [(vN ((dg a.x).getD (j - 1) 0))]) (wt_none rfl) (op_buildSlice (cs := [(vN ((dg a.x).getD (j - 1) 0))]) (pv := [(0, (vN ((dg a.x).getD (j - 1) 0)))]) Tryz.underlying41 Tryz.sizeOf3 Tryz.zeroValue3 (by decide) (by decide) rfl (by kernel_rfl)) rfl (leB rfl) fun b3 => OkL.asRow0 (z := 1) 1 rfl (by omega) fun ho_b3 => mv rfl rfl ?_)))
   refine OkL.appendS0 (cs2 := dgL (([(dg a.x).getD (j - 1) 0]) ++ (dg R))) (news := dgL (dg R)) tE41 rfl ho_b3 rfl rfl (srcR (k := 1) rfl hok) (by simp [dgL_length]) (dgL_one _) (mxl (by omega)) (by omega) (by rw [dgL_append]; rfl) rfl fun p_2 c_2 ho_2 => cl (args := [(Value.slice p_2 (1 + ((dg R).length)) c_2)]) (v := (Value.slice p_2 ((dg R1).length) c_2)) Tryz.call153 (fun w hw => (by have h9 := rtrim_ok p_2 c_2 (([(dg a.x).getD (j - 1) 0]) ++ (dg R)) hd9 (by rw [← hk9]; exact ho_2.row) (by simp; omega) w (holdsW (hw.holds (i := 0) rfl) ho_2 hk9); rw [hv9, ← hk9] at h9; exact h9)) rfl rfl rfl (OkL.frozenD 0 (X := R1) rfl ho_2 hk9 (by rw [← hv9]; exact dg_prefix hd9) rfl fun hok1 hloc1 => asg rfl rfl (q3 (sC 0 rfl (sC 1 rfl (sC 4 rfl (sC 5 rfl (sC 6 rfl (sC 7 rfl (sC 9 rfl (sC 8 rfl (sC 10 rfl (sN)))))))))) (mv rfl rfl ?_)))
   refine mv rfl rfl (cl (args := [(Value.slice p_2 ((dg R1).length) c_2), (vN k)]) (v := (vN f)) Tryz.call166 (fun w hw => (by rw [hf]; exact rlead_ok (NV.mk p_2 c_2 R1 hok1) k (by omega) (by first | omega | (dsimp only; omega)) (by first | omega | (dsimp only; omega)) w (hw.holds (i := 0) rfl))) rfl rfl rfl (asg rfl rfl (q6 (sC 0 rfl (sC 1 rfl (sC 4 rfl (sC 5 rfl (sC 6 rfl (sC 7 rfl (sC 9 rfl (sC 8 rfl (sC 10 rfl (sC 11 rfl (sN))))))))))) (rG [(0, true), (1, true), (2, true), (3, true), (4, true), (5, true), (6, true), (7, true), (8, true), (9, true)] sr (by kernel_rfl) (fun _ _ d _ _ h => by cases d <;> exact h) (pM rfl rfl rfl ?_)))))
   refine pM rfl rfl rfl (pE rfl (ex_add (c := ((tp + 1 : Nat) : Int)) rfl rfl (addN_i64 (a := tp) (b := 1) (by omega))) rfl (pE rfl (ex_quo (c := ((f / (tp + 1) : Nat) : Int)) rfl rfl (by omega) (quoN_i64 (a := f) (b := tp + 1) (by omega))) rfl (pM rfl rfl rfl (pM rfl rfl rfl (pE rfl (ex_quo (c := ((f / tp : Nat) : Int)) rfl rfl (by omega) (quoN_i64 (a := f) (b := tp) (by omega))) rfl ?_)))))
   refine pE rfl (ex_min (c := ((min (f / tp) 9999 : Nat) : Int)) rfl rfl (by split <;> omega)) rfl (pS rfl rfl rfl (pS rfl rfl rfl (OkE.nil (OkQ.subF (sC 0 rfl (sC 1 rfl (sC 4 rfl (sC 5 rfl (sC 6 rfl (sC 7 rfl (sC 9 rfl (sC 8 rfl (sC 10 rfl (sC 12 rfl (sC 13 rfl (sN)))))))))))) (q1 ?_)))))
   refine OkC.block (OkC.sub (F' := [(0, (nV a)), (1, (nV b)), (4, (Value.slice none 0 0)), (5, (Value.slice none 0 0)), (6, (vN k)), (7, (vN tp)), (9, (Value.slice (some ⟨b1, 0, none⟩) m m)), (8, (vN (j - 1))), (10, (Value.slice p_2 ((dg R1).length) c_2)), (12, (vN (f / (tp + 1)))), (13, (vN (min (f / tp) 9999)))]) (L' := [rowR p_2 (dgL (dg R1)), rowR p (dgL (dg R)), rowW (some ⟨b1, 0, none⟩) 3 1 m m (dgL qs), nA a, nA b]) (sF rfl) (List.Sublist.refl _) ?_)
   refine OkC.loop2 (J := fun (lo : Nat) (hi : Nat) => lo ≤ q ∧ q ≤ hi ∧ hi ≤ 9999) (FI := fun (lo : Nat) (hi : Nat) => [(0, (nV a)), (1, (nV b)), (4, (Value.slice none 0 0)), (5, (Value.slice none 0 0)), (6, (vN k)), (7, (vN tp)), (9, (Value.slice (some ⟨b1, 0, none⟩) m m)), (8, (vN (j - 1))), (10, (Value.slice p_2 ((dg R1).length) c_2)), (12, (vN lo)), (13, (vN hi))]) (LI := fun (lo : Nat) (hi : Nat) => [rowR p_2 (dgL (dg R1)), rowR p (dgL (dg R)), rowW (some ⟨b1, 0, none⟩) 3 1 m m (dgL qs), nA a, nA b]) (m := fun (lo : Nat) (hi : Nat) => hi - lo) (fun lo hi hJ => ?_) (f / (tp + 1)) (min (f / tp) 9999) (⟨hlow, by omega, by omega⟩)
   replace hJ : lo ≤ q ∧ q ≤ hi ∧ hi ≤ 9999 := hJ
   obtain ⟨hlo, hhi, hh9⟩ := hJ
   refine OkC.sub (F' := [(0, (nV a)), (1, (nV b)), (4, (Value.slice none 0 0)), (5, (Value.slice none 0 0)), (6, (vN k)), (7, (vN tp)), (9, (Value.slice (some ⟨b1, 0, none⟩) m m)), (8, (vN (j - 1))), (10, (Value.slice p_2 ((dg R1).length) c_2)), (12, (vN lo)), (13, (vN hi))]) (L' := [rowR p_2 (dgL (dg R1)), rowR p (dgL (dg R)), rowW (some ⟨b1, 0, none⟩) 3 1 m m (dgL qs), nA a, nA b]) (sF rfl) (List.Sublist.refl _) (OkC.seq (q4 (mv rfl rfl (mv rfl rfl (st (ex_lss (c := (decide (lo < hi))) rfl rfl (ltN (a := lo) (b := hi))) (leB rfl) ?_)))))
   refine OkL.nil (OkQ.subF (sC 0 rfl (sC 1 rfl (sC 4 rfl (sC 5 rfl (sC 6 rfl (sC 7 rfl (sC 9 rfl (sC 8 rfl (sC 10 rfl (sC 12 rfl (sC 13 rfl (sC 66 rfl (sN))))))))))))) (OkQ.then_ ?_))
   refine OkC.cond rfl (fun hc2 => ?_) (fun hc2 => ?_)
   ·replace hc2 := of_decide_eq_true hc2
    refine OkC.skip (OkQ.then_ (OkC.block (q4 (mv rfl rfl (mv rfl rfl ?_)))))
    refine st (ex_add (c := ((lo + hi : Nat) : Int)) rfl rfl (addN_i64 (a := lo) (b := hi) (by omega))) (leB rfl) (st (ex_add (c := (((lo + hi) + 1 : Nat) : Int)) rfl rfl (addN_i64 (a := lo + hi) (b := 1) (by omega))) (leB rfl) (st (ex_quo (c := ((((lo + hi) + 1) / 2 : Nat) : Int)) rfl rfl (by omega) (quoN_i64 (a := (lo + hi) + 1) (b := 2) (by omega))) (leB rfl) (asg rfl rfl (q3 (sC 0 rfl (sC 1 rfl (sC 4 rfl (sC 5 rfl (sC 6 rfl (sC 7 rfl (sC 9 rfl (sC 8 rfl (sC 10 rfl (sC 12 rfl (sC 13 rfl (sC 14 rfl (sN))))))))))))) (mv rfl rfl ?_)))))
    refine mv rfl rfl (st (ex_conv (c := ((((lo + hi) + 1) / 2 : Nat) : Int)) rfl Tryz.underlying3 Tryz.underlying28 (convN_u64 (by omega))) (leB rfl) (OkL.callN (args := [(vK .u64 (((lo + hi) + 1) / 2))]) Tryz.call128 (fun w hw => rOf_ok (((lo + hi) + 1) / 2) (by omega) w) srcN rfl rfl rfl fun v1 hv1 lv1 => ?_))
    have hlv1 : (dg v1.x).length ≤ 1 := dg_len (by omega)
    refine OkL.callN (args := [(nV b), (nV v1)]) Tryz.call109 (fun w hw => rMul_ok b v1 (by first | omega | (dsimp only; omega)) (by first | omega | (dsimp only; omega)) w (hw.holds (i := 5) rfl) (hw.holds (i := 0) rfl)) srcN rfl rfl rfl fun v2 hv2 lv2 => ?_
    have hlv2 : (dg v2.x).length ≤ (dg b.x).length + 1 := by refine dg_len ?_; rw [hv2, Nat.pow_succ]; have h8 := val10_lt (dg_d10 b.x); rw [val_dg] at h8; exact Nat.mul_lt_mul_of_lt_of_le h8 (by omega) (by omega)
    refine mv rfl rfl (cl Tryz.call160 (fun w hw => rCmp_ok v2 (NV.mk p_2 c_2 R1 hok1) (by first | omega | (dsimp only; omega)) (by first | omega | (dsimp only; omega)) w (hw.holds (i := 0) rfl) (hw.holds (i := 2) rfl)) rfl rfl rfl (st (ex_leq (c := (decide ((cmpZ v2.x R1) ≤ (0 : Int)))) rfl rfl rfl) (leB rfl) (OkL.nil (OkQ.subF (sC 0 rfl (sC 1 rfl (sC 4 rfl (sC 5 rfl (sC 6 rfl (sC 7 rfl (sC 9 rfl (sC 8 rfl (sC 10 rfl (sC 12 rfl (sC 13 rfl (sC 14 rfl (sC 79 rfl (sN)))))))))))))) (OkQ.then_ ?_)))))
    refine OkC.cond rfl (fun hc3 => ?_) (fun hc3 => ?_)
    ·replace hc3 := of_decide_eq_true hc3
     have hmq : (lo + hi + 1) / 2 ≤ q := by rw [hq]; refine (Nat.le_div_iff_mul_le hb0).2 ?_; rw [Nat.mul_comm, ← hv1, ← hv2]; exact Nat.le_of_not_lt fun h => by have h8 := cmpZ_gt h; omega
     exact OkC.region (mv rfl rfl (asg rfl rfl (OkL.nil (OkQ.subF (sC 0 rfl (sC 1 rfl (sC 4 rfl (sC 5 rfl (sC 6 rfl (sC 7 rfl (sC 9 rfl (sC 8 rfl (sC 10 rfl (sC 12 rfl (sC 13 rfl (sC 14 rfl (sN))))))))))))) (OkQ.in_normal (OkQ.round2 (((lo + hi) + 1) / 2) hi (⟨by omega, by omega, by omega⟩) (by omega) (sS rfl (sS rfl (sS rfl (sS rfl (sS rfl (sS rfl (sS rfl (sS rfl (sS rfl (sS rfl (sS rfl (sN)))))))))))) (sl (sl sr))))))))
    ·replace hc3 := of_decide_eq_false hc3
     have hmq : q < (lo + hi + 1) / 2 := by rw [hq]; refine (Nat.div_lt_iff_lt_mul hb0).2 ?_; rw [Nat.mul_comm, ← hv1, ← hv2]; exact cmpZ_pos (by omega)
     refine OkC.region (mv rfl rfl (st (ex_sub (c := (((((lo + hi) + 1) / 2) - 1 : Nat) : Int)) rfl rfl (subN_i64 (a := ((lo + hi) + 1) / 2) (b := 1) (by omega) (by omega))) (leB rfl) (asg rfl rfl (OkL.nil (OkQ.subF (sC 0 rfl (sC 1 rfl (sC 4 rfl (sC 5 rfl (sC 6 rfl (sC 7 rfl (sC 9 rfl (sC 8 rfl (sC 10 rfl (sC 12 rfl (sC 13 rfl (sC 14 rfl (sN))))))))))))) ?_)))))
     exact OkQ.in_normal (OkQ.round2 lo ((((lo + hi) + 1) / 2) - 1) (⟨by omega, by omega, by omega⟩) (by omega) (sS rfl (sS rfl (sS rfl (sS rfl (sS rfl (sS rfl (sS rfl (sS rfl (sS rfl (sS rfl (sS rfl (sN)))))))))))) (sl (sl sr)))
   ·replace hc2 := of_decide_eq_false hc2
    have hlq : lo = q := by omega
    refine OkC.exit (OkQ.then_exit (OkQ.round2_exit (OkQ.in_exit (q2 (mv rfl rfl ?_)))))
    refine mv rfl rfl (mv rfl rfl (st (v := (pP (pB (some ⟨b1, 0, none⟩)) (pO (some ⟨b1, 0, none⟩) + (j - 1) * 1))) (ex_index_row (j := j - 1) rfl rfl ho_b1.row Tryz.underlying41 Tryz.sizeOf3 rfl (by omega)) (leB rfl) (OkL.storeRow2 (j := j - 1) (v := (vN lo)) rfl rfl ho_b1 (by simp [dgL_length]; omega) (by omega) rfl Tryz.sizeOf3 rfl (dgL_set _ _ _) (OkL.nil (OkQ.subF (sC 0 rfl (sC 1 rfl (sC 4 rfl (sC 5 rfl (sC 6 rfl (sC 7 rfl (sC 9 rfl (sC 8 rfl (sC 10 rfl (sC 12 rfl (sC 13 rfl (sN)))))))))))) ?_)))))
    refine OkQ.then_ (OkC.region (mv rfl rfl (mv rfl rfl (mv rfl rfl (st (ex_conv (c := ((lo : Nat) : Int)) rfl Tryz.underlying3 Tryz.underlying28 (convN_u64 (by omega))) (leB rfl) ?_)))))
    refine OkL.callN (args := [(vK .u64 lo)]) Tryz.call128 (fun w hw => rOf_ok lo (by omega) w) srcN rfl rfl rfl fun v3 hv3 lv3 => ?_
    have hlv3 : (dg v3.x).length ≤ 1 := dg_len (by omega)
    refine OkL.callN (args := [(nV b), (nV v3)]) Tryz.call109 (fun w hw => rMul_ok b v3 (by first | omega | (dsimp only; omega)) (by first | omega | (dsimp only; omega)) w (hw.holds (i := 5) rfl) (hw.holds (i := 0) rfl)) srcN rfl rfl rfl fun v4 hv4 lv4 => ?_
    have hlv4 : (dg v4.x).length ≤ (dg b.x).length + 1 := by refine dg_len ?_; rw [hv4, Nat.pow_succ]; have h8 := val10_lt (dg_d10 b.x); rw [val_dg] at h8; exact Nat.mul_lt_mul_of_lt_of_le h8 (by omega) (by omega)
    have hv4R : v4.x ≤ R1 := by rw [hv4, hv3, hlq]; exact hqR
    refine OkL.callN (args := [(Value.slice p_2 ((dg R1).length) c_2), (nV v4)]) Tryz.call142 (fun w hw => rSub_ok (NV.mk p_2 c_2 R1 hok1) v4 hv4R (by first | omega | (dsimp only; omega)) w (hw.holds (i := 2) rfl) (hw.holds (i := 0) rfl)) srcN rfl rfl rfl fun v5 hv5 lv5 => asg rfl rfl (OkL.nil (OkQ.subF (sC 0 rfl (sC 1 rfl (sC 4 rfl (sC 5 rfl (sC 6 rfl (sC 7 rfl (sC 9 rfl (sC 8 rfl (sC 10 rfl (sC 12 rfl (sC 13 rfl (sN)))))))))))) (OkQ.in_normal (OkQ.then_ ?_))))
    exact OkC.region (mv rfl rfl (st (ex_sub (c := (((j - 1 : Nat) : Int) - 1)) rfl rfl (wrap_i64 (by omega) (by omega))) (leB rfl) (asg rfl rfl (OkL.nil (OkQ.subF (sC 0 rfl (sC 1 rfl (sC 4 rfl (sC 5 rfl (sC 6 rfl (sC 7 rfl (sC 9 rfl (sC 8 rfl (sC 10 rfl (sC 12 rfl (sC 13 rfl (sN)))))))))))) (OkQ.round5 (j - 1) (qs.set (j - 1) lo) v5.x v5.p v5.c (⟨by omega, d10_set hdd (by omega), by simpa using hk, div_digit hdd hk hj1 hj hv (by rw [hlq, hq]; exact hst.1), by rw [hv5, hv4, hv3, hlq, hst.2, hq]; exact Nat.sub_eq_of_eq_add (Nat.mod_add_div _ _).symm, v5.ok, lv5⟩) (by omega) (sS rfl (sS rfl (sS rfl (sS rfl (sS rfl (sS rfl (sS rfl (sS rfl (sS rfl (sN)))))))))) (sk (sl (sl (sl (sl sr)))))))))))
  ·replace hc1 := of_decide_eq_false hc1
   obtain rfl : j = 0 := by omega
   have hfin : val10 qs = a.x / b.x := by rw [hv]; simp
   have hfin2 : R = a.x % b.x := by rw [hR]; simp
   refine OkC.exit (OkQ.then_exit (OkQ.round5_exit (OkQ.in_exit (q2 (mv rfl rfl ?_)))))
   refine cl (args := [(Value.slice (some ⟨b1, 0, none⟩) m m)]) (v := (Value.slice (some ⟨b1, 0, none⟩) ((dg (val10 qs)).length) m)) Tryz.call153 (fun w hw => (by have h9 := rtrim_ok (some ⟨b1, 0, none⟩) m qs hdd (by rw [← hk]; exact ho_b1.row) (by omega) w (holdsW (hw.holds (i := 1) rfl) ho_b1 hk); rw [← hk] at h9; exact h9)) rfl rfl rfl (mv rfl rfl (asg rfl rfl (asg rfl rfl (OkL.nil (OkQ.subF (sC 0 rfl (sC 1 rfl (sC 4 rfl (sC 5 rfl (sC 6 rfl (sC 7 rfl (sC 9 rfl (sC 8 rfl (sC 10 rfl (sN)))))))))) ?_)))))
   exact OkQ.then_ (OkC.ret (ret_two rfl (rd_tmp (v := (Value.slice (some ⟨b1, 0, none⟩) ((dg (val10 qs)).length) m)) rfl) (rd_tmp (v := (Value.slice p ((dg R).length) c)) rfl) (fun w hw => retNN hw (i := 1) (k := 0) rfl ho_b1 hk (by rw [← hfin]; exact dg_prefix hdd) (by rw [hfin]) (by rw [← hfin2]; rfl) (by rw [← hfin2]; exact hok) hloc (by rw [← hfin2]))))
theorem rGcd_ok (a b : NV) (hla : (dg a.x).length ≤ 274877906944) (hlb : (dg b.x).length ≤ 274877906944) (w : World) (ha : Holds w (nA a)) (hb : Holds w (nA b)) : Calls Tryz.prog 140 #[(nV a), (nV b)] w (GivesN w [a.p.map (·.block), b.p.map (·.block)] (Nat.gcd a.x b.x)) := by
 refine calls_ofR (args := [(nV a), (nV b)]) (L := [nA b, nA a]) Tryz.func140 rfl rfl (leB rfl) (roL_cons rfl hb (roL_cons rfl ha (roL_nil))) (OkC.subF (sC 0 rfl (sC 1 rfl (sN))) (q4 (asg rfl rfl (OkL.nil (q1 ?_)))))
 refine OkC.block (OkC.sub (F' := [(4, (Value.slice none 0 0)), (0, (nV a)), (1, (nV b))]) (L' := [nA b, nA a]) (sF rfl) (List.Sublist.refl _) ?_)
 refine OkC.loop2 (J := fun (u : NV) (v : NV) => Nat.gcd u.x v.x = Nat.gcd a.x b.x ∧ (dg u.x).length ≤ 274877906944 ∧ (dg v.x).length ≤ 274877906944 ∧ LocIn w [a.p.map (·.block), b.p.map (·.block)] u.p ∧ LocIn w [a.p.map (·.block), b.p.map (·.block)] v.p) (FI := fun (u : NV) (v : NV) => [(4, (Value.slice none 0 0)), (0, (nV u)), (1, (nV v))]) (LI := fun (u : NV) (v : NV) => [nA v, nA u]) (m := fun (u : NV) (v : NV) => v.x) (fun u v hJ => ?_) a b (⟨rfl, hla, hlb, fun s e => .inr (by rw [← e]; exact List.mem_cons_self), fun s e => .inr (by rw [← e]; exact List.mem_cons_of_mem _ List.mem_cons_self)⟩)
 replace hJ : Nat.gcd u.x v.x = Nat.gcd a.x b.x ∧ (dg u.x).length ≤ 274877906944 ∧ (dg v.x).length ≤ 274877906944 ∧ LocIn w [a.p.map (·.block), b.p.map (·.block)] u.p ∧ LocIn w [a.p.map (·.block), b.p.map (·.block)] v.p := hJ
 obtain ⟨hg, hlu, hlv, hu, hv⟩ := hJ
 refine OkC.sub (F' := [(4, (Value.slice none 0 0)), (0, (nV u)), (1, (nV v))]) (L' := [nA v, nA u]) (sF rfl) (List.Sublist.refl _) (OkC.seq (q4 (mv rfl rfl (st (v := (vN ((dg v.x).length))) (ex_len_slice rfl Tryz.underlying41) (leB rfl) (st (ex_gtr (c := (decide (0 < ((dg v.x).length)))) rfl rfl (ltN (a := 0) (b := (dg v.x).length))) (leB rfl) ?_)))))
 refine OkL.nil (OkQ.subF (sC 4 rfl (sC 0 rfl (sC 1 rfl (sC 9 rfl (sN))))) (OkQ.then_ ?_))
 refine OkC.cond rfl (fun hc0 => ?_) (fun hc0 => ?_)
 ·replace hc0 := of_decide_eq_true hc0
  have hv0 : 0 < v.x := by
     rcases Nat.eq_zero_or_pos v.x with h | h
     ·rw [h] at hc0; exact absurd hc0 (by decide)
     ·exact h
  refine OkC.skip (OkQ.then_ (OkC.block (q4 (mv rfl rfl (mv rfl rfl ?_)))))
  refine OkL.callNN (args := [(nV u), (nV v)]) Tryz.call141 (fun w hw => rDiv_ok u v hv0 hlu hlv w (hw.holds (i := 1) rfl) (hw.holds (i := 0) rfl)) srcN (srcC (y := nA u) 1 rfl rfl srcN) rfl rfl rfl fun q1 r1 hq1 hr1 lq1 lr1 => mv rfl rfl (st (ex_extract (v := (nV q1)) rfl rfl) (leB rfl) (st (ex_extract (v := (nV r1)) rfl rfl) (leB rfl) (asg rfl rfl (asg rfl rfl ?_))))
  refine q3 (sC 4 rfl (sC 0 rfl (sC 1 rfl (sC 6 rfl (sN))))) (mv rfl rfl (asg rfl rfl (OkL.nil (OkQ.subF (sC 4 rfl (sC 0 rfl (sC 1 rfl (sC 6 rfl (sN))))) (OkQ.then_ ?_)))))
  exact OkC.region (mv rfl rfl (asg rfl rfl (OkL.nil (OkQ.subF (sC 4 rfl (sC 0 rfl (sC 1 rfl (sN)))) (OkQ.in_normal (OkQ.round2 v r1 (⟨by rw [← hg, hr1, Nat.gcd_comm, ← Nat.gcd_rec, Nat.gcd_comm], hlv, Nat.le_trans (dg_mono (by rw [hr1]; exact Nat.le_of_lt (Nat.mod_lt _ hv0))) hlv, hv, lr1.mono (fun s hs c e => hu c (by rw [List.mem_singleton.1 hs] at e; exact e))⟩) (by rw [hr1]; exact Nat.mod_lt _ hv0) (sS rfl (sS rfl (sS rfl (sN)))) (sl (sk (sk (sl sr))))))))))
 ·replace hc0 := of_decide_eq_false hc0
  have hv0 : v.x = 0 := by
     rcases Nat.eq_zero_or_pos v.x with h | h
     ·exact h
     ·have := (dg_ge h).2; omega
  rw [hv0, Nat.gcd_zero_right] at hg
  refine OkC.exit (OkQ.then_exit (OkQ.round2_exit (OkQ.in_exit (q2 (mv rfl rfl ?_)))))
  exact asg rfl rfl (OkL.nil (OkQ.subF (sC 4 rfl (sC 0 rfl (sC 1 rfl (sN)))) (OkQ.then_ (OkC.ret (ret_one rfl (rd_tmp (v := (nV u)) rfl) (fun w hw => ⟨u, hg, rfl, hw.out, hw.holds (i := 1) rfl, hu⟩))))))
end
section
set_option maxRecDepth 100000
theorem rText_ok (a : NV) (hla : (dg a.x).length ≤ 549755813888) (w : World) (ha : Holds w (nA a)) : Calls Tryz.prog 111 #[(nV a)] w (Gives w (Value.string (txB (Lib.decDigits a.x)))) := by
 refine calls_ofR (args := [(nV a)]) (L := [nA a]) Tryz.func111 rfl rfl (leB rfl) (roL_cons rfl ha (roL_nil)) (OkC.subF (sC 0 rfl (sN)) (q4 (asg rfl rfl (OkL.nil (q1 ?_)))))
 refine q4 (mv rfl rfl (st (v := (vN ((dg a.x).length))) (ex_len_slice rfl Tryz.underlying41) (leB rfl) (st (ex_eql (c := (decide (((dg a.x).length) = 0))) rfl rfl (eqN (a := (dg a.x).length) (b := 0))) (leB rfl) (OkL.nil (OkQ.subF (sC 0 rfl (sC 2 rfl (sC 9 rfl (sN)))) ?_)))))
 refine OkQ.then_ ?_
 refine OkC.cond rfl (fun hc0 => ?_) (fun hc0 => ?_)
 ·replace hc0 := of_decide_eq_true hc0
  have hx0 : a.x = 0 := by rcases Nat.eq_zero_or_pos a.x with h | h; exact h; have := (dg_ge h).2; omega
  exact q4 (asg rfl rfl (OkL.nil (OkQ.then_ (OkC.ret (OkQ.then_ret (ret_one rfl (rd_tmp (v := (Value.string (ByteArray.mk #[48]))) rfl) (fun w hw => ⟨by rw [hx0, decDigits_zero]; rfl, hw.out⟩)))))))
 ·replace hc0 := of_decide_eq_false hc0
  have hx0 : 0 < a.x := by rcases Nat.eq_zero_or_pos a.x with h | h; (exact absurd (by rw [h]; rfl) hc0); exact h
  refine OkC.skip (q2 (asg rfl rfl (OkL.nil (q1 (q4 ?_)))))
  refine asg rfl rfl (OkL.nil (OkQ.then_ (OkC.block (OkC.sub (F' := [(0, (nV a)), (2, (Value.string (ByteArray.mk #[]))), (4, (vI 0)), (3, (Value.string (txB ([]))))]) (L' := [nA a]) (sF rfl) (List.Sublist.refl _) ?_))))
  refine OkC.loop2 (J := fun (i : Nat) (s : List UInt8) => i < (dg a.x).length ∧ s = padD (4 * i) a.x ∨ i = (dg a.x).length ∧ s = Lib.decDigits a.x) (FI := fun (i : Nat) (s : List UInt8) => [(0, (nV a)), (2, (Value.string (ByteArray.mk #[]))), (4, (vN i)), (3, (Value.string (txB s)))]) (LI := fun (i : Nat) (s : List UInt8) => [nA a]) (m := fun (i : Nat) (s : List UInt8) => (dg a.x).length - i) (fun i s hJ => ?_) 0 ([]) (.inl ⟨by omega, rfl⟩)
  replace hJ : i < (dg a.x).length ∧ s = padD (4 * i) a.x ∨ i = (dg a.x).length ∧ s = Lib.decDigits a.x := hJ
  have hj := hJ
  refine OkC.sub (F' := [(0, (nV a)), (2, (Value.string (ByteArray.mk #[]))), (4, (vN i)), (3, (Value.string (txB s)))]) (L' := [nA a]) (sF rfl) (List.Sublist.refl _) (OkC.seq (q4 (mv rfl rfl (mv rfl rfl (st (v := (vN ((dg a.x).length))) (ex_len_slice rfl Tryz.underlying41) (leB rfl) ?_)))))
  refine st (ex_lss (c := (decide (i < ((dg a.x).length)))) rfl rfl (ltN (a := i) (b := (dg a.x).length))) (leB rfl) (OkL.nil (OkQ.subF (sC 0 rfl (sC 2 rfl (sC 4 rfl (sC 3 rfl (sC 13 rfl (sN)))))) (OkQ.then_ ?_)))
  refine OkC.cond rfl (fun hc1 => ?_) (fun hc1 => ?_)
  ·replace hc1 := of_decide_eq_true hc1
   have hs : s = padD (4 * i) a.x := (hj.resolve_right (by omega)).2
   have gd := dg_lt a.x i
   refine OkC.skip (q1 (OkC.block (q4 (mv rfl rfl (mv rfl rfl ?_)))))
   refine st (v := (pP (pB a.p) (pO a.p + i * 1))) (ex_index_row (j := i) rfl rfl a.ok Tryz.underlying41 Tryz.sizeOf3 rfl (by omega)) (leB rfl) (st (ex_load_rowR_one (v := (vN ((dg a.x).getD i 0))) (i := 0) rfl rfl (a.ok.ne (by omega)) tO3 (dgL_get (ds := dg a.x) (j := i) (by omega))) (leB rfl) (asg rfl rfl (q3 (sC 0 rfl (sC 2 rfl (sC 4 rfl (sC 3 rfl (sC 5 rfl (sN)))))) (asg rfl rfl (OkL.nil ?_)))))
   refine OkQ.then_ (OkC.block (OkC.sub (F' := [(0, (nV a)), (2, (Value.string (ByteArray.mk #[]))), (4, (vN i)), (5, (vN ((dg a.x).getD i 0))), (6, (vI 0)), (3, (Value.string (txB s)))]) (L' := [nA a]) (sF rfl) (List.Sublist.refl _) ?_))
   refine OkC.loop3 (J := fun (d : Nat) (k : Nat) (s2 : List UInt8) => k ≤ 4 ∧ d = (dg a.x).getD i 0 / 10 ^ k ∧ s2 = padD (4 * i + k) a.x ∧ (i + 1 = (dg a.x).length → k = 0 ∨ (dg a.x).getD i 0 / 10 ^ (k - 1) ≠ 0)) (FI := fun (d : Nat) (k : Nat) (s2 : List UInt8) => [(0, (nV a)), (2, (Value.string (ByteArray.mk #[]))), (4, (vN i)), (5, (vN d)), (6, (vN k)), (3, (Value.string (txB s2)))]) (LI := fun (d : Nat) (k : Nat) (s2 : List UInt8) => [nA a]) (m := fun (d : Nat) (k : Nat) (s2 : List UInt8) => 4 - k) (fun d k s2 hJ => ?_) ((dg a.x).getD i 0) 0 s (⟨by omega, by simp, by rw [hs]; rfl, fun _ => .inl rfl⟩)
   replace hJ : k ≤ 4 ∧ d = (dg a.x).getD i 0 / 10 ^ k ∧ s2 = padD (4 * i + k) a.x ∧ (i + 1 = (dg a.x).length → k = 0 ∨ (dg a.x).getD i 0 / 10 ^ (k - 1) ≠ 0) := hJ
   obtain ⟨hk4, hd, hs2, hnz⟩ := hJ
   refine OkC.sub (F' := [(0, (nV a)), (2, (Value.string (ByteArray.mk #[]))), (4, (vN i)), (5, (vN d)), (6, (vN k)), (3, (Value.string (txB s2)))]) (L' := [nA a]) (sF rfl) (List.Sublist.refl _) ?_
   have hdl : d ≤ (dg a.x).getD i 0 := by rw [hd]; exact Nat.div_le_self _ _
   refine OkC.seq (q4 (mv rfl rfl (st (ex_lss (c := (decide (k < 4))) rfl rfl (ltN (a := k) (b := 4))) (leB rfl) (mv rfl rfl ?_))))
   refine OkL.mid (FM := [(0, (nV a)), (2, (Value.string (ByteArray.mk #[]))), (4, (vN i)), (5, (vN d)), (6, (vN k)), (3, (Value.string (txB s2))), (20, (vN k)), (21, (Value.bool (decide (k < 4)))), (22, (Value.bool (decide (k < 4)))), (32, (Value.bool ((decide (k < 4)) && ((decide ((i + 1) < ((dg a.x).length))) || (decide (0 < d))))))]) (LM := [nA a]) 10 ?_ ?_
   ·rcases Bool.eq_false_or_eq_true (decide (k < 4)) with hg1 | hg1
    ·skip
     refine OkL.retell (k := 22) (u := Value.bool true) rfl (by rw [hg1]) ?_
     have hg1' := hg1
     replace hg1' := of_decide_eq_true hg1'
     refine OkL.step (v := (vN i)) (wt_some rfl rfl rfl) (ex_move rfl) rfl (leB rfl) (OkL.step (v := (vN (i + 1))) (wt_some rfl rfl rfl) (ex_add (c := ((i + 1 : Nat) : Int)) rfl rfl (addN_i64 (a := i) (b := 1) (by omega))) rfl (leB rfl) (OkL.step (v := (nV a)) (wt_some rfl rfl rfl) (ex_move rfl) rfl (leB rfl) (OkL.step (v := (vN ((dg a.x).length))) (wt_some rfl rfl rfl) (ex_len_slice rfl Tryz.underlying41) rfl (leB rfl) (OkL.step (v := (Value.bool (decide ((i + 1) < ((dg a.x).length))))) (wt_some rfl rfl rfl) (ex_lss (c := (decide ((i + 1) < ((dg a.x).length)))) rfl rfl (ltN (a := i + 1) (b := (dg a.x).length))) rfl (leB rfl) (OkL.step (v := (Value.bool (decide ((i + 1) < ((dg a.x).length))))) (wt_some rfl rfl rfl) (ex_move rfl) rfl (leB rfl) ?_)))))
     refine OkL.mid (FM := [(0, (nV a)), (2, (Value.string (ByteArray.mk #[]))), (4, (vN i)), (5, (vN d)), (6, (vN k)), (3, (Value.string (txB s2))), (20, (vN k)), (21, (Value.bool (decide (k < 4)))), (22, (Value.bool true)), (23, (vN i)), (24, (vN (i + 1))), (25, (nV a)), (26, (vN ((dg a.x).length))), (27, (Value.bool (decide ((i + 1) < ((dg a.x).length))))), (28, (Value.bool (decide ((i + 1) < ((dg a.x).length))))), (31, (Value.bool ((decide ((i + 1) < ((dg a.x).length))) || (decide (0 < d)))))]) (LM := [nA a]) 3 ?_ ?_
     ·rcases Bool.eq_false_or_eq_true (decide ((i + 1) < ((dg a.x).length))) with hg2 | hg2
      ·skip
       refine OkL.retell (k := 28) (u := Value.bool true) rfl (by rw [hg2]) ?_
       have hg2' := hg2
       replace hg2' := of_decide_eq_true hg2'
       exact OkL.skip (wt_not rfl rfl rfl) rfl (leB rfl) (OkL.skip (wt_not rfl rfl rfl) rfl (leB rfl) (OkL.step (v := (Value.bool true)) (wt_some rfl rfl rfl) (ex_pick_true rfl rfl) rfl (leB rfl) (OkL.nil (OkQ.mid (sS rfl (sS rfl (sS rfl (sS rfl (sS rfl (sS rfl (sS rfl (sS rfl (sS rfl (sS rfl (sS rfl (sS rfl (sS rfl (sS rfl (sS (by first | rfl | (rw [hg2]; rfl) | rw [hg2]) (sS (by first | rfl | (rw [hg2]; rfl) | rw [hg2]) (sN))))))))))))))))) (List.Sublist.refl _)))))
      ·skip
       refine OkL.retell (k := 28) (u := Value.bool false) rfl (by rw [hg2]) ?_
       have hg2' := hg2
       replace hg2' := of_decide_eq_false hg2'
       exact OkL.step (v := (vN d)) (wt_some rfl rfl rfl) (ex_move rfl) rfl (leB rfl) (OkL.step (v := (Value.bool (decide (0 < d)))) (wt_some rfl rfl rfl) (ex_gtr (c := (decide (0 < d))) rfl rfl (ltN (a := 0) (b := d))) rfl (leB rfl) (OkL.step (v := (Value.bool (decide (0 < d)))) (wt_some rfl rfl rfl) (ex_pick_false rfl rfl) rfl (leB rfl) (OkL.nil (OkQ.mid (sS rfl (sS rfl (sS rfl (sS rfl (sS rfl (sS rfl (sS rfl (sS rfl (sS rfl (sS rfl (sS rfl (sS rfl (sS rfl (sS rfl (sS (by first | rfl | (rw [hg2]; rfl) | rw [hg2]) (sS (by first | rfl | (rw [hg2]; rfl) | rw [hg2]) (sN))))))))))))))))) (List.Sublist.refl _)))))
     exact st (v := (Value.bool ((decide ((i + 1) < ((dg a.x).length))) || (decide (0 < d))))) (ex_pick_true rfl rfl) (leB rfl) (OkL.nil (OkQ.mid (sS rfl (sS rfl (sS rfl (sS rfl (sS rfl (sS rfl (sS rfl (sS rfl (sS (by first | rfl | (rw [hg1]; rfl) | rw [hg1]) (sS (by first | rfl | (rw [hg1]; rfl) | rw [hg1]) (sN))))))))))) (List.Sublist.refl _)))
    ·skip
     refine OkL.retell (k := 22) (u := Value.bool false) rfl (by rw [hg1]) ?_
     have hg1' := hg1
     replace hg1' := of_decide_eq_false hg1'
     refine OkL.skip (wt_not rfl rfl rfl) rfl (leB rfl) (OkL.skip (wt_not rfl rfl rfl) rfl (leB rfl) (OkL.skip (wt_not rfl rfl rfl) rfl (leB rfl) (OkL.skip (wt_not rfl rfl rfl) rfl (leB rfl) (OkL.skip (wt_not rfl rfl rfl) rfl (leB rfl) (OkL.skip (wt_not rfl rfl rfl) rfl (leB rfl) ?_)))))
     exact OkL.skip (wt_undef rfl rfl rfl) rfl (leB rfl) (OkL.skip (wt_undef rfl rfl rfl) rfl (leB rfl) (OkL.skip (wt_not rfl rfl rfl) rfl (leB rfl) (st (v := (Value.bool false)) (ex_pick_false rfl rfl) (leB rfl) (OkL.nil (OkQ.mid (sS rfl (sS rfl (sS rfl (sS rfl (sS rfl (sS rfl (sS rfl (sS rfl (sS (by first | rfl | (rw [hg1]; rfl) | rw [hg1]) (sS (by first | rfl | (rw [hg1]; rfl) | rw [hg1]) (sN))))))))))) (List.Sublist.refl _))))))
   refine OkL.nil (OkQ.subF (sC 0 rfl (sC 2 rfl (sC 4 rfl (sC 5 rfl (sC 6 rfl (sC 3 rfl (sC 32 rfl (sN)))))))) (OkQ.then_ ?_))
   refine OkC.cond rfl (fun hc2 => ?_) (fun hc2 => ?_)
   ·simp only [Bool.and_eq_true, Bool.or_eq_true, Bool.and_eq_false_iff, Bool.or_eq_false_iff, Bool.not_eq_true', Bool.not_eq_false', decide_eq_true_eq, decide_eq_false_iff_not] at hc2
    refine OkC.skip (q1 (OkC.block (q4 (mv rfl rfl (st (ex_rem (c := ((d % 10 : Nat) : Int)) rfl rfl (by omega) (remN (a := d) (b := 10))) (leB rfl) ?_)))))
    refine st (ex_add (c := ((48 + (d % 10) : Nat) : Int)) rfl rfl (addN_i64 (a := 48) (b := d % 10) (by omega))) (leB rfl) (st (ex_conv (c := ((48 + (d % 10) : Nat) : Int)) rfl Tryz.underlying3 Tryz.underlying5 (convN_u8 (by omega))) (leB rfl) (st (v := (Value.string (txB [UInt8.ofNat (48 + d % 10)]))) (ex_conv_str (a := 48 + d % 10) rfl Tryz.underlying5 Tryz.underlying9 (by omega)) (leB rfl) (mv rfl rfl (st (v := (Value.string (txB (padD (4 * i + (k + 1)) a.x)))) (ex_add_string (r := (txB (padD (4 * i + (k + 1)) a.x))) rfl rfl (by rw [txB_size, txB_size, hs2, padD_length]; simp; omega) (by rw [hs2]; exact pad_step hc2.1 hd)) (leB rfl) (asg rfl rfl ?_)))))
    refine OkL.nil (OkQ.subF (sC 0 rfl (sC 2 rfl (sC 4 rfl (sC 5 rfl (sC 6 rfl (sC 3 rfl (sN))))))) (OkQ.then_ (OkC.region (mv rfl rfl (st (ex_quo (c := ((d / 10 : Nat) : Int)) rfl rfl (by omega) (quoN_i64 (a := d) (b := 10) (by omega))) (leB rfl) ?_)))))
    refine asg rfl rfl (OkL.nil (OkQ.subF (sC 0 rfl (sC 2 rfl (sC 4 rfl (sC 5 rfl (sC 6 rfl (sC 3 rfl (sN))))))) (OkQ.in_normal (OkQ.then_ (OkC.region ?_)))))
    exact mv rfl rfl (st (ex_add (c := ((k + 1 : Nat) : Int)) rfl rfl (addN_i64 (a := k) (b := 1) (by omega))) (leB rfl) (asg rfl rfl (OkL.nil (OkQ.subF (sC 0 rfl (sC 2 rfl (sC 4 rfl (sC 5 rfl (sC 6 rfl (sC 3 rfl (sN))))))) (OkQ.round3 (d / 10) (k + 1) (padD (4 * i + (k + 1)) a.x) (⟨by omega, by rw [hd, Nat.div_div_eq_div_mul, ← Nat.pow_succ], rfl, fun h => .inr (by rw [Nat.add_sub_cancel, ← hd]; omega)⟩) (by omega) (sS rfl (sS rfl (sS rfl (sS rfl (sS rfl (sS rfl (sN))))))) sr)))))
   ·simp only [Bool.and_eq_true, Bool.or_eq_true, Bool.and_eq_false_iff, Bool.or_eq_false_iff, Bool.not_eq_true', Bool.not_eq_false', decide_eq_true_eq, decide_eq_false_iff_not] at hc2
    have hout : i + 1 < (dg a.x).length ∧ s2 = padD (4 * (i + 1)) a.x ∨ i + 1 = (dg a.x).length ∧ s2 = Lib.decDigits a.x := by
        rcases Nat.lt_or_ge (i + 1) (dg a.x).length with h | h
        ·exact .inl ⟨h, by rw [hs2, show k = 4 by omega]; rfl⟩
        ·exact .inr ⟨by omega, by rw [hs2]; exact text_fin hx0 (by omega) hk4 hd (hnz (by omega)) (by omega)⟩
    refine OkC.exit (OkQ.then_exit (OkQ.round3_exit (OkQ.in_exit (OkQ.in_normal (OkQ.then_ ?_)))))
    exact OkC.region (mv rfl rfl (st (ex_add (c := ((i + 1 : Nat) : Int)) rfl rfl (addN_i64 (a := i) (b := 1) (by omega))) (leB rfl) (asg rfl rfl (OkL.nil (OkQ.subF (sC 0 rfl (sC 2 rfl (sC 4 rfl (sC 5 rfl (sC 6 rfl (sC 3 rfl (sN))))))) (OkQ.round2 (i + 1) s2 (hout) (by omega) (sS rfl (sS rfl (sS rfl (sS rfl (sN))))) sr))))))
  ·replace hc1 := of_decide_eq_false hc1
   have hs : s = Lib.decDigits a.x := (hj.resolve_left (by omega)).2
   refine OkC.exit (OkQ.then_exit (OkQ.round2_exit (OkQ.in_exit (q2 (mv rfl rfl ?_)))))
   exact asg rfl rfl (OkL.nil (OkQ.subF (sC 0 rfl (sC 2 rfl (sC 4 rfl (sC 3 rfl (sN))))) (OkQ.then_ (OkC.ret (ret_one rfl (rd_tmp (v := (Value.string (txB s))) rfl) (fun w hw => ⟨by rw [hs], hw.out⟩))))))
end
end Go.Proofs.YtpkoldfmbebmgaaGreatDoor
