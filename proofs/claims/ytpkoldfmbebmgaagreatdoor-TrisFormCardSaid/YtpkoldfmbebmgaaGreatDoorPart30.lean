import Derived.Test.YtpkoldfmbebmgaaGreatDoorPart07
import Derived.Test.YtpkoldfmbebmgaaGreatDoorPart29
namespace Go.Proofs.YtpkoldfmbebmgaaGreatDoor
open Go Go.RowKit
set_option linter.unusedVariables false
set_option linter.unusedSimpArgs false
section
set_option maxRecDepth 100000
theorem tM41 : MakeT Tryz.prog 41 3 (vN 0) 8 := ⟨Tryz.underlying41, _, _, rfl, rfl, rfl, rfl, rfl⟩
theorem rlead_ok (a : NV) (k : Nat) (hk : k ≤ 1099511627776) (hla : (dg a.x).length ≤ 1099511627776) (hv : a.x / 10000 ^ k < 9223372036854775808) (w : World) (ha : Holds w (nA a)) : Calls Tryz.prog 166 #[(nV a), (vN k)] w (Gives w (vN (a.x / 10000 ^ k))) := by
 refine calls_ofR (args := [(nV a), (vN k)]) (L := [nA a]) Tryz.func166 rfl rfl (leB rfl) (roL_cons rfl ha (roL_nil)) (OkC.subF (sC 0 rfl (sC 1 rfl (sN))) (q4 (asg rfl rfl (OkL.nil (q2 ?_)))))
 refine asg rfl rfl (OkL.nil (q1 (q4 (mv rfl rfl (st (v := (vN ((dg a.x).length))) (ex_len_slice rfl Tryz.underlying41) (leB rfl) ?_)))))
 refine st (ex_sub (c := ((((dg a.x).length : Nat) : Int) - 1)) rfl rfl (wrap_i64 (by omega) (by omega))) (leB rfl) (asg rfl rfl (OkL.nil (OkQ.subF (sC 0 rfl (sC 1 rfl (sC 4 rfl (sC 5 rfl (sC 6 rfl (sN)))))) (OkQ.then_ (OkC.block ?_)))))
 refine OkC.sub (F' := [(0, (nV a)), (1, (vN k)), (4, (vI 0)), (5, (vI 0)), (6, (vI ((((dg a.x).length : Nat) : Int) - 1)))]) (L' := [nA a]) (sF rfl) (List.Sublist.refl _) ?_
 refine OkC.loop2 (J := fun (n : Nat) (j : Nat) => j ≤ (dg a.x).length ∧ (k ≤ j ∨ j = (dg a.x).length) ∧ n = a.x / 10000 ^ j) (FI := fun (n : Nat) (j : Nat) => [(0, (nV a)), (1, (vN k)), (4, (vI 0)), (5, (vN n)), (6, (vI (((j : Nat) : Int) - 1)))]) (LI := fun (n : Nat) (j : Nat) => [nA a]) (m := fun (n : Nat) (j : Nat) => j) (fun n j hJ => ?_) 0 ((dg a.x).length) (⟨Nat.le_refl _, .inr rfl, (dg_top a.x).symm⟩)
 replace hJ : j ≤ (dg a.x).length ∧ (k ≤ j ∨ j = (dg a.x).length) ∧ n = a.x / 10000 ^ j := hJ
 obtain ⟨hm, hkj, hn⟩ := hJ
 refine OkC.sub (F' := [(0, (nV a)), (1, (vN k)), (4, (vI 0)), (5, (vN n)), (6, (vI (((j : Nat) : Int) - 1)))]) (L' := [nA a]) (sF rfl) (List.Sublist.refl _) (OkC.seq (q4 (mv rfl rfl (mv rfl rfl (st (ex_geq (c := (decide (((k : Nat) : Int) ≤ (((j : Nat) : Int) - 1)))) rfl rfl rfl) (leB rfl) ?_)))))
 refine OkL.nil (OkQ.subF (sC 0 rfl (sC 1 rfl (sC 4 rfl (sC 5 rfl (sC 6 rfl (sC 12 rfl (sN))))))) (OkQ.then_ ?_))
 refine OkC.cond rfl (fun hc0 => ?_) (fun hc0 => ?_)
 ·replace hc0 := of_decide_eq_true hc0
  have hj1 : 1 ≤ j := by omega
  have hst := dg_lead a.x (j - 1)
  rw [Nat.sub_add_cancel hj1, ← hn] at hst
  have hle := dg_lead_le a.x (show k ≤ j - 1 by omega)
  refine OkC.retell (k := 6) (u := (vN (j - 1))) rfl (by show Value.int _ _ = Value.int _ _; congr 1; omega) (OkC.skip (q1 (OkC.block (OkC.region (mv rfl rfl ?_)))))
  refine st (ex_mul (c := ((10000 * n : Nat) : Int)) rfl rfl (mulN_i64 (a := 10000) (b := n) (by omega))) (leB rfl) (mv rfl rfl (mv rfl rfl (st (v := (pP (pB a.p) (pO a.p + (j - 1) * 1))) (ex_index_row (j := j - 1) rfl rfl a.ok Tryz.underlying41 Tryz.sizeOf3 rfl (by omega)) (leB rfl) (st (ex_load_rowR_one (v := (vN ((dg a.x).getD (j - 1) 0))) (i := 0) rfl rfl (a.ok.ne (by omega)) tO3 (dgL_get (ds := dg a.x) (j := j - 1) (by omega))) (leB rfl) (st (ex_add (c := (((10000 * n) + ((dg a.x).getD (j - 1) 0) : Nat) : Int)) rfl rfl (addN_i64 (a := 10000 * n) (b := (dg a.x).getD (j - 1) 0) (by omega))) (leB rfl) ?_)))))
  refine asg rfl rfl (OkL.nil (OkQ.subF (sC 0 rfl (sC 1 rfl (sC 4 rfl (sC 5 rfl (sC 6 rfl (sN)))))) (OkQ.in_normal (OkQ.then_ (OkC.region ?_)))))
  exact mv rfl rfl (st (ex_sub (c := (((j - 1 : Nat) : Int) - 1)) rfl rfl (wrap_i64 (by omega) (by omega))) (leB rfl) (asg rfl rfl (OkL.nil (OkQ.subF (sC 0 rfl (sC 1 rfl (sC 4 rfl (sC 5 rfl (sC 6 rfl (sN)))))) (OkQ.round2 ((10000 * n) + ((dg a.x).getD (j - 1) 0)) (j - 1) (⟨by omega, by omega, by omega⟩) (by omega) (sS rfl (sS rfl (sS rfl (sS rfl (sS rfl (sN)))))) sr)))))
 ·replace hc0 := of_decide_eq_false hc0
  have hfin : n = a.x / 10000 ^ k := dg_lead_fin hn hkj (by omega)
  refine OkC.exit (OkQ.then_exit (OkQ.round2_exit (OkQ.in_exit (q2 (mv rfl rfl ?_)))))
  exact asg rfl rfl (OkL.nil (OkQ.subF (sC 0 rfl (sC 1 rfl (sC 4 rfl (sC 5 rfl (sC 6 rfl (sN)))))) (OkQ.then_ (OkC.ret (ret_one rfl (rd_tmp (v := (vN n)) rfl) (fun w hw => ⟨by rw [hfin], hw.out⟩))))))
theorem rMul_ok (a b : NV) (hla : (dg a.x).length ≤ 549755813888) (hlb : (dg b.x).length ≤ 549755813888) (w : World) (ha : Holds w (nA a)) (hb : Holds w (nA b)) : Calls Tryz.prog 109 #[(nV a), (nV b)] w (GivesN w [] (a.x * b.x)) := by
 refine calls_ofR (args := [(nV a), (nV b)]) (L := [nA a, nA b]) Tryz.func109 rfl rfl (leB rfl) (roL_cons rfl ha (roL_cons rfl hb (roL_nil))) (OkC.subF (sC 0 rfl (sC 1 rfl (sN))) (q4 (asg rfl rfl (OkL.nil (q2 ?_)))))
 refine mv rfl rfl (st (v := (vN ((dg a.x).length))) (ex_len_slice rfl Tryz.underlying41) (leB rfl) (mv rfl rfl (st (v := (vN ((dg b.x).length))) (ex_len_slice rfl Tryz.underlying41) (leB rfl) (st (ex_add (c := ((((dg a.x).length) + ((dg b.x).length) : Nat) : Int)) rfl rfl (addN_i64 (a := (dg a.x).length) (b := (dg b.x).length) (by omega))) (leB rfl) (OkL.makeDig (m := ((dg a.x).length) + ((dg b.x).length)) tM41 rfl rfl (by omega) rfl rfl fun b1 ho_b1 => ?_)))))
 refine asg rfl rfl (q6 (sC 0 rfl (sC 1 rfl (sC 4 rfl (sC 5 rfl (sN))))) (q4 (asg rfl rfl (OkL.nil (OkQ.then_ ?_)))))
 refine OkC.block (OkC.sub (F' := [(0, (nV a)), (1, (nV b)), (4, (Value.slice none 0 0)), (5, (Value.slice (some ⟨b1, 0, none⟩) (((dg a.x).length) + ((dg b.x).length)) (((dg a.x).length) + ((dg b.x).length)))), (6, (vI 0))]) (L' := [rowW (some ⟨b1, 0, none⟩) 3 1 ((dg a.x).length + (dg b.x).length) ((dg a.x).length + (dg b.x).length) (dgL (List.replicate ((dg a.x).length + (dg b.x).length) 0)), nA a, nA b]) (sF rfl) (List.Sublist.refl _) ?_)
 refine OkC.loop2 (J := fun (i : Nat) (ds : List Nat) => D10 ds ∧ (dg a.x).length + (dg b.x).length = ds.length ∧ i ≤ (dg a.x).length ∧ val10 ds = val10 ((dg a.x).take i) * b.x) (FI := fun (i : Nat) (ds : List Nat) => [(0, (nV a)), (1, (nV b)), (4, (Value.slice none 0 0)), (5, (Value.slice (some ⟨b1, 0, none⟩) (((dg a.x).length) + ((dg b.x).length)) (((dg a.x).length) + ((dg b.x).length)))), (6, (vN i))]) (LI := fun (i : Nat) (ds : List Nat) => [rowW (some ⟨b1, 0, none⟩) 3 1 ((dg a.x).length + (dg b.x).length) ((dg a.x).length + (dg b.x).length) (dgL ds), nA a, nA b]) (m := fun (i : Nat) (ds : List Nat) => (dg a.x).length - i) (fun i ds hJ => ?_) 0 (List.replicate ((dg a.x).length + (dg b.x).length) 0) (⟨d10_zeros _, by simp, Nat.zero_le _, by rw [val10_zeros]; simp [val10]⟩)
 replace hJ : D10 ds ∧ (dg a.x).length + (dg b.x).length = ds.length ∧ i ≤ (dg a.x).length ∧ val10 ds = val10 ((dg a.x).take i) * b.x := hJ
 obtain ⟨hdd, hk, hm, hv⟩ := hJ
 refine OkC.sub (F' := [(0, (nV a)), (1, (nV b)), (4, (Value.slice none 0 0)), (5, (Value.slice (some ⟨b1, 0, none⟩) (((dg a.x).length) + ((dg b.x).length)) (((dg a.x).length) + ((dg b.x).length)))), (6, (vN i))]) (L' := [rowW (some ⟨b1, 0, none⟩) 3 1 ((dg a.x).length + (dg b.x).length) ((dg a.x).length + (dg b.x).length) (dgL ds), nA a, nA b]) (sF rfl) (List.Sublist.refl _) ?_
 have ga := dg_lt a.x i
 refine OkC.seq (q4 (mv rfl rfl (mv rfl rfl (st (v := (vN ((dg a.x).length))) (ex_len_slice rfl Tryz.underlying41) (leB rfl) (st (ex_lss (c := (decide (i < ((dg a.x).length)))) rfl rfl (ltN (a := i) (b := (dg a.x).length))) (leB rfl) ?_)))))
 refine OkL.nil (OkQ.subF (sC 0 rfl (sC 1 rfl (sC 4 rfl (sC 5 rfl (sC 6 rfl (sC 19 rfl (sN))))))) (OkQ.then_ ?_))
 refine OkC.cond rfl (fun hc0 => ?_) (fun hc0 => ?_)
 ·replace hc0 := of_decide_eq_true hc0
  refine OkC.skip (q1 (OkC.block (q4 (asg rfl rfl (OkL.nil ?_)))))
  refine q2 (asg rfl rfl (OkL.nil (OkQ.then_ (OkC.block (OkC.sub (F' := [(0, (nV a)), (1, (nV b)), (4, (Value.slice none 0 0)), (5, (Value.slice (some ⟨b1, 0, none⟩) (((dg a.x).length) + ((dg b.x).length)) (((dg a.x).length) + ((dg b.x).length)))), (6, (vN i)), (7, (vI 0)), (8, (vI 0))]) (L' := [rowW (some ⟨b1, 0, none⟩) 3 1 ((dg a.x).length + (dg b.x).length) ((dg a.x).length + (dg b.x).length) (dgL ds), nA a, nA b]) (sF rfl) (List.Sublist.refl _) ?_)))))
  refine OkC.loop3 (J := fun (cy : Nat) (k : Nat) (es : List Nat) => D10 es ∧ (dg a.x).length + (dg b.x).length = es.length ∧ cy < 10000 ∧ (k ≤ (dg b.x).length ∨ k = (dg b.x).length + 1 ∧ cy = 0) ∧ val10 es + 10000 ^ (i + k) * cy = val10 ds + 10000 ^ i * (dg a.x).getD i 0 * val10 ((dg b.x).take k)) (FI := fun (cy : Nat) (k : Nat) (es : List Nat) => [(0, (nV a)), (1, (nV b)), (4, (Value.slice none 0 0)), (5, (Value.slice (some ⟨b1, 0, none⟩) (((dg a.x).length) + ((dg b.x).length)) (((dg a.x).length) + ((dg b.x).length)))), (6, (vN i)), (7, (vN cy)), (8, (vN k))]) (LI := fun (cy : Nat) (k : Nat) (es : List Nat) => [rowW (some ⟨b1, 0, none⟩) 3 1 ((dg a.x).length + (dg b.x).length) ((dg a.x).length + (dg b.x).length) (dgL es), nA a, nA b]) (m := fun (cy : Nat) (k : Nat) (es : List Nat) => (dg b.x).length + 2 - k) (fun cy k es hJ => ?_) 0 0 ds (⟨hdd, hk, by omega, .inl (Nat.zero_le _), by simp [val10]⟩)
  replace hJ : D10 es ∧ (dg a.x).length + (dg b.x).length = es.length ∧ cy < 10000 ∧ (k ≤ (dg b.x).length ∨ k = (dg b.x).length + 1 ∧ cy = 0) ∧ val10 es + 10000 ^ (i + k) * cy = val10 ds + 10000 ^ i * (dg a.x).getD i 0 * val10 ((dg b.x).take k) := hJ
  obtain ⟨hee, hke, hcy, hme, hve⟩ := hJ
  refine OkC.sub (F' := [(0, (nV a)), (1, (nV b)), (4, (Value.slice none 0 0)), (5, (Value.slice (some ⟨b1, 0, none⟩) (((dg a.x).length) + ((dg b.x).length)) (((dg a.x).length) + ((dg b.x).length)))), (6, (vN i)), (7, (vN cy)), (8, (vN k))]) (L' := [rowW (some ⟨b1, 0, none⟩) 3 1 ((dg a.x).length + (dg b.x).length) ((dg a.x).length + (dg b.x).length) (dgL es), nA a, nA b]) (sF rfl) (List.Sublist.refl _) ?_
  have gb := dg_lt b.x k
  have ge := d10_get hee (i + k)
  have hbd := mul_carry ge ga gb hcy
  have hab : (dg a.x).getD i 0 * (dg b.x).getD k 0 ≤ 9999 * 9999 := Nat.mul_le_mul (by omega) (by omega)
  refine OkC.seq (q4 (mv rfl rfl (mv rfl rfl (st (v := (vN ((dg b.x).length))) (ex_len_slice rfl Tryz.underlying41) (leB rfl) (st (ex_lss (c := (decide (k < ((dg b.x).length)))) rfl rfl (ltN (a := k) (b := (dg b.x).length))) (leB rfl) ?_)))))
  refine mv rfl rfl ?_
  refine OkL.mid (FM := [(0, (nV a)), (1, (nV b)), (4, (Value.slice none 0 0)), (5, (Value.slice (some ⟨b1, 0, none⟩) (((dg a.x).length) + ((dg b.x).length)) (((dg a.x).length) + ((dg b.x).length)))), (6, (vN i)), (7, (vN cy)), (8, (vN k)), (22, (vN k)), (23, (nV b)), (24, (vN ((dg b.x).length))), (25, (Value.bool (decide (k < ((dg b.x).length))))), (26, (Value.bool (decide (k < ((dg b.x).length))))), (29, (Value.bool ((decide (k < ((dg b.x).length))) || (decide (0 < cy)))))]) (LM := [rowW (some ⟨b1, 0, none⟩) 3 1 ((dg a.x).length + (dg b.x).length) ((dg a.x).length + (dg b.x).length) (dgL es), nA a, nA b]) 3 ?_ ?_
  ·rcases Bool.eq_false_or_eq_true (decide (k < ((dg b.x).length))) with hg1 | hg1
   ·skip
    refine OkL.retell (k := 26) (u := Value.bool true) rfl (by rw [hg1]) ?_
    have hg1' := hg1
    replace hg1' := of_decide_eq_true hg1'
    exact OkL.skip (wt_not rfl rfl rfl) rfl (leB rfl) (OkL.skip (wt_not rfl rfl rfl) rfl (leB rfl) (st (v := (Value.bool true)) (ex_pick_true rfl rfl) (leB rfl) (OkL.nil (OkQ.mid (sS rfl (sS rfl (sS rfl (sS rfl (sS rfl (sS rfl (sS rfl (sS rfl (sS rfl (sS rfl (sS rfl (sS (by first | rfl | (rw [hg1]; rfl) | rw [hg1]) (sS (by first | rfl | (rw [hg1]; rfl) | rw [hg1]) (sN)))))))))))))) (List.Sublist.refl _)))))
   ·skip
    refine OkL.retell (k := 26) (u := Value.bool false) rfl (by rw [hg1]) ?_
    have hg1' := hg1
    replace hg1' := of_decide_eq_false hg1'
    exact OkL.step (v := (vN cy)) (wt_some rfl rfl rfl) (ex_move rfl) rfl (leB rfl) (OkL.step (v := (Value.bool (decide (0 < cy)))) (wt_some rfl rfl rfl) (ex_gtr (c := (decide (0 < cy))) rfl rfl (ltN (a := 0) (b := cy))) rfl (leB rfl) (st (v := (Value.bool (decide (0 < cy)))) (ex_pick_false rfl rfl) (leB rfl) (OkL.nil (OkQ.mid (sS rfl (sS rfl (sS rfl (sS rfl (sS rfl (sS rfl (sS rfl (sS rfl (sS rfl (sS rfl (sS rfl (sS (by first | rfl | (rw [hg1]; rfl) | rw [hg1]) (sS (by first | rfl | (rw [hg1]; rfl) | rw [hg1]) (sN)))))))))))))) (List.Sublist.refl _)))))
  refine OkL.nil (OkQ.subF (sC 0 rfl (sC 1 rfl (sC 4 rfl (sC 5 rfl (sC 6 rfl (sC 7 rfl (sC 8 rfl (sC 29 rfl (sN))))))))) (OkQ.then_ ?_))
  refine OkC.cond rfl (fun hc1 => ?_) (fun hc1 => ?_)
  ·simp only [Bool.and_eq_true, Bool.or_eq_true, Bool.and_eq_false_iff, Bool.or_eq_false_iff, Bool.not_eq_true', Bool.not_eq_false', decide_eq_true_eq, decide_eq_false_iff_not] at hc1
   refine OkC.skip (q1 (OkC.block (OkC.seq (rG [(0, true), (1, true), (2, true), (3, true), (4, true), (5, true), (6, true), (7, true), (8, true), (9, true), (10, true), (11, true), (15, true), (12, false), (13, true), (14, true), (16, true), (17, true)] sr (by kernel_rfl) (fun _ _ d _ _ h => by cases d <;> exact h) (pM rfl rfl rfl ?_)))))
   refine pM rfl rfl rfl (pM rfl rfl rfl (pE rfl (ex_add (c := ((i + k : Nat) : Int)) rfl rfl (addN_i64 (a := i) (b := k) (by omega))) rfl (pE (v := (pP (pB (some ⟨b1, 0, none⟩)) (pO (some ⟨b1, 0, none⟩) + (i + k) * 1))) rfl (ex_index_row (j := i + k) rfl rfl ho_b1.row Tryz.underlying41 Tryz.sizeOf3 rfl (by omega)) rfl (pE rfl (ex_load_rowW_one (v := (vN (es.getD (i + k) 0))) (i := 0) rfl rfl ho_b1 (by simp [dgL_length]; omega) (ho_b1.row.ne (by omega)) tO3 (dgL_get (ds := es) (j := i + k) (by omega))) rfl (pM rfl rfl rfl ?_)))))
   refine pM rfl rfl rfl (pE (v := (pP (pB a.p) (pO a.p + i * 1))) rfl (ex_index_row (j := i) rfl rfl a.ok Tryz.underlying41 Tryz.sizeOf3 rfl (by omega)) rfl (pE rfl (ex_load_rowR_one (v := (vN ((dg a.x).getD i 0))) (i := 1) rfl rfl (a.ok.ne (by omega)) tO3 (dgL_get (ds := dg a.x) (j := i) (by omega))) rfl (pM rfl rfl rfl (pM rfl rfl rfl (pM rfl rfl rfl ?_)))))
   refine OkE.imp rfl ?_
   have hz1 := dg_lt b.x k
   refine cl Tryz.call152 (fun w hw => rat_ok b k (by omega) w (hw.holds (i := 2) rfl)) rfl rfl rfl (OkE.back sr (pE rfl (ex_mul (c := ((((dg a.x).getD i 0) * ((dg b.x).getD k 0) : Nat) : Int)) rfl rfl (mulN_i64 (a := (dg a.x).getD i 0) (b := (dg b.x).getD k 0) (by omega))) rfl (pE rfl (ex_add (c := (((es.getD (i + k) 0) + (((dg a.x).getD i 0) * ((dg b.x).getD k 0)) : Nat) : Int)) rfl rfl (addN_i64 (a := es.getD (i + k) 0) (b := ((dg a.x).getD i 0) * ((dg b.x).getD k 0)) (by omega))) rfl (pE rfl (ex_add (c := ((((es.getD (i + k) 0) + (((dg a.x).getD i 0) * ((dg b.x).getD k 0))) + cy : Nat) : Int)) rfl rfl (addN_i64 (a := (es.getD (i + k) 0) + (((dg a.x).getD i 0) * ((dg b.x).getD k 0))) (b := cy) (by omega))) rfl (pS rfl rfl rfl ?_)))))
   refine OkE.nil (OkQ.subF (sC 0 rfl (sC 1 rfl (sC 4 rfl (sC 5 rfl (sC 6 rfl (sC 7 rfl (sC 8 rfl (sC 9 rfl (sN))))))))) (q2 (mv rfl rfl (mv rfl rfl (mv rfl rfl ?_)))))
   refine st (ex_add (c := ((i + k : Nat) : Int)) rfl rfl (addN_i64 (a := i) (b := k) (by omega))) (leB rfl) (mv rfl rfl (st (ex_rem (c := (((((es.getD (i + k) 0) + (((dg a.x).getD i 0) * ((dg b.x).getD k 0))) + cy) % 10000 : Nat) : Int)) rfl rfl (by omega) (remN (a := ((es.getD (i + k) 0) + (((dg a.x).getD i 0) * ((dg b.x).getD k 0))) + cy) (b := 10000))) (leB rfl) (st (v := (pP (pB (some ⟨b1, 0, none⟩)) (pO (some ⟨b1, 0, none⟩) + (i + k) * 1))) (ex_index_row (j := i + k) rfl rfl ho_b1.row Tryz.underlying41 Tryz.sizeOf3 rfl (by omega)) (leB rfl) (OkL.storeRow0 (j := i + k) (v := (vN ((((es.getD (i + k) 0) + (((dg a.x).getD i 0) * ((dg b.x).getD k 0))) + cy) % 10000))) rfl rfl ho_b1 (by simp [dgL_length]; omega) (by omega) rfl Tryz.sizeOf3 rfl (dgL_set _ _ _) (OkL.nil ?_)))))
   refine OkQ.subF (sC 0 rfl (sC 1 rfl (sC 4 rfl (sC 5 rfl (sC 6 rfl (sC 7 rfl (sC 8 rfl (sC 9 rfl (sN))))))))) (OkQ.then_ (OkC.region (mv rfl rfl (st (ex_quo (c := (((((es.getD (i + k) 0) + (((dg a.x).getD i 0) * ((dg b.x).getD k 0))) + cy) / 10000 : Nat) : Int)) rfl rfl (by omega) (quoN_i64 (a := ((es.getD (i + k) 0) + (((dg a.x).getD i 0) * ((dg b.x).getD k 0))) + cy) (b := 10000) (by omega))) (leB rfl) (asg rfl rfl ?_)))))
   refine OkL.nil (OkQ.subF (sC 0 rfl (sC 1 rfl (sC 4 rfl (sC 5 rfl (sC 6 rfl (sC 7 rfl (sC 8 rfl (sC 9 rfl (sN))))))))) (OkQ.in_normal (OkQ.then_ (OkC.region (mv rfl rfl ?_)))))
   refine st (ex_add (c := ((k + 1 : Nat) : Int)) rfl rfl (addN_i64 (a := k) (b := 1) (by omega))) (leB rfl) (asg rfl rfl (OkL.nil (OkQ.subF (sC 0 rfl (sC 1 rfl (sC 4 rfl (sC 5 rfl (sC 6 rfl (sC 7 rfl (sC 8 rfl (sC 9 rfl (sN))))))))) ?_)))
   have hnx : k + 1 ≤ (dg b.x).length ∨ k + 1 = (dg b.x).length + 1 ∧ (es.getD (i + k) 0 + (dg a.x).getD i 0 * (dg b.x).getD k 0 + cy) / 10000 = 0 := by
            by_cases hkb : k < (dg b.x).length
            ·exact .inl (by omega)
            ·obtain rfl : k = (dg b.x).length := by omega
             refine .inr ⟨rfl, ?_⟩
             rw [val_take_all (by omega), val_dg] at hve
             have h9 := mul_last (hV := mul_top a.x b.x i hv) hve
             rw [getD10_ge (show ¬ (dg b.x).length < (dg b.x).length by omega), Nat.mul_zero, Nat.add_zero]
             omega
   exact OkQ.round3 ((((es.getD (i + k) 0) + (((dg a.x).getD i 0) * ((dg b.x).getD k 0))) + cy) / 10000) (k + 1) (es.set (i + k) ((es.getD (i + k) 0 + (dg a.x).getD i 0 * (dg b.x).getD k 0 + cy) % 10000)) (⟨d10_set hee (by omega), by simpa using hke, by omega, hnx, by rw [val10_take_succ]; exact mul_step10 (by omega) hve rfl⟩) (by omega) (sS rfl (sS rfl (sS rfl (sS rfl (sS rfl (sS rfl (sS rfl (sN)))))))) sr
  ·simp only [Bool.and_eq_true, Bool.or_eq_true, Bool.and_eq_false_iff, Bool.or_eq_false_iff, Bool.not_eq_true', Bool.not_eq_false', decide_eq_true_eq, decide_eq_false_iff_not] at hc1
   have hve2 : val10 es = val10 ((dg a.x).take (i + 1)) * b.x := by
        rw [show cy = 0 by omega, val_take_all (by omega), val_dg, hv, Nat.mul_zero, Nat.add_zero] at hve
        rw [hve, val10_take_succ, Nat.add_mul]
   refine OkC.exit (OkQ.then_exit (OkQ.round3_exit (OkQ.in_exit (OkQ.in_normal (OkQ.then_ ?_)))))
   exact OkC.region (mv rfl rfl (st (ex_add (c := ((i + 1 : Nat) : Int)) rfl rfl (addN_i64 (a := i) (b := 1) (by omega))) (leB rfl) (asg rfl rfl (OkL.nil (OkQ.subF (sC 0 rfl (sC 1 rfl (sC 4 rfl (sC 5 rfl (sC 6 rfl (sC 7 rfl (sC 8 rfl (sN)))))))) (OkQ.round2 (i + 1) es (⟨hee, hke, by omega, hve2⟩) (by omega) (sS rfl (sS rfl (sS rfl (sS rfl (sS rfl (sN)))))) sr))))))
 ·replace hc0 := of_decide_eq_false hc0
  have hfin : val10 ds = a.x * b.x := by rw [hv, val_take_all (by omega), val_dg]
  refine OkC.exit (OkQ.then_exit (OkQ.round2_exit (OkQ.in_exit (q2 (mv rfl rfl ?_)))))
  exact cl (args := [(Value.slice (some ⟨b1, 0, none⟩) (((dg a.x).length) + ((dg b.x).length)) (((dg a.x).length) + ((dg b.x).length)))]) (v := (Value.slice (some ⟨b1, 0, none⟩) ((dg (val10 ds)).length) (((dg a.x).length) + ((dg b.x).length)))) Tryz.call153 (fun w hw => (by have h9 := rtrim_ok (some ⟨b1, 0, none⟩) (((dg a.x).length) + ((dg b.x).length)) ds hdd (by rw [← hk]; exact ho_b1.row) (by omega) w (holdsW (hw.holds (i := 0) rfl) ho_b1 hk); rw [← hk] at h9; exact h9)) rfl rfl rfl (asg rfl rfl (OkL.nil (OkQ.subF (sC 0 rfl (sC 1 rfl (sC 4 rfl (sC 5 rfl (sC 6 rfl (sN)))))) (OkQ.then_ (OkC.ret (ret_one rfl (rd_tmp (v := (Value.slice (some ⟨b1, 0, none⟩) ((dg (val10 ds)).length) (((dg a.x).length) + ((dg b.x).length)))) rfl) (fun w hw => retN hw (i := 0) rfl ho_b1 hk (by rw [← hfin]; exact dg_prefix hdd) (by rw [hfin]))))))))
end
end Go.Proofs.YtpkoldfmbebmgaaGreatDoor
