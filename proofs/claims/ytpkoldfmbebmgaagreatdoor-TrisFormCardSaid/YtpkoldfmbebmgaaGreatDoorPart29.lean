import Derived.Test.YtpkoldfmbebmgaaGreatDoorPart05
import Derived.Test.YtpkoldfmbebmgaaGreatDoorPart07
import Derived.Test.YtpkoldfmbebmgaaGreatDoorPart08
import Derived.Test.YtpkoldfmbebmgaaGreatDoorPart09
import Derived.Test.YtpkoldfmbebmgaaGreatDoorPart12
import Derived.Test.YtpkoldfmbebmgaaGreatDoorPart28
namespace Go.Proofs.YtpkoldfmbebmgaaGreatDoor
open Go Go.RowKit
set_option linter.unusedVariables false
set_option linter.unusedSimpArgs false
section
set_option maxRecDepth 100000
theorem tE41 : ElemT Tryz.prog 41 3 1 8 := ⟨Tryz.underlying41, elemT_of (by kernel_rfl)⟩
theorem rtrim_ok (p : Option Addr) (c : Nat) (ds : List Nat) (hd : D10 ds) (ho : RowOk p ds.length c) (hl : ds.length ≤ 1099511627776) (w : World) (h : Holds w (rowR p (dgL ds))) : Calls Tryz.prog 153 #[(Value.slice p ds.length c)] w (Gives w (Value.slice p ((dg (val10 ds)).length) c)) := by
 refine calls_ofR (args := [(Value.slice p ds.length c)]) (L := [rowR p (dgL ds)]) Tryz.func153 rfl rfl (leB rfl) (roL_cons rfl h (roL_nil)) (OkC.subF (sC 0 rfl (sN)) (q4 (asg rfl rfl (OkL.nil (q1 ?_)))))
 refine OkC.block (OkC.sub (F' := [(2, (Value.slice none 0 0)), (0, (Value.slice p ds.length c))]) (L' := [rowR p (dgL ds)]) (sF rfl) (List.Sublist.refl _) ?_)
 refine OkC.loop1 (J := fun (k : Nat) => k ≤ ds.length ∧ val10 (ds.take k) = val10 ds) (FI := fun (k : Nat) => [(2, (Value.slice none 0 0)), (0, (Value.slice p k c))]) (LI := fun (k : Nat) => [rowR p (dgL ds)]) (m := fun (k : Nat) => k) (fun k hJ => ?_) ds.length (⟨Nat.le_refl _, by rw [List.take_length]⟩)
 replace hJ : k ≤ ds.length ∧ val10 (ds.take k) = val10 ds := hJ
 obtain ⟨hk, hv⟩ := hJ
 refine OkC.sub (F' := [(2, (Value.slice none 0 0)), (0, (Value.slice p k c))]) (L' := [rowR p (dgL ds)]) (sF rfl) (List.Sublist.refl _) ?_
 have hok : RowOk p k c := ⟨fun e => ⟨by have := (ho.nil e).1; omega, (ho.nil e).2⟩, ho.spot, Nat.le_trans hk ho.le⟩
 have hkc := hok.le
 refine OkC.seq (q4 (mv rfl rfl (st (v := (vN k)) (ex_len_slice rfl Tryz.underlying41) (leB rfl) (st (ex_gtr (c := (decide (0 < k))) rfl rfl (ltN (a := 0) (b := k))) (leB rfl) (mv rfl rfl ?_)))))
 refine OkL.mid (FM := [(2, (Value.slice none 0 0)), (0, (Value.slice p k c)), (3, (Value.slice p k c)), (4, (vN k)), (5, (Value.bool (decide (0 < k)))), (6, (Value.bool (decide (0 < k)))), (14, (Value.bool ((decide (0 < k)) && (decide ((ds.getD (k - 1) 0) = 0)))))]) (LM := [rowR p (dgL ds)]) 8 ?_ ?_
 ·rcases Bool.eq_false_or_eq_true (decide (0 < k)) with hg1 | hg1
  ·skip
   refine OkL.retell (k := 6) (u := Value.bool true) rfl (by rw [hg1]) ?_
   have hg1' := hg1
   replace hg1' := of_decide_eq_true hg1'
   refine OkL.step (v := (Value.slice p k c)) (wt_some rfl rfl rfl) (ex_move rfl) rfl (leB rfl) (OkL.step (v := (Value.slice p k c)) (wt_some rfl rfl rfl) (ex_move rfl) rfl (leB rfl) (OkL.step (v := (vN k)) (wt_some rfl rfl rfl) (ex_len_slice rfl Tryz.underlying41) rfl (leB rfl) (OkL.step (v := (vN (k - 1))) (wt_some rfl rfl rfl) (ex_sub (c := ((k - 1 : Nat) : Int)) rfl rfl (subN_i64 (a := k) (b := 1) (by omega) (by omega))) rfl (leB rfl) (OkL.step (v := (pP (pB p) (pO p + (k - 1) * 1))) (wt_some rfl rfl rfl) (ex_index_row (j := k - 1) rfl rfl hok Tryz.underlying41 Tryz.sizeOf3 rfl (by omega)) rfl (leB rfl) (OkL.step (v := (vN (ds.getD (k - 1) 0))) (wt_some rfl rfl rfl) (ex_load_rowR_one (v := (vN (ds.getD (k - 1) 0))) (i := 0) rfl rfl (hok.ne (by omega)) tO3 (dgL_get (ds := ds) (j := k - 1) (by omega))) rfl (leB rfl) ?_)))))
   exact OkL.step (v := (Value.bool (decide ((ds.getD (k - 1) 0) = 0)))) (wt_some rfl rfl rfl) (ex_eql (c := (decide ((ds.getD (k - 1) 0) = 0))) rfl rfl (eqN (a := ds.getD (k - 1) 0) (b := 0))) rfl (leB rfl) (st (v := (Value.bool (decide ((ds.getD (k - 1) 0) = 0)))) (ex_pick_true rfl rfl) (leB rfl) (OkL.nil (OkQ.mid (sS rfl (sS rfl (sS rfl (sS rfl (sS rfl (sS (by first | rfl | (rw [hg1]; rfl) | rw [hg1]) (sS (by first | rfl | (rw [hg1]; rfl) | rw [hg1]) (sN)))))))) (List.Sublist.refl _))))
  ·skip
   refine OkL.retell (k := 6) (u := Value.bool false) rfl (by rw [hg1]) ?_
   have hg1' := hg1
   replace hg1' := of_decide_eq_false hg1'
   refine OkL.skip (wt_not rfl rfl rfl) rfl (leB rfl) (OkL.skip (wt_not rfl rfl rfl) rfl (leB rfl) (OkL.skip (wt_not rfl rfl rfl) rfl (leB rfl) (OkL.skip (wt_not rfl rfl rfl) rfl (leB rfl) (OkL.skip (wt_not rfl rfl rfl) rfl (leB rfl) (OkL.skip (wt_not rfl rfl rfl) rfl (leB rfl) ?_)))))
   exact OkL.skip (wt_not rfl rfl rfl) rfl (leB rfl) (st (v := (Value.bool false)) (ex_pick_false rfl rfl) (leB rfl) (OkL.nil (OkQ.mid (sS rfl (sS rfl (sS rfl (sS rfl (sS rfl (sS (by first | rfl | (rw [hg1]; rfl) | rw [hg1]) (sS (by first | rfl | (rw [hg1]; rfl) | rw [hg1]) (sN)))))))) (List.Sublist.refl _))))
 refine OkL.nil (OkQ.subF (sC 2 rfl (sC 0 rfl (sC 14 rfl (sN)))) (OkQ.then_ ?_))
 refine OkC.cond rfl (fun hc0 => ?_) (fun hc0 => ?_)
 ·simp only [Bool.and_eq_true, Bool.or_eq_true, Bool.and_eq_false_iff, Bool.or_eq_false_iff, Bool.not_eq_true', Bool.not_eq_false', decide_eq_true_eq, decide_eq_false_iff_not] at hc0
  refine OkC.skip (OkQ.then_ (OkC.block (OkC.region (mv rfl rfl (mv rfl rfl ?_)))))
  refine st (v := (vN k)) (ex_len_slice rfl Tryz.underlying41) (leB rfl) (st (ex_sub (c := ((k - 1 : Nat) : Int)) rfl rfl (subN_i64 (a := k) (b := 1) (by omega) (by omega))) (leB rfl) (st (v := (Value.slice p (k - 1) c)) (ex_slice_hi (m := k - 1) rfl rfl Tryz.underlying41 Tryz.sizeOf3 (by omega)) (leB rfl) (asg rfl rfl (OkL.nil (OkQ.subF (sC 2 rfl (sC 0 rfl (sN))) ?_)))))
  exact OkQ.in_normal (OkQ.round1 (k - 1) (⟨by omega, by rw [val_drop_zero (by omega) hc0.2, Nat.sub_add_cancel hc0.1, hv]⟩) (by omega) (sS rfl (sS rfl (sN))) sr)
 ·simp only [Bool.and_eq_true, Bool.or_eq_true, Bool.and_eq_false_iff, Bool.or_eq_false_iff, Bool.not_eq_true', Bool.not_eq_false', decide_eq_true_eq, decide_eq_false_iff_not] at hc0
  have htl := trim_len hd hk hv (hc0.imp (fun h => by omega) id)
  refine OkC.exit (OkQ.then_exit (OkQ.round1_exit (OkQ.in_exit (q2 (mv rfl rfl ?_)))))
  exact asg rfl rfl (OkL.nil (OkQ.subF (sC 2 rfl (sC 0 rfl (sN))) (OkQ.then_ (OkC.ret (ret_one rfl (rd_tmp (v := (Value.slice p k c)) rfl) (fun w hw => ⟨by rw [← htl], hw.out⟩))))))
theorem rat_ok (a : NV) (i : Nat) (hi : i ≤ 1099511627776) (w : World) (ha : Holds w (nA a)) : Calls Tryz.prog 152 #[(nV a), (vN i)] w (Gives w (vN ((dg a.x).getD i 0))) := by
 refine calls_ofR (args := [(nV a), (vN i)]) (L := [nA a]) Tryz.func152 rfl rfl (leB rfl) (roL_cons rfl ha (roL_nil)) (OkC.subF (sC 0 rfl (sC 1 rfl (sN))) (q4 (asg rfl rfl (OkL.nil (q1 ?_)))))
 refine q4 (mv rfl rfl (mv rfl rfl (st (v := (vN ((dg a.x).length))) (ex_len_slice rfl Tryz.underlying41) (leB rfl) (st (ex_lss (c := (decide (i < ((dg a.x).length)))) rfl rfl (ltN (a := i) (b := (dg a.x).length))) (leB rfl) (OkL.nil ?_)))))
 refine OkQ.subF (sC 0 rfl (sC 1 rfl (sC 4 rfl (sC 8 rfl (sN))))) (OkQ.then_ ?_)
 refine OkC.cond rfl (fun hc0 => ?_) (fun hc0 => ?_)
 ·replace hc0 := of_decide_eq_true hc0
  refine q4 (mv rfl rfl (mv rfl rfl (st (v := (pP (pB a.p) (pO a.p + i * 1))) (ex_index_row (j := i) rfl rfl a.ok Tryz.underlying41 Tryz.sizeOf3 rfl (by omega)) (leB rfl) (st (ex_load_rowR_one (v := (vN ((dg a.x).getD i 0))) (i := 0) rfl rfl (a.ok.ne (by omega)) tO3 (dgL_get (ds := dg a.x) (j := i) (by omega))) (leB rfl) (asg rfl rfl ?_)))))
  exact OkL.nil (OkQ.subF (sC 0 rfl (sC 1 rfl (sC 4 rfl (sN)))) (OkQ.then_ (OkC.ret (OkQ.then_ret (ret_one rfl (rd_tmp (v := (vN ((dg a.x).getD i 0))) rfl) (fun w hw => ⟨rfl, hw.out⟩))))))
 ·replace hc0 := of_decide_eq_false hc0
  have hg := getD10_ge hc0
  exact OkC.skip (q2 (asg rfl rfl (OkL.nil (OkQ.then_ (OkC.ret (ret_one rfl (rd_tmp (v := (vI 0)) rfl) (fun w hw => ⟨by rw [hg]; rfl, hw.out⟩)))))))
theorem rOf_ok (x : Nat) (hx : x < 18446744073709551616) (w : World)  : Calls Tryz.prog 128 #[(vK .u64 x)] w (GivesN w [] x) := by
 have hlen : (dg x).length ≤ 5 := dg_len (by omega)
 refine calls_of (args := [(vK .u64 x)]) Tryz.func128 rfl rfl (leB rfl) (OkC.subF (sC 0 rfl (sN)) (q4 (asg rfl rfl (OkL.nil (q2 ?_)))))
 refine asg rfl rfl (OkL.nilRow 3 1 (OkL.nil (q1 (OkC.block (OkC.sub (F' := [(2, (Value.slice none 0 0)), (0, (vK .u64 x)), (3, (Value.slice none 0 0))]) (L' := [rowW none 3 1 0 0 (dgL ([]))]) (sF rfl) (List.Sublist.refl _) ?_)))))
 refine OkC.loop5 (J := fun (y : Nat) (p : Option Addr) (c : Nat) (k : Nat) (ds : List Nat) => dg x = ds ++ dg y ∧ k = ds.length ∧ OwnOk p k c ∧ y ≤ x) (FI := fun (y : Nat) (p : Option Addr) (c : Nat) (k : Nat) (ds : List Nat) => [(2, (Value.slice none 0 0)), (0, (vK .u64 y)), (3, (Value.slice p k c))]) (LI := fun (y : Nat) (p : Option Addr) (c : Nat) (k : Nat) (ds : List Nat) => [rowW p 3 1 k c (dgL ds)]) (m := fun (y : Nat) (p : Option Addr) (c : Nat) (k : Nat) (ds : List Nat) => y) (fun y p c k ds hJ => ?_) x none 0 0 ([]) (⟨rfl, rfl, OwnOk.none, Nat.le_refl _⟩)
 replace hJ : dg x = ds ++ dg y ∧ k = ds.length ∧ OwnOk p k c ∧ y ≤ x := hJ
 obtain ⟨hd, hk, ho, hy⟩ := hJ
 refine OkC.sub (F' := [(2, (Value.slice none 0 0)), (0, (vK .u64 y)), (3, (Value.slice p k c))]) (L' := [rowW p 3 1 k c (dgL ds)]) (sF rfl) (List.Sublist.refl _) ?_
 have hkl : k ≤ 5 := by have := congrArg List.length hd; rw [List.length_append] at this; omega
 refine OkC.seq (q4 (mv rfl rfl (st (ex_gtr (c := (decide (0 < y))) rfl rfl (ltN (a := 0) (b := y))) (leB rfl) (OkL.nil (OkQ.subF (sC 2 rfl (sC 0 rfl (sC 3 rfl (sC 5 rfl (sN))))) ?_)))))
 refine OkQ.then_ ?_
 refine OkC.cond rfl (fun hc0 => ?_) (fun hc0 => ?_)
 ·replace hc0 := of_decide_eq_true hc0
  refine OkC.skip (OkQ.then_ (OkC.block (q4 (mv rfl rfl (mv rfl rfl ?_)))))
  refine st (ex_rem (c := ((y % 10000 : Nat) : Int)) rfl rfl (by omega) (remN (a := y) (b := 10000))) (leB rfl) (st (ex_conv (c := ((y % 10000 : Nat) : Int)) rfl Tryz.underlying28 Tryz.underlying3 (convN_i64 (by omega))) (leB rfl) (OkL.openV (V := fun b1 => (Value.slice (some ⟨b1, 0, none⟩) 1 1)) (T := 3) (cs := [(vN (y % 10000))]) (wt_none rfl) (op_buildSlice (cs := [(vN (y % 10000))]) (pv := [(0, (vN (y % 10000)))]) Tryz.underlying41 Tryz.sizeOf3 Tryz.zeroValue3 (by decide) (by decide) rfl (by kernel_rfl)) rfl (leB rfl) fun b1 => OkL.append1 (j := 0) (cs2 := dgL (ds ++ [y % 10000])) tE41 rfl ho (by simp [dgL_length]; omega) rfl rfl rfl rfl (by decide) (mxl (by omega)) (by omega) (by rw [dgL_append]; rfl) rfl fun p_1 c_1 ho_1 hne_1 => asg rfl rfl (OkL.nil ?_)))
  refine OkQ.subF (sC 2 rfl (sC 0 rfl (sC 3 rfl (sN)))) (OkQ.then_ (OkC.region (mv rfl rfl (st (ex_quo (c := ((y / 10000 : Nat) : Int)) rfl rfl (by omega) (quoN_u64 (a := y) (b := 10000) (by omega))) (leB rfl) (asg rfl rfl ?_)))))
  exact OkL.nil (OkQ.subF (sC 2 rfl (sC 0 rfl (sC 3 rfl (sN)))) (OkQ.in_normal (OkQ.round5 (y / 10000) p_1 c_1 (k + 1) (ds ++ [y % 10000]) (⟨by rw [hd, dg_pos (by omega), List.append_assoc]; rfl, by simp [hk], ho_1, by omega⟩) (by omega) (sS rfl (sS rfl (sS rfl (sN)))) (sl sr))))
 ·replace hc0 := of_decide_eq_false hc0
  refine OkC.exit (OkQ.then_exit (OkQ.round5_exit (OkQ.in_exit (q2 (mv rfl rfl ?_)))))
  refine asg rfl rfl (OkL.nil (OkQ.subF (sC 2 rfl (sC 0 rfl (sC 3 rfl (sN)))) (OkQ.then_ (OkC.ret ?_))))
  obtain rfl : y = 0 := by omega
  rw [dg_zero, List.append_nil] at hd
  exact ret_one rfl (rd_tmp (v := (Value.slice p k c)) rfl) (fun w hw => retN hw (i := 0) rfl ho hk (by rw [hd, List.take_length]) (by rw [hd, ← hk]))
end
section
set_option maxRecDepth 100000
theorem rAdd_ok (a b : NV) (hla : (dg a.x).length ≤ 549755813888) (hlb : (dg b.x).length ≤ 549755813888) (w : World) (ha : Holds w (nA a)) (hb : Holds w (nA b)) : Calls Tryz.prog 144 #[(nV a), (nV b)] w (GivesN w [] (a.x + b.x)) := by
 refine calls_ofR (args := [(nV a), (nV b)]) (L := [nA a, nA b]) Tryz.func144 rfl rfl (leB rfl) (roL_cons rfl ha (roL_cons rfl hb (roL_nil))) (OkC.subF (sC 0 rfl (sC 1 rfl (sN))) (q4 (asg rfl rfl (OkL.nil (q2 ?_)))))
 refine asg rfl rfl (OkL.nilRow 3 1 (OkL.nil (q2 (asg rfl rfl (OkL.nil ?_)))))
 refine q1 (q4 (asg rfl rfl (OkL.nil (OkQ.then_ (OkC.block ?_)))))
 refine OkC.sub (F' := [(0, (nV a)), (1, (nV b)), (4, (Value.slice none 0 0)), (6, (vI 0)), (7, (vI 0)), (5, (Value.slice none 0 0))]) (L' := [rowW none 3 1 0 0 (dgL ([])), nA a, nA b]) (sF rfl) (List.Sublist.refl _) ?_
 refine OkC.loop5 (J := fun (i : Nat) (cy : Nat) (p : Option Addr) (c : Nat) (ds : List Nat) => D10 ds ∧ i = ds.length ∧ OwnOk p i c ∧ cy ≤ 1 ∧ val10 ds + 10000 ^ i * cy = val10 ((dg a.x).take i) + val10 ((dg b.x).take i) ∧ (i ≤ max (dg a.x).length (dg b.x).length ∨ i ≤ max (dg a.x).length (dg b.x).length + 1 ∧ cy = 0)) (FI := fun (i : Nat) (cy : Nat) (p : Option Addr) (c : Nat) (ds : List Nat) => [(0, (nV a)), (1, (nV b)), (4, (Value.slice none 0 0)), (6, (vN cy)), (7, (vN i)), (5, (Value.slice p i c))]) (LI := fun (i : Nat) (cy : Nat) (p : Option Addr) (c : Nat) (ds : List Nat) => [rowW p 3 1 i c (dgL ds), nA a, nA b]) (m := fun (i : Nat) (cy : Nat) (p : Option Addr) (c : Nat) (ds : List Nat) => max (dg a.x).length (dg b.x).length + 2 - i) (fun i cy p c ds hJ => ?_) 0 0 none 0 ([]) (⟨d10_nil, rfl, OwnOk.none, by omega, rfl, .inl (by omega)⟩)
 replace hJ : D10 ds ∧ i = ds.length ∧ OwnOk p i c ∧ cy ≤ 1 ∧ val10 ds + 10000 ^ i * cy = val10 ((dg a.x).take i) + val10 ((dg b.x).take i) ∧ (i ≤ max (dg a.x).length (dg b.x).length ∨ i ≤ max (dg a.x).length (dg b.x).length + 1 ∧ cy = 0) := hJ
 obtain ⟨hdd, hk, ho, hcy, hv, hm⟩ := hJ
 refine OkC.sub (F' := [(0, (nV a)), (1, (nV b)), (4, (Value.slice none 0 0)), (6, (vN cy)), (7, (vN i)), (5, (Value.slice p i c))]) (L' := [rowW p 3 1 i c (dgL ds), nA a, nA b]) (sF rfl) (List.Sublist.refl _) ?_
 have ga := dg_lt a.x i
 have gb := dg_lt b.x i
 refine OkC.seq (q4 (mv rfl rfl (mv rfl rfl (st (v := (vN ((dg a.x).length))) (ex_len_slice rfl Tryz.underlying41) (leB rfl) (st (ex_lss (c := (decide (i < ((dg a.x).length)))) rfl rfl (ltN (a := i) (b := (dg a.x).length))) (leB rfl) ?_)))))
 refine mv rfl rfl ?_
 refine OkL.mid (FM := [(0, (nV a)), (1, (nV b)), (4, (Value.slice none 0 0)), (6, (vN cy)), (7, (vN i)), (5, (Value.slice p i c)), (9, (vN i)), (10, (nV a)), (11, (vN ((dg a.x).length))), (12, (Value.bool (decide (i < ((dg a.x).length))))), (13, (Value.bool (decide (i < ((dg a.x).length))))), (18, (Value.bool ((decide (i < ((dg a.x).length))) || (decide (i < ((dg b.x).length))))))]) (LM := [rowW p 3 1 i c (dgL ds), nA a, nA b]) 5 ?_ ?_
 ·rcases Bool.eq_false_or_eq_true (decide (i < ((dg a.x).length))) with hg1 | hg1
  ·skip
   refine OkL.retell (k := 13) (u := Value.bool true) rfl (by rw [hg1]) ?_
   have hg1' := hg1
   replace hg1' := of_decide_eq_true hg1'
   exact OkL.skip (wt_not rfl rfl rfl) rfl (leB rfl) (OkL.skip (wt_not rfl rfl rfl) rfl (leB rfl) (OkL.skip (wt_not rfl rfl rfl) rfl (leB rfl) (OkL.skip (wt_not rfl rfl rfl) rfl (leB rfl) (st (v := (Value.bool true)) (ex_pick_true rfl rfl) (leB rfl) (OkL.nil (OkQ.mid (sS rfl (sS rfl (sS rfl (sS rfl (sS rfl (sS rfl (sS rfl (sS rfl (sS rfl (sS rfl (sS (by first | rfl | (rw [hg1]; rfl) | rw [hg1]) (sS (by first | rfl | (rw [hg1]; rfl) | rw [hg1]) (sN))))))))))))) (List.Sublist.refl _)))))))
  ·skip
   refine OkL.retell (k := 13) (u := Value.bool false) rfl (by rw [hg1]) ?_
   have hg1' := hg1
   replace hg1' := of_decide_eq_false hg1'
   exact OkL.step (v := (vN i)) (wt_some rfl rfl rfl) (ex_move rfl) rfl (leB rfl) (OkL.step (v := (nV b)) (wt_some rfl rfl rfl) (ex_move rfl) rfl (leB rfl) (OkL.step (v := (vN ((dg b.x).length))) (wt_some rfl rfl rfl) (ex_len_slice rfl Tryz.underlying41) rfl (leB rfl) (OkL.step (v := (Value.bool (decide (i < ((dg b.x).length))))) (wt_some rfl rfl rfl) (ex_lss (c := (decide (i < ((dg b.x).length)))) rfl rfl (ltN (a := i) (b := (dg b.x).length))) rfl (leB rfl) (st (v := (Value.bool (decide (i < ((dg b.x).length))))) (ex_pick_false rfl rfl) (leB rfl) (OkL.nil (OkQ.mid (sS rfl (sS rfl (sS rfl (sS rfl (sS rfl (sS rfl (sS rfl (sS rfl (sS rfl (sS rfl (sS (by first | rfl | (rw [hg1]; rfl) | rw [hg1]) (sS (by first | rfl | (rw [hg1]; rfl) | rw [hg1]) (sN))))))))))))) (List.Sublist.refl _)))))))
 refine mv rfl rfl ?_
 refine OkL.mid (FM := [(0, (nV a)), (1, (nV b)), (4, (Value.slice none 0 0)), (6, (vN cy)), (7, (vN i)), (5, (Value.slice p i c)), (9, (vN i)), (10, (nV a)), (11, (vN ((dg a.x).length))), (12, (Value.bool (decide (i < ((dg a.x).length))))), (13, (Value.bool (decide (i < ((dg a.x).length))))), (18, (Value.bool ((decide (i < ((dg a.x).length))) || (decide (i < ((dg b.x).length)))))), (19, (Value.bool ((decide (i < ((dg a.x).length))) || (decide (i < ((dg b.x).length)))))), (22, (Value.bool (((decide (i < ((dg a.x).length))) || (decide (i < ((dg b.x).length)))) || (decide (0 < cy)))))]) (LM := [rowW p 3 1 i c (dgL ds), nA a, nA b]) 3 ?_ ?_
 ·rcases Bool.eq_false_or_eq_true ((decide (i < ((dg a.x).length))) || (decide (i < ((dg b.x).length)))) with hg2 | hg2
  ·skip
   refine OkL.retell (k := 19) (u := Value.bool true) rfl (by rw [hg2]) ?_
   have hg2' := hg2
   simp only [Bool.and_eq_true, Bool.or_eq_true, Bool.and_eq_false_iff, Bool.or_eq_false_iff, Bool.not_eq_true', Bool.not_eq_false', decide_eq_true_eq, decide_eq_false_iff_not] at hg2'
   exact OkL.skip (wt_not rfl rfl rfl) rfl (leB rfl) (OkL.skip (wt_not rfl rfl rfl) rfl (leB rfl) (st (v := (Value.bool true)) (ex_pick_true rfl rfl) (leB rfl) (OkL.nil (OkQ.mid (sS rfl (sS rfl (sS rfl (sS rfl (sS rfl (sS rfl (sS rfl (sS rfl (sS rfl (sS rfl (sS rfl (sS rfl (sS (by first | rfl | (rw [hg2]; rfl) | rw [hg2]) (sS (by first | rfl | (rw [hg2]; rfl) | rw [hg2]) (sN))))))))))))))) (List.Sublist.refl _)))))
  ·skip
   refine OkL.retell (k := 19) (u := Value.bool false) rfl (by rw [hg2]) ?_
   have hg2' := hg2
   simp only [Bool.and_eq_true, Bool.or_eq_true, Bool.and_eq_false_iff, Bool.or_eq_false_iff, Bool.not_eq_true', Bool.not_eq_false', decide_eq_true_eq, decide_eq_false_iff_not] at hg2'
   exact OkL.step (v := (vN cy)) (wt_some rfl rfl rfl) (ex_move rfl) rfl (leB rfl) (OkL.step (v := (Value.bool (decide (0 < cy)))) (wt_some rfl rfl rfl) (ex_gtr (c := (decide (0 < cy))) rfl rfl (ltN (a := 0) (b := cy))) rfl (leB rfl) (st (v := (Value.bool (decide (0 < cy)))) (ex_pick_false rfl rfl) (leB rfl) (OkL.nil (OkQ.mid (sS rfl (sS rfl (sS rfl (sS rfl (sS rfl (sS rfl (sS rfl (sS rfl (sS rfl (sS rfl (sS rfl (sS rfl (sS (by first | rfl | (rw [hg2]; rfl) | rw [hg2]) (sS (by first | rfl | (rw [hg2]; rfl) | rw [hg2]) (sN))))))))))))))) (List.Sublist.refl _)))))
 refine OkL.nil (OkQ.subF (sC 0 rfl (sC 1 rfl (sC 4 rfl (sC 6 rfl (sC 7 rfl (sC 5 rfl (sC 22 rfl (sN)))))))) (OkQ.then_ ?_))
 refine OkC.cond rfl (fun hc0 => ?_) (fun hc0 => ?_)
 ·simp only [Bool.and_eq_true, Bool.or_eq_true, Bool.and_eq_false_iff, Bool.or_eq_false_iff, Bool.not_eq_true', Bool.not_eq_false', decide_eq_true_eq, decide_eq_false_iff_not] at hc0
  refine OkC.skip (q1 (OkC.block (q4 (mv rfl rfl (mv rfl rfl ?_)))))
  have hz1 := dg_lt a.x i
  refine cl Tryz.call152 (fun w hw => rat_ok a i (by omega) w (hw.holds (i := 1) rfl)) rfl rfl rfl (mv rfl rfl (mv rfl rfl ?_))
  have hz2 := dg_lt b.x i
  refine cl Tryz.call152 (fun w hw => rat_ok b i (by omega) w (hw.holds (i := 2) rfl)) rfl rfl rfl (st (ex_add (c := ((((dg a.x).getD i 0) + ((dg b.x).getD i 0) : Nat) : Int)) rfl rfl (addN_i64 (a := (dg a.x).getD i 0) (b := (dg b.x).getD i 0) (by omega))) (leB rfl) (mv rfl rfl (st (ex_add (c := (((((dg a.x).getD i 0) + ((dg b.x).getD i 0)) + cy : Nat) : Int)) rfl rfl (addN_i64 (a := ((dg a.x).getD i 0) + ((dg b.x).getD i 0)) (b := cy) (by omega))) (leB rfl) (asg rfl rfl (q3 (sC 0 rfl (sC 1 rfl (sC 4 rfl (sC 6 rfl (sC 7 rfl (sC 5 rfl (sC 8 rfl (sN)))))))) ?_)))))
  refine mv rfl rfl (mv rfl rfl (st (ex_rem (c := ((((((dg a.x).getD i 0) + ((dg b.x).getD i 0)) + cy) % 10000 : Nat) : Int)) rfl rfl (by omega) (remN (a := (((dg a.x).getD i 0) + ((dg b.x).getD i 0)) + cy) (b := 10000))) (leB rfl) (OkL.openV (V := fun b1 => (Value.slice (some ⟨b1, 0, none⟩) 1 1)) (T := 3) (cs := [(vN (((((dg a.x).getD i 0) + ((dg b.x).getD i 0)) + cy) % 10000))]) (wt_none rfl) (op_buildSlice (cs := [(vN (((((dg a.x).getD i 0) + ((dg b.x).getD i 0)) + cy) % 10000))]) (pv := [(0, (vN (((((dg a.x).getD i 0) + ((dg b.x).getD i 0)) + cy) % 10000)))]) Tryz.underlying41 Tryz.sizeOf3 Tryz.zeroValue3 (by decide) (by decide) rfl (by kernel_rfl)) rfl (leB rfl) fun b1 => OkL.append1 (j := 0) (cs2 := dgL (ds ++ [((((dg a.x).getD i 0) + ((dg b.x).getD i 0)) + cy) % 10000])) tE41 rfl ho (by simp [dgL_length]; omega) rfl rfl rfl rfl (by decide) (mxl (by omega)) (by omega) (by rw [dgL_append]; rfl) rfl fun p_1 c_1 ho_1 hne_1 => asg rfl rfl ?_)))
  refine OkL.nil (OkQ.subF (sC 0 rfl (sC 1 rfl (sC 4 rfl (sC 6 rfl (sC 7 rfl (sC 5 rfl (sC 8 rfl (sN)))))))) (OkQ.then_ (OkC.region (mv rfl rfl (st (ex_quo (c := ((((((dg a.x).getD i 0) + ((dg b.x).getD i 0)) + cy) / 10000 : Nat) : Int)) rfl rfl (by omega) (quoN_i64 (a := (((dg a.x).getD i 0) + ((dg b.x).getD i 0)) + cy) (b := 10000) (by omega))) (leB rfl) ?_)))))
  refine asg rfl rfl (OkL.nil (OkQ.subF (sC 0 rfl (sC 1 rfl (sC 4 rfl (sC 6 rfl (sC 7 rfl (sC 5 rfl (sC 8 rfl (sN)))))))) (OkQ.in_normal (OkQ.then_ (OkC.region ?_)))))
  refine mv rfl rfl (st (ex_add (c := ((i + 1 : Nat) : Int)) rfl rfl (addN_i64 (a := i) (b := 1) (by omega))) (leB rfl) (asg rfl rfl (OkL.nil (OkQ.subF (sC 0 rfl (sC 1 rfl (sC 4 rfl (sC 6 rfl (sC 7 rfl (sC 5 rfl (sC 8 rfl (sN)))))))) ?_))))
  have hnx : i + 1 ≤ max (dg a.x).length (dg b.x).length ∨ i + 1 ≤ max (dg a.x).length (dg b.x).length + 1 ∧ ((dg a.x).getD i 0 + (dg b.x).getD i 0 + cy) / 10000 = 0 := by
            by_cases hi : i < max (dg a.x).length (dg b.x).length
            ·exact .inl (by omega)
            ·refine .inr ⟨by omega, ?_⟩
             rw [getD10_ge (show ¬ i < (dg a.x).length by omega), getD10_ge (show ¬ i < (dg b.x).length by omega)]
             omega
  exact OkQ.round5 (i + 1) (((dg a.x).getD i 0 + (dg b.x).getD i 0 + cy) / 10000) p_1 c_1 (ds ++ [((dg a.x).getD i 0 + (dg b.x).getD i 0 + cy) % 10000]) (⟨d10_snoc hdd (by omega), by simp [hk], ho_1, by omega, by rw [val10_take_succ, val10_take_succ]; exact val_step hk hv rfl, hnx⟩) (by omega) (sS rfl (sS rfl (sS rfl (sS rfl (sS rfl (sS rfl (sN))))))) (sl sr)
 ·simp only [Bool.and_eq_true, Bool.or_eq_true, Bool.and_eq_false_iff, Bool.or_eq_false_iff, Bool.not_eq_true', Bool.not_eq_false', decide_eq_true_eq, decide_eq_false_iff_not] at hc0
  have hfin : val10 ds = a.x + b.x := by rw [val_take_all (by omega), val_take_all (by omega), val_dg, val_dg, show cy = 0 by omega] at hv; simpa using hv
  refine OkC.exit (OkQ.then_exit (OkQ.round5_exit (OkQ.in_exit (q2 (mv rfl rfl ?_)))))
  exact cl (args := [(Value.slice p i c)]) (v := (Value.slice p ((dg (val10 ds)).length) c)) Tryz.call153 (fun w hw => (by have h9 := rtrim_ok p c ds hdd (by rw [← hk]; exact ho.row) (by omega) w (holdsW (hw.holds (i := 0) rfl) ho hk); rw [← hk] at h9; exact h9)) rfl rfl rfl (asg rfl rfl (OkL.nil (OkQ.subF (sC 0 rfl (sC 1 rfl (sC 4 rfl (sC 6 rfl (sC 7 rfl (sC 5 rfl (sN))))))) (OkQ.then_ (OkC.ret (ret_one rfl (rd_tmp (v := (Value.slice p ((dg (val10 ds)).length) c)) rfl) (fun w hw => retN hw (i := 0) rfl ho hk (by rw [← hfin]; exact dg_prefix hdd) (by rw [hfin]))))))))
theorem rSub_ok (a b : NV) (hab : b.x ≤ a.x) (hla : (dg a.x).length ≤ 549755813888) (w : World) (ha : Holds w (nA a)) (hb : Holds w (nA b)) : Calls Tryz.prog 142 #[(nV a), (nV b)] w (GivesN w [] (a.x - b.x)) := by
 have hlb := dg_mono hab
 refine calls_ofR (args := [(nV a), (nV b)]) (L := [nA a, nA b]) Tryz.func142 rfl rfl (leB rfl) (roL_cons rfl ha (roL_cons rfl hb (roL_nil))) (OkC.subF (sC 0 rfl (sC 1 rfl (sN))) (q4 (asg rfl rfl (OkL.nil (q2 ?_)))))
 refine asg rfl rfl (OkL.nilRow 3 1 (OkL.nil (q2 (asg rfl rfl (OkL.nil ?_)))))
 refine q1 (q4 (asg rfl rfl (OkL.nil (OkQ.then_ (OkC.block ?_)))))
 refine OkC.sub (F' := [(0, (nV a)), (1, (nV b)), (4, (Value.slice none 0 0)), (6, (vI 0)), (7, (vI 0)), (5, (Value.slice none 0 0))]) (L' := [rowW none 3 1 0 0 (dgL ([])), nA a, nA b]) (sF rfl) (List.Sublist.refl _) ?_
 refine OkC.loop5 (J := fun (i : Nat) (ld : Nat) (p : Option Addr) (c : Nat) (ds : List Nat) => D10 ds ∧ i = ds.length ∧ OwnOk p i c ∧ ld ≤ 1 ∧ val10 ds + val10 ((dg b.x).take i) = val10 ((dg a.x).take i) + 10000 ^ i * ld ∧ i ≤ (dg a.x).length) (FI := fun (i : Nat) (ld : Nat) (p : Option Addr) (c : Nat) (ds : List Nat) => [(0, (nV a)), (1, (nV b)), (4, (Value.slice none 0 0)), (6, (vN ld)), (7, (vN i)), (5, (Value.slice p i c))]) (LI := fun (i : Nat) (ld : Nat) (p : Option Addr) (c : Nat) (ds : List Nat) => [rowW p 3 1 i c (dgL ds), nA a, nA b]) (m := fun (i : Nat) (ld : Nat) (p : Option Addr) (c : Nat) (ds : List Nat) => (dg a.x).length - i) (fun i ld p c ds hJ => ?_) 0 0 none 0 ([]) (⟨d10_nil, rfl, OwnOk.none, by omega, rfl, by omega⟩)
 replace hJ : D10 ds ∧ i = ds.length ∧ OwnOk p i c ∧ ld ≤ 1 ∧ val10 ds + val10 ((dg b.x).take i) = val10 ((dg a.x).take i) + 10000 ^ i * ld ∧ i ≤ (dg a.x).length := hJ
 obtain ⟨hdd, hk, ho, hcy, hv, hm⟩ := hJ
 refine OkC.sub (F' := [(0, (nV a)), (1, (nV b)), (4, (Value.slice none 0 0)), (6, (vN ld)), (7, (vN i)), (5, (Value.slice p i c))]) (L' := [rowW p 3 1 i c (dgL ds), nA a, nA b]) (sF rfl) (List.Sublist.refl _) ?_
 have ga := dg_lt a.x i
 have gb := dg_lt b.x i
 refine OkC.seq (q4 (mv rfl rfl (mv rfl rfl (st (v := (vN ((dg a.x).length))) (ex_len_slice rfl Tryz.underlying41) (leB rfl) (st (ex_lss (c := (decide (i < ((dg a.x).length)))) rfl rfl (ltN (a := i) (b := (dg a.x).length))) (leB rfl) ?_)))))
 refine OkL.nil (OkQ.subF (sC 0 rfl (sC 1 rfl (sC 4 rfl (sC 6 rfl (sC 7 rfl (sC 5 rfl (sC 12 rfl (sN)))))))) (OkQ.then_ ?_))
 refine OkC.cond rfl (fun hc0 => ?_) (fun hc0 => ?_)
 ·replace hc0 := of_decide_eq_true hc0
  refine OkC.skip (q1 (OkC.block (OkC.seq (rG [(0, true), (1, true), (2, true), (3, true), (4, true), (5, true), (8, true), (6, false), (7, true), (9, true), (10, true)] sr (by kernel_rfl) (fun _ _ d _ _ h => by cases d <;> exact h) (pM rfl rfl rfl ?_)))))
  refine pM rfl rfl rfl (pE (v := (pP (pB a.p) (pO a.p + i * 1))) rfl (ex_index_row (j := i) rfl rfl a.ok Tryz.underlying41 Tryz.sizeOf3 rfl (by omega)) rfl (pE rfl (ex_load_rowR_one (v := (vN ((dg a.x).getD i 0))) (i := 1) rfl rfl (a.ok.ne (by omega)) tO3 (dgL_get (ds := dg a.x) (j := i) (by omega))) rfl (pM rfl rfl rfl (pM rfl rfl rfl (pM rfl rfl rfl ?_)))))
  refine OkE.imp rfl ?_
  have hz1 := dg_lt b.x i
  refine cl Tryz.call152 (fun w hw => rat_ok b i (by omega) w (hw.holds (i := 2) rfl)) rfl rfl rfl (OkE.back sr (pE rfl (ex_sub (c := ((((dg a.x).getD i 0 : Nat) : Int) - (((dg b.x).getD i 0 : Nat) : Int))) rfl rfl (wrap_i64 (by omega) (by omega))) rfl (pE rfl (ex_sub (c := ((((dg a.x).getD i 0 : Nat) : Int) - (((dg b.x).getD i 0 : Nat) : Int) - (ld : Int))) rfl rfl (wrap_i64 (by omega) (by omega))) rfl (pS rfl rfl rfl (OkE.nil ?_)))))
  refine OkQ.subF (sC 0 rfl (sC 1 rfl (sC 4 rfl (sC 6 rfl (sC 7 rfl (sC 5 rfl (sC 8 rfl (sN)))))))) (q2 (asg rfl rfl (OkL.nil (q1 (q4 ?_)))))
  refine mv rfl rfl (st (ex_lss (c := (decide (((((dg a.x).getD i 0 : Nat) : Int) - (((dg b.x).getD i 0 : Nat) : Int) - (ld : Int)) < (0 : Int)))) rfl rfl rfl) (leB rfl) (OkL.nil (OkQ.subF (sC 0 rfl (sC 1 rfl (sC 4 rfl (sC 6 rfl (sC 7 rfl (sC 5 rfl (sC 8 rfl (sC 26 rfl (sN))))))))) (OkQ.then_ ?_))))
  refine OkC.join2 (J := fun (d : Nat) (ld2 : Nat) => d < 10000 ∧ ld2 ≤ 1 ∧ d + (dg b.x).getD i 0 + ld = (dg a.x).getD i 0 + 10000 * ld2) (FI := fun (d : Nat) (ld2 : Nat) => [(0, (nV a)), (1, (nV b)), (4, (Value.slice none 0 0)), (7, (vN i)), (5, (Value.slice p i c)), (8, (vN d)), (6, (vN ld2))]) (LI := fun (d : Nat) (ld2 : Nat) => [rowW p 3 1 i c (dgL ds), nA a, nA b]) ?_ ?_
  ·skip
   refine OkC.cond rfl (fun hc1 => ?_) (fun hc1 => ?_)
   ·replace hc1 := of_decide_eq_true hc1
    refine q4 (mv rfl rfl (st (ex_add (c := (((dg a.x).getD i 0 + 10000 - (dg b.x).getD i 0 - ld : Nat) : Int)) rfl rfl (by rw [wrap_i64 (by omega) (by omega)]; omega)) (leB rfl) (asg rfl rfl (OkL.nil (OkQ.subF (sC 0 rfl (sC 1 rfl (sC 4 rfl (sC 6 rfl (sC 7 rfl (sC 5 rfl (sC 8 rfl (sN)))))))) ?_)))))
    exact OkQ.then_ (OkC.region (asg rfl rfl (OkL.nil (OkQ.join2 ((dg a.x).getD i 0 + 10000 - (dg b.x).getD i 0 - ld) 1 (⟨by omega, by omega, by omega⟩) (sS rfl (sS rfl (sS rfl (sS rfl (sS rfl (sS rfl (sS rfl (sN)))))))) sr))))
   ·replace hc1 := of_decide_eq_false hc1
    exact OkC.retell (k := 8) (u := (vN ((dg a.x).getD i 0 - (dg b.x).getD i 0 - ld))) rfl (by show Value.int _ _ = Value.int _ _; congr 1; omega) (OkC.skip (OkQ.join2 ((dg a.x).getD i 0 - (dg b.x).getD i 0 - ld) 0 (⟨by omega, by omega, by omega⟩) (sS rfl (sS rfl (sS rfl (sS rfl (sS rfl (sS rfl (sS rfl (sN)))))))) sr))
  ·intro d ld2 hJ
   replace hJ : d < 10000 ∧ ld2 ≤ 1 ∧ d + (dg b.x).getD i 0 + ld = (dg a.x).getD i 0 + 10000 * ld2 := hJ
   obtain ⟨hd, hl2, hd2⟩ := hJ
   refine OkQ.sub (F' := [(0, (nV a)), (1, (nV b)), (4, (Value.slice none 0 0)), (7, (vN i)), (5, (Value.slice p i c)), (8, (vN d)), (6, (vN ld2))]) (L' := [rowW p 3 1 i c (dgL ds), nA a, nA b]) (sF rfl) (List.Sublist.refl _) (OkQ.then_ (OkC.region (mv rfl rfl (mv rfl rfl (OkL.openV (V := fun b1 => (Value.slice (some ⟨b1, 0, none⟩) 1 1)) (T := 3) (cs := [(vN d)]) (wt_none rfl) (op_buildSlice (cs := [(vN d)]) (pv := [(0, (vN d))]) Tryz.underlying41 Tryz.sizeOf3 Tryz.zeroValue3 (by decide) (by decide) rfl (by kernel_rfl)) rfl (leB rfl) fun b1 => ?_)))))
   refine OkL.append1 (j := 0) (cs2 := dgL (ds ++ [d])) tE41 rfl ho (by simp [dgL_length]; omega) rfl rfl rfl rfl (by decide) (mxl (by omega)) (by omega) (by rw [dgL_append]; rfl) rfl fun p_1 c_1 ho_1 hne_1 => asg rfl rfl (OkL.nil (OkQ.subF (sC 0 rfl (sC 1 rfl (sC 4 rfl (sC 7 rfl (sC 5 rfl (sC 8 rfl (sC 6 rfl (sN)))))))) (OkQ.in_normal (OkQ.then_ ?_))))
   exact OkC.region (mv rfl rfl (st (ex_add (c := ((i + 1 : Nat) : Int)) rfl rfl (addN_i64 (a := i) (b := 1) (by omega))) (leB rfl) (asg rfl rfl (OkL.nil (OkQ.subF (sC 0 rfl (sC 1 rfl (sC 4 rfl (sC 7 rfl (sC 5 rfl (sC 8 rfl (sC 6 rfl (sN)))))))) (OkQ.round5 (i + 1) ld2 p_1 c_1 (ds ++ [d]) (⟨d10_snoc hdd (by omega), by simp [hk], ho_1, by omega, by rw [val10_take_succ, val10_take_succ]; exact d10_sub_step hk hv hd2, by omega⟩) (by omega) (sS rfl (sS rfl (sS rfl (sS rfl (sS rfl (sS rfl (sN))))))) (sl sr)))))))
 ·replace hc0 := of_decide_eq_false hc0
  have hfin : val10 ds = a.x - b.x := by
   rw [val_take_all (by omega), val_take_all (by omega), val_dg, val_dg] at hv
   exact d10_sub_fin hdd hk (by omega) hab hv
  refine OkC.exit (OkQ.then_exit (OkQ.round5_exit (OkQ.in_exit (q2 (mv rfl rfl ?_)))))
  exact cl (args := [(Value.slice p i c)]) (v := (Value.slice p ((dg (val10 ds)).length) c)) Tryz.call153 (fun w hw => (by have h9 := rtrim_ok p c ds hdd (by rw [← hk]; exact ho.row) (by omega) w (holdsW (hw.holds (i := 0) rfl) ho hk); rw [← hk] at h9; exact h9)) rfl rfl rfl (asg rfl rfl (OkL.nil (OkQ.subF (sC 0 rfl (sC 1 rfl (sC 4 rfl (sC 6 rfl (sC 7 rfl (sC 5 rfl (sN))))))) (OkQ.then_ (OkC.ret (ret_one rfl (rd_tmp (v := (Value.slice p ((dg (val10 ds)).length) c)) rfl) (fun w hw => retN hw (i := 0) rfl ho hk (by rw [← hfin]; exact dg_prefix hdd) (by rw [hfin]))))))))
theorem rCmp_ok (a b : NV) (hla : (dg a.x).length ≤ 549755813888) (hlb : (dg b.x).length ≤ 549755813888) (w : World) (ha : Holds w (nA a)) (hb : Holds w (nA b)) : Calls Tryz.prog 160 #[(nV a), (nV b)] w (Gives w (vI (cmpZ a.x b.x))) := by
 refine calls_ofR (args := [(nV a), (nV b)]) (L := [nA a, nA b]) Tryz.func160 rfl rfl (leB rfl) (roL_cons rfl ha (roL_cons rfl hb (roL_nil))) (OkC.subF (sC 0 rfl (sC 1 rfl (sN))) (q4 (asg rfl rfl (OkL.nil (q1 ?_)))))
 refine q4 (mv rfl rfl (st (v := (vN ((dg a.x).length))) (ex_len_slice rfl Tryz.underlying41) (leB rfl) (mv rfl rfl (st (v := (vN ((dg b.x).length))) (ex_len_slice rfl Tryz.underlying41) (leB rfl) (st (ex_lss (c := (decide (((dg a.x).length) < ((dg b.x).length)))) rfl rfl (ltN (a := (dg a.x).length) (b := (dg b.x).length))) (leB rfl) ?_)))))
 refine OkL.nil (OkQ.subF (sC 0 rfl (sC 1 rfl (sC 4 rfl (sC 10 rfl (sN))))) (OkQ.then_ ?_))
 refine OkC.cond rfl (fun hc0 => ?_) (fun hc0 => ?_)
 ·replace hc0 := of_decide_eq_true hc0
  have hz : cmpZ a.x b.x = -1 := if_pos (dg_len_lt hc0)
  exact q4 (asg rfl rfl (OkL.nil (OkQ.then_ (OkC.ret (OkQ.then_ret (ret_one rfl (rd_tmp (v := (vI (-1 : Int))) rfl) (fun w hw => ⟨by rw [hz], hw.out⟩)))))))
 ·replace hc0 := of_decide_eq_false hc0
  refine OkC.skip (q1 (q4 (mv rfl rfl (st (v := (vN ((dg a.x).length))) (ex_len_slice rfl Tryz.underlying41) (leB rfl) (mv rfl rfl ?_)))))
  refine st (v := (vN ((dg b.x).length))) (ex_len_slice rfl Tryz.underlying41) (leB rfl) (st (ex_gtr (c := (decide (((dg b.x).length) < ((dg a.x).length)))) rfl rfl (ltN (a := (dg b.x).length) (b := (dg a.x).length))) (leB rfl) (OkL.nil (OkQ.subF (sC 0 rfl (sC 1 rfl (sC 4 rfl (sC 15 rfl (sN))))) (OkQ.then_ ?_))))
  refine OkC.cond rfl (fun hc1 => ?_) (fun hc1 => ?_)
  ·replace hc1 := of_decide_eq_true hc1
   have hz : cmpZ a.x b.x = 1 := by
      have h9 := dg_len_lt hc1
      unfold cmpZ; rw [if_neg (by omega), if_neg (by omega)]
   exact q4 (asg rfl rfl (OkL.nil (OkQ.then_ (OkC.ret (OkQ.then_ret (ret_one rfl (rd_tmp (v := (vI 1)) rfl) (fun w hw => ⟨by rw [hz], hw.out⟩)))))))
  ·replace hc1 := of_decide_eq_false hc1
   refine OkC.skip (q1 (q4 (mv rfl rfl (st (v := (vN ((dg a.x).length))) (ex_len_slice rfl Tryz.underlying41) (leB rfl) (st (ex_sub (c := ((((dg a.x).length : Nat) : Int) - 1)) rfl rfl (wrap_i64 (by omega) (by omega))) (leB rfl) ?_)))))
   refine asg rfl rfl (OkL.nil (OkQ.subF (sC 0 rfl (sC 1 rfl (sC 4 rfl (sC 5 rfl (sN))))) (OkQ.then_ (OkC.block (OkC.sub (F' := [(0, (nV a)), (1, (nV b)), (5, (vI ((((dg a.x).length : Nat) : Int) - 1)))]) (L' := [nA a, nA b]) (sF rfl) (List.Sublist.refl _) ?_)))))
   refine OkC.loop1 (J := fun (j : Nat) => j ≤ (dg a.x).length ∧ (dg a.x).drop j = (dg b.x).drop j) (FI := fun (j : Nat) => [(0, (nV a)), (1, (nV b)), (5, (vI (((j : Nat) : Int) - 1)))]) (LI := fun (j : Nat) => [nA a, nA b]) (m := fun (j : Nat) => j) (fun j hJ => ?_) ((dg a.x).length) (⟨Nat.le_refl _, by rw [List.drop_length, List.drop_of_length_le (by omega)]⟩)
   replace hJ : j ≤ (dg a.x).length ∧ (dg a.x).drop j = (dg b.x).drop j := hJ
   obtain ⟨hm, hd⟩ := hJ
   refine OkC.sub (F' := [(0, (nV a)), (1, (nV b)), (5, (vI (((j : Nat) : Int) - 1)))]) (L' := [nA a, nA b]) (sF rfl) (List.Sublist.refl _) ?_
   have hl : (dg a.x).length = (dg b.x).length := by omega
   refine OkC.seq (q4 (mv rfl rfl (st (ex_geq (c := (decide ((0 : Int) ≤ (((j : Nat) : Int) - 1)))) rfl rfl rfl) (leB rfl) (OkL.nil (OkQ.subF (sC 0 rfl (sC 1 rfl (sC 5 rfl (sC 20 rfl (sN))))) ?_)))))
   refine OkQ.then_ ?_
   refine OkC.cond rfl (fun hc2 => ?_) (fun hc2 => ?_)
   ·replace hc2 := of_decide_eq_true hc2
    have hdj : (dg a.x).drop (j - 1 + 1) = (dg b.x).drop (j - 1 + 1) := by rw [Nat.sub_add_cancel (by omega)]; exact hd
    refine OkC.retell (k := 5) (u := (vN (j - 1))) rfl (by show Value.int _ _ = Value.int _ _; congr 1; omega) (OkC.skip (q1 (OkC.block (OkC.seq (OkC.seq ?_)))))
    refine rG [(0, true), (1, true), (2, true), (3, true), (4, true), (5, true), (6, true), (7, true), (8, true)] sr (by kernel_rfl) (fun _ _ d _ _ h => by cases d <;> exact h) (pM rfl rfl rfl (pM rfl rfl rfl (pE (v := (pP (pB a.p) (pO a.p + (j - 1) * 1))) rfl (ex_index_row (j := j - 1) rfl rfl a.ok Tryz.underlying41 Tryz.sizeOf3 rfl (by omega)) rfl (pE rfl (ex_load_rowR_one (v := (vN ((dg a.x).getD (j - 1) 0))) (i := 0) rfl rfl (a.ok.ne (by omega)) tO3 (dgL_get (ds := dg a.x) (j := j - 1) (by omega))) rfl (pM rfl rfl rfl ?_)))))
    refine pM rfl rfl rfl (pE (v := (pP (pB b.p) (pO b.p + (j - 1) * 1))) rfl (ex_index_row (j := j - 1) rfl rfl b.ok Tryz.underlying41 Tryz.sizeOf3 rfl (by omega)) rfl (pE rfl (ex_load_rowR_one (v := (vN ((dg b.x).getD (j - 1) 0))) (i := 1) rfl rfl (b.ok.ne (by omega)) tO3 (dgL_get (ds := dg b.x) (j := j - 1) (by omega))) rfl (pE rfl (ex_lss (c := (decide (((dg a.x).getD (j - 1) 0) < ((dg b.x).getD (j - 1) 0)))) rfl rfl (ltN (a := (dg a.x).getD (j - 1) 0) (b := (dg b.x).getD (j - 1) 0))) rfl (OkE.nil (OkQ.subF (sC 0 rfl (sC 1 rfl (sC 5 rfl (sC 31 rfl (sN))))) ?_)))))
    refine OkQ.then_ ?_
    refine OkC.cond rfl (fun hc3 => ?_) (fun hc3 => ?_)
    ·replace hc3 := of_decide_eq_true hc3
     have hz : cmpZ a.x b.x = -1 := if_pos (dg_cmp hl (by omega) hdj hc3)
     refine q4 (asg rfl rfl (OkL.nil (OkQ.then_ (OkC.ret (OkQ.then_ret ?_)))))
     exact OkQ.in_ret (OkQ.then_ret (OkQ.round1_ret (OkQ.in_ret (OkQ.then_ret (ret_one rfl (rd_tmp (v := (vI (-1 : Int))) rfl) (fun w hw => ⟨by rw [hz], hw.out⟩))))))
    ·replace hc3 := of_decide_eq_false hc3
     refine OkC.skip (q1 (rG [(0, true), (1, true), (2, true), (3, true), (4, true), (5, true), (6, true), (7, true), (8, true)] sr (by kernel_rfl) (fun _ _ d _ _ h => by cases d <;> exact h) (pM rfl rfl rfl (pM rfl rfl rfl (pE (v := (pP (pB a.p) (pO a.p + (j - 1) * 1))) rfl (ex_index_row (j := j - 1) rfl rfl a.ok Tryz.underlying41 Tryz.sizeOf3 rfl (by omega)) rfl ?_)))))
     refine pE rfl (ex_load_rowR_one (v := (vN ((dg a.x).getD (j - 1) 0))) (i := 0) rfl rfl (a.ok.ne (by omega)) tO3 (dgL_get (ds := dg a.x) (j := j - 1) (by omega))) rfl (pM rfl rfl rfl (pM rfl rfl rfl (pE (v := (pP (pB b.p) (pO b.p + (j - 1) * 1))) rfl (ex_index_row (j := j - 1) rfl rfl b.ok Tryz.underlying41 Tryz.sizeOf3 rfl (by omega)) rfl (pE rfl (ex_load_rowR_one (v := (vN ((dg b.x).getD (j - 1) 0))) (i := 1) rfl rfl (b.ok.ne (by omega)) tO3 (dgL_get (ds := dg b.x) (j := j - 1) (by omega))) rfl (pE rfl (ex_gtr (c := (decide (((dg b.x).getD (j - 1) 0) < ((dg a.x).getD (j - 1) 0)))) rfl rfl (ltN (a := (dg b.x).getD (j - 1) 0) (b := (dg a.x).getD (j - 1) 0))) rfl ?_)))))
     refine OkE.nil (OkQ.subF (sC 0 rfl (sC 1 rfl (sC 5 rfl (sC 40 rfl (sN))))) (OkQ.then_ ?_))
     refine OkC.cond rfl (fun hc4 => ?_) (fun hc4 => ?_)
     ·replace hc4 := of_decide_eq_true hc4
      have hz : cmpZ a.x b.x = 1 := by
        have h9 := dg_cmp hl.symm (by omega) hdj.symm hc4
        unfold cmpZ; rw [if_neg (by omega), if_neg (by omega)]
      refine q4 (asg rfl rfl (OkL.nil (OkQ.then_ (OkC.ret (OkQ.in_ret ?_)))))
      exact OkQ.then_ret (OkQ.round1_ret (OkQ.in_ret (OkQ.then_ret (ret_one rfl (rd_tmp (v := (vI 1)) rfl) (fun w hw => ⟨by rw [hz], hw.out⟩)))))
     ·replace hc4 := of_decide_eq_false hc4
      refine OkC.skip (OkQ.in_normal (OkQ.then_ (OkC.region (mv rfl rfl (st (ex_sub (c := (((j - 1 : Nat) : Int) - 1)) rfl rfl (wrap_i64 (by omega) (by omega))) (leB rfl) ?_)))))
      exact asg rfl rfl (OkL.nil (OkQ.subF (sC 0 rfl (sC 1 rfl (sC 5 rfl (sN)))) (OkQ.round1 (j - 1) (⟨by omega, d10_drop_eq hl (by omega) hdj (by omega)⟩) (by omega) (sS rfl (sS rfl (sS rfl (sN)))) sr)))
   ·replace hc2 := of_decide_eq_false hc2
    obtain rfl : j = 0 := by omega
    have hz : cmpZ a.x b.x = 0 := cmpZ_eq.2 (dg_inj hd)
    refine OkC.exit (OkQ.then_exit (OkQ.round1_exit (OkQ.in_exit (q2 (asg rfl rfl ?_)))))
    exact OkL.nil (OkQ.then_ (OkC.ret (ret_one rfl (rd_tmp (v := (vI 0)) rfl) (fun w hw => ⟨by rw [hz], hw.out⟩))))
end
end Go.Proofs.YtpkoldfmbebmgaaGreatDoor
