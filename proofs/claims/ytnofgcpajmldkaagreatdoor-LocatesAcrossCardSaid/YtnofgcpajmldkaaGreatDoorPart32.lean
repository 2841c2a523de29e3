import Derived.OrdersIn
import Derived.Test.YtnofgcpajmldkaaGreatDoorPart05
import Derived.Test.YtnofgcpajmldkaaGreatDoorPart28
import Derived.Test.YtnofgcpajmldkaaGreatDoorPart29
import Derived.Test.YtnofgcpajmldkaaGreatDoorPart31
namespace Go.Proofs.YtnofgcpajmldkaaGreatDoor
open Go Go.RowKit
set_option linter.unusedVariables false
set_option linter.unusedSimpArgs false
section
set_option maxRecDepth 100000
theorem nan_ok (a : Nat) (w : World)  : Calls Tryz.prog 61 #[(vN a)] w (Gives w (Value.bool false)) := by
 refine calls_of (args := [(vN a)]) Tryz.func61 rfl rfl (leB rfl) (OkC.subF (sL [0] rfl) (q4 (asg' rfl (OkL.nil (q2 ?_)))))
 refine mv' rfl (mv' rfl (st' (ex_neq (c := false) rfl rfl (by simp)) rfl (asg' rfl (OkL.nil (OkQ.subF (sL [2] rfl) ?_)))))
 exact OkQ.then_ (OkC.ret (ret_one rfl (rd_tmp (v := (Value.bool false)) rfl) (fun w hw => ⟨rfl, hw.out⟩)))
theorem cmpI_ok (a b : Nat) (w : World)  : Calls Tryz.prog 27 #[(vN a), (vN b)] w (Gives w (vI (cmpI a b))) := by
 refine calls_of (args := [(vN a), (vN b)]) Tryz.func27 rfl rfl (leB rfl) (OkC.subF (sL [0, 1] rfl) (q4 (asg' rfl (OkL.nil (q2 ?_)))))
 refine mv' rfl (ck' Tryz.call61 (nan_ok a) rfl (asg' rfl (q3 (sL [0, 1, 4, 5] rfl) (mv' rfl (ck' Tryz.call61 (nan_ok b) rfl ?_)))))
 refine asg' rfl (q6 (sL [0, 1, 4, 5, 6] rfl) (q4 (mv' rfl (OkL.nil (OkQ.subF (sL [0, 1, 4, 6, 11] rfl) ?_)))))
 refine OkQ.then_ (OkC.cond_false rfl (OkC.skip (q1 (q4 (mv' rfl ?_)))))
 refine OkL.nil (OkQ.subF (sL [0, 1, 4, 6, 13] rfl) (OkQ.then_ (OkC.cond_false rfl (OkC.skip (q1 ?_)))))
 refine q4 (mv' rfl (mv' rfl (st' (ex_lss (c := (decide (a < b))) rfl rfl (ltN (a := a) (b := b))) rfl (OkL.nil (OkQ.subF (sL [0, 1, 4, 6, 16] rfl) ?_)))))
 refine OkQ.then_ ?_
 refine OkC.cond rfl (fun hc3 => ?_) (fun hc3 => ?_)
 ·replace hc3 := of_decide_eq_true hc3
  have hr := cmpI_lt hc3
  exact q4 (asg' rfl (OkL.nil (OkQ.then_ (OkC.ret (OkQ.then_ret (ret_one rfl (rd_tmp (v := (vI (-1 : Int))) rfl) (fun w hw => ⟨by rw [hr] <;> rfl, hw.out⟩)))))))
 ·replace hc3 := of_decide_eq_false hc3
  refine OkC.skip (q1 (q4 (mv' rfl (mv' rfl (st' (ex_gtr (c := (decide (b < a))) rfl rfl (ltN (a := b) (b := a))) rfl ?_)))))
  refine OkL.nil (OkQ.subF (sL [0, 1, 4, 6, 19] rfl) (OkQ.then_ ?_))
  refine OkC.cond rfl (fun hc4 => ?_) (fun hc4 => ?_)
  ·replace hc4 := of_decide_eq_true hc4
   have hr := cmpI_gt hc3 hc4
   exact q4 (asg' rfl (OkL.nil (OkQ.then_ (OkC.ret (OkQ.then_ret (ret_one rfl (rd_tmp (v := (vI 1)) rfl) (fun w hw => ⟨by rw [hr] <;> rfl, hw.out⟩)))))))
  ·replace hc4 := of_decide_eq_false hc4
   have hr := cmpI_eq hc3 hc4
   exact OkC.skip (q2 (asg' rfl (OkL.nil (OkQ.then_ (OkC.ret (ret_one rfl (rd_tmp (v := (vI 0)) rfl) (fun w hw => ⟨by rw [hr] <;> rfl, hw.out⟩)))))))
theorem cmpOr_ok (a b : Int) (g : Nat) (w : World) (hg : w.heap[g]? = some (.cells ([(vI a), (vI b)]).toArray 3 (0, 0))) : Calls Tryz.prog 25 #[(Value.slice (some ⟨g, 0, none⟩) 2 2)] w (fun e w' => e = .returned (Value.int .i64 (orI a b)) ∧ Grw w w' (some g) ∧ w'.heap[g]? = some (.cells ([(vI a), (vI b)]).toArray 3 (0, 0))) := by
 refine calls_ofM (args := [(Value.slice (some ⟨g, 0, none⟩) 2 2)]) (g := g) (T := 3) (cs := [(vI a), (vI b)]) Tryz.func25 rfl rfl (leB rfl) hg (OkC.subF (sL [0] rfl) (q4 (asg' rfl (OkL.nil (q2 ?_)))))
 refine asg' rfl (OkL.nil (q1 (q4 (mv' rfl (st' (v := (vI 2)) (ex_len_slice rfl Tryz.underlying129) rfl ?_)))))
 refine mv' rfl (OkL.nil (OkQ.subF (sL [2, 3, 6, 7, 8] rfl) (OkQ.then_ (OkC.block (OkC.unroll 4 ?_)))))
 refine OkR.step (q4 (st' (ex_lss (c := true) rfl rfl (by decide)) rfl (OkL.nil (q1 (OkC.cond_true rfl ?_)))))
 refine OkC.skip (q1 (OkC.block (q4 (st' (v := (pP g 0)) (ex_indexAddr_slice (j := 0) rfl rfl Tryz.underlying129 Tryz.sizeOf3 rfl (by omega) rfl) rfl (ldO' 0 (vI a) tO3 rfl ?_)))))
 refine asg' rfl (q3 (sL [2, 3, 6, 7, 8, 5] rfl) (mv' rfl (mv' rfl (st' (ex_neq (c := (decide (a ≠ (0 : Int)))) rfl rfl rfl) rfl (OkL.nil ?_)))))
 refine OkQ.subF (sL [2, 3, 6, 7, 8, 5, 14] rfl) (OkQ.then_ ?_)
 refine OkC.cond rfl (fun hc1 => ?_) (fun hc1 => ?_)
 ·replace hc1 := of_decide_eq_true hc1
  have hr : orI a b = a := if_pos hc1
  refine q4 (mv' rfl (asg' rfl (OkL.nil (OkQ.subF (sL [2, 3, 6, 7, 8, 5] rfl) (OkQ.then_ ?_)))))
  exact OkC.ret (OkQ.in_ret (OkQ.then_ret (OkQ.then_ret (OkQ.in_ret (OkQ.then_ret (ret_one rfl (rd_tmp (v := (vI a)) rfl) (fun w hw => ⟨by rw [hr] <;> rfl, hw.1, hw.get (i := 0) rfl⟩)))))))
 ·replace hc1 := of_decide_eq_false hc1
  have hq := hc1
  refine OkC.skip (OkQ.in_normal (OkQ.then_ (OkC.region (st' (ex_add (c := (1 : Int)) rfl rfl (by decide)) rfl (mv' rfl ?_)))))
  refine OkL.nil (OkQ.subF (sL [2, 3, 6, 7, 8, 5] rfl) (OkQ.again (OkR.step (q4 (st' (ex_lss (c := true) rfl rfl (by decide)) rfl ?_)))))
  refine OkL.nil (q1 (OkC.cond_true rfl (OkC.skip (q1 (OkC.block ?_)))))
  refine q4 (st' (v := (pP g 1)) (ex_indexAddr_slice (j := 1) rfl rfl Tryz.underlying129 Tryz.sizeOf3 rfl (by omega) rfl) rfl (ldO' 0 (vI b) tO3 rfl (asg' rfl (q3 (sL [2, 3, 6, 7, 8, 5] rfl) (mv' rfl ?_)))))
  refine mv' rfl (st' (ex_neq (c := (decide (b ≠ (0 : Int)))) rfl rfl rfl) rfl (OkL.nil (OkQ.subF (sL [2, 3, 6, 7, 8, 5, 14] rfl) (OkQ.then_ ?_))))
  refine OkC.cond rfl (fun hc1 => ?_) (fun hc1 => ?_)
  ·replace hc1 := of_decide_eq_true hc1
   have hr : orI a b = b := by rw [orI, if_neg hq, if_pos hc1]
   refine q4 (mv' rfl (asg' rfl (OkL.nil (OkQ.subF (sL [2, 3, 6, 7, 8, 5] rfl) (OkQ.then_ ?_)))))
   exact OkC.ret (OkQ.in_ret (OkQ.then_ret (OkQ.then_ret (OkQ.in_ret (OkQ.then_ret (ret_one rfl (rd_tmp (v := (vI b)) rfl) (fun w hw => ⟨by rw [hr] <;> rfl, hw.1, hw.get (i := 0) rfl⟩)))))))
  ·replace hc1 := of_decide_eq_false hc1
   have hr : orI a b = 0 := by rw [orI, if_neg hq, if_neg hc1]
   refine OkC.skip (OkQ.in_normal (OkQ.then_ (OkC.region (st' (ex_add (c := (2 : Int)) rfl rfl (by decide)) rfl (mv' rfl ?_)))))
   refine OkL.nil (OkQ.subF (sL [2, 3, 6, 7, 8, 5] rfl) (OkQ.again (OkR.step (q4 (st' (ex_lss (c := false) rfl rfl (by decide)) rfl ?_)))))
   refine OkL.nil (q1 (OkC.cond_false rfl (OkC.exit (OkQ.then_exit (OkQ.then_exit ?_)))))
   refine OkQ.in_exit (q2 (mv' rfl (asg' rfl (OkL.nil (OkQ.subF (sL [2, 3, 6, 7, 8, 5] rfl) ?_)))))
   exact OkQ.then_ (OkC.ret (ret_one rfl (rd_tmp (v := (vI 0)) rfl) (fun w hw => ⟨by rw [hr] <;> rfl, hw.1, hw.get (i := 0) rfl⟩)))
end
section
set_option maxRecDepth 100000
theorem ray1_ok (x y : Pc) (hs : Sz x.lo + Sz y.lo ≤ 1000000) (w : World)  : Calls Tryz.prog 24 #[(aG (pcL x)), (aG (pcL y))] w (Gives w (vI (cmpP x y))) := by
 refine calls_of (args := [(aG (pcL x)), (aG (pcL y))]) Tryz.func24 rfl rfl (leB rfl) (OkC.subF (sL [0, 1] rfl) (q4 (bx' (cs := pcL x) rfl fun b1 => bx' (cs := pcL y) rfl fun b2 => asg' rfl ?_)))
 refine q6 (sL [2, 3, 4] rfl) (rG' [(0, true), (1, true), (2, true), (3, true), (5, true), (6, true), (7, true), (8, true), (4, false), (9, false), (10, false), (11, false), (12, true)] sr (pE' (v := (pP b1 1)) rfl (ex_fieldAddr rfl Tryz.underlying61 rfl Tryz.sizeOf47 rfl) (pA' 1 (fracL x.lo) tA47 rfl (pE' (v := (pP b2 1)) rfl (ex_fieldAddr rfl Tryz.underlying61 rfl Tryz.sizeOf47 rfl) (pA' 0 (fracL y.lo) tA47 rfl ?_)))))
 refine pE' (v := (pP b1 0)) rfl (ex_fieldAddr rfl Tryz.underlying61 rfl Tryz.sizeOf3 rfl) (pO'' 1 (vN x.tri) tO3 rfl (pE' (v := (pP b2 0)) rfl (ex_fieldAddr rfl Tryz.underlying61 rfl Tryz.sizeOf3 rfl) (pO'' 0 (vN y.tri) tO3 rfl (OkE.imp rfl (ck' Tryz.call26 (fCmp_ok x.lo y.lo (by omega)) rfl ?_)))))
 refine OkE.back sr (OkE.imp rfl (ck' Tryz.call27 (cmpI_ok x.tri y.tri) rfl (OkE.back sr (OkE.imp rfl (OkL.openV (V := fun b3 => (Value.slice (some ⟨b3, 0, none⟩) 2 2)) (T := 3) (cs := [(vI (cmpQ x.lo y.lo)), (vI (cmpI x.tri y.tri))]) (wt_none rfl) (op_buildSlice (cs := [(vI (cmpQ x.lo y.lo)), (vI (cmpI x.tri y.tri))]) (pv := [(0, (vI (cmpQ x.lo y.lo))), (1, (vI (cmpI x.tri y.tri)))]) Tryz.underlying129 Tryz.sizeOf3 Tryz.zeroValue3 (by decide) (by decide) rfl (by kernel_rfl)) rfl (leB rfl) fun b3 => ?_)))))
 refine OkE.back (sl sr) (OkE.imp rfl (OkL.callM (v := (vI (orI (cmpQ x.lo y.lo) (cmpI x.tri y.tri)))) (i := 0) (cs' := [(vI (cmpQ x.lo y.lo)), (vI (cmpI x.tri y.tri))]) (L' := [blk b3 3 ([(vI (cmpQ x.lo y.lo)), (vI (cmpI x.tri y.tri))]), blk b2 61 (pcL y), blk b1 61 (pcL x)]) (wt_none rfl) (op_call0 (args := [(Value.slice (some ⟨b3, 0, none⟩) 2 2)]) rfl rfl Tryz.call25) rfl (fun w hw => cmpOr_ok (cmpQ x.lo y.lo) (cmpI x.tri y.tri) _ w (hw.get (i := 0) rfl)) (fun d hd => by cases hd <;> exact (leB rfl)) rfl (OkE.back (sl sr) (pS' rfl (OkE.nil ?_)))))
 exact OkQ.subF (sL [4] rfl) (OkQ.then_ (OkC.ret (ret_one rfl (rd_tmp (v := (vI (orI (cmpQ x.lo y.lo) (cmpI x.tri y.tri)))) rfl) (fun w hw => ⟨by rw [← orI_eq], hw.out⟩))))
theorem isort2_ok (x y : Pc) (tl : List Value) (cp : Nat) (g : Nat) (hcp : 2 ≤ cp) (hs : Sz x.lo + Sz y.lo ≤ 1000000) (w : World) (hg : w.heap[g]? = some (.cells (pcL x ++ (pcL y ++ tl)).toArray 61 (0, 0))) : Calls Tryz.prog 88 #[(Value.slice (some ⟨g, 0, none⟩) 2 cp), (vI 0), (vI 2), (Value.func (.func 24) #[] #[])] w (fun e w' => e = .returned (.tuple #[]) ∧ Grw w w' (some g) ∧ w'.heap[g]? = some (.cells (two2 x y tl).toArray 61 (0, 0))) := by
 refine calls_ofM (args := [(Value.slice (some ⟨g, 0, none⟩) 2 cp), (vI 0), (vI 2), (Value.func (.func 24) #[] #[])]) (g := g) (T := 61) (cs := pcL x ++ (pcL y ++ tl)) Tryz.func88 rfl rfl (leB rfl) hg (OkC.subF (sL [0, 1, 2, 3] rfl) (q4 (mv' rfl (st' (ex_add (c := (1 : Int)) rfl rfl (by decide)) rfl (asg' rfl ?_)))))
 refine OkL.nil (OkQ.subF (sL [0, 1, 2, 3, 8] rfl) (OkQ.then_ (OkC.block (OkC.unroll 3 (OkR.step ?_)))))
 refine OkC.seq (q4 (mv' rfl (mv' rfl (st' (ex_lss (c := true) rfl rfl (by decide)) rfl (OkL.nil ?_)))))
 refine OkQ.subF (sL [0, 1, 2, 3, 8, 14] rfl) (OkQ.then_ (OkC.cond_true rfl (OkC.skip (q1 (OkC.block ?_)))))
 refine q4 (mv' rfl (asg' rfl (OkL.nil (OkQ.subF (sL [0, 1, 2, 3, 8, 9] rfl) (OkQ.then_ ?_)))))
 refine OkC.block (OkC.unroll 3 (OkR.step (OkC.seq (OkC.seq (rG' [(0, true), (1, true), (2, true), (3, true), (4, true), (5, true), (6, true), (7, true), (8, true), (9, true), (10, true), (11, true), (12, true), (13, true), (14, false), (15, true), (16, true)] sr ?_)))))
 refine pM' rfl (pM' rfl (pE' rfl (ex_gtr (c := true) rfl rfl (by decide)) (pM' rfl (OkE.pas (v := (Value.func (.func 24) #[] #[])) rfl (wt_some' rfl) (ex_move rfl) rfl rfl (OkE.pas (v := (Value.slice (some ⟨g, 0, none⟩) 2 cp)) rfl (wt_some' rfl) (ex_move rfl) rfl rfl ?_)))))
 refine OkE.pas (v := (vI 1)) rfl (wt_some' rfl) (ex_move rfl) rfl rfl (OkE.pas (v := (pP g 11)) rfl (wt_some' rfl) (ex_indexAddr_slice (j := 1) rfl rfl Tryz.underlying51 Tryz.sizeOf61 rfl (by omega) rfl) rfl rfl (OkE.pas (v := (aG (pcL y))) rfl (wt_some' rfl) (ex_load_agg (i := 0) (vs := pcL y) rfl rfl tA61.a tA61.s rfl rfl) rfl rfl (OkE.pas (v := (Value.slice (some ⟨g, 0, none⟩) 2 cp)) rfl (wt_some' rfl) (ex_move rfl) rfl rfl (OkE.pas (v := (vI 1)) rfl (wt_some' rfl) (ex_move rfl) rfl rfl (OkE.pas (v := (vI 0)) rfl (wt_some' rfl) (ex_sub (c := (0 : Int)) rfl rfl (by decide)) rfl rfl ?_)))))
 refine OkE.pas (v := (pP g 0)) rfl (wt_some' rfl) (ex_indexAddr_slice (j := 0) rfl rfl Tryz.underlying51 Tryz.sizeOf61 rfl (by omega) rfl) rfl rfl (OkE.pas (v := (aG (pcL x))) rfl (wt_some' rfl) (ex_load_agg (i := 0) (vs := pcL x) rfl rfl tA61.a tA61.s rfl rfl) rfl rfl (OkE.imp rfl (OkL.call (v := (vI (cmpP y x))) (wt_some' rfl) (op_call0 (args := [(aG (pcL y)), (aG (pcL x))]) rfl rfl Tryz.call24) (fun w hw => ray1_ok y x (by omega) w) rfl (leB rfl) (OkE.back sr (OkE.pas (v := (Value.bool (decide ((cmpP y x) < (0 : Int))))) rfl (wt_some' rfl) (ex_lss (c := (decide ((cmpP y x) < (0 : Int)))) rfl rfl rfl) rfl rfl ?_)))))
 refine pE' (v := (Value.bool (decide ((cmpP y x) < (0 : Int))))) rfl (ex_pick_true rfl rfl) (OkE.nil (OkQ.subF (sL [0, 1, 2, 3, 8, 9, 22, 23, 24, 25, 26, 27, 28, 29, 30, 31, 32, 33, 34] rfl) (OkQ.then_ ?_)))
 refine OkC.cond rfl (fun hc1 => ?_) (fun hc1 => ?_)
 ·replace hc1 := of_decide_eq_true hc1
  have hr := two2_t (tl := tl) hc1
  refine OkC.skip (q1 (OkC.block ?_))
  refine dA (sl sr) (dC (dC (dC (dC (dC (dC (dC (dC (dC (dC (dC (dC (dC (dC (dC (dN)))))))))))))))) (fun _ => vC (vcM 0 (Value.slice (some ⟨g, 0, none⟩) 2 cp) (fun _ => by kernel_rfl)) (vC (vcM 9 (vI 1) (fun _ => by kernel_rfl)) (vC (vcM 0 (Value.slice (some ⟨g, 0, none⟩) 2 cp) (fun _ => by kernel_rfl)) (vC (vcM 9 (vI 1) (fun _ => by kernel_rfl)) (vC (vcP (G := [(40, (vI 1))]) (fun _ => by kernel_rfl) (fun _ => ex_sub (c := (0 : Int)) rfl rfl (by decide))) (vC (vcM 0 (Value.slice (some ⟨g, 0, none⟩) 2 cp) (fun _ => by kernel_rfl)) (vC (vcM 9 (vI 1) (fun _ => by kernel_rfl)) (vC (vcP (G := [(43, (vI 1))]) (fun _ => by kernel_rfl) (fun _ => ex_sub (c := (0 : Int)) rfl rfl (by decide))) (vC (vcP (v := (pP g 0)) (G := [(42, (Value.slice (some ⟨g, 0, none⟩) 2 cp)), (44, (vI 0))]) (fun _ => by kernel_rfl) (fun _ => ex_indexAddr_slice (j := 0) rfl rfl Tryz.underlying51 Tryz.sizeOf61 rfl (by omega) rfl)) (vC (vc_look0 (v := fun β => (aG (pcL x))) (ks := []) (G := fun β => [(45, (pP g 0))]) (fun β => sF (by kernel_rfl)) (fun β => ex_load_agg (i := 0) (vs := pcL x) rfl rfl tA61.a tA61.s rfl rfl)) (vC (vcM 0 (Value.slice (some ⟨g, 0, none⟩) 2 cp) (fun _ => by kernel_rfl)) (vC (vcM 9 (vI 1) (fun _ => by kernel_rfl)) (vC (vcP (v := (pP g 11)) (G := [(47, (Value.slice (some ⟨g, 0, none⟩) 2 cp)), (48, (vI 1))]) (fun _ => by kernel_rfl) (fun _ => ex_indexAddr_slice (j := 1) rfl rfl Tryz.underlying51 Tryz.sizeOf61 rfl (by omega) rfl)) (vC (vc_look0 (v := fun β => (aG (pcL y))) (ks := []) (G := fun β => [(49, (pP g 11))]) (fun β => sF (by kernel_rfl)) (fun β => ex_load_agg (i := 0) (vs := pcL y) rfl rfl tA61.a tA61.s rfl rfl)) (vC (vcP (v := (pP g 11)) (G := [(37, (Value.slice (some ⟨g, 0, none⟩) 2 cp)), (38, (vI 1))]) (fun _ => by kernel_rfl) (fun _ => ex_indexAddr_slice (j := 1) rfl rfl Tryz.underlying51 Tryz.sizeOf61 rfl (by omega) rfl)) (VcAll.nil)))))))))))))))) (by kernel_rfl) (by kernel_rfl) (fun _ _ d _ _ h => by cases d <;> exact h) (fun β _ => ?_)
  refine hS0 (F' := [(0, (Value.slice (some ⟨g, 0, none⟩) 2 cp)), (1, (vI 0)), (2, (vI 2)), (3, (Value.func (.func 24) #[] #[])), (8, (vI 1)), (9, (vI 1)), (22, (Value.func (.func 24) #[] #[])), (23, (Value.slice (some ⟨g, 0, none⟩) 2 cp)), (24, (vI 1)), (25, (pP g 11)), (26, (aG (pcL y))), (27, (Value.slice (some ⟨g, 0, none⟩) 2 cp)), (28, (vI 1)), (29, (vI 0)), (30, (pP g 0)), (31, (aG (pcL x))), (32, (vI (cmpP y x))), (33, (Value.bool (decide ((cmpP y x) < (0 : Int))))), (39, (Value.slice (some ⟨g, 0, none⟩) 2 cp)), (41, (vI 0)), (46, (aG (pcL x))), (50, (aG (pcL y))), (51, (pP g 11))]) rfl rfl (OkLH.store' (i := 0) (off := 11) (vs := pcL x) (cs' := pcL x ++ (pcL x ++ tl)) (L' := [blk g 61 (pcL x ++ (pcL x ++ tl))]) (sl sr) (wt_none rfl) rfl rfl rfl rfl rfl Tryz.sizeOf61 rfl rfl rfl rfl (OkLH.step (v := (pP g 0)) (sl sr) (wt_none rfl) (ex_indexAddr_slice (j := 0) rfl rfl Tryz.underlying51 Tryz.sizeOf61 rfl (by omega) rfl) rfl (leB rfl) (OkLH.store' (i := 0) (off := 0) (vs := pcL y) (cs' := pcL y ++ (pcL x ++ tl)) (L' := [blk g 61 (pcL y ++ (pcL x ++ tl))]) (sl sr) (wt_none rfl) rfl rfl rfl rfl rfl Tryz.sizeOf61 rfl rfl rfl rfl (OkLH.nil (OkQ.subF (sL [0, 1, 2, 3, 8, 9, 22, 23, 24, 25, 26, 27, 28, 29, 30, 31, 32, 33] rfl) ?_)))))
  refine OkQ.in_normal (OkQ.then_ (OkC.region (mv' rfl (st' (ex_sub (c := (0 : Int)) rfl rfl (by decide)) rfl (asg' rfl ?_)))))
  refine OkL.nil (OkQ.subF (sL [0, 1, 2, 3, 8, 9, 22, 23, 24, 25, 26, 27, 28, 29, 30, 31, 32, 33] rfl) (OkQ.again (OkR.step (OkC.seq (OkC.seq ?_)))))
  refine rG' [(0, true), (1, true), (2, true), (3, true), (4, true), (5, true), (6, true), (7, true), (8, true), (9, true), (10, true), (11, true), (12, true), (13, true), (14, false), (15, true), (16, true)] sr (pM' rfl (pM' rfl (pE' rfl (ex_gtr (c := false) rfl rfl (by decide)) (pM' rfl (OkE.skp rfl (wt_not' rfl) rfl rfl ?_)))))
  refine OkE.skp rfl (wt_not' rfl) rfl rfl (OkE.skp rfl (wt_not' rfl) rfl rfl (OkE.skp rfl (wt_not' rfl) rfl rfl (OkE.skp rfl (wt_not' rfl) rfl rfl (OkE.skp rfl (wt_not' rfl) rfl rfl (OkE.skp rfl (wt_not' rfl) rfl rfl ?_)))))
  refine OkE.skp rfl (wt_not' rfl) rfl rfl (OkE.skp rfl (wt_not' rfl) rfl rfl (OkE.skp rfl (wt_not' rfl) rfl rfl (OkE.imp rfl (OkL.skip (wt_not' rfl) rfl (leB rfl) (OkE.back sr ?_)))))
  refine OkE.skp rfl (wt_not' rfl) rfl rfl (pE' (v := (Value.bool false)) rfl (ex_pick_false rfl rfl) (OkE.nil (OkQ.subF (sL [0, 1, 2, 3, 8, 9, 34] rfl) (OkQ.then_ (OkC.cond_false rfl ?_)))))
  refine OkC.exit (OkQ.then_exit (OkQ.then_exit (OkQ.in_exit (OkQ.in_normal (OkQ.then_ ?_)))))
  refine OkC.region (mv' rfl (st' (ex_add (c := (2 : Int)) rfl rfl (by decide)) rfl (asg' rfl (OkL.nil (OkQ.subF (sL [0, 1, 2, 3, 8, 9] rfl) ?_)))))
  refine OkQ.again (OkR.step (OkC.seq (q4 (mv' rfl (mv' rfl ?_)))))
  refine st' (ex_lss (c := false) rfl rfl (by decide)) rfl (OkL.nil (OkQ.subF (sL [0, 1, 2, 3, 8, 9, 14] rfl) (OkQ.then_ (OkC.cond_false rfl (OkC.exit ?_)))))
  exact OkQ.then_exit (OkQ.then_exit (OkQ.in_exit (ret_none (.inr rfl) rfl  (fun w hw => ⟨rfl, hw.1, by rw [hr]; exact hw.get (i := 0) rfl⟩))))
 ·replace hc1 := of_decide_eq_false hc1
  have hr := two2_f (tl := tl) hc1
  refine OkC.exit (OkQ.then_exit (OkQ.then_exit (OkQ.in_exit (OkQ.in_normal (OkQ.then_ ?_)))))
  refine OkC.region (mv' rfl (st' (ex_add (c := (2 : Int)) rfl rfl (by decide)) rfl (asg' rfl (OkL.nil (OkQ.subF (sL [0, 1, 2, 3, 8, 9, 22, 23, 24, 25, 26, 27, 28, 29, 30, 31, 32, 33] rfl) ?_)))))
  refine OkQ.again (OkR.step (OkC.seq (q4 (mv' rfl (mv' rfl ?_)))))
  refine st' (ex_lss (c := false) rfl rfl (by decide)) rfl (OkL.nil (OkQ.subF (sL [0, 1, 2, 3, 8, 9, 22, 23, 24, 25, 26, 27, 28, 29, 30, 31, 32, 33, 14] rfl) (OkQ.then_ (OkC.cond_false rfl (OkC.exit ?_)))))
  exact OkQ.then_exit (OkQ.then_exit (OkQ.in_exit (ret_none (.inr rfl) rfl  (fun w hw => ⟨rfl, hw.1, by rw [hr]; exact hw.get (i := 0) rfl⟩))))
theorem len64_0  (w : World)  : Calls Tryz.prog 97 #[(Value.int .u64 (0 : Int))] w (Gives w (vI 0)) := by
 refine calls_of (args := [(Value.int .u64 (0 : Int))]) Tryz.func97 rfl rfl (leB rfl) (OkC.subF (sL [0] rfl) (q4 (asg' rfl (OkL.nil (q1 ?_)))))
 refine q4 (mv' rfl (st' (ex_geq (c := false) rfl rfl (by decide)) rfl (OkL.nil (OkQ.subF (sL [0, 2, 4] rfl) (OkQ.then_ ?_)))))
 refine OkC.cond_false rfl (OkC.skip (q1 (q4 (mv' rfl (st' (ex_geq (c := false) rfl rfl (by decide)) rfl ?_)))))
 refine OkL.nil (OkQ.subF (sL [0, 2, 8] rfl) (OkQ.then_ (OkC.cond_false rfl (OkC.skip (q1 ?_)))))
 refine q4 (mv' rfl (st' (ex_geq (c := false) rfl rfl (by decide)) rfl (OkL.nil (OkQ.subF (sL [0, 2, 14] rfl) (OkQ.then_ ?_)))))
 refine OkC.cond_false rfl (OkC.skip (q2 (mv' rfl (mv' rfl (st' (ex_conv (c := (0 : Int)) rfl Tryz.underlying39 Tryz.underlying5 (by decide)) rfl ?_)))))
 refine st' (v := (Value.int .u8 (0 : Int))) (ex_index_str (j := 0) (m := 0) rfl rfl Tryz.underlying9 (by kernel_rfl) (by decide)) rfl (st' (ex_conv (c := (0 : Int)) rfl Tryz.underlying5 Tryz.underlying3 (by decide)) rfl (st' (ex_add (c := (0 : Int)) rfl rfl (by decide)) rfl (asg' rfl (OkL.nil (OkQ.subF (sL [0, 2] rfl) ?_)))))
 exact OkQ.then_ (OkC.ret (ret_one rfl (rd_tmp (v := (vI 0)) rfl) (fun w hw => ⟨rfl, hw.out⟩)))
theorem len_0  (w : World)  : Calls Tryz.prog 59 #[(Value.int .u64 (0 : Int))] w (Gives w (vI 0)) := by
 refine calls_of (args := [(Value.int .u64 (0 : Int))]) Tryz.func59 rfl rfl (leB rfl) (OkC.subF (sL [0] rfl) (q4 (asg' rfl (OkL.nil (q1 ?_)))))
 refine OkC.cond_false rfl (OkC.skip (q2 (mv' rfl (ck' Tryz.call97 (len64_0) rfl (asg' rfl ?_)))))
 exact OkL.nil (OkQ.subF (sL [0, 2] rfl) (OkQ.then_ (OkC.ret (ret_one rfl (rd_tmp (v := (vI 0)) rfl) (fun w hw => ⟨rfl, hw.out⟩)))))
theorem len64_2  (w : World)  : Calls Tryz.prog 97 #[(Value.int .u64 (2 : Int))] w (Gives w (vI 2)) := by
 refine calls_of (args := [(Value.int .u64 (2 : Int))]) Tryz.func97 rfl rfl (leB rfl) (OkC.subF (sL [0] rfl) (q4 (asg' rfl (OkL.nil (q1 ?_)))))
 refine q4 (mv' rfl (st' (ex_geq (c := false) rfl rfl (by decide)) rfl (OkL.nil (OkQ.subF (sL [0, 2, 4] rfl) (OkQ.then_ ?_)))))
 refine OkC.cond_false rfl (OkC.skip (q1 (q4 (mv' rfl (st' (ex_geq (c := false) rfl rfl (by decide)) rfl ?_)))))
 refine OkL.nil (OkQ.subF (sL [0, 2, 8] rfl) (OkQ.then_ (OkC.cond_false rfl (OkC.skip (q1 ?_)))))
 refine q4 (mv' rfl (st' (ex_geq (c := false) rfl rfl (by decide)) rfl (OkL.nil (OkQ.subF (sL [0, 2, 14] rfl) (OkQ.then_ ?_)))))
 refine OkC.cond_false rfl (OkC.skip (q2 (mv' rfl (mv' rfl (st' (ex_conv (c := (2 : Int)) rfl Tryz.underlying39 Tryz.underlying5 (by decide)) rfl ?_)))))
 refine st' (v := (Value.int .u8 (2 : Int))) (ex_index_str (j := 2) (m := 2) rfl rfl Tryz.underlying9 (by kernel_rfl) (by decide)) rfl (st' (ex_conv (c := (2 : Int)) rfl Tryz.underlying5 Tryz.underlying3 (by decide)) rfl (st' (ex_add (c := (2 : Int)) rfl rfl (by decide)) rfl (asg' rfl (OkL.nil (OkQ.subF (sL [0, 2] rfl) ?_)))))
 exact OkQ.then_ (OkC.ret (ret_one rfl (rd_tmp (v := (vI 2)) rfl) (fun w hw => ⟨rfl, hw.out⟩)))
theorem len_2  (w : World)  : Calls Tryz.prog 59 #[(Value.int .u64 (2 : Int))] w (Gives w (vI 2)) := by
 refine calls_of (args := [(Value.int .u64 (2 : Int))]) Tryz.func59 rfl rfl (leB rfl) (OkC.subF (sL [0] rfl) (q4 (asg' rfl (OkL.nil (q1 ?_)))))
 refine OkC.cond_false rfl (OkC.skip (q2 (mv' rfl (ck' Tryz.call97 (len64_2) rfl (asg' rfl ?_)))))
 exact OkL.nil (OkQ.subF (sL [0, 2] rfl) (OkQ.then_ (OkC.ret (ret_one rfl (rd_tmp (v := (vI 2)) rfl) (fun w hw => ⟨rfl, hw.out⟩)))))
theorem pdq2_ok (x y : Pc) (tl : List Value) (cp : Nat) (g : Nat) (hcp : 2 ≤ cp) (hs : Sz x.lo + Sz y.lo ≤ 1000000) (w : World) (hg : w.heap[g]? = some (.cells (pcL x ++ (pcL y ++ tl)).toArray 61 (0, 0))) : Calls Tryz.prog 58 #[(Value.slice (some ⟨g, 0, none⟩) 2 cp), (vI 0), (vI 2), (vI 2), (Value.func (.func 24) #[] #[])] w (fun e w' => e = .returned (.tuple #[]) ∧ Grw w w' (some g) ∧ w'.heap[g]? = some (.cells (two2 x y tl).toArray 61 (0, 0))) := by
 refine calls_ofM (args := [(Value.slice (some ⟨g, 0, none⟩) 2 cp), (vI 0), (vI 2), (vI 2), (Value.func (.func 24) #[] #[])]) (g := g) (T := 61) (cs := pcL x ++ (pcL y ++ tl)) Tryz.func58 rfl rfl (leB rfl) hg (OkC.subF (sL [0, 1, 2, 3, 4] rfl) (q4 (asg' rfl (OkL.nil (q2 ?_)))))
 refine asg' rfl (OkL.nil (OkQ.then_ (OkC.block (OkC.unroll 1 (OkR.step ?_)))))
 refine OkC.block (q4 (mv' rfl (mv' rfl (st' (ex_sub (c := (2 : Int)) rfl rfl (by decide)) rfl (asg' rfl ?_)))))
 refine q6 (sL [0, 1, 2, 3, 4, 10, 11, 12] rfl) (q4 (mv' rfl (st' (ex_leq (c := true) rfl rfl (by decide)) rfl (OkL.nil (OkQ.subF (sL [0, 1, 2, 3, 4, 10, 11, 12, 25] rfl) ?_)))))
 refine OkQ.then_ (OkC.cond_true rfl (q4 (mv' rfl (mv' rfl (mv' rfl ?_)))))
 refine mv' rfl (OkL.callM (v := (Value.tuple #[])) (i := 0) (cs' := two2 x y tl) (L' := [blk g 61 (two2 x y tl)]) (wt_none rfl) (op_call0 (args := [(Value.slice (some ⟨g, 0, none⟩) 2 cp), (vI 0), (vI 2), (Value.func (.func 24) #[] #[])]) rfl rfl Tryz.call88) rfl (fun w hw => isort2_ok x y tl cp _ hcp hs w (hw.get (i := 0) rfl)) (fun d hd => by cases hd <;> exact (leB rfl)) rfl (OkL.nil (OkQ.subF (sL [0, 1, 2, 3, 4, 10, 11, 12] rfl) (OkQ.then_ (OkC.ret ?_)))))
 exact OkQ.then_ret (OkQ.in_ret (OkQ.then_ret (OkQ.in_ret (ret_none (.inl rfl) rfl  (fun w hw => ⟨rfl, hw.1, hw.get (i := 0) rfl⟩)))))
theorem sort2_ok (x y : Pc) (tl : List Value) (cp : Nat) (g : Nat) (hcp : 2 ≤ cp) (hs : Sz x.lo + Sz y.lo ≤ 1000000) (w : World) (hg : w.heap[g]? = some (.cells (pcL x ++ (pcL y ++ tl)).toArray 61 (0, 0))) : Calls Tryz.prog 23 #[(Value.slice (some ⟨g, 0, none⟩) 2 cp), (Value.func (.func 24) #[] #[])] w (fun e w' => e = .returned (.tuple #[]) ∧ Grw w w' (some g) ∧ w'.heap[g]? = some (.cells (two2 x y tl).toArray 61 (0, 0))) := by
 refine calls_ofM (args := [(Value.slice (some ⟨g, 0, none⟩) 2 cp), (Value.func (.func 24) #[] #[])]) (g := g) (T := 61) (cs := pcL x ++ (pcL y ++ tl)) Tryz.func23 rfl rfl (leB rfl) hg (OkC.subF (sL [0, 1] rfl) (q4 (mv' rfl (st' (v := (vI 2)) (ex_len_slice rfl Tryz.underlying51) rfl (asg' rfl ?_)))))
 refine OkL.nil (OkQ.subF (sL [0, 1, 4] rfl) (OkQ.then_ (OkC.region (mv' rfl (mv' rfl ?_)))))
 refine mv' rfl (st' (ex_conv (c := (2 : Int)) rfl Tryz.underlying3 Tryz.underlying128 (by decide)) rfl (ck' Tryz.call59 (len_2) rfl (mv' rfl (OkL.callM (v := (Value.tuple #[])) (i := 0) (cs' := two2 x y tl) (L' := [blk g 61 (two2 x y tl)]) (wt_none rfl) (op_call0 (args := [(Value.slice (some ⟨g, 0, none⟩) 2 cp), (vI 0), (vI 2), (vI 2), (Value.func (.func 24) #[] #[])]) rfl rfl Tryz.call58) rfl (fun w hw => pdq2_ok x y tl cp _ hcp hs w (hw.get (i := 0) rfl)) (fun d hd => by cases hd <;> exact (leB rfl)) rfl (OkL.nil ?_)))))
 exact OkQ.subF (sL [0] rfl) (ret_none (.inr rfl) rfl  (fun w hw => ⟨rfl, hw.1, hw.get (i := 0) rfl⟩))
theorem isort0_ok  (w : World)  : Calls Tryz.prog 88 #[(Value.slice none 0 0), (vI 0), (vI 0), (Value.func (.func 24) #[] #[])] w (Gives w (Value.tuple #[])) := by
 refine calls_of (args := [(Value.slice none 0 0), (vI 0), (vI 0), (Value.func (.func 24) #[] #[])]) Tryz.func88 rfl rfl (leB rfl) (OkC.subF (sL [0, 1, 2, 3] rfl) (q4 (mv' rfl (st' (ex_add (c := (1 : Int)) rfl rfl (by decide)) rfl (asg' rfl ?_)))))
 refine OkL.nil (OkQ.subF (sL [0, 1, 2, 3, 8] rfl) (OkQ.then_ (OkC.block (OkC.unroll 1 (OkR.step ?_)))))
 refine OkC.seq (q4 (mv' rfl (mv' rfl (st' (ex_lss (c := false) rfl rfl (by decide)) rfl (OkL.nil ?_)))))
 refine OkQ.subF (sL [0, 1, 2, 3, 8, 14] rfl) (OkQ.then_ (OkC.cond_false rfl (OkC.exit (OkQ.then_exit (OkQ.then_exit ?_)))))
 exact OkQ.in_exit (ret_none (.inr rfl) rfl  (fun w hw => ⟨rfl, hw.out⟩))
theorem pdq0_ok  (w : World)  : Calls Tryz.prog 58 #[(Value.slice none 0 0), (vI 0), (vI 0), (vI 0), (Value.func (.func 24) #[] #[])] w (Gives w (Value.tuple #[])) := by
 refine calls_of (args := [(Value.slice none 0 0), (vI 0), (vI 0), (vI 0), (Value.func (.func 24) #[] #[])]) Tryz.func58 rfl rfl (leB rfl) (OkC.subF (sL [0, 1, 2, 3, 4] rfl) (q4 (asg' rfl (OkL.nil (q2 ?_)))))
 refine asg' rfl (OkL.nil (OkQ.then_ (OkC.block (OkC.unroll 1 (OkR.step ?_)))))
 refine OkC.block (q4 (mv' rfl (mv' rfl (st' (ex_sub (c := (0 : Int)) rfl rfl (by decide)) rfl (asg' rfl ?_)))))
 refine q6 (sL [0, 1, 2, 3, 4, 10, 11, 12] rfl) (q4 (mv' rfl (st' (ex_leq (c := true) rfl rfl (by decide)) rfl (OkL.nil (OkQ.subF (sL [0, 1, 2, 3, 4, 10, 11, 12, 25] rfl) ?_)))))
 refine OkQ.then_ (OkC.cond_true rfl (q4 (mv' rfl (mv' rfl (mv' rfl ?_)))))
 refine mv' rfl (ck' Tryz.call88 (isort0_ok) rfl (OkL.nil (OkQ.subF (sL [0, 1, 2, 3, 4, 10, 11, 12] rfl) (OkQ.then_ (OkC.ret ?_)))))
 exact OkQ.then_ret (OkQ.in_ret (OkQ.then_ret (OkQ.in_ret (ret_none (.inl rfl) rfl  (fun w hw => ⟨rfl, hw.out⟩)))))
theorem sort0_ok  (w : World)  : Calls Tryz.prog 23 #[(Value.slice none 0 0), (Value.func (.func 24) #[] #[])] w (Gives w (Value.tuple #[])) := by
 refine calls_of (args := [(Value.slice none 0 0), (Value.func (.func 24) #[] #[])]) Tryz.func23 rfl rfl (leB rfl) (OkC.subF (sL [0, 1] rfl) (q4 (mv' rfl (st' (v := (vI 0)) (ex_len_slice rfl Tryz.underlying51) rfl (asg' rfl ?_)))))
 refine OkL.nil (OkQ.subF (sL [0, 1, 4] rfl) (OkQ.then_ (OkC.region (mv' rfl (mv' rfl ?_)))))
 refine mv' rfl (st' (ex_conv (c := (0 : Int)) rfl Tryz.underlying3 Tryz.underlying128 (by decide)) rfl (ck' Tryz.call59 (len_0) rfl (mv' rfl (ck' Tryz.call58 (pdq0_ok) rfl (OkL.nil ?_)))))
 exact OkQ.subF (sL [0] rfl) (ret_none (.inr rfl) rfl  (fun w hw => ⟨rfl, hw.out⟩))
end
section
theorem nd_at {ops : Array Oper} {l : List Oper} (h : ndO l = true) : ∀ (i : Nat) (o : Oper), l[i]? = some o → ∀ c, o.op ≠ .defer c := by
  induction l with
  | nil => intro i o hi; cases i <;> simp at hi
  | cons x l ih =>
    unfold ndO at h
    have h2 := (Bool.and_eq_true _ _ ▸ h : _ ∧ _)
    intro i o hi c
    cases i with
    | zero =>
      simp only [List.getElem?_cons_zero, Option.some.injEq] at hi
      subst hi
      intro e
      have h3 := h2.1
      rw [e] at h3
      cases h3
    | succ i => exact ih h2.2 i o (by simpa using hi) c
section
variable {r : Option Nat} {P : Program} {ops : Array Oper} {Q : Exit → Act → World → Prop} {S : World → Prop}
theorem wpOp_in {i : Nat} {a : Act} {w : World} {K K' : Act → World → Prop} (hno : ∀ a w, ¬ Q .outgrown a w) (hnd : ∀ (i : Nat) (o : Oper), ops[i]? = some o → ∀ c, o.op ≠ .defer c) (hK : ∀ a w, K a w → K' a w) (h : wpOp P ops Q i K a w) : wpOpIn (rF r) 0 P ops Q i K' a w := by
  unfold wpOp at h
  unfold wpOpIn
  cases ho : ops[i]? with
  | none => simp only [ho] at h ⊢; exact hK _ _ h
  | some o =>
    simp only [ho] at h ⊢
    split
    · rename_i hw
      rw [if_pos hw] at h
      rcases h with h | ⟨_, a', w', h⟩
      · exact oper_in hK (fun _ _ k => k) (fun k => k) (hnd i o ho) h
      · exact absurd h (hno a' w')
    · rename_i hw
      rw [if_neg hw] at h
      exact ⟨fun _ _ => trivial, hK _ _ h⟩
theorem wpAnyH_in (hno : ∀ a w, ¬ Q .outgrown a w) (hnd : ∀ (i : Nat) (o : Oper), ops[i]? = some o → ∀ c, o.op ≠ .defer c) : ∀ (fuel : Nat) (listed : Array Bool) (a : Act) (w : World), wpAnyH P .any ops Q S fuel listed a w → wpAnyIn (rF r) 0 P .any ops Q fuel listed a w
  | 0, _, _, _, h => h
  | fuel + 1, listed, a, w, h => ⟨h.1, fun i hi => wpOp_in hno hnd (fun a' w' k => wpAnyH_in hno hnd fuel _ a' w' k.2) (h.2 i hi)⟩
end
section
variable {P : Program} {ops : Array Oper} {Q : Exit → Act → World → Prop} {n : Nat} {w0 : Base} {Lro L L' : List As} {F F' : List (Nat × Value)} {l : List Oper}
theorem wp_startI {id : Nat} {r : Option Nat} {l : List Oper} (hno : ∀ a w, ¬ Q .outgrown a w) (hnd : ndO l = true) (hm : P.follows .mixedOrders = true) {k : Nat} (hk : k = l.length) (h : ∀ a w, Frm n a F → Own w0 w L → wpAnyH P .any l.toArray Q (fun w => Own w0 w Lro) k (Array.replicate l.length false) a w) : OkI r P (.region id l.toArray true) Q n F w0 L := fun a w ha hw => by
  refine wpIn_region_any hm (wpAnyH_in (S := fun w => Own w0 w Lro) hno (fun i o ho => nd_at (ops := #[]) hnd i o (by simpa using ho)) _ _ _ _ ?_)
  rw [show l.toArray.size = l.length by simp, ← hk]
  subst hk
  exact h a w.drew ha hw.drew
theorem OkI.chainE {id : Nat} {r : Option Nat} (hno : ∀ a w, ¬ Q .outgrown a w) (hnd : ndO l = true) (es : List (Nat × Bool)) (hro : Lro.Sublist L) (hm : P.follows .mixedOrders = true) (hc : chkE l es = true) (hQ : ∀ c a d v w, Q (.panic c) (a.put d v) w → Q (.panic c) a w)
    (h : OkE P l.toArray Q n w0 Lro es F L) : OkI r P (.region id l.toArray true) Q n F w0 L := by
  simp only [chkE, Bool.and_eq_true] at hc
  obtain ⟨⟨⟨h1, h2⟩, h3⟩, h4⟩ := hc
  refine wp_startI hno hnd hm (Nat.eq_of_beq_eq_true h3) fun a w ha hw => walk_E h4 hQ es [] none _ a w F L h1 lst_start (fun i hi => ?_) (Wk.of hro) ha hw h
  have := List.all_eq_true.1 h2 i (List.mem_range.2 hi)
  simpa using this
end
section
variable {P : Program} {ops : Array Oper} {Q : Exit → Act → World → Prop} {n : Nat} {w0 : Base} {Lro L L' : List As} {F F' : List (Nat × Value)} {l : List Oper} {N : List NewE} {e2 : List (Nat × Bool)}
theorem OkI.chainN {id : Nat} {r : Option Nat} (hno : ∀ a w, ¬ Q .outgrown a w) (hnd : ndO l = true) (e1 : List (Nat × Bool)) (N : List NewE) (e2 : List (Nat × Bool)) (hro : Lro.Sublist L) (hm : P.follows .mixedOrders = true) (hc : chkN l e1 N e2 = true) (hN : ∀ x ∈ N, NewOk P l n x) (hk0 : noK N F = true) (hQ : ∀ c a d v w, Q (.panic c) (a.put d v) w → Q (.panic c) a w)
    (h : OkN P l.toArray Q n w0 Lro N e2 e1 F L) : OkI r P (.region id l.toArray true) Q n F w0 L := by
  simp only [chkN, Bool.and_eq_true] at hc
  obtain ⟨⟨⟨⟨⟨⟨⟨⟨h1, h2⟩, h3⟩, h4⟩, h5⟩, h6⟩, h7⟩, h8⟩, h9⟩ := hc
  have hlen := Nat.eq_of_beq_eq_true h5
  have hdis : ∀ e ∈ e1, e.1 ∉ N.map (·.i) := fun e he => by
    have := List.all_eq_true.1 h9 e he
    simpa using this
  refine wp_startI (Lro := Lro) hno hnd hm (k := e1.length + e2.length + N.length) hlen fun a w ha hw => ?_
  refine walk_N ⟨hN, h6, nodupB_spec h7, nodupB_spec h8, fun x hx => List.all_eq_true.1 h2 x hx, h3⟩ hQ (e1.length + N.length) e1 [] none [] (fun _ => 0) _ a w F L N.length rfl (by simp) h1 rfl (fun x => ?_) hdis (by simp) (fun i hi => ?_) ⟨lst_start, by simp, List.nodup_nil, ha, by simp, by simpa [nL] using hw, hro, hk0⟩ h
  · rw [List.mem_append]
    refine or_congr Iff.rfl ⟨fun hx => .inr ?_, fun hx => ?_⟩
    · obtain ⟨e, he, rfl⟩ := List.mem_map.1 hx
      exact List.any_eq_true.2 ⟨e, he, by simp⟩
    · rcases hx with hx | hx
      · cases hx
      · obtain ⟨e, he, rfl⟩ := any_mem hx
        exact List.mem_map_of_mem he
  · have := List.all_eq_true.1 h4 i (List.mem_range.2 hi)
    rw [Bool.or_eq_true] at this
    rcases this with h | h
    · exact .inl (by simpa using h)
    · exact .inr (.inr h)
theorem iN {id : Nat} {r : Option Nat} (e1 : List (Nat × Bool)) (N : List NewE) (e2 : List (Nat × Bool)) (hro : Lro.Sublist L) (hc : chkN l e1 N e2 = true) (hQ : ∀ c a d v w, Q (.panic c) (a.put d v) w → Q (.panic c) a w) (hN : ∀ x ∈ N, NewOk Tryz.prog l n x) (hk0 : noK N F = true) (hno : ∀ a w, ¬ Q .outgrown a w) (hnd : ndO l = true) (h : OkN Tryz.prog l.toArray Q n w0 Lro N e2 e1 F L) : OkI r Tryz.prog (.region id l.toArray true) Q n F w0 L := OkI.chainN hno hnd e1 N e2 hro follows_mixed hc hN hk0 hQ h
end
end
end Go.Proofs.YtnofgcpajmldkaaGreatDoor
