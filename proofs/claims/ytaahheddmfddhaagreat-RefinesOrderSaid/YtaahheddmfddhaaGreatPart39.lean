import Derived.ProofKit
import Derived.LaidMore
import Derived.Carry
import Derived.Stop.Joined
import Derived.SevenTiedAt
import Derived.Test.YtaahheddmfddhaaGreatPart06
import Derived.Test.YtaahheddmfddhaaGreatPart21
import Derived.Test.YtaahheddmfddhaaGreatPart26
import Derived.Test.YtaahheddmfddhaaGreatPart38
namespace Go.Proofs.YtaahheddmfddhaaGreat
open Go Go.RowKit
set_option linter.unusedVariables false
set_option linter.unusedSimpArgs false
section
set_option maxRecDepth 100000
theorem tfill_numuf_34 (x0 x1 x2 : Nat) : Instr.fill (fun i => some (i * 1, 1)) (t3L ((0, 0, 0) : Nat × Nat × Nat)).toArray [(0, vN x0), (1, vN x1), (2, vN x2)] = some (t3L (x0, x1, x2)).toArray := by kernel_rfl
set_option maxHeartbeats 1000000 in
theorem RefinesOrder_ok (m : MQ) (first : Nat) (hft : first < 256) (w : World) {S : Nat → Prop} (hm : Ro S w m) : Calls Tryz.prog 3 #[(aG (mqL m)), (vK .u8 first)] w (Gives w (Value.bool true)) := by
 have lm := atA (W := w) hm
 refine calls_ofR (args := [(aG (mqL m)), (vK .u8 first)]) (L := [rowR m.p (bytL m.cs)]) Tryz.func3 rfl rfl (leB rfl) (sxA hm roL_nil) (OkC.subF (sL [0, 1] rfl) (q4 (bx' (cs := mqL m) rfl fun b1 => asg' rfl (q3 (sL [1, 2, 4] rfl) ?_))))
 refine ldW' 0 tA26 rfl (OkL.callR (S := S) (α := MG) (args := [(aG (mqL m))]) Tryz.call13 (fun w hw => mMesh_ok m w (inS hw 1 rfl lm)) rfl rfl rfl fun g lg => al tZ31 rfl fun b2 => stW0' rfl Tryz.sizeOf31 rfl (q3 (sL [1, 4, 5] rfl) ?_))
 have hG := g.good
 have hnb : numB g.ps.length g.ts = true := numB_good hG
 have htl := hG.tl
 have hpl := hG.pl
 have hz : ∀ i, SzP (cor g.ps i) ≤ 1000000 := fun i => Nat.le_trans (hG.sz i) (by decide)
 have hsl := g.sl
 have hel0 : (edL g.ts).length ≤ 3 * g.ts.length := by rw [edL_len]; exact edS_len _
 refine ldW' 0 tA31 rfl (OkL.callL (S := S) (V := fun a : CpX g.ps g.ts g.ss => aG (cpL a)) (LW := cpW) (args := [(aG (mxL g.mx))]) Tryz.call14 (fun w hw => Copy_ok g.mx (by omega) (by omega) (by omega) w (inS hw 1 rfl lg : Ro _ w g.mx)) rfl fun cp hcp => al tZ31 rfl fun b3 => stW0' rfl Tryz.sizeOf31 rfl (q6 (sL [1, 4, 5, 6] rfl) (q4 ?_)))
 refine asg' rfl (OkL.nil (OkQ.then_ (OkC.block ?_)))
 refine OkC.lp1 (tg fun (t : Nat) => t ≤ g.ts.length) (tg fun (t : Nat) => [(1, (vK .u8 first)), (4, (Value.bool false)), (5, (pP b2 0)), (6, (pP b3 0)), (7, (vN t))]) (tg fun (t : Nat) => [blk b3 31 ([(Value.slice cp.a.p g.ps.length g.ps.length), (Value.slice cp.b.p g.ts.length g.ts.length), (Value.slice cp.c.p g.ss.length g.ss.length)]), rowW cp.c.p 51 3 g.ss.length cp.c.c (rowsL t3L g.ss), rowW cp.b.p 34 3 g.ts.length cp.b.c (rowsL t3L (rotN g.ts (rotF first) t)), rowW cp.a.p 49 10 g.ps.length cp.a.c (rowsL ptL g.ps), blk b2 31 (mxL g.mx), rowR g.mx.a.p (rowsL ptL g.ps), rowR g.mx.b.p (rowsL t3L g.ts), rowR g.mx.c.p (rowsL t3L g.ss), blk b1 26 (mqL m), rowR m.p (bytL m.cs)]) (tg fun (t : Nat) => g.ts.length - t) 0 (Nat.zero_le _) (sF rfl) sr (fun t hJ => ?_)
 have ht := hJ
 refine OkC.seq (q4 (mv' rfl (st' (v := (pP b3 1)) (ex_fieldAddr rfl Tryz.underlying31 rfl Tryz.sizeOf28 rfl) rfl (ldO' 0 (Value.slice cp.b.p g.ts.length g.ts.length) tO28 rfl (st' (v := (vN g.ts.length)) (ex_len_slice rfl Tryz.underlying28) rfl ?_)))))
 refine st' (ex_lss (c := (decide (t < g.ts.length))) rfl rfl (ltN (a := t) (b := g.ts.length))) rfl (OkL.nil (OkQ.subF (sL [1, 4, 5, 6, 7, 31] rfl) (OkQ.then_ ?_)))
 refine OkC.cond rfl (fun hc0 => ?_) (fun hc0 => ?_)
 ·replace hc0 := of_decide_eq_true hc0
  have hrl := rotN_len (ts := g.ts) (rotF first) t
  obtain ⟨T, hT⟩ : ∃ q, q = (rotN g.ts (rotF first) t).getD t (0, 0, 0) := ⟨_, rfl⟩
  obtain ⟨i, hi⟩ : ∃ q, q = (first + t) % 3 := ⟨_, rfl⟩
  refine OkC.skip (q1 (OkC.block (q4 (st' (v := (pP b3 1)) (ex_fieldAddr rfl Tryz.underlying31 rfl Tryz.sizeOf28 rfl) rfl (ldO' 0 (Value.slice cp.b.p g.ts.length g.ts.length) tO28 rfl ?_)))))
  refine mv' rfl (st' (v := (pP (pB cp.b.p) (pO cp.b.p + t * 3))) (ex_index_row (j := t) rfl rfl cp.b.ok.clip Tryz.underlying28 Tryz.sizeOf34 rfl (by omega)) rfl (st' (v := (aG (t3L ((rotN g.ts (rotF first) t).getD t ((0, 0, 0) : Nat × Nat × Nat))))) (ex_load_rowW_agg (vs := t3L ((rotN g.ts (rotF first) t).getD t ((0, 0, 0) : Nat × Nat × Nat))) (i := 2) rfl rfl cp.b.ok (by rw [rowsL_length t3L_len, rotN_len]) (RowOk.ne cp.b.ok.clip (by omega)) tA34 (rowsL_get t3L_len _ _ _ (by omega)) (t3L_len _)) rfl (OkL.retell (k := 38) (u := (aG (t3L T))) rfl (by rw [hT]) (al tZ34 rfl fun b4 => stW0' rfl Tryz.sizeOf34 rfl ?_))))
  refine q3 (sL [1, 4, 5, 6, 7, 8] rfl) (mv' rfl (st' (ex_conv (c := ((first : Nat) : Int)) rfl Tryz.underlying5 Tryz.underlying3 (convN_i64 (by omega))) rfl (mv' rfl (st' (ex_add (c := ((first + t : Nat) : Int)) rfl rfl (addN_i64 (a := first) (b := t) (by omega))) rfl (st' (ex_rem (c := (((first + t) % 3 : Nat) : Int)) rfl rfl (by omega) (remN (a := first + t) (b := 3))) rfl ?_)))))
  refine OkL.retell (k := 43) (u := (vN i)) rfl (by rw [hi]) (asg' rfl (OkL.nil (OkQ.subF (sL [1, 4, 5, 6, 7, 8, 9] rfl) (OkQ.then_ (rG' [(0, true), (1, true), (2, true), (3, true), (4, true), (5, true), (6, true), (7, true), (8, true), (9, true), (10, true), (11, true), (12, true), (13, true), (14, true), (15, true), (16, true), (17, true), (18, false)] (sk (sk (sk (sl sr)))) ?_)))))
  refine pE' (v := (pP b3 1)) rfl (ex_fieldAddr rfl Tryz.underlying31 rfl Tryz.sizeOf28 rfl) (pO'' 1 (Value.slice cp.b.p g.ts.length g.ts.length) tO28 rfl (pM' rfl (pM' rfl (pE' (v := (pP b4 (0 + i * 1))) rfl (ex_indexAddr_array (j := i) rfl rfl Tryz.underlying34 Tryz.sizeOf3 rfl (by omega) rfl) (pE' rfl (ex_load_one (i := 0) (v := (vN (crT T i))) rfl rfl Tryz.isAgg3 (t3_atv (by omega))) ?_)))))
  refine pM' rfl (pE' rfl (ex_add (c := ((i + 1 : Nat) : Int)) rfl rfl (addN_i64 (a := i) (b := 1) (by omega))) (pE' rfl (ex_rem (c := (((i + 1) % 3 : Nat) : Int)) rfl rfl (by omega) (remN (a := i + 1) (b := 3))) (pE' (v := (pP b4 (0 + ((i + 1) % 3) * 1))) rfl (ex_indexAddr_array (j := (i + 1) % 3) rfl rfl Tryz.underlying34 Tryz.sizeOf3 rfl (by omega) rfl) (pE' rfl (ex_load_one (i := 0) (v := (vN (crT T ((i + 1) % 3)))) rfl rfl Tryz.isAgg3 (t3_atv (by omega))) (pM' rfl ?_)))))
  refine pE' rfl (ex_add (c := ((i + 2 : Nat) : Int)) rfl rfl (addN_i64 (a := i) (b := 2) (by omega))) (pE' rfl (ex_rem (c := (((i + 2) % 3 : Nat) : Int)) rfl rfl (by omega) (remN (a := i + 2) (b := 3))) (pE' (v := (pP b4 (0 + ((i + 2) % 3) * 1))) rfl (ex_indexAddr_array (j := (i + 2) % 3) rfl rfl Tryz.underlying34 Tryz.sizeOf3 rfl (by omega) rfl) (pE' rfl (ex_load_one (i := 0) (v := (vN (crT T ((i + 2) % 3)))) rfl rfl Tryz.isAgg3 (t3_atv (by omega))) (pE' (v := (aG (t3L (crT T i, crT T ((i + 1) % 3), crT T ((i + 2) % 3))))) rfl (ex_build_array (zs := t3L ((0, 0, 0) : Nat × Nat × Nat)) (vs := t3L (crT T i, crT T ((i + 1) % 3), crT T ((i + 2) % 3))) (pv := [(0, (vN (crT T i))), (1, (vN (crT T ((i + 1) % 3)))), (2, (vN (crT T ((i + 2) % 3))))]) Tryz.zeroValue34 Tryz.underlying34 Tryz.sizeOf3 rfl (tfill_numuf_34 (crT T i) (crT T ((i + 1) % 3)) (crT T ((i + 2) % 3)))) (pE' (v := (pP (pB cp.b.p) (pO cp.b.p + t * 3))) rfl (ex_index_row (j := t) rfl rfl cp.b.ok.clip Tryz.underlying28 Tryz.sizeOf34 rfl (by omega)) ?_)))))
  refine OkE.imp rfl (OkL.storeObj 3 (enc := t3L) (j := t) (r := 0) (x' := (crT T i, crT T ((i + 1) % 3), crT T ((i + 2) % 3))) (vs := t3L (crT T i, crT T ((i + 1) % 3), crT T ((i + 2) % 3))) ((0, 0, 0) : Nat × Nat × Nat) t3L_len cp.b.ok (by first | rfl | simp [*]) rfl rfl rfl (RowOk.ne cp.b.ok.clip (by omega)) (by omega) rfl Tryz.sizeOf34 rfl rfl (OkE.back (sk (sk (sk (sl sr)))) (OkE.nil (OkQ.subF (sL [1, 4, 5, 6, 7, 8] rfl) (OkQ.in_normal ?_)))))
  refine OkQ.then_ (OkC.region (mv' rfl (st' (ex_add (c := ((t + 1 : Nat) : Int)) rfl rfl (addN_i64 (a := t) (b := 1) (by omega))) rfl (asg' rfl (OkL.nil ?_)))))
  refine OkQ.subF (sL [1, 4, 5, 6, 7, 8] rfl) ?_
  rw [show (rotN g.ts (rotF first) t).set t (crT T i, crT T ((i + 1) % 3), crT T ((i + 2) % 3)) = rotN g.ts (rotF first) (t + 1) from by exact rotN_step (by omega) hT (by rw [hi]; rfl) (by omega)]
  exact OkQ.round1 (t + 1) (by omega) (by omega) (sF rfl) (sl sr)
 ·replace hc0 := of_decide_eq_false hc0
  have hte : t = g.ts.length := by omega
  obtain ⟨us, hus⟩ : ∃ q, q = rotN g.ts (rotF first) g.ts.length := ⟨_, rfl⟩
  rw [show rotN g.ts (rotF first) t = us by rw [hus, hte]]
  have hul : g.ts.length = us.length := by rw [hus, rotN_len]
  have hue : edL us = edL g.ts := by rw [hus]; exact rotN_edL _ hnb (by omega)
  have hun : numB g.ps.length us = true := by rw [hus]; exact rotN_num _ hnb
  have hur : rimL (redT g.ps.length (edL g.ts) us) = rimL (redT g.ps.length (edL g.ts) g.ts) := by have h9 := rim_rot (N := g.ps.length) (rotF first) hnb (by omega); rw [← hus, hue] at h9; exact h9
  obtain ⟨PA, hPA⟩ : ∃ q, q = halP g.ps (edL g.ts) := ⟨_, rfl⟩
  obtain ⟨TA, hTA⟩ : ∃ q, q = redT g.ps.length (edL g.ts) g.ts := ⟨_, rfl⟩
  obtain ⟨TB, hTB⟩ : ∃ q, q = redT g.ps.length (edL g.ts) us := ⟨_, rfl⟩
  obtain ⟨SA, hSA⟩ : ∃ q, q = halX g.ps.length g.ss (edL g.ts) TA := ⟨_, rfl⟩
  have hSB : halX g.ps.length g.ss (edL g.ts) TB = SA := by rw [hSA, hTA, hTB]; unfold halX; rw [hur]
  have hpa : PA.length = g.ps.length + (edL g.ts).length := by rw [hPA, halP_len]
  have hta : TA.length = 4 * g.ts.length := by rw [hTA, redT_len]
  have htb : TB.length = 4 * g.ts.length := by rw [hTB, redT_len, hul]
  have hsa : SA.length ≤ 3 * TA.length := by rw [hSA]; exact halX_len
  have hfnd : ∀ k, k < 4 * g.ts.length → fdT (TA.getD k (0, 0, 0)) TB (k - k % 4) 4 = true := fun k hk => by have h9 := red_found (N := g.ps.length) (rotF first) hnb (by omega) hk; rw [← hus, hue, ← hTA, ← hTB] at h9; exact h9
  have redA : ∀ (x : MX g.ps g.ts g.ss) (w : World) {S : Nat → Prop} (hx : Ro S w x), Calls Tryz.prog 15 #[aG (mxL x)] w (GivesR (RdX PA TA SA (parN g.ts.length) 0) S w) := fun x w S hx => by have h9 := Red_ok x hnb hz (by omega) (by omega) (by omega) ⟨by omega, by omega⟩ w hx; rw [← hPA, ← hTA, ← hSA] at h9; exact h9
  have redB : ∀ (x : MX g.ps us g.ss) (w : World) {S : Nat → Prop} (hx : Ro S w x), Calls Tryz.prog 15 #[aG (mxL x)] w (GivesR (RdX PA TB SA (parN us.length) 0) S w) := fun x w S hx => by have h9 := Red_ok x hun hz (by omega) (by omega) (by omega) ⟨by rw [hue]; omega, by omega⟩ w hx; rw [hue, ← hPA, ← hTB, hSB] at h9; exact h9
  refine OkC.exit (OkQ.then_exit (OkQ.round1_exit (OkQ.in_exit (q2 (ldW' 4 tA31 rfl ?_)))))
  refine OkL.frzRow 3 rfl cp.a.ok (rowsL_length ptL_len _) rfl rfl fun hn_cp_a => OkL.frzRow 2 rfl cp.b.ok (by rw [rowsL_length t3L_len, hul]) rfl rfl fun hn_cp_b => OkL.frzRow 1 rfl cp.c.ok (rowsL_length t3L_len _) rfl rfl fun hn_cp_c => cRd (S := S) (args := [aG (mxL g.mx)]) Tryz.call15 (fun w hw => redA g.mx w (inS hw 5 rfl lg : Ro _ w g.mx)) rfl fun ra hmra hqra => mv' rfl (st' (ex_extract (v := (aG (mxL ra.m))) rfl rfl) rfl ?_)
  refine st' (ex_extract (v := (Value.slice ra.q.p ((parN g.ts.length).length) ra.q.c)) rfl rfl) rfl (st' (ex_extract (v := (vI 0)) rfl rfl) rfl (al tZ31 rfl fun b4 => stW0' rfl Tryz.sizeOf31 rfl (asg' rfl (asg' rfl ?_))))
  refine q3 (sL [1, 4, 5, 6, 7, 10, 12] rfl) (ldW' 5 tA31 rfl (OkL.retell (k := 69) (u := (aG (mxL (⟨⟨cp.a.p, g.ps.length, cp.a.ok.clip⟩, ⟨cp.b.p, g.ts.length, hul ▸ cp.b.ok.clip⟩, ⟨cp.c.p, g.ss.length, cp.c.ok.clip⟩⟩ : MX g.ps us g.ss)))) rfl (by show _ = aG [.slice cp.a.p g.ps.length g.ps.length, .slice cp.b.p us.length g.ts.length, .slice cp.c.p g.ss.length g.ss.length]; rw [← hul]) (cRd (S := S) (args := [(aG (mxL (⟨⟨cp.a.p, g.ps.length, cp.a.ok.clip⟩, ⟨cp.b.p, g.ts.length, hul ▸ cp.b.ok.clip⟩, ⟨cp.c.p, g.ss.length, cp.c.ok.clip⟩⟩ : MX g.ps us g.ss)))]) Tryz.call15 (fun w hw => redB (⟨⟨cp.a.p, g.ps.length, cp.a.ok.clip⟩, ⟨cp.b.p, g.ts.length, hul ▸ cp.b.ok.clip⟩, ⟨cp.c.p, g.ss.length, cp.c.ok.clip⟩⟩ : MX g.ps us g.ss) w (inX hw [8, 7, 6] rfl (At.mx (At.new hn_cp_a) (At.new hn_cp_b) (At.new hn_cp_c)))) rfl fun rb hmrb hqrb => mv' rfl (st' (ex_extract (v := (aG (mxL rb.m))) rfl rfl) rfl ?_))))
  refine st' (ex_extract (v := (Value.slice rb.q.p ((parN us.length).length) rb.q.c)) rfl rfl) rfl (st' (ex_extract (v := (vI 0)) rfl rfl) rfl (al tZ31 rfl fun b5 => stW0' rfl Tryz.sizeOf31 rfl (asg' rfl (asg' rfl ?_))))
  refine q6 (sL [1, 4, 5, 6, 7, 10, 12, 13, 15] rfl) (q4 (mv' rfl (st' (ex_neq (c := false) rfl rfl (by decide)) rfl (mv' rfl (OkL.step (v := (vI 0)) (wt_some' rfl) (ex_move rfl) rfl (leB rfl) ?_)))))
  refine OkL.step (v := (Value.bool false)) (wt_some' rfl) (ex_neq (c := false) rfl rfl (by decide)) rfl (leB rfl) (st' (v := (Value.bool false)) (ex_pick_false rfl rfl) rfl (mv' rfl (OkL.step (v := (pP b4 0)) (wt_some' rfl) (ex_fieldAddr rfl Tryz.underlying31 rfl Tryz.sizeOf27 rfl) rfl (leB rfl) (OkL.step (v := (Value.slice ra.m.a.p PA.length ra.m.a.c)) (wt_some' rfl) (ex_load_one (i := 5) (v := (Value.slice ra.m.a.p PA.length ra.m.a.c)) rfl rfl tO27.a rfl) rfl (leB rfl) (OkL.step (v := (vN PA.length)) (wt_some' rfl) (ex_len_slice rfl Tryz.underlying27) rfl (leB rfl) ?_)))))
  refine OkL.step (v := (pP b5 0)) (wt_some' rfl) (ex_fieldAddr rfl Tryz.underlying31 rfl Tryz.sizeOf27 rfl) rfl (leB rfl) (OkL.step (v := (Value.slice rb.m.a.p PA.length rb.m.a.c)) (wt_some' rfl) (ex_load_one (i := 0) (v := (Value.slice rb.m.a.p PA.length rb.m.a.c)) rfl rfl tO27.a rfl) rfl (leB rfl) (OkL.step (v := (vN PA.length)) (wt_some' rfl) (ex_len_slice rfl Tryz.underlying27) rfl (leB rfl) (OkL.step (v := (Value.bool false)) (wt_some' rfl) (ex_neq (c := false) rfl rfl (decide_eq_false (by omega))) rfl (leB rfl) (st' (v := (Value.bool false)) (ex_pick_false rfl rfl) rfl (mv' rfl ?_)))))
  refine OkL.step (v := (pP b4 2)) (wt_some' rfl) (ex_fieldAddr rfl Tryz.underlying31 rfl Tryz.sizeOf29 rfl) rfl (leB rfl) (OkL.step (v := (Value.slice ra.m.c.p SA.length ra.m.c.c)) (wt_some' rfl) (ex_load_one (i := 5) (v := (Value.slice ra.m.c.p SA.length ra.m.c.c)) rfl rfl tO29.a rfl) rfl (leB rfl) (OkL.step (v := (vN SA.length)) (wt_some' rfl) (ex_len_slice rfl Tryz.underlying29) rfl (leB rfl) (OkL.step (v := (pP b5 2)) (wt_some' rfl) (ex_fieldAddr rfl Tryz.underlying31 rfl Tryz.sizeOf29 rfl) rfl (leB rfl) (OkL.step (v := (Value.slice rb.m.c.p SA.length rb.m.c.c)) (wt_some' rfl) (ex_load_one (i := 0) (v := (Value.slice rb.m.c.p SA.length rb.m.c.c)) rfl rfl tO29.a rfl) rfl (leB rfl) (OkL.step (v := (vN SA.length)) (wt_some' rfl) (ex_len_slice rfl Tryz.underlying29) rfl (leB rfl) ?_)))))
  refine OkL.step (v := (Value.bool false)) (wt_some' rfl) (ex_neq (c := false) rfl rfl (decide_eq_false (by omega))) rfl (leB rfl) (st' (v := (Value.bool false)) (ex_pick_false rfl rfl) rfl (mv' rfl (OkL.step (v := (pP b4 1)) (wt_some' rfl) (ex_fieldAddr rfl Tryz.underlying31 rfl Tryz.sizeOf28 rfl) rfl (leB rfl) (OkL.step (v := (Value.slice ra.m.b.p TA.length ra.m.b.c)) (wt_some' rfl) (ex_load_one (i := 5) (v := (Value.slice ra.m.b.p TA.length ra.m.b.c)) rfl rfl tO28.a rfl) rfl (leB rfl) (OkL.step (v := (vN TA.length)) (wt_some' rfl) (ex_len_slice rfl Tryz.underlying28) rfl (leB rfl) ?_)))))
  refine OkL.step (v := (pP b5 1)) (wt_some' rfl) (ex_fieldAddr rfl Tryz.underlying31 rfl Tryz.sizeOf28 rfl) rfl (leB rfl) (OkL.step (v := (Value.slice rb.m.b.p TB.length rb.m.b.c)) (wt_some' rfl) (ex_load_one (i := 0) (v := (Value.slice rb.m.b.p TB.length rb.m.b.c)) rfl rfl tO28.a rfl) rfl (leB rfl) (OkL.step (v := (vN TB.length)) (wt_some' rfl) (ex_len_slice rfl Tryz.underlying28) rfl (leB rfl) (OkL.step (v := (Value.bool false)) (wt_some' rfl) (ex_neq (c := false) rfl rfl (decide_eq_false (by omega))) rfl (leB rfl) (st' (v := (Value.bool false)) (ex_pick_false rfl rfl) rfl (OkL.nil ?_)))))
  refine OkQ.subF (sL [1, 4, 5, 6, 7, 10, 13, 106] rfl) (OkQ.then_ (OkC.cond_false rfl (OkC.skip (q1 (q4 ?_)))))
  refine asg' rfl (OkL.nil (OkQ.subF (sL [1, 4, 5, 6, 7, 10, 13, 16] rfl) (OkQ.then_ (OkC.block ?_))))
  refine OkC.lp1 (tg fun (i : Nat) => i ≤ PA.length) (tg fun (i : Nat) => [(10, (pP b4 0)), (13, (pP b5 0)), (16, (vN i))]) (tg fun (i : Nat) => [blk b5 31 (mxL rb.m), rowR rb.m.a.p (rowsL ptL PA), rowR rb.m.b.p (rowsL t3L TB), rowR rb.m.c.p (rowsL t3L SA), rowR rb.q.p (inL (parN us.length)), blk b4 31 (mxL ra.m), rowR ra.m.a.p (rowsL ptL PA), rowR ra.m.b.p (rowsL t3L TA), rowR ra.m.c.p (rowsL t3L SA), rowR ra.q.p (inL (parN g.ts.length)), blk b3 31 ([(Value.slice cp.a.p g.ps.length g.ps.length), (Value.slice cp.b.p g.ts.length g.ts.length), (Value.slice cp.c.p g.ss.length g.ss.length)]), rowR cp.c.p (rowsL t3L g.ss), rowR cp.b.p (rowsL t3L us), rowR cp.a.p (rowsL ptL g.ps), blk b2 31 (mxL g.mx), rowR g.mx.a.p (rowsL ptL g.ps), rowR g.mx.b.p (rowsL t3L g.ts), rowR g.mx.c.p (rowsL t3L g.ss), blk b1 26 (mqL m), rowR m.p (bytL m.cs)]) (tg fun (i : Nat) => PA.length - i) 0 (Nat.zero_le _) (sF rfl) sr (fun i hJ => ?_)
  have hil := hJ
  refine OkC.seq (q4 (mv' rfl (st' (v := (pP b4 0)) (ex_fieldAddr rfl Tryz.underlying31 rfl Tryz.sizeOf27 rfl) rfl (ldO' 5 (Value.slice ra.m.a.p PA.length ra.m.a.c) tO27 rfl (st' (v := (vN PA.length)) (ex_len_slice rfl Tryz.underlying27) rfl ?_)))))
  refine st' (ex_lss (c := (decide (i < PA.length))) rfl rfl (ltN (a := i) (b := PA.length))) rfl (OkL.nil (OkQ.subF (sL [10, 13, 16, 111] rfl) (OkQ.then_ ?_)))
  refine OkC.cond rfl (fun hc2 => ?_) (fun hc2 => ?_)
  ·replace hc2 := of_decide_eq_true hc2
   refine OkC.skip (q1 (OkC.block (OkC.seq (rG' [(0, true), (1, true), (2, true), (3, true), (4, true), (5, true), (6, true), (7, true), (8, true), (9, true), (10, true)] sr (pE' (v := (pP b4 0)) rfl (ex_fieldAddr rfl Tryz.underlying31 rfl Tryz.sizeOf27 rfl) ?_)))))
   refine pO'' 5 (Value.slice ra.m.a.p PA.length ra.m.a.c) tO27 rfl (pM' rfl (pE' (v := (pP (pB ra.m.a.p) (pO ra.m.a.p + i * 10))) rfl (ex_index_row (j := i) rfl rfl ra.m.a.ok Tryz.underlying27 Tryz.sizeOf49 rfl (by omega)) (pE' (v := (aG (ptL (PA.getD i (⟨0, 0⟩ : Pt))))) rfl (ex_load_rowR_agg (vs := ptL (PA.getD i (⟨0, 0⟩ : Pt))) (i := 6) rfl rfl (RowOk.ne ra.m.a.ok (by omega)) tA49 (rowsL_get ptL_len _ _ _ (by omega)) (ptL_len _)) (pE' (v := (pP b5 0)) rfl (ex_fieldAddr rfl Tryz.underlying31 rfl Tryz.sizeOf27 rfl) (pO'' 0 (Value.slice rb.m.a.p PA.length rb.m.a.c) tO27 rfl ?_)))))
   refine pM' rfl (pE' (v := (pP (pB rb.m.a.p) (pO rb.m.a.p + i * 10))) rfl (ex_index_row (j := i) rfl rfl rb.m.a.ok Tryz.underlying27 Tryz.sizeOf49 rfl (by omega)) (pE' (v := (aG (ptL (PA.getD i (⟨0, 0⟩ : Pt))))) rfl (ex_load_rowR_agg (vs := ptL (PA.getD i (⟨0, 0⟩ : Pt))) (i := 1) rfl rfl (RowOk.ne rb.m.a.ok (by omega)) tA49 (rowsL_get ptL_len _ _ _ (by omega)) (ptL_len _)) (pE' (v := (Value.bool false)) rfl (ex_neq_agg_f rfl rfl Tryz.eqGuardType49 (eqB_pt_t 9994 rfl)) (OkE.nil (OkQ.subF (sL [10, 13, 16, 124] rfl) ?_)))))
   refine OkQ.then_ (OkC.cond_false rfl (OkC.skip (OkQ.in_normal (OkQ.then_ (OkC.region ?_)))))
   exact mv' rfl (st' (ex_add (c := ((i + 1 : Nat) : Int)) rfl rfl (addN_i64 (a := i) (b := 1) (by omega))) rfl (asg' rfl (OkL.nil (OkQ.subF (sL [10, 13, 16] rfl) (OkQ.round1 (i + 1) (by omega) (by omega) (sF rfl) sr)))))
  ·replace hc2 := of_decide_eq_false hc2
   refine OkC.exit (OkQ.then_exit (OkQ.round1_exit (OkQ.in_exit (q1 (q4 ?_)))))
   refine asg' rfl (OkL.nil (OkQ.then_ (OkC.block ?_)))
   refine OkC.lp1 (tg fun (i : Nat) => i ≤ SA.length) (tg fun (i : Nat) => [(10, (pP b4 0)), (13, (pP b5 0)), (17, (vN i))]) (tg fun (i : Nat) => [blk b5 31 (mxL rb.m), rowR rb.m.a.p (rowsL ptL PA), rowR rb.m.b.p (rowsL t3L TB), rowR rb.m.c.p (rowsL t3L SA), rowR rb.q.p (inL (parN us.length)), blk b4 31 (mxL ra.m), rowR ra.m.a.p (rowsL ptL PA), rowR ra.m.b.p (rowsL t3L TA), rowR ra.m.c.p (rowsL t3L SA), rowR ra.q.p (inL (parN g.ts.length)), blk b3 31 ([(Value.slice cp.a.p g.ps.length g.ps.length), (Value.slice cp.b.p g.ts.length g.ts.length), (Value.slice cp.c.p g.ss.length g.ss.length)]), rowR cp.c.p (rowsL t3L g.ss), rowR cp.b.p (rowsL t3L us), rowR cp.a.p (rowsL ptL g.ps), blk b2 31 (mxL g.mx), rowR g.mx.a.p (rowsL ptL g.ps), rowR g.mx.b.p (rowsL t3L g.ts), rowR g.mx.c.p (rowsL t3L g.ss), blk b1 26 (mqL m), rowR m.p (bytL m.cs)]) (tg fun (i : Nat) => SA.length - i) 0 (Nat.zero_le _) (sF rfl) sr (fun i hJ => ?_)
   have hil := hJ
   refine OkC.seq (q4 (mv' rfl (st' (v := (pP b4 2)) (ex_fieldAddr rfl Tryz.underlying31 rfl Tryz.sizeOf29 rfl) rfl (ldO' 5 (Value.slice ra.m.c.p SA.length ra.m.c.c) tO29 rfl (st' (v := (vN SA.length)) (ex_len_slice rfl Tryz.underlying29) rfl ?_)))))
   refine st' (ex_lss (c := (decide (i < SA.length))) rfl rfl (ltN (a := i) (b := SA.length))) rfl (OkL.nil (OkQ.subF (sL [10, 13, 17, 129] rfl) (OkQ.then_ ?_)))
   refine OkC.cond rfl (fun hc4 => ?_) (fun hc4 => ?_)
   ·replace hc4 := of_decide_eq_true hc4
    refine OkC.skip (q1 (OkC.block (OkC.seq (rG' [(0, true), (1, true), (2, true), (3, true), (4, true), (5, true), (6, true), (7, true), (8, true), (9, true), (10, true)] sr (pE' (v := (pP b4 2)) rfl (ex_fieldAddr rfl Tryz.underlying31 rfl Tryz.sizeOf29 rfl) ?_)))))
    refine pO'' 5 (Value.slice ra.m.c.p SA.length ra.m.c.c) tO29 rfl (pM' rfl (pE' (v := (pP (pB ra.m.c.p) (pO ra.m.c.p + i * 3))) rfl (ex_index_row (j := i) rfl rfl ra.m.c.ok Tryz.underlying29 Tryz.sizeOf51 rfl (by omega)) (pE' (v := (aG (t3L (SA.getD i ((0, 0, 0) : Nat × Nat × Nat))))) rfl (ex_load_rowR_agg (vs := t3L (SA.getD i ((0, 0, 0) : Nat × Nat × Nat))) (i := 8) rfl rfl (RowOk.ne ra.m.c.ok (by omega)) tA51 (rowsL_get t3L_len _ _ _ (by omega)) (t3L_len _)) (pE' (v := (pP b5 2)) rfl (ex_fieldAddr rfl Tryz.underlying31 rfl Tryz.sizeOf29 rfl) (pO'' 0 (Value.slice rb.m.c.p SA.length rb.m.c.c) tO29 rfl ?_)))))
    refine pM' rfl (pE' (v := (pP (pB rb.m.c.p) (pO rb.m.c.p + i * 3))) rfl (ex_index_row (j := i) rfl rfl rb.m.c.ok Tryz.underlying29 Tryz.sizeOf51 rfl (by omega)) (pE' (v := (aG (t3L (SA.getD i ((0, 0, 0) : Nat × Nat × Nat))))) rfl (ex_load_rowR_agg (vs := t3L (SA.getD i ((0, 0, 0) : Nat × Nat × Nat))) (i := 3) rfl rfl (RowOk.ne rb.m.c.ok (by omega)) tA51 (rowsL_get t3L_len _ _ _ (by omega)) (t3L_len _)) (pE' (v := (Value.bool false)) rfl (ex_neq_agg_f rfl rfl Tryz.eqGuardType51 (eqB_side_t (a := SA.getD i ((0, 0, 0) : Nat × Nat × Nat)) (b := SA.getD i ((0, 0, 0) : Nat × Nat × Nat)) 9998 rfl)) (OkE.nil (OkQ.subF (sL [10, 13, 17, 142] rfl) ?_)))))
    refine OkQ.then_ (OkC.cond_false rfl (OkC.skip (OkQ.in_normal (OkQ.then_ (OkC.region ?_)))))
    exact mv' rfl (st' (ex_add (c := ((i + 1 : Nat) : Int)) rfl rfl (addN_i64 (a := i) (b := 1) (by omega))) rfl (asg' rfl (OkL.nil (OkQ.subF (sL [10, 13, 17] rfl) (OkQ.round1 (i + 1) (by omega) (by omega) (sF rfl) sr)))))
   ·replace hc4 := of_decide_eq_false hc4
    refine OkC.exit (OkQ.then_exit (OkQ.round1_exit (OkQ.in_exit (q1 (q4 ?_)))))
    refine asg' rfl (OkL.nil (OkQ.then_ (OkC.block ?_)))
    refine OkC.lp1 (tg fun (q : Nat) => q ≤ TA.length) (tg fun (q : Nat) => [(10, (pP b4 0)), (13, (pP b5 0)), (18, (vN q))]) (tg fun (q : Nat) => [blk b5 31 (mxL rb.m), rowR rb.m.a.p (rowsL ptL PA), rowR rb.m.b.p (rowsL t3L TB), rowR rb.m.c.p (rowsL t3L SA), rowR rb.q.p (inL (parN us.length)), blk b4 31 (mxL ra.m), rowR ra.m.a.p (rowsL ptL PA), rowR ra.m.b.p (rowsL t3L TA), rowR ra.m.c.p (rowsL t3L SA), rowR ra.q.p (inL (parN g.ts.length)), blk b3 31 ([(Value.slice cp.a.p g.ps.length g.ps.length), (Value.slice cp.b.p g.ts.length g.ts.length), (Value.slice cp.c.p g.ss.length g.ss.length)]), rowR cp.c.p (rowsL t3L g.ss), rowR cp.b.p (rowsL t3L us), rowR cp.a.p (rowsL ptL g.ps), blk b2 31 (mxL g.mx), rowR g.mx.a.p (rowsL ptL g.ps), rowR g.mx.b.p (rowsL t3L g.ts), rowR g.mx.c.p (rowsL t3L g.ss), blk b1 26 (mqL m), rowR m.p (bytL m.cs)]) (tg fun (q : Nat) => TA.length - q) 0 (Nat.zero_le _) (sF rfl) sr (fun q hJ => ?_)
    have hql := hJ
    refine OkC.seq (q4 (mv' rfl (st' (v := (pP b4 1)) (ex_fieldAddr rfl Tryz.underlying31 rfl Tryz.sizeOf28 rfl) rfl (ldO' 5 (Value.slice ra.m.b.p TA.length ra.m.b.c) tO28 rfl (st' (v := (vN TA.length)) (ex_len_slice rfl Tryz.underlying28) rfl ?_)))))
    refine st' (ex_lss (c := (decide (q < TA.length))) rfl rfl (ltN (a := q) (b := TA.length))) rfl (OkL.nil (OkQ.subF (sL [10, 13, 18, 147] rfl) (OkQ.then_ ?_)))
    refine OkC.cond rfl (fun hc6 => ?_) (fun hc6 => ?_)
    ·replace hc6 := of_decide_eq_true hc6
     obtain ⟨A, hA⟩ : ∃ a, a = TA.getD q (0, 0, 0) := ⟨_, rfl⟩
     refine OkC.skip (q1 (OkC.block (q4 (asg' rfl (OkL.nil ?_)))))
     refine q1 (q4 (mv' rfl (mv' rfl (st' (ex_rem (c := ((q % 4 : Nat) : Int)) rfl rfl (by omega) (remN (a := q) (b := 4))) rfl (st' (ex_sub (c := ((q - (q % 4) : Nat) : Int)) rfl rfl (subN_i64 (a := q) (b := q % 4) (by omega) (by omega))) rfl ?_)))))
     refine asg' rfl (OkL.nil (OkQ.subF (sL [10, 13, 18, 19, 20] rfl) (OkQ.then_ (OkC.block ?_))))
     refine OkC.lp2 (tg fun (j : Nat) (fd : Bool) => j ≤ 4 ∧ fd = fdT A TB (q - q % 4) j) (tg fun (j : Nat) (fd : Bool) => [(10, (pP b4 0)), (13, (pP b5 0)), (18, (vN q)), (20, (vN (q - q % 4 + j))), (19, (Value.bool fd))]) (tg fun (j : Nat) (fd : Bool) => [blk b5 31 (mxL rb.m), rowR rb.m.a.p (rowsL ptL PA), rowR rb.m.b.p (rowsL t3L TB), rowR rb.m.c.p (rowsL t3L SA), rowR rb.q.p (inL (parN us.length)), blk b4 31 (mxL ra.m), rowR ra.m.a.p (rowsL ptL PA), rowR ra.m.b.p (rowsL t3L TA), rowR ra.m.c.p (rowsL t3L SA), rowR ra.q.p (inL (parN g.ts.length)), blk b3 31 ([(Value.slice cp.a.p g.ps.length g.ps.length), (Value.slice cp.b.p g.ts.length g.ts.length), (Value.slice cp.c.p g.ss.length g.ss.length)]), rowR cp.c.p (rowsL t3L g.ss), rowR cp.b.p (rowsL t3L us), rowR cp.a.p (rowsL ptL g.ps), blk b2 31 (mxL g.mx), rowR g.mx.a.p (rowsL ptL g.ps), rowR g.mx.b.p (rowsL t3L g.ts), rowR g.mx.c.p (rowsL t3L g.ss), blk b1 26 (mqL m), rowR m.p (bytL m.cs)]) (tg fun (j : Nat) (fd : Bool) => 4 - j) 0 false (⟨Nat.zero_le _, rfl⟩) (sF rfl) sr (fun j fd hJ => ?_)
     obtain ⟨hj, hfd⟩ := hJ
     refine OkC.seq (q4 (mv' rfl (mv' rfl (mv' rfl (st' (ex_rem (c := ((q % 4 : Nat) : Int)) rfl rfl (by omega) (remN (a := q) (b := 4))) rfl ?_)))))
     refine st' (ex_sub (c := ((q - (q % 4) : Nat) : Int)) rfl rfl (subN_i64 (a := q) (b := q % 4) (by omega) (by omega))) rfl (st' (ex_add (c := (((q - (q % 4)) + 4 : Nat) : Int)) rfl rfl (addN_i64 (a := q - (q % 4)) (b := 4) (by omega))) rfl (st' (ex_lss (c := (decide ((q - q % 4 + j) < ((q - (q % 4)) + 4)))) rfl rfl (ltN (a := q - q % 4 + j) (b := (q - (q % 4)) + 4))) rfl (OkL.nil (OkQ.subF (sL [10, 13, 18, 20, 19, 160] rfl) (OkQ.then_ ?_)))))
     refine OkC.cond rfl (fun hc7 => ?_) (fun hc7 => ?_)
     ·replace hc7 := of_decide_eq_true hc7
      obtain ⟨B, hB⟩ : ∃ a, a = TB.getD (q - q % 4 + j) (0, 0, 0) := ⟨_, rfl⟩
      refine OkC.skip (q1 (OkC.block (q4 (asg' rfl (OkL.nil ?_)))))
      refine q1 (q4 (asg' rfl (OkL.nil (OkQ.then_ (OkC.block ?_)))))
      refine OkC.lp2 (tg fun (i : Nat) (sm : Nat) => i ≤ 9 ∧ sm = smT A B i) (tg fun (i : Nat) (sm : Nat) => [(10, (pP b4 0)), (13, (pP b5 0)), (18, (vN q)), (20, (vN (q - q % 4 + j))), (19, (Value.bool fd)), (22, (vN i)), (21, (vN sm))]) (tg fun (i : Nat) (sm : Nat) => [blk b5 31 (mxL rb.m), rowR rb.m.a.p (rowsL ptL PA), rowR rb.m.b.p (rowsL t3L TB), rowR rb.m.c.p (rowsL t3L SA), rowR rb.q.p (inL (parN us.length)), blk b4 31 (mxL ra.m), rowR ra.m.a.p (rowsL ptL PA), rowR ra.m.b.p (rowsL t3L TA), rowR ra.m.c.p (rowsL t3L SA), rowR ra.q.p (inL (parN g.ts.length)), blk b3 31 ([(Value.slice cp.a.p g.ps.length g.ps.length), (Value.slice cp.b.p g.ts.length g.ts.length), (Value.slice cp.c.p g.ss.length g.ss.length)]), rowR cp.c.p (rowsL t3L g.ss), rowR cp.b.p (rowsL t3L us), rowR cp.a.p (rowsL ptL g.ps), blk b2 31 (mxL g.mx), rowR g.mx.a.p (rowsL ptL g.ps), rowR g.mx.b.p (rowsL t3L g.ts), rowR g.mx.c.p (rowsL t3L g.ss), blk b1 26 (mqL m), rowR m.p (bytL m.cs)]) (tg fun (i : Nat) (sm : Nat) => 9 - i) 0 0 (⟨Nat.zero_le _, rfl⟩) (sF rfl) sr (fun i sm hJ => ?_)
      obtain ⟨hi9, hsm⟩ := hJ
      have hsl9 := smT_le (A := A) (B := B) i
      refine OkC.seq (q4 (mv' rfl (st' (ex_lss (c := (decide (i < 9))) rfl rfl (ltN (a := i) (b := 9))) rfl (OkL.nil (OkQ.subF (sL [10, 13, 18, 20, 19, 22, 21, 164] rfl) ?_)))))
      refine OkQ.then_ ?_
      refine OkC.cond rfl (fun hc8 => ?_) (fun hc8 => ?_)
      ·replace hc8 := of_decide_eq_true hc8
       refine OkC.skip (q1 (OkC.block (OkC.seq (rG' [(0, true), (1, true), (2, true), (3, true), (4, true), (5, true), (6, true), (7, true), (8, true), (9, true), (10, true), (11, true), (12, true), (13, true), (14, true), (15, true), (16, true)] sr (pE' (v := (pP b4 1)) rfl (ex_fieldAddr rfl Tryz.underlying31 rfl Tryz.sizeOf28 rfl) ?_)))))
       refine pO'' 5 (Value.slice ra.m.b.p TA.length ra.m.b.c) tO28 rfl (pM' rfl (pM' rfl (pE' rfl (ex_rem (c := ((i % 3 : Nat) : Int)) rfl rfl (by omega) (remN (a := i) (b := 3))) (pE' (v := (pP (pB ra.m.b.p) (pO ra.m.b.p + q * 3))) rfl (ex_index_row (j := q) rfl rfl ra.m.b.ok Tryz.underlying28 Tryz.sizeOf34 rfl (by omega)) (pE' (v := (pP (pB ra.m.b.p) (pO ra.m.b.p + (q * 3 + (i % 3))))) rfl (ex_indexAddr_array (j := i % 3) rfl rfl Tryz.underlying34 Tryz.sizeOf3 rfl (by omega) (by rw [Nat.mul_one]; exact Nat.add_assoc _ _ _)) ?_)))))
       refine pE' rfl (ex_load_rowR_one (v := (vN (crT (TA.getD q ((0, 0, 0) : Nat × Nat × Nat)) (i % 3)))) (i := 7) rfl rfl (RowOk.ne ra.m.b.ok (by omega)) tO3 (rowsL_at t3L_len ((0, 0, 0) : Nat × Nat × Nat) _ _ (i % 3) (by omega) (by omega) (t3_at (by omega)))) (pE' (v := (pP b5 1)) rfl (ex_fieldAddr rfl Tryz.underlying31 rfl Tryz.sizeOf28 rfl) (pO'' 0 (Value.slice rb.m.b.p TB.length rb.m.b.c) tO28 rfl (pM' rfl (pM' rfl (pE' rfl (ex_quo (c := ((i / 3 : Nat) : Int)) rfl rfl (by omega) (quoN_i64 (a := i) (b := 3) (by omega))) ?_)))))
       refine pE' (v := (pP (pB rb.m.b.p) (pO rb.m.b.p + (q - q % 4 + j) * 3))) rfl (ex_index_row (j := q - q % 4 + j) rfl rfl rb.m.b.ok Tryz.underlying28 Tryz.sizeOf34 rfl (by omega)) (pE' (v := (pP (pB rb.m.b.p) (pO rb.m.b.p + ((q - q % 4 + j) * 3 + (i / 3))))) rfl (ex_indexAddr_array (j := i / 3) rfl rfl Tryz.underlying34 Tryz.sizeOf3 rfl (by omega) (by rw [Nat.mul_one]; exact Nat.add_assoc _ _ _)) (pE' rfl (ex_load_rowR_one (v := (vN (crT (TB.getD (q - q % 4 + j) ((0, 0, 0) : Nat × Nat × Nat)) (i / 3)))) (i := 2) rfl rfl (RowOk.ne rb.m.b.ok (by omega)) tO3 (rowsL_at t3L_len ((0, 0, 0) : Nat × Nat × Nat) _ _ (i / 3) (by omega) (by omega) (t3_at (by omega)))) (pE' rfl (ex_eql (c := (decide ((crT (TA.getD q ((0, 0, 0) : Nat × Nat × Nat)) (i % 3)) = (crT (TB.getD (q - q % 4 + j) ((0, 0, 0) : Nat × Nat × Nat)) (i / 3))))) rfl rfl (eqN (a := crT (TA.getD q ((0, 0, 0) : Nat × Nat × Nat)) (i % 3)) (b := crT (TB.getD (q - q % 4 + j) ((0, 0, 0) : Nat × Nat × Nat)) (i / 3)))) (OkE.nil (OkQ.subF (sL [10, 13, 18, 20, 19, 22, 21, 183] rfl) ?_)))))
       refine OkQ.then_ ?_
       refine OkC.cond rfl (fun hc9 => ?_) (fun hc9 => ?_)
       ·replace hc9 := of_decide_eq_true hc9
        refine OkC.region (mv' rfl (st' (ex_add (c := ((sm + 1 : Nat) : Int)) rfl rfl (addN_i64 (a := sm) (b := 1) (by omega))) rfl (asg' rfl (OkL.nil (OkQ.subF (sL [10, 13, 18, 20, 19, 22, 21] rfl) ?_)))))
        refine OkQ.in_normal (OkQ.then_ (OkC.region (mv' rfl (st' (ex_add (c := ((i + 1 : Nat) : Int)) rfl rfl (addN_i64 (a := i) (b := 1) (by omega))) rfl (asg' rfl ?_)))))
        exact OkL.nil (OkQ.subF (sL [10, 13, 18, 20, 19, 22, 21] rfl) (OkQ.round2 (i + 1) (sm + 1) (⟨by omega, by rw [hsm]; exact (smT_yes (by rw [hA, hB]; exact hc9)).symm⟩) (by omega) (sF rfl) sr))
       ·replace hc9 := of_decide_eq_false hc9
        refine OkC.skip (OkQ.in_normal (OkQ.then_ (OkC.region (mv' rfl (st' (ex_add (c := ((i + 1 : Nat) : Int)) rfl rfl (addN_i64 (a := i) (b := 1) (by omega))) rfl ?_)))))
        exact asg' rfl (OkL.nil (OkQ.subF (sL [10, 13, 18, 20, 19, 22, 21] rfl) (OkQ.round2 (i + 1) sm (⟨by omega, by rw [hsm]; exact (smT_no (by rw [hA, hB]; exact hc9)).symm⟩) (by omega) (sF rfl) sr)))
      ·replace hc8 := of_decide_eq_false hc8
       have hie : i = 9 := by omega
       refine OkC.exit (OkQ.then_exit (OkQ.round2_exit (OkQ.in_exit (OkQ.then_ (OkC.region ?_)))))
       refine mv' rfl (mv' rfl ?_)
       refine OkL.mid (FM := [(10, (pP b4 0)), (13, (pP b5 0)), (18, (vN q)), (20, (vN (q - q % 4 + j))), (19, (Value.bool fd)), (22, (vN i)), (21, (vN sm)), (186, (Value.bool fd)), (187, (Value.bool fd)), (190, (Value.bool (fd || (decide (sm = 3)))))]) (LM := [blk b5 31 (mxL rb.m), rowR rb.m.a.p (rowsL ptL PA), rowR rb.m.b.p (rowsL t3L TB), rowR rb.m.c.p (rowsL t3L SA), rowR rb.q.p (inL (parN us.length)), blk b4 31 (mxL ra.m), rowR ra.m.a.p (rowsL ptL PA), rowR ra.m.b.p (rowsL t3L TA), rowR ra.m.c.p (rowsL t3L SA), rowR ra.q.p (inL (parN g.ts.length)), blk b3 31 ([(Value.slice cp.a.p g.ps.length g.ps.length), (Value.slice cp.b.p g.ts.length g.ts.length), (Value.slice cp.c.p g.ss.length g.ss.length)]), rowR cp.c.p (rowsL t3L g.ss), rowR cp.b.p (rowsL t3L us), rowR cp.a.p (rowsL ptL g.ps), blk b2 31 (mxL g.mx), rowR g.mx.a.p (rowsL ptL g.ps), rowR g.mx.b.p (rowsL t3L g.ts), rowR g.mx.c.p (rowsL t3L g.ss), blk b1 26 (mqL m), rowR m.p (bytL m.cs)]) 3 ?_ ?_
       ·rcases Bool.eq_false_or_eq_true fd with hg1 | hg1
        ·skip
         refine OkL.retell (k := 187) (u := Value.bool true) rfl (by rw [hg1]) ?_
         have hg1' := hg1
         skip
         exact OkL.skip (wt_not' rfl) rfl (leB rfl) (OkL.skip (wt_not' rfl) rfl (leB rfl) (st' (v := (Value.bool true)) (ex_pick_true rfl rfl) rfl (OkL.nil (OkQ.mid (sS rfl (sS rfl (sS rfl (sS rfl (sS rfl (sS rfl (sS rfl (sS rfl (sS (by first | rfl | (rw [hg1]; rfl) | rw [hg1]) (sS (by first | rfl | (rw [hg1]; rfl) | rw [hg1]) (sN))))))))))) (List.Sublist.refl _)))))
        ·skip
         refine OkL.retell (k := 187) (u := Value.bool false) rfl (by rw [hg1]) ?_
         have hg1' := hg1
         skip
         exact OkL.step (v := (vN sm)) (wt_some' rfl) (ex_move rfl) rfl (leB rfl) (OkL.step (v := (Value.bool (decide (sm = 3)))) (wt_some' rfl) (ex_eql (c := (decide (sm = 3))) rfl rfl (eqN (a := sm) (b := 3))) rfl (leB rfl) (st' (v := (Value.bool (decide (sm = 3)))) (ex_pick_false rfl rfl) rfl (OkL.nil (OkQ.mid (sS rfl (sS rfl (sS rfl (sS rfl (sS rfl (sS rfl (sS rfl (sS rfl (sS (by first | rfl | (rw [hg1]; rfl) | rw [hg1]) (sS (by first | rfl | (rw [hg1]; rfl) | rw [hg1]) (sN))))))))))) (List.Sublist.refl _)))))
       refine asg' rfl (OkL.nil (OkQ.subF (sL [10, 13, 18, 20, 19, 22, 21] rfl) (OkQ.in_normal (OkQ.then_ (OkC.region ?_)))))
       refine mv' rfl (st' (ex_add (c := (((q - q % 4 + j) + 1 : Nat) : Int)) rfl rfl (addN_i64 (a := q - q % 4 + j) (b := 1) (by omega))) rfl (asg' rfl (OkL.nil (OkQ.subF (sL [10, 13, 18, 20, 19, 22, 21] rfl) ?_))))
       rw [show q - q % 4 + j + 1 = q - q % 4 + (j + 1) from rfl]
       exact OkQ.round2 (j + 1) (fd || (decide (sm = 3))) (⟨by omega, by rw [hfd, hsm, hie, hB]; rfl⟩) (by omega) (sF rfl) sr
     ·replace hc7 := of_decide_eq_false hc7
      have hfdt : fd = true := by rw [hfd, show j = 4 by omega, hA]; exact hfnd q (by omega)
      refine OkC.exit (OkQ.then_exit (OkQ.round2_exit (OkQ.in_exit (q2 (mv' rfl ?_)))))
      refine st' (ex_not (c := false) rfl (by rw [hfdt]; rfl)) rfl (OkL.nil (OkQ.subF (sL [10, 13, 18, 20, 19, 192] rfl) (OkQ.then_ (OkC.cond_false rfl (OkC.skip ?_)))))
      refine OkQ.in_normal (OkQ.then_ (OkC.region (mv' rfl (st' (ex_add (c := ((q + 1 : Nat) : Int)) rfl rfl (addN_i64 (a := q) (b := 1) (by omega))) rfl (asg' rfl ?_)))))
      exact OkL.nil (OkQ.subF (sL [10, 13, 18, 20, 19] rfl) (OkQ.round1 (q + 1) (by omega) (by omega) (sF rfl) sr))
    ·replace hc6 := of_decide_eq_false hc6
     refine OkC.exit (OkQ.then_exit (OkQ.round1_exit (OkQ.in_exit (q2 (ck' Tryz.call16 (lives28_ok) rfl ?_)))))
     exact asg' rfl (OkL.nil (OkQ.subF (sL [10, 13, 18, 4] rfl) (OkQ.then_ (OkC.ret (ret_one rfl (rd_tmp (v := (Value.bool true)) rfl) (fun w hw => ⟨rfl, hw.out⟩))))))
end
section
open Go Go.RowKit Go.ChangeShapes Go.WideShapes Go.ChangeAt
theorem laidOut : laidOutB Tryz.prog = true := by kernel_rfl
theorem ownKnob0 : ownKnob Tryz.prog.godebug = none := by kernel_rfl
theorem trodAll_stays {H : Type} {enc : TypeId × Value → H} {P : Program} (hl : laidOutB P = true) {W W' : World} {sp : Nat → Bool} (hb : Bel W.heap.size W W') :
    ∀ {ts : List TypeId} {vs : List Value} {ds : List (DataW H)} {ps : List MemPlace}, (∀ t ∈ ts, P.readableRec t = true ∧ t < P.types.size) → DataW.TrodAll enc P W 0 (fun _ => true) true ts vs ds ps →
      (∀ p ∈ ps, p.block < W.heap.size) → (∀ p ∈ ps, sp p.block = true) → DataW.TrodAll enc P W' 0 sp true ts vs ds ps
  | [], _, _, _, _, h, _, _ => by
    obtain ⟨rfl, rfl, rfl⟩ := trodAll_nil h
    exact trodAll_mk0
  | t :: ts, _, _, _, hr, h, hlt, hs => by
    obtain ⟨v, vs1, d, ds1, a, b, rfl, rfl, rfl, h1, h2⟩ := trodAll_cons h
    exact ⟨a, b, WideElems.Trod_stays hl (hr t (by simp)).1 (hr t (by simp)).2 h1 (fun x hx => hb.same (hlt x (by simp [hx]))) (fun x hx => hs x (by simp [hx])),
      trodAll_stays hl hb (fun u hu => hr u (by simp [hu])) h2 (fun p hp => hlt p (by simp [hp])) (fun p hp => hs p (by simp [hp])), rfl⟩
theorem law_post {H : Type} {enc : TypeId × Value → H} {P : Program} {f : Func} {s : ChangeSpec} {apart fresh handsOn again : Bool} {W W' : World} {args : Array Value} {ds : List (DataW H)} {before : List MemPlace} {tb : TypeId}
    (hW : DataW.Whole enc P f.params.toList s.vars apart W args.toList ds [] before) (hv : s.vars = []) (hfn : s.fn H ds = ({ results := [.lit (.bool true)], args := ds } : Left H))
    (hrt : f.resultTypes = #[tb]) (hu : P.underlying tb = some .bool) (hb : Bel W.heap.size W W') (hl : laidOutB P = true) (hr : ∀ t ∈ f.params.toList, P.readableRec t = true ∧ t < P.types.size) :
    s.post enc P f apart fresh handsOn again W args (.bool true) W' := by
  have hlt : ∀ p ∈ before, p.block < W.heap.size := fun p hp => hW.lt p hp
  have hW2 := hW
  obtain ⟨pa, q, hA, hV, he, hz, hn⟩ := hW2
  rw [hv] at hV
  obtain ⟨_, rfl⟩ := trodVars_none hV
  simp only [List.append_nil] at he
  subst he
  have hres : ∀ (b : Nat) (sp : Nat → Bool) (hd : Bool), DataW.TrodAll enc P W' b sp hd f.resultTypes.toList ((Value.bool true).resultList f.resultTypes.size) (s.fn H (ds ++ [])).results [] := fun b sp hd => by
    rw [hrt, List.append_nil, hfn]
    exact trodAll_mk1 (shut_bool hu _)
  have hargs : ∀ sp : Nat → Bool, (∀ p ∈ before, sp p.block = true) → DataW.TrodAll enc P W' 0 sp true f.params.toList args.toList (s.fn H (ds ++ [])).args before := fun sp hs => by
    rw [List.append_nil, hfn]
    exact trodAll_stays hl hb hr hA hlt hs
  have hvars : ∀ sp : Nat → Bool, DataW.TrodVars enc P W' sp s.vars (s.fn H (ds ++ [])).vars [] := fun sp => by
    rw [List.append_nil, hfn, hv]; rfl
  have hold : ∀ p ∈ before, (fun b => decide (b < W.heap.size)) p.block = true := fun p hp => by simpa using hlt p hp
  refine ⟨ds, [], before, [], before, [], hW, hres _ _ _, hargs _ hold, hvars _, World.keptBut_mono (fun p hp => ⟨hp, Or.inr (by simpa using hp)⟩) (hb.frame (· ∈ before)), fun _ => ⟨?_, _, _, ([] ++ before) ++ [], ⟨[] ++ before, [], trodAll_append (hargs _ (fun _ _ => rfl)) (hres _ _ _), hvars _, rfl, ?_, ?_⟩, ?_⟩⟩
  · exact ok_one hrt rfl (okWide_bool_mk hu _)
  · intro b off hp
    have hp' : MemPlace.cell b off ∈ before := by simpa using hp
    rw [hb.frozen (hlt _ hp')]
    exact hz b off hp'
  · intro ha
    have := hn ha
    simpa using this
  · intro p hp _
    simpa using hp
end
end Go.Proofs.YtaahheddmfddhaaGreat
