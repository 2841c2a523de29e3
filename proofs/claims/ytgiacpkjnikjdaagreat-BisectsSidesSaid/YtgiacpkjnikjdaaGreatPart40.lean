import Derived.Test.YtgiacpkjnikjdaaGreatPart34
import Derived.Test.YtgiacpkjnikjdaaGreatPart36
import Derived.Test.YtgiacpkjnikjdaaGreatPart38
import Derived.Test.YtgiacpkjnikjdaaGreatPart39
namespace Go.Proofs.YtgiacpkjnikjdaaGreat
open Go Go.RowKit
set_option linter.unusedVariables false
set_option linter.unusedSimpArgs false
section
set_option maxRecDepth 100000
theorem inr_ok {ps : List Pt} {ts ss : List T3} (x : MX ps ts ss) (bo : BX (mxL x)) (z : Int) (hz0 : 0 ≤ z) (hz1 : z < (ts.length : Int)) (w : World) {S : Nat → Prop} (hbo : Ro S w bo) : Calls Tryz.prog 50 #[(vI z), (pP bo.b 0)] w (Gives w (Value.bool false)) := by
 have lbo := atA (W := w) hbo
 refine calls_ofR (args := [(vI z), (pP bo.b 0)]) (L := [rowR (some ⟨bo.b, 0, none⟩) (mxL x)]) Tryz.func50 rfl rfl (leB rfl) (sxA hbo roL_nil) (OkC.subF (sL [0, 1] rfl) (q4 (asg' rfl (OkL.nil (q2 ?_)))))
 refine mv' rfl (st' (ex_lss (c := false) rfl rfl (decide_eq_false (by omega))) rfl (mv' rfl (OkL.step (v := (vI z)) (wt_some' rfl) (ex_move rfl) rfl (leB rfl) (OkL.step (v := (pP bo.b 1)) (wt_some' rfl) (ex_fieldAddr rfl Tryz.underlying31 rfl Tryz.sizeOf28 rfl) rfl (leB rfl) (OkL.step (v := (Value.slice x.b.p ts.length x.b.c)) (wt_some' rfl) (ex_load_rowR_one (q := some ⟨bo.b, 0, none⟩) (v := (Value.slice x.b.p ts.length x.b.c)) (off := 1) (i := 0) rfl rfl (fun e => by cases e) tO28 rfl) rfl (leB rfl) ?_)))))
 refine OkL.step (v := (vN ts.length)) (wt_some' rfl) (ex_len_slice rfl Tryz.underlying28) rfl (leB rfl) (OkL.step (v := (Value.bool false)) (wt_some' rfl) (ex_geq (c := false) rfl rfl (decide_eq_false (by omega))) rfl (leB rfl) (st' (v := (Value.bool false)) (ex_pick_false rfl rfl) rfl (asg' rfl (OkL.nil (OkQ.subF (sL [3] rfl) ?_)))))
 exact OkQ.then_ (OkC.ret (ret_one rfl (rd_tmp (v := (Value.bool false)) rfl) (fun w hw => ⟨rfl, hw.out⟩)))
theorem inrI_ok {ps : List Pt} {ts ss : List T3} (x : MX ps ts ss) (bo : BX (mxL x)) (ms : List Int) (y : RX (zL ms) ms.length) (hml : ms.length ≤ 1000000) (hv : ∀ j, j < ms.length → 0 ≤ ms.getD j 0 ∧ ms.getD j 0 < (ts.length : Int)) (w : World) {S : Nat → Prop} (hbo : Ro S w bo) (hy : Ro S w y) : Calls Tryz.prog 110 #[(Value.slice y.p ms.length y.c), (Value.func (.func 50) #[] #[(pP bo.b 0)])] w (Gives w (vI (-1 : Int))) := by
 have lbo := atA (W := w) hbo
 have ly := atA (W := w) hy
 refine calls_ofR (args := [(Value.slice y.p ms.length y.c), (Value.func (.func 50) #[] #[(pP bo.b 0)])]) (L := [rowR (some ⟨bo.b, 0, none⟩) (mxL x), rowR y.p (zL ms)]) Tryz.func110 rfl rfl (leB rfl) (sxA hbo (sxA hy roL_nil)) (OkC.subF (sL [0, 1] rfl) (q4 (asg' rfl (OkL.nil (q1 ?_)))))
 refine q4 (mv' rfl (st' (v := (vN ms.length)) (ex_len_slice rfl Tryz.underlying34) rfl (mv' rfl (OkL.nil (OkQ.subF (sL [0, 1, 4, 7, 8] rfl) ?_)))))
 refine OkQ.then_ (OkC.block ?_)
 refine OkC.lp1 (tg fun (j : Nat) => j ≤ ms.length) (tg fun (j : Nat) => [(0, (Value.slice y.p ms.length y.c)), (1, (Value.func (.func 50) #[] #[(pP bo.b 0)])), (7, (vN ms.length)), (8, (vN j))]) (tg fun (j : Nat) => [rowR (some ⟨bo.b, 0, none⟩) (mxL x), rowR y.p (zL ms)]) (tg fun (j : Nat) => ms.length - j) 0 (Nat.zero_le _) (sF rfl) sr (fun j hJ => ?_)
 have hj := hJ
 refine q4 (st' (ex_lss (c := (decide (j < ms.length))) rfl rfl (ltN (a := j) (b := ms.length))) rfl (OkL.nil (q1 ?_)))
 refine OkC.cond rfl (fun hc0 => ?_) (fun hc0 => ?_)
 ·replace hc0 := of_decide_eq_true hc0
  refine OkC.skip (q1 (OkC.block (q4 (mv' rfl (asg' rfl ?_)))))
  refine q3 (sL [0, 1, 7, 8, 5] rfl) (mv' rfl (mv' rfl (mv' rfl (st' (v := (pP (pB y.p) (pO y.p + j * 1))) (ex_index_row (j := j) rfl rfl y.ok Tryz.underlying34 Tryz.sizeOf3 rfl (by omega)) rfl (st' (ex_load_rowR_one (v := (vI (ms.getD j 0))) (i := 1) rfl rfl (y.ok.ne (by omega)) tO3 (zL_get (l := ms) (j := j) (by omega))) rfl ?_)))))
  refine OkL.call (v := (Value.bool false)) (wt_none rfl) (op_call (args := [(vI (ms.getD j 0))]) (caps := [(pP bo.b 0)]) (all := [(vI (ms.getD j 0)), (pP bo.b 0)]) rfl rfl rfl Tryz.call50) (fun w hw => inr_ok x bo (ms.getD j 0) (hv j (by omega)).1 (hv j (by omega)).2 w (inS hw 0 rfl lbo)) rfl (leB rfl) (OkL.nil (OkQ.subF (sL [0, 1, 7, 8, 5, 16] rfl) (OkQ.then_ (OkC.cond_false rfl (OkC.skip ?_)))))
  refine OkQ.in_normal (OkQ.then_ (OkC.region (st' (ex_add (c := ((j + 1 : Nat) : Int)) rfl rfl (addN_i64 (a := j) (b := 1) (by omega))) rfl (mv' rfl (OkL.nil ?_)))))
  exact OkQ.subF (sL [0, 1, 7, 8, 5] rfl) (OkQ.round1 (j + 1) (by omega) (by omega) (sF rfl) sr)
 ·replace hc0 := of_decide_eq_false hc0
  refine OkC.exit (OkQ.then_exit (OkQ.round1_exit (OkQ.in_exit (q2 (asg' rfl ?_)))))
  exact OkL.nil (OkQ.then_ (OkC.ret (ret_one rfl (rd_tmp (v := (vI (-1 : Int))) rfl) (fun w hw => ⟨rfl, hw.out⟩))))
theorem inrC_ok {ps : List Pt} {ts ss : List T3} (x : MX ps ts ss) (bo : BX (mxL x)) (ms : List Int) (y : RX (zL ms) ms.length) (hml : ms.length ≤ 1000000) (hv : ∀ j, j < ms.length → 0 ≤ ms.getD j 0 ∧ ms.getD j 0 < (ts.length : Int)) (w : World) {S : Nat → Prop} (hbo : Ro S w bo) (hy : Ro S w y) : Calls Tryz.prog 49 #[(Value.slice y.p ms.length y.c), (Value.func (.func 50) #[] #[(pP bo.b 0)])] w (Gives w (Value.bool false)) := by
 have lbo := atA (W := w) hbo
 have ly := atA (W := w) hy
 refine calls_ofR (args := [(Value.slice y.p ms.length y.c), (Value.func (.func 50) #[] #[(pP bo.b 0)])]) (L := [rowR (some ⟨bo.b, 0, none⟩) (mxL x), rowR y.p (zL ms)]) Tryz.func49 rfl rfl (leB rfl) (sxA hbo (sxA hy roL_nil)) (OkC.subF (sL [0, 1] rfl) (q4 (asg' rfl (OkL.nil (q2 ?_)))))
 refine mv' rfl (mv' rfl (cl' Tryz.call110 (fun w hw => inrI_ok x bo ms y hml hv w (inS hw 0 rfl lbo) (inS hw 1 rfl ly)) rfl (st' (ex_geq (c := false) rfl rfl (by decide)) rfl (asg' rfl (OkL.nil ?_)))))
 exact OkQ.subF (sL [4] rfl) (OkQ.then_ (OkC.ret (ret_one rfl (rd_tmp (v := (Value.bool false)) rfl) (fun w hw => ⟨rfl, hw.out⟩))))
end
section
section
variable {N : Nat} {es : List E4} {T : T3}
theorem midS_some {k : P2} {n : Nat} : ∀ i, getM (midS N es i) k = some n → ∃ j, j < i ∧ kyE (es.getD j E0).a (es.getD j E0).b = k ∧ n = N + j
  | 0, h => by cases h
  | i + 1, h => by
    have h : getM (putM (midS N es i) (kyE (es.getD i E0).a (es.getD i E0).b) (N + i)) k = some n := h
    rw [getM_put] at h
    split at h
    · rename_i e
      injection h with h
      exact ⟨i, by omega, e.symm, h.symm⟩
    · obtain ⟨j, h1, h2, h3⟩ := midS_some i h
      exact ⟨j, by omega, h2, h3⟩
theorem mid_ne {k k' : P2} {n n' i : Nat} (h : getM (midS N es i) k = some n) (h' : getM (midS N es i) k' = some n') (hk : k ≠ k') : n ≠ n' := fun e => by
  obtain ⟨j, _, h1, h2⟩ := midS_some i h
  obtain ⟨j', _, h1', h2'⟩ := midS_some i h'
  have : j = j' := by omega
  subst this
  exact hk (h1.symm.trans h1')
theorem kyE_ne {a b c : Nat} (h1 : a ≠ b) (h2 : b ≠ c) (h3 : c ≠ a) : kyE a b ≠ kyE b c := fun e => by
  unfold kyE at e
  injection e with e1 e2
  omega
theorem kyE_comm (a b : Nat) : kyE a b = kyE b a := by unfold kyE; rw [Nat.min_comm, Nat.max_comm]
def TrN (M : Nat) (t : T3) : Prop := (t.1 < M ∧ t.2.1 < M ∧ t.2.2 < M) ∧ t.1 ≠ t.2.1 ∧ t.2.1 ≠ t.2.2 ∧ t.2.2 ≠ t.1
theorem hv_ok (hT : TrN N T) {t : T3} (ht : t ∈ hvT (midS N es es.length) 2 T) : TrN (N + es.length) t := by
  obtain ⟨⟨a1, a2, a3⟩, d1, d2, d3⟩ := hT
  cases hb : getM (midS N es es.length) (baseK T) with
  | none =>
    rw [hvT_no hb, List.mem_singleton] at ht
    subst ht
    exact ⟨⟨by omega, by omega, by omega⟩, d1, d2, d3⟩
  | some n =>
    rw [hvT_yes hb, List.mem_append] at ht
    obtain ⟨j, hj, hk, hn⟩ := midS_some _ hb
    have one : ∀ {c e : Nat}, c < N → e < N → c ≠ e → kyE c e ≠ baseK T → t ∈ hvT (midS N es es.length) 1 (n, c, e) → TrN (N + es.length) t := fun {c e} hc he hce hne hm => by
      cases hb2 : getM (midS N es es.length) (baseK (n, c, e)) with
      | none =>
        rw [hvT_no hb2, List.mem_singleton] at hm
        subst hm
        exact ⟨⟨by show n < _; omega, by show c < _; omega, by show e < _; omega⟩, by show n ≠ c; omega, hce, by show e ≠ n; omega⟩
      | some n' =>
        rw [hvT_yes hb2] at hm
        obtain ⟨j', hj', _, hn'⟩ := midS_some _ hb2
        have hnn := mid_ne hb2 hb (show baseK (n, c, e) ≠ baseK T from hne)
        have hm : t = (n', n, c) ∨ t = (n', e, n) := by simpa [hvT] using hm
        rcases hm with rfl | rfl
        · exact ⟨⟨by show n' < _; omega, by show n < _; omega, by show c < _; omega⟩, hnn, by show n ≠ c; omega, by show c ≠ n'; omega⟩
        · exact ⟨⟨by show n' < _; omega, by show e < _; omega, by show n < _; omega⟩, by show n' ≠ e; omega, by show e ≠ n; omega, hnn.symm⟩
    rcases ht with ht | ht
    · exact one a1 a2 d1 (by unfold baseK; exact kyE_ne d1 d2 d3) ht
    · exact one a3 a1 d3 (by unfold baseK; exact (kyE_ne d2 d3 d1).symm) ht
theorem sidS_at {ss : List T3} (hb : ∀ j, j < ss.length → (ss.getD j (0, 0, 0)).1 < N ∧ (ss.getD j (0, 0, 0)).2.1 < N) (hd : ∀ i j, i < ss.length → j < ss.length → kyE (ss.getD i (0, 0, 0)).1 (ss.getD i (0, 0, 0)).2.1 = kyE (ss.getD j (0, 0, 0)).1 (ss.getD j (0, 0, 0)).2.1 → i = j) :
    ∀ k, k ≤ ss.length → ∀ j, ss.length - k ≤ j → j < ss.length → getM (sidS N ss k) (kyE (ss.getD j (0, 0, 0)).1 (ss.getD j (0, 0, 0)).2.1) = some (ss.getD j (0, 0, 0)).2.2
  | 0, _, j, h1, h2 => by omega
  | k + 1, hk, j, h1, h2 => by
    rw [← sidS_yes (hb (ss.length - 1 - k) (by omega)), getM_put]
    split
    · rename_i e
      rw [hd _ _ h2 (by omega) e]
    · rename_i e
      refine sidS_at hb hd k (by omega) j ?_ h2
      rcases Nat.lt_or_ge j (ss.length - k) with h3 | h3
      · exact absurd (by rw [show j = ss.length - 1 - k by omega]) e
      · exact h3
end
end
section
section
variable {m : MQ} {ts : List T3} {a b N : Nat}
theorem rowS_mem {s : T3} : ∀ j, s ∈ rowS m ts a j ↔ s.1 = a ∧ a < s.2.1 ∧ s.2.1 < a + 1 + j ∧ cntW ts s.1 s.2.1 ts.length = 1 ∧ s = sidW m s.1 s.2.1
  | 0 => ⟨fun h => (by cases h), fun h => (by omega)⟩
  | j + 1 => by
    show s ∈ rowS m ts a j ++ (if _ then _ else _) ↔ _
    rw [List.mem_append, rowS_mem j]
    constructor
    · rintro (h | h)
      · exact ⟨h.1, h.2.1, by omega, h.2.2.2⟩
      · split at h
        · rename_i hc
          rw [List.mem_singleton] at h
          subst h
          exact ⟨rfl, (by show a < a + 1 + j; omega), (by show a + 1 + j < a + 1 + (j + 1); omega), hc, rfl⟩
        · cases h
    · rintro ⟨h1, h2, h3, h4, h5⟩
      rcases Nat.lt_or_ge s.2.1 (a + 1 + j) with h6 | h6
      · exact .inl ⟨h1, h2, h6, h4, h5⟩
      · have e : s.2.1 = a + 1 + j := by omega
        rw [h1, e] at h4 h5
        rw [if_pos h4]
        exact .inr (List.mem_singleton.2 h5)
theorem sidesW_mem {s : T3} : ∀ A, s ∈ sidesW m ts N A ↔ s.1 < A ∧ s.1 < s.2.1 ∧ s.2.1 < N ∧ cntW ts s.1 s.2.1 ts.length = 1 ∧ s = sidW m s.1 s.2.1
  | 0 => ⟨fun h => (by cases h), fun h => (by omega)⟩
  | A + 1 => by
    show s ∈ sidesW m ts N A ++ rowS m ts A (N - (A + 1)) ↔ _
    rw [List.mem_append, sidesW_mem A, rowS_mem]
    constructor
    · rintro (h | h)
      · exact ⟨by omega, h.2⟩
      · exact ⟨by omega, by omega, by omega, h.2.2.2⟩
    · rintro ⟨h1, h2, h3, h4⟩
      rcases Nat.lt_or_ge s.1 A with h5 | h5
      · exact .inl ⟨h5, h2, h3, h4⟩
      · exact .inr ⟨by omega, by omega, by omega, h4⟩
theorem rowS_sorted : ∀ j, (rowS m ts a j).Pairwise LtS
  | 0 => List.Pairwise.nil
  | j + 1 => by
    show (rowS m ts a j ++ (if _ then _ else _)).Pairwise LtS
    split
    · refine List.pairwise_append.2 ⟨rowS_sorted j, List.pairwise_singleton _ _, fun x hx y hy => ?_⟩
      rw [List.mem_singleton] at hy
      subst hy
      have h := (rowS_mem j).1 hx
      exact .inr ⟨h.1, (by show x.2.1 < a + 1 + j; exact h.2.2.1)⟩
    · rw [List.append_nil]; exact rowS_sorted j
theorem sidesW_sorted : ∀ A, (sidesW m ts N A).Pairwise LtS
  | 0 => List.Pairwise.nil
  | A + 1 => List.pairwise_append.2 ⟨sidesW_sorted A, rowS_sorted _, fun x hx y hy => .inl (by
      have h1 := (sidesW_mem A).1 hx
      have h2 := (rowS_mem _).1 hy
      omega)⟩
theorem kyE_iff {x y : Nat} (hab : a < b) (hxy : x ≠ y) : kyE x y = (a, b) ↔ (x = a ∧ y = b) ∨ (x = b ∧ y = a) := by
  unfold kyE
  rw [Prod.mk.injEq]
  omega
theorem cnt_tri {t : T3} (hab : a < b) (h : t.1 ≠ t.2.1 ∧ t.2.1 ≠ t.2.2 ∧ t.2.2 ≠ t.1) : [kyE t.1 t.2.1, kyE t.2.1 t.2.2, kyE t.2.2 t.1].count (a, b) = if hasT t a = true ∧ hasT t b = true then 1 else 0 := by
  obtain ⟨h1, h2, h3⟩ := h
  simp only [List.count_cons, List.count_nil, beq_iff_eq, kyE_iff hab h1, kyE_iff hab h2, kyE_iff hab h3, hasT, Bool.or_eq_true, decide_eq_true_eq]
  split <;> split <;> split <;> split <;> omega
theorem cntW_eq (hn : numB N ts = true) (hab : a < b) : ∀ i, i ≤ ts.length → cntW ts a b i = ((ts.take i).flatMap fun t => [kyE t.1 t.2.1, kyE t.2.1 t.2.2, kyE t.2.2 t.1]).count (a, b)
  | 0, _ => rfl
  | i + 1, hi => by
    rw [take_snoc (by omega), List.flatMap_append, List.count_append, ← cntW_eq hn hab i (by omega)]
    have h := okT_ne (numB_at hn (show i < ts.length by omega))
    have e := cnt_tri hab h
    show cntW ts a b i + (if _ then 1 else 0) = _
    rw [← e]
    simp [List.flatMap]
theorem cntW_all (hn : numB N ts = true) (hab : a < b) : cntW ts a b ts.length = (allK ts).count (a, b) := by
  rw [cntW_eq hn hab _ (Nat.le_refl _), List.take_length]; rfl
theorem key_ends (hn : numB N ts = true) (hN : N ≤ 4611686018427387904) (h : (a, b) ∈ allK ts) : a < b ∧ b < N := by
  obtain ⟨e, he, rfl, rfl⟩ := (mem_keys hn hN).1 h
  exact edge_ends hn hN he
end
end
section
def hvN (md : List (P2 × Nat)) (ts : List T3) (i : Nat) : List T3 := (ts.take i).flatMap (hvT md 2)
def hvA (md : List (P2 × Nat)) (ts : List T3) : List T3 := ts.flatMap (hvT md 2)
def hpN (md : List (P2 × Nat)) (ts : List T3) : Nat → List Nat
  | 0 => []
  | i + 1 => hpN md ts i ++ rpN (hvT md 2 (ts.getD i (0, 0, 0))).length i
section
variable {md : List (P2 × Nat)} {ts ss : List T3} {i N : Nat} {es : List E4}
theorem hvN_succ (h : i < ts.length) : hvN md ts (i + 1) = hvN md ts i ++ hvT md 2 (ts.getD i (0, 0, 0)) := by
  unfold hvN
  rw [take_succ_getD (d := (0, 0, 0)) h, List.flatMap_append]; simp
theorem hvN_all : hvN md ts ts.length = hvA md ts := by unfold hvN hvA; rw [List.take_length]
theorem hvN_le : ∀ i, i ≤ ts.length → (hvN md ts i).length ≤ 4 * i
  | 0, _ => by simp [hvN]
  | i + 1, h => by
    rw [hvN_succ (by omega), List.length_append]
    have h1 := hvN_le i (by omega)
    have h2 := hvT_len md 2 (ts.getD i (0, 0, 0))
    omega
theorem hvA_le : (hvA md ts).length ≤ 4 * ts.length := by rw [← hvN_all]; exact hvN_le _ (Nat.le_refl _)
theorem hpN_len : ∀ i, i ≤ ts.length → (hpN md ts i).length = (hvN md ts i).length
  | 0, _ => by simp [hvN, hpN]
  | i + 1, h => by
    rw [hvN_succ (by omega), hpN, List.length_append, List.length_append, hpN_len i (by omega)]
    simp [rpN]
theorem trN_of {t : T3} (h : okT N t = true) : TrN N t := ⟨okT_spec h, okT_ne h⟩
theorem okT_trN {t : T3} (h : TrN N t) : okT N t = true := by
  obtain ⟨⟨h1, h2, h3⟩, n1, n2, n3⟩ := h
  simp only [okT, Bool.and_eq_true, Bool.not_eq_true', decide_eq_false_iff_not, decide_eq_true_eq]
  exact ⟨⟨⟨⟨⟨h1, h2⟩, h3⟩, n1⟩, n2⟩, n3⟩
theorem hvA_num (hn : numB N ts = true) : numB (N + es.length) (hvA (midS N es es.length) ts) = true := List.all_eq_true.2 fun c hc => by
  obtain ⟨t, ht, hc⟩ := List.mem_flatMap.1 hc
  exact okT_trN (hv_ok (trN_of (List.all_eq_true.1 hn t ht)) hc)
theorem midS_lt : ∀ i, i ≤ es.length → ∀ k n, getM (midS N es i) k = some n → n < N + es.length := fun i hi k n h => by
  obtain ⟨j, h1, _, h3⟩ := midS_some i h
  omega
end
structure BsX (ps : List Pt) (ts ss : List T3) (ms : List Int) where
  l : List E4
  p : E4 → Bool
  el : l = (edL ts).filter p
  all : ∀ e, p e = true ↔ Clo ts (MkK ts ms) (e.a, e.b)
  x : RdX (halP ps l) (hvA (midS ps.length l l.length) ts) (halX ps.length ss l (hvA (midS ps.length l l.length) ts)) (hpN (midS ps.length l l.length) ts ts.length) 0
instance {ps : List Pt} {ts ss : List T3} {ms : List Int} : Ref (BsX ps ts ss ms) := ⟨fun b => Ref.val b.x, fun b => Ref.rows b.x, fun b y hy => Ref.ro b.x y hy⟩
theorem retRdC {S : Nat → Prop} {W w : World} {L : List As} {ps : List Pt} {ts ss : List T3} {l : List Nat} {e : Nat} (hw : Own ⟨W, none⟩ w L) {x : MX ps ts ss} (h : Ro (SL ⟨W, none⟩ S L) w x) (i : Nat) {q : Option Addr} {T n c : Nat} (hi : L[i]? = some (rowW q T 1 n c (inL l))) (ho : OwnOk q n c) (hl : n = l.length) {v : Value} (hv : v = .tuple #[aG (mxL x), .slice q n n, vN e]) : GivesR (RdX ps ts ss l e) S W (.returned v) w := by
  subst hl
  refine ⟨⟨x, ⟨q, l.length, ho.clip⟩⟩, by rw [hv]; rfl, hw.out, fun y hy => ?_⟩
  have hy : y ∈ [x.a.row, x.b.row, x.c.row] ++ [rowR q (inL l)] := hy
  rcases List.mem_append.1 hy with hy | hy
  · have h1 := h y hy
    exact ⟨h1.1, fun b e => (h1.2 b e).2⟩
  · rcases List.mem_singleton.1 hy with rfl
    exact own_row hw i hi ho (by rw [inL_length, Nat.mul_one])
theorem giveBs {S : Nat → Prop} {W w : World} {ps : List Pt} {ts ss : List T3} {ms : List Int} {e : Ending} (u : DX ts ms) (h : GivesR (RdX (halP ps u.l) (hvA (midS ps.length u.l u.l.length) ts) (halX ps.length ss u.l (hvA (midS ps.length u.l u.l.length) ts)) (hpN (midS ps.length u.l u.l.length) ts ts.length) 0) S W e w) : GivesR (BsX ps ts ss ms) S W e w := by
  obtain ⟨a, h1, h2, h3⟩ := h
  exact ⟨⟨u.l, u.p, u.el, u.all, a⟩, h1, h2, h3⟩
section
variable {ts ss : List T3} {N : Nat} {es : List E4} {ms : List Int}
theorem filter_le {l : List E4} {p : E4 → Bool} (h : l = (edL ts).filter p) : l.length ≤ (edL ts).length := by rw [h]; exact List.length_filter_le _ _
theorem filter_two (hn : numB N ts = true) (hN : N ≤ 4611686018427387904) {l : List E4} {p : E4 → Bool} (h : l = (edL ts).filter p) : ∀ e ∈ l, e.a < N ∧ e.b < N := fun e he => by
  rw [h] at he
  exact edge_two hn hN e (List.mem_filter.1 he).1
theorem midS_has {l : List E4} (hs : l.Pairwise LtE) (hl : ∀ e ∈ l, e.a < e.b) {e : E4} (he : e ∈ l) : ∃ n, getM (midS N l l.length) (e.a, e.b) = some n := by
  obtain ⟨j, hj, rfl⟩ := List.getElem_of_mem he
  have h := midS_get (N := N) hs hl _ (Nat.le_refl _) hj
  rw [List.getD, List.getElem?_eq_getElem hj] at h
  exact ⟨_, h⟩
theorem cut_sorted (hn : numB N ts = true) (hN : N ≤ 4611686018427387904) {l : List E4} {p : E4 → Bool} (h : l = (edL ts).filter p) : l.Pairwise LtE ∧ ∀ e ∈ l, e.a < e.b := by
  rw [h]
  exact ⟨(edL_sorted hn hN).filter _, fun e he => (edge_ends hn hN (List.mem_filter.1 he).1).1⟩
theorem mid_of (hn : numB N ts = true) (hN : N ≤ 4611686018427387904) {l : List E4} {p : E4 → Bool} (h : l = (edL ts).filter p) (ha : ∀ e, p e = true ↔ Clo ts (MkK ts ms) (e.a, e.b)) {k : P2} (hk : k ∈ allK ts) (hc : Clo ts (MkK ts ms) k) {M : Nat} : ∃ n, getM (midS M l l.length) k = some n := by
  obtain ⟨s1, s2⟩ := cut_sorted hn hN h
  obtain ⟨e, he, ea, eb⟩ := (mem_keys hn hN (a := k.1) (b := k.2)).1 hk
  have hkk : k = (e.a, e.b) := Prod.ext ea.symm eb.symm
  rw [hkk] at hc ⊢
  exact midS_has s1 s2 (by rw [h]; exact List.mem_filter.2 ⟨he, (ha e).2 hc⟩)
structure CutE (ts : List T3) (ms : List Int) (l : List E4) : Prop where
  ex : ∃ p : E4 → Bool, l = (edL ts).filter p ∧ ∀ e, p e = true ↔ Clo ts (MkK ts ms) (e.a, e.b)
theorem DX.cut (u : DX ts ms) : CutE ts ms u.l := ⟨u.p, u.el, u.all⟩
theorem CutE.mem {l : List E4} (h : CutE ts ms l) {e : E4} : e ∈ l ↔ e ∈ edL ts ∧ Clo ts (MkK ts ms) (e.a, e.b) := by
  obtain ⟨p, h1, h2⟩ := h.ex
  rw [h1, List.mem_filter, h2]
end
theorem cut_lit {ts : List T3} {ms : List Int} (K : List P2) (h0 : ∀ z ∈ ms, 0 ≤ z → z < (ts.length : Int) → baseK (ts.getD z.toNat (0, 0, 0)) ∈ K) (hc : ∀ t ∈ ts, kyE t.1 t.2.1 ∈ K ∨ kyE t.2.2 t.1 ∈ K → baseK t ∈ K) (h1 : ∀ k ∈ K, Clo ts (MkK ts ms) k) {l : List E4} {p : E4 → Bool} (h : l = (edL ts).filter p) (ha : ∀ e, p e = true ↔ Clo ts (MkK ts ms) (e.a, e.b)) : l = (edL ts).filter fun e => decide ((e.a, e.b) ∈ K) := by
  rw [h]
  have key : ∀ k, Clo ts (MkK ts ms) k → k ∈ K := fun k c => by
    induction c with
    | start hs => obtain ⟨z, hz, a, b, rfl⟩ := hs; exact h0 z hz a b
    | up ht _ he ih =>
      refine hc _ ht ?_
      rcases he with he | he <;> rw [he] at ih
      · exact .inl ih
      · exact .inr ih
  refine List.filter_congr fun e _ => ?_
  rw [Bool.eq_iff_iff, ha, decide_eq_true_eq]
  exact ⟨key _, h1 _⟩
theorem giveOf {S : Nat → Prop} {W w : World} {ps : List Pt} {ts ss : List T3} {ms : List Int} {e : Ending} (l0 : List E4) (h : GivesR (BsX ps ts ss ms) S W e w) (hl : ∀ (l : List E4) (p : E4 → Bool), l = (edL ts).filter p → (∀ e, p e = true ↔ Clo ts (MkK ts ms) (e.a, e.b)) → l = l0) : GivesR (RdX (halP ps l0) (hvA (midS ps.length l0 l0.length) ts) (halX ps.length ss l0 (hvA (midS ps.length l0 l0.length) ts)) (hpN (midS ps.length l0 l0.length) ts ts.length) 0) S W e w := by
  obtain ⟨⟨l, p, el, al, x⟩, h1, h2, h3⟩ := h
  have := hl l p el al
  subst this
  exact ⟨x, h1, h2, h3⟩
section
variable {P : Program} {ops : Array Oper} {rest : List Oper} {Q : Exit → Act → World → Prop} {n d : Nat} {F : List (Nat × Value)} {w0 : Base} {S : Nat → Prop} {L : List As} {t : TypeId} {p : String} {af : Array Edge} {y : Operand} {f : FuncId} {xs : List Operand} {args : List Value} {tys : Array TypeId} {ps : List Pt} {ts ss : List T3} {ms : List Int}
theorem cBs (hc : ∀ args w, (callFunc f args).run P w = .ok (.enter f args) w) (h : ∀ w, Own w0 w L → Calls P f args.toArray w (GivesR (BsX ps ts ss ms) (SL w0 S L) w))
    (h2 : (evF F y, xs.map (evF F), Nat.ble (d + 1) n) = (some (.func (.func f) #[] #[]), args.map some, true)) (next : ∀ a : BsX ps ts ss ms, At w0 S a → At w0 S a.x.m → At w0 S a.x.q → OkL P ops rest Q n ((d, .tuple #[aG (mxL a.x.m), .slice a.x.q.p (hpN (midS ps.length a.l a.l.length) ts ts.length).length a.x.q.c, vN 0]) :: F) w0 (rowR a.x.m.a.p (rowsL ptL (halP ps a.l)) :: rowR a.x.m.b.p (rowsL t3L (hvA (midS ps.length a.l a.l.length) ts)) :: rowR a.x.m.c.p (rowsL t3L (halX ps.length ss a.l (hvA (midS ps.length a.l a.l.length) ts))) :: rowR a.x.q.p (inL (hpN (midS ps.length a.l a.l.length) ts ts.length)) :: L)) :
    OkL P ops (⟨some d, .call { callee := .value y, args := xs.toArray, argTypes := tys }, t, p, af, none⟩ :: rest) Q n F w0 L := OkL.callR hc h (t21 h2) (t21 (t22 h2)) (t22 (t22 h2)) fun a ha =>
  next a ha (fun z hz => ha z (List.mem_append_left [a.x.q.row] (show z ∈ [a.x.m.a.row, a.x.m.b.row, a.x.m.c.row] from hz))) (fun z hz => ha z (by rcases List.mem_singleton.1 hz with rfl; exact List.mem_append_right [a.x.m.a.row, a.x.m.b.row, a.x.m.c.row] List.mem_cons_self))
end
end
end Go.Proofs.YtgiacpkjnikjdaaGreat
