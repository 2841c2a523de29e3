import Derived.Test.YtaahheddmfddhaaGreatPart06
import Derived.Test.YtaahheddmfddhaaGreatPart32
import Derived.Test.YtaahheddmfddhaaGreatPart33
namespace Go.Proofs.YtaahheddmfddhaaGreat
open Go Go.RowKit
set_option linter.unusedVariables false
set_option linter.unusedSimpArgs false
section
abbrev E0 : E4 := ⟨0, 0, 0, 0⟩
def midS (N : Nat) (es : List E4) : Nat → List (P2 × Nat)
  | 0 => []
  | i + 1 => putM (midS N es i) (kyE (es.getD i E0).a (es.getD i E0).b) (N + i)
def midV (N : Nat) (es : List E4) (a b : Nat) : Nat := (getM (midS N es es.length) (kyE a b)).getD 0
def chT (N : Nat) (es : List E4) (t : T3) : List T3 := [(t.1, midV N es t.1 t.2.1, midV N es t.2.2 t.1), (midV N es t.1 t.2.1, t.2.1, midV N es t.2.1 t.2.2), (midV N es t.2.2 t.1, midV N es t.2.1 t.2.2, t.2.2), (midV N es t.1 t.2.1, midV N es t.2.1 t.2.2, midV N es t.2.2 t.1)]
def redN (N : Nat) (es : List E4) (ts : List T3) (i : Nat) : List T3 := (ts.take i).flatMap (chT N es)
def redT (N : Nat) (es : List E4) (ts : List T3) : List T3 := ts.flatMap (chT N es)
def parN (i : Nat) : List Nat := (List.range i).flatMap fun t => [t, t, t, t]
def sidS (N : Nat) (ss : List T3) : Nat → List (P2 × Nat)
  | 0 => []
  | k + 1 => if (ss.getD (ss.length - 1 - k) (0, 0, 0)).1 < N ∧ (ss.getD (ss.length - 1 - k) (0, 0, 0)).2.1 < N then putM (sidS N ss k) (kyE (ss.getD (ss.length - 1 - k) (0, 0, 0)).1 (ss.getD (ss.length - 1 - k) (0, 0, 0)).2.1) (ss.getD (ss.length - 1 - k) (0, 0, 0)).2.2 else sidS N ss k
def halS (N : Nat) (ss : List T3) (es : List E4) : Nat → List (P2 × Nat)
  | 0 => sidS N ss ss.length
  | i + 1 => putM (putM (halS N ss es i) (kyE (es.getD i E0).a (N + i)) ((getM (halS N ss es i) (kyE (es.getD i E0).a (es.getD i E0).b)).getD 0)) (kyE (es.getD i E0).b (N + i)) ((getM (halS N ss es i) (kyE (es.getD i E0).a (es.getD i E0).b)).getD 0)
def mrkV (N : Nat) (ss : List T3) (es : List E4) (a b : Nat) : Nat := (getM (halS N ss es es.length) (kyE a b)).getD 0
def mdE (ps : List Pt) (e : E4) : Pt := scaleP (cor ps e.a + cor ps e.b) (1 / 2)
def halN (ps : List Pt) (es : List E4) : Nat → List Pt
  | 0 => ps
  | i + 1 => halN ps es i ++ [mdE ps (es.getD i E0)]
def halP (ps : List Pt) (es : List E4) : List Pt := halN ps es es.length
def mrkN (N : Nat) (ss : List T3) (es : List E4) (rs : List T3) (i : Nat) : List T3 := (rs.take i).map (fun s => (s.1, s.2.1, mrkV N ss es s.1 s.2.1)) ++ rs.drop i
def halX (N : Nat) (ss : List T3) (es : List E4) (ts : List T3) : List T3 := (rimL ts).map fun s => (s.1, s.2.1, mrkV N ss es s.1 s.2.1)
section
variable {N M i : Nat} {es : List E4} {ts : List T3} {t : T3} {ss rs : List T3} {ps : List Pt}
theorem take_succ_getD {α : Type} {l : List α} {d : α} {i : Nat} (h : i < l.length) : l.take (i + 1) = l.take i ++ [l.getD i d] := by
  rw [List.take_add_one, List.getElem?_eq_getElem h, List.getD, List.getElem?_eq_getElem h]; rfl
theorem redN_succ (h : i < ts.length) : redN N es ts (i + 1) = redN N es ts i ++ chT N es (ts.getD i (0, 0, 0)) := by
  unfold redN
  rw [take_succ_getD (d := (0, 0, 0)) h, List.flatMap_append]; simp
theorem redN_all : redN N es ts ts.length = redT N es ts := by unfold redN redT; rw [List.take_length]
theorem chT_len : (chT N es t).length = 4 := rfl
theorem redT_len : (redT N es ts).length = 4 * ts.length := by
  unfold redT
  induction ts with
  | nil => rfl
  | cons t r ih => rw [List.flatMap_cons, List.length_append, ih, chT_len, List.length_cons]; omega
theorem redN_len : (redN N es ts i).length = 4 * (min i ts.length) := by
  have h := redT_len (N := N) (es := es) (ts := ts.take i)
  rw [List.length_take] at h
  exact h
theorem parN_succ : parN (i + 1) = parN i ++ [i, i, i, i] := by unfold parN; rw [List.range_succ, List.flatMap_append]; simp
theorem parN_len : (parN i).length = 4 * i := by
  induction i with
  | zero => rfl
  | succ i ih => rw [parN_succ, List.length_append, ih]; simp; omega
theorem redT_get {k : Nat} (h : k < 4 * ts.length) : (redT N es ts).getD k (0, 0, 0) = (chT N es (ts.getD (k / 4) (0, 0, 0))).getD (k % 4) (0, 0, 0) := by
  induction ts generalizing k with
  | nil => simp at h
  | cons t r ih =>
    unfold redT at ih ⊢
    rw [List.flatMap_cons]
    rcases Nat.lt_or_ge k 4 with h4 | h4
    · rw [List.getD, List.getElem?_append_left (by rw [chT_len]; exact h4), show k / 4 = 0 by omega, show k % 4 = k by omega]; rfl
    · rw [List.getD, List.getElem?_append_right (by rw [chT_len]; exact h4), chT_len]
      have h5 := ih (k := k - 4) (by simp only [List.length_cons] at h; omega)
      rw [List.getD] at h5
      rw [h5, show k / 4 = (k - 4) / 4 + 1 by omega, show (k - 4) % 4 = k % 4 by omega]
      simp
theorem halN_len : ∀ i, (halN ps es i).length = ps.length + i
  | 0 => rfl
  | i + 1 => by rw [halN, List.length_append, halN_len i]; rfl
theorem halP_len : (halP ps es).length = ps.length + es.length := halN_len _
theorem mrkN_all : mrkN N ss es rs rs.length = rs.map fun s => (s.1, s.2.1, mrkV N ss es s.1 s.2.1) := by unfold mrkN; simp
theorem mrkN_len : (mrkN N ss es rs i).length = rs.length := by unfold mrkN; simp; omega
theorem mrkN_get (h : i < rs.length) : (mrkN N ss es rs i).getD i (0, 0, 0) = rs.getD i (0, 0, 0) := by
  unfold mrkN
  rw [List.getD, List.getElem?_append_right (by simp; omega), List.length_map, List.length_take, Nat.min_eq_left (by omega), Nat.sub_self, List.getElem?_drop]
  rfl
theorem mrkN_succ (h : i < rs.length) : (mrkN N ss es rs i).set i ((rs.getD i (0, 0, 0)).1, (rs.getD i (0, 0, 0)).2.1, mrkV N ss es (rs.getD i (0, 0, 0)).1 (rs.getD i (0, 0, 0)).2.1) = mrkN N ss es rs (i + 1) := by
  unfold mrkN
  rw [take_succ_getD (d := (0, 0, 0)) h, List.map_append, List.set_append_right _ _ (by simp; omega), List.length_map, List.length_take, Nat.min_eq_left (by omega), Nat.sub_self, drop_at (d := (0, 0, 0)) h, List.set_cons_zero, List.append_assoc]
  rfl
theorem mrkN_step {v : Nat} (h : i < rs.length) (hv : v = mrkV N ss es (rs.getD i (0, 0, 0)).1 (rs.getD i (0, 0, 0)).2.1) : (mrkN N ss es rs i).set i (((mrkN N ss es rs i).getD i (0, 0, 0)).1, ((mrkN N ss es rs i).getD i (0, 0, 0)).2.1, v) = mrkN N ss es rs (i + 1) := by
  rw [mrkN_get h, hv]; exact mrkN_succ h
theorem sidS_yes {k : Nat} (h : (ss.getD (ss.length - 1 - k) (0, 0, 0)).1 < N ∧ (ss.getD (ss.length - 1 - k) (0, 0, 0)).2.1 < N) : putM (sidS N ss k) (kyE (ss.getD (ss.length - 1 - k) (0, 0, 0)).1 (ss.getD (ss.length - 1 - k) (0, 0, 0)).2.1) (ss.getD (ss.length - 1 - k) (0, 0, 0)).2.2 = sidS N ss (k + 1) := by
  rw [sidS, if_pos h]
theorem sidS_no {k : Nat} (h : ¬ ((ss.getD (ss.length - 1 - k) (0, 0, 0)).1 < N ∧ (ss.getD (ss.length - 1 - k) (0, 0, 0)).2.1 < N)) : sidS N ss k = sidS N ss (k + 1) := by
  rw [sidS, if_neg h]
theorem midS_ok (hes : ∀ e ∈ es, e.a < N ∧ e.b < N) (hN : N ≤ 4611686018427387904) : ∀ i, i ≤ es.length → OkM okE (midS N es i)
  | 0, _ => OkM.nil
  | i + 1, h => by
    have h1 := hes (es.getD i E0) (by rw [List.getD, List.getElem?_eq_getElem (show i < es.length by omega)]; exact List.getElem_mem _)
    exact (midS_ok hes hN i (by omega)).put (okE_ky (by omega) (by omega))
theorem sidS_ok (hN : N ≤ 4611686018427387904) : ∀ k, OkM okE (sidS N ss k)
  | 0 => OkM.nil
  | k + 1 => by
    unfold sidS
    split
    · rename_i h; exact (sidS_ok hN k).put (okE_ky (by omega) (by omega))
    · exact sidS_ok hN k
theorem halS_ok (hes : ∀ e ∈ es, e.a < N ∧ e.b < N) (hN : N + es.length ≤ 4611686018427387904) : ∀ i, i ≤ es.length → OkM okE (halS N ss es i)
  | 0, _ => sidS_ok (by omega) _
  | i + 1, h => by
    have h1 := hes (es.getD i E0) (by rw [List.getD, List.getElem?_eq_getElem (show i < es.length by omega)]; exact List.getElem_mem _)
    exact ((halS_ok hes hN i (by omega)).put (okE_ky (by omega) (by omega))).put (okE_ky (by omega) (by omega))
theorem edge_ends (hn : numB N ts = true) (hN : N ≤ 4611686018427387904) {e : E4} (he : e ∈ edL ts) : e.a < e.b ∧ e.b < N := by
  have h := (mem_edL hn hN).1 he
  obtain ⟨u, hu, hs⟩ := h.some
  have h2 := dirE_lt hn hu
  have hlt := h.lt
  simp only at hlt hs
  rcases hs with hs | hs <;> rw [hs] at h2 <;> simp only at h2 <;> omega
theorem edge_two (hn : numB N ts = true) (hN : N ≤ 4611686018427387904) : ∀ e ∈ edL ts, e.a < N ∧ e.b < N := fun e he => by
  have := edge_ends hn hN he; omega
theorem rimL_lt (hn : numB N ts = true) (hN : N ≤ 4611686018427387904) {s : T3} (hs : s ∈ rimL ts) : s.1 < N ∧ s.2.1 < N := by
  unfold rimL rimN at hs
  rw [List.take_length, List.mem_map] at hs
  obtain ⟨e, he, rfl⟩ := hs
  exact edge_two hn hN e (List.mem_filter.1 he).1
theorem midS_get (hs : es.Pairwise LtE) (hl : ∀ e ∈ es, e.a < e.b) {j : Nat} : ∀ i, i ≤ es.length → j < i → getM (midS N es i) ((es.getD j E0).a, (es.getD j E0).b) = some (N + j)
  | 0, _, h => absurd h (Nat.not_lt_zero _)
  | i + 1, hi, hj => by
    have m : ∀ k, k < es.length → es.getD k E0 ∈ es := fun k hk => by rw [List.getD, List.getElem?_eq_getElem hk]; exact List.getElem_mem _
    have k1 : kyE (es.getD i E0).a (es.getD i E0).b = ((es.getD i E0).a, (es.getD i E0).b) := by
      have := hl _ (m i (by omega)); unfold kyE; exact Prod.ext (by simp only; omega) (by simp only; omega)
    rw [midS, getM_put, k1]
    rcases Nat.lt_or_ge j i with h | h
    · have h2 : LtE (es.getD j E0) (es.getD i E0) := by
        rw [List.getD, List.getD, List.getElem?_eq_getElem (show j < es.length by omega), List.getElem?_eq_getElem (show i < es.length by omega)]
        exact List.pairwise_iff_getElem.1 hs j i (by omega) (by omega) h
      rw [if_neg (fun e => by injection e with e1 e2; unfold LtE at h2; omega)]
      exact midS_get hs hl i (by omega) h
    · rw [show j = i by omega, if_pos rfl]
theorem midV_spec (hn : numB N ts = true) (hN : N ≤ 4611686018427387904) {a b : Nat} (h : kyE a b ∈ allK ts) : ∃ j, j < (edL ts).length ∧ ((edL ts).getD j E0).a = min a b ∧ ((edL ts).getD j E0).b = max a b ∧ midV M (edL ts) a b = M + j := by
  obtain ⟨e, he, ea, eb⟩ := (mem_keys hn hN (a := min a b) (b := max a b)).1 h
  obtain ⟨j, hj, hje⟩ := List.getElem_of_mem he
  have hd : (edL ts).getD j E0 = e := by rw [List.getD, List.getElem?_eq_getElem hj, hje]; rfl
  refine ⟨j, hj, by rw [hd]; exact ea, by rw [hd]; exact eb, ?_⟩
  have h1 := midS_get (N := M) (edL_sorted hn hN) (fun e he => (edge_ends hn hN he).1) _ (Nat.le_refl _) hj
  rw [hd, ea, eb] at h1
  unfold midV kyE
  rw [h1]; rfl
theorem keys_of {t : T3} (h : t ∈ ts) : kyE t.1 t.2.1 ∈ allK ts ∧ kyE t.2.1 t.2.2 ∈ allK ts ∧ kyE t.2.2 t.1 ∈ allK ts := by
  unfold allK
  refine ⟨List.mem_flatMap.2 ⟨t, h, ?_⟩, List.mem_flatMap.2 ⟨t, h, ?_⟩, List.mem_flatMap.2 ⟨t, h, ?_⟩⟩ <;> simp
theorem okT_child (hn : numB N ts = true) (hN : N ≤ 4611686018427387904) (ht : t ∈ ts) {c : T3} (hc : c ∈ chT N (edL ts) t) : okT (N + (edL ts).length) c = true := by
  have h0 := List.all_eq_true.1 hn t ht
  obtain ⟨l1, l2, l3⟩ := okT_spec h0
  obtain ⟨n1, n2, n3⟩ := okT_ne h0
  obtain ⟨k1, k2, k3⟩ := keys_of ht
  obtain ⟨x, hx, x1, x2, hx3⟩ := midV_spec (M := N) hn hN k1
  obtain ⟨y, hy, y1, y2, hy3⟩ := midV_spec (M := N) hn hN k2
  obtain ⟨z, hz, z1, z2, hz3⟩ := midV_spec (M := N) hn hN k3
  have hxy : x ≠ y := fun e => by subst e; omega
  have hyz : y ≠ z := fun e => by subst e; omega
  have hzx : z ≠ x := fun e => by subst e; omega
  unfold chT at hc
  simp only [List.mem_cons, List.not_mem_nil, or_false, hx3, hy3, hz3] at hc
  simp only [okT, Bool.and_eq_true, Bool.not_eq_true', decide_eq_false_iff_not, decide_eq_true_eq]
  rcases hc with rfl | rfl | rfl | rfl <;> dsimp only <;> omega
theorem redT_num (hn : numB N ts = true) (hN : N ≤ 4611686018427387904) : numB (N + (edL ts).length) (redT N (edL ts) ts) = true := List.all_eq_true.2 fun c hc => by
  obtain ⟨t, ht, hc⟩ := List.mem_flatMap.1 hc
  exact okT_child hn hN ht hc
theorem rotT_mod (u : T3) (i : Nat) : rotT u i = rotT u (i % 3) := by
  unfold rotT
  rw [Nat.mod_mod, show (i % 3 + 1) % 3 = (i + 1) % 3 by omega, show (i % 3 + 2) % 3 = (i + 2) % 3 by omega]
theorem chT_rot (i : Nat) {k : Nat} (hk : k < 4) : (chT N es (rotT t i)).getD k (0, 0, 0) = rotT ((chT N es t).getD (if k < 3 then (k + i) % 3 else 3) (0, 0, 0)) i := by
  have hi : i % 3 = 0 ∨ i % 3 = 1 ∨ i % 3 = 2 := by omega
  have e : ∀ u : T3, rotT u i = rotT u (i % 3) := fun u => rotT_mod u i
  have e2 : (k + i) % 3 = (k + i % 3) % 3 := by omega
  have h4 : k = 0 ∨ k = 1 ∨ k = 2 ∨ k = 3 := by omega
  rw [e2, e t, e]
  generalize i % 3 = q at hi
  rcases hi with rfl | rfl | rfl <;> rcases h4 with rfl | rfl | rfl | rfl <;> rfl
theorem keys_rot (i : Nat) : ((chT N es t).flatMap fun t => [kyE t.1 t.2.1, kyE t.2.1 t.2.2, kyE t.2.2 t.1]).Perm ((chT N es (rotT t i)).flatMap fun t => [kyE t.1 t.2.1, kyE t.2.1 t.2.2, kyE t.2.2 t.1]) := by
  have hi : i % 3 = 0 ∨ i % 3 = 1 ∨ i % 3 = 2 := by omega
  have e := rotT_mod t i
  rw [e]
  generalize i % 3 = q at hi
  obtain ⟨a, b, c⟩ := t
  rcases hi with rfl | rfl | rfl
  · exact List.Perm.refl _
  · simp only [chT, rotT, crT, List.flatMap_cons, List.flatMap_nil, List.append_nil, List.cons_append, List.nil_append]
    exact List.perm_iff_count.2 fun k => by simp only [List.count_cons, List.count_nil]; simp; ac_rfl
  · simp only [chT, rotT, crT, List.flatMap_cons, List.flatMap_nil, List.append_nil, List.cons_append, List.nil_append]
    exact List.perm_iff_count.2 fun k => by simp only [List.count_cons, List.count_nil]; simp; ac_rfl
theorem allK_red : allK (redT N es ts) = ts.flatMap fun t => (chT N es t).flatMap fun t => [kyE t.1 t.2.1, kyE t.2.1 t.2.2, kyE t.2.2 t.1] := by
  unfold allK redT; rw [List.flatMap_assoc]
theorem rim_rot (f : Nat → Nat) (hn : numB N ts = true) (hN : N + (edL ts).length ≤ 4611686018427387904) : rimL (redT N (edL (rotN ts f ts.length)) (rotN ts f ts.length)) = rimL (redT N (edL ts) ts) := by
  have hE := rotN_edL f hn (by omega)
  have h2 := redT_num (rotN_num f hn) (by omega)
  rw [hE] at h2 ⊢
  refine rimL_ext h2 (redT_num hn (by omega)) hN ?_
  rw [allK_red, allK_red]
  refine flatMap_perm2 (0, 0, 0) (rotN_len f _) fun j hj => ?_
  rw [rotN_len] at hj
  rw [rotN_get f _ _ (Nat.le_refl _) hj, if_pos hj]
  exact (keys_rot _).symm
def smT (A B : T3) : Nat → Nat
  | 0 => 0
  | i + 1 => smT A B i + if crT A (i % 3) = crT B (i / 3) then 1 else 0
theorem smT_rot {A : T3} (h : A.1 ≠ A.2.1 ∧ A.2.1 ≠ A.2.2 ∧ A.2.2 ≠ A.1) (i : Nat) : smT A (rotT A i) 9 = 3 := by
  obtain ⟨a, b, c⟩ := A
  obtain ⟨h1, h2, h3⟩ := h
  simp only at h1 h2 h3
  have hi : i % 3 = 0 ∨ i % 3 = 1 ∨ i % 3 = 2 := by omega
  have e := rotT_mod (a, b, c) i
  rw [e]
  generalize i % 3 = q at hi
  rcases hi with rfl | rfl | rfl <;> simp [smT, rotT, crT, h1, h2, h3, h1.symm, h2.symm, h3.symm]
def fdT (A : T3) (bs : List T3) (o : Nat) : Nat → Bool
  | 0 => false
  | k + 1 => fdT A bs o k || decide (smT A (bs.getD (o + k) (0, 0, 0)) 9 = 3)
theorem fdT_of {A : T3} {bs : List T3} {o j : Nat} : ∀ k, j < k → smT A (bs.getD (o + j) (0, 0, 0)) 9 = 3 → fdT A bs o k = true
  | 0, h, _ => absurd h (Nat.not_lt_zero _)
  | k + 1, h, h2 => by
    unfold fdT
    rcases Nat.lt_or_ge j k with h3 | h3
    · rw [fdT_of k h3 h2]; rfl
    · rw [show k = j by omega, decide_eq_true h2, Bool.or_true]
theorem red_found (f : Nat → Nat) (hn : numB N ts = true) (hN : N + (edL ts).length ≤ 4611686018427387904) {k : Nat} (hk : k < 4 * ts.length) :
    fdT ((redT N (edL ts) ts).getD k (0, 0, 0)) (redT N (edL (rotN ts f ts.length)) (rotN ts f ts.length)) (k - k % 4) 4 = true := by
  have hj : k / 4 < ts.length := by omega
  have hok : okT (N + (edL ts).length) ((redT N (edL ts) ts).getD k (0, 0, 0)) = true := numB_at (redT_num hn (by omega)) (by rw [redT_len]; exact hk)
  have hA := redT_get (N := N) (es := edL ts) hk
  refine fdT_of (j := if k % 4 < 3 then (k % 4 + (3 - f (k / 4) % 3)) % 3 else 3) 4 (by split <;> omega) ?_
  rw [rotN_edL f hn (by omega), redT_get (N := N) (es := edL ts) (ts := rotN ts f ts.length) (k := k - k % 4 + if k % 4 < 3 then (k % 4 + (3 - f (k / 4) % 3)) % 3 else 3) (by rw [rotN_len]; split <;> omega)]
  have e1 : (k - k % 4 + if k % 4 < 3 then (k % 4 + (3 - f (k / 4) % 3)) % 3 else 3) / 4 = k / 4 := by split <;> omega
  have e2 : (k - k % 4 + if k % 4 < 3 then (k % 4 + (3 - f (k / 4) % 3)) % 3 else 3) % 4 = if k % 4 < 3 then (k % 4 + (3 - f (k / 4) % 3)) % 3 else 3 := by split <;> omega
  rw [e1, e2, rotN_get f _ _ (Nat.le_refl _) hj, if_pos hj, chT_rot _ (by split <;> omega)]
  have e3 : (if (if k % 4 < 3 then (k % 4 + (3 - f (k / 4) % 3)) % 3 else 3) < 3 then ((if k % 4 < 3 then (k % 4 + (3 - f (k / 4) % 3)) % 3 else 3) + f (k / 4)) % 3 else 3) = k % 4 := by
    by_cases h : k % 4 < 3
    · rw [if_pos h, if_pos (by omega)]; omega
    · rw [if_neg h, if_neg (by omega)]; omega
  rw [e3, ← hA]
  exact smT_rot (okT_ne hok) _
end
end
section
set_option maxRecDepth 100000
theorem clipP_ok (p : Option Addr) (n cp : Nat) (h : n ≤ cp) (w : World)  : Calls Tryz.prog 48 #[(Value.slice p n cp)] w (Gives w (Value.slice p n n)) := by
 refine calls_of (args := [(Value.slice p n cp)]) Tryz.func48 rfl rfl (leB rfl) (OkC.subF (sL [0] rfl) (q4 (asg' rfl (OkL.nil (q2 ?_)))))
 refine mv' rfl (mv' rfl (st' (v := (vN n)) (ex_len_slice rfl Tryz.underlying27) rfl (mv' rfl (st' (v := (vN n)) (ex_len_slice rfl Tryz.underlying27) rfl (st' (v := (Value.slice p n n)) (ex_slice_clip (m := n) rfl rfl rfl Tryz.underlying27 Tryz.sizeOf49 (by omega)) rfl ?_)))))
 exact asg' rfl (OkL.nil (OkQ.subF (sL [2] rfl) (OkQ.then_ (OkC.ret (ret_one rfl (rd_tmp (v := (Value.slice p n n)) rfl) (fun w hw => ⟨rfl, hw.out⟩))))))
theorem cloneP_ok (ts : List Pt) (x : RX (rowsL ptL ts) ts.length) (hl : ts.length ≤ 1000000000) (w : World) {S : Nat → Prop} (hx : Ro S w x) : Calls Tryz.prog 49 #[(Value.slice x.p ts.length x.c)] w (GivesL oxV (oxL (T := 49) (z := 10) (cs := rowsL ptL ts) (n := ts.length)) S w) := by
 have lx := atA (W := w) hx
 refine calls_ofR (args := [(Value.slice x.p ts.length x.c)]) (L := [rowR x.p (rowsL ptL ts)]) Tryz.func49 rfl rfl (leB rfl) (sxA hx roL_nil) (OkC.subF (sL [0] rfl) (q4 (asg' rfl (OkL.nilRow 49 10 (OkL.nil ?_)))))
 refine q1 (q4 (mv' rfl (st' (v := (Value.bool x.p.isNone)) (ex_eql_nil rfl rfl Tryz.underlying27) rfl (OkL.nil (OkQ.subF (sL [0, 2, 4] rfl) ?_)))))
 refine OkQ.then_ ?_
 refine OkC.cond rfl (fun hc0 => ?_) (fun hc0 => ?_)
 ·skip
  have hts : ts = [] := List.eq_nil_of_length_eq_zero (x.ok.nil (Option.isNone_iff_eq_none.1 hc0)).1
  refine q4 (asg' rfl (OkL.nilRow 49 10 (OkL.nil (OkQ.then_ (OkC.ret ?_)))))
  exact OkQ.then_ret (ret_one rfl (rd_tmp (v := (Value.slice none 0 0)) rfl) (fun w hw => (by subst hts; exact retL hw (OX.mk none 0 OwnOk.none) (by exact (sk (sl (sl sr)))) (AtL.own rfl AtL.nil) (by show Value.slice none 0 0 = _; rfl))))
 ·skip
  refine OkC.skip (q2 (OkL.openV (V := fun b1 => (Value.slice (some ⟨b1, 0, none⟩) 0 0)) (T := 49) (cs := []) (wt_none rfl) (op_build0 Tryz.underlying27 Tryz.sizeOf49) rfl (leB rfl) fun b1 => OkL.asRow0 (z := 10) 0 rfl (by omega) fun ho_b1 => mv' rfl (OkL.appendE0 tE27 rfl ho_b1 rfl (srcR (k := 2) rfl x.ok) (rowsL_length ptL_len _) (rowsL_one ptL_one _) (mxl (by omega)) (by omega) rfl fun p_1 c_1 ho_1 => ?_)))
  exact asg' rfl (OkL.nil (OkQ.subF (sL [0, 2] rfl) (OkQ.then_ (OkC.ret (ret_one rfl (rd_tmp (v := (Value.slice p_1 ts.length c_1)) rfl) (fun w hw => (retL hw (OX.mk p_1 c_1 ho_1) (sk (sl (sl sr))) (AtL.own rfl AtL.nil) rfl)))))))
theorem clipT_ok (p : Option Addr) (n cp : Nat) (h : n ≤ cp) (w : World)  : Calls Tryz.prog 50 #[(Value.slice p n cp)] w (Gives w (Value.slice p n n)) := by
 refine calls_of (args := [(Value.slice p n cp)]) Tryz.func50 rfl rfl (leB rfl) (OkC.subF (sL [0] rfl) (q4 (asg' rfl (OkL.nil (q2 ?_)))))
 refine mv' rfl (mv' rfl (st' (v := (vN n)) (ex_len_slice rfl Tryz.underlying28) rfl (mv' rfl (st' (v := (vN n)) (ex_len_slice rfl Tryz.underlying28) rfl (st' (v := (Value.slice p n n)) (ex_slice_clip (m := n) rfl rfl rfl Tryz.underlying28 Tryz.sizeOf34 (by omega)) rfl ?_)))))
 exact asg' rfl (OkL.nil (OkQ.subF (sL [2] rfl) (OkQ.then_ (OkC.ret (ret_one rfl (rd_tmp (v := (Value.slice p n n)) rfl) (fun w hw => ⟨rfl, hw.out⟩))))))
theorem cloneT_ok (ts : List T3) (x : RX (rowsL t3L ts) ts.length) (hl : ts.length ≤ 1000000000) (w : World) {S : Nat → Prop} (hx : Ro S w x) : Calls Tryz.prog 51 #[(Value.slice x.p ts.length x.c)] w (GivesL oxV (oxL (T := 34) (z := 3) (cs := rowsL t3L ts) (n := ts.length)) S w) := by
 have lx := atA (W := w) hx
 refine calls_ofR (args := [(Value.slice x.p ts.length x.c)]) (L := [rowR x.p (rowsL t3L ts)]) Tryz.func51 rfl rfl (leB rfl) (sxA hx roL_nil) (OkC.subF (sL [0] rfl) (q4 (asg' rfl (OkL.nilRow 34 3 (OkL.nil ?_)))))
 refine q1 (q4 (mv' rfl (st' (v := (Value.bool x.p.isNone)) (ex_eql_nil rfl rfl Tryz.underlying28) rfl (OkL.nil (OkQ.subF (sL [0, 2, 4] rfl) ?_)))))
 refine OkQ.then_ ?_
 refine OkC.cond rfl (fun hc0 => ?_) (fun hc0 => ?_)
 ·skip
  have hts : ts = [] := List.eq_nil_of_length_eq_zero (x.ok.nil (Option.isNone_iff_eq_none.1 hc0)).1
  refine q4 (asg' rfl (OkL.nilRow 34 3 (OkL.nil (OkQ.then_ (OkC.ret ?_)))))
  exact OkQ.then_ret (ret_one rfl (rd_tmp (v := (Value.slice none 0 0)) rfl) (fun w hw => (by subst hts; exact retL hw (OX.mk none 0 OwnOk.none) (by exact (sk (sl (sl sr)))) (AtL.own rfl AtL.nil) (by show Value.slice none 0 0 = _; rfl))))
 ·skip
  refine OkC.skip (q2 (OkL.openV (V := fun b1 => (Value.slice (some ⟨b1, 0, none⟩) 0 0)) (T := 34) (cs := []) (wt_none rfl) (op_build0 Tryz.underlying28 Tryz.sizeOf34) rfl (leB rfl) fun b1 => OkL.asRow0 (z := 3) 0 rfl (by omega) fun ho_b1 => mv' rfl (OkL.appendE0 tE28 rfl ho_b1 rfl (srcR (k := 2) rfl x.ok) (rowsL_length t3L_len _) (rowsL_one t3L_one _) (mxl (by omega)) (by omega) rfl fun p_1 c_1 ho_1 => ?_)))
  exact asg' rfl (OkL.nil (OkQ.subF (sL [0, 2] rfl) (OkQ.then_ (OkC.ret (ret_one rfl (rd_tmp (v := (Value.slice p_1 ts.length c_1)) rfl) (fun w hw => (retL hw (OX.mk p_1 c_1 ho_1) (sk (sl (sl sr))) (AtL.own rfl AtL.nil) rfl)))))))
theorem clipS_ok (p : Option Addr) (n cp : Nat) (h : n ≤ cp) (w : World)  : Calls Tryz.prog 52 #[(Value.slice p n cp)] w (Gives w (Value.slice p n n)) := by
 refine calls_of (args := [(Value.slice p n cp)]) Tryz.func52 rfl rfl (leB rfl) (OkC.subF (sL [0] rfl) (q4 (asg' rfl (OkL.nil (q2 ?_)))))
 refine mv' rfl (mv' rfl (st' (v := (vN n)) (ex_len_slice rfl Tryz.underlying29) rfl (mv' rfl (st' (v := (vN n)) (ex_len_slice rfl Tryz.underlying29) rfl (st' (v := (Value.slice p n n)) (ex_slice_clip (m := n) rfl rfl rfl Tryz.underlying29 Tryz.sizeOf51 (by omega)) rfl ?_)))))
 exact asg' rfl (OkL.nil (OkQ.subF (sL [2] rfl) (OkQ.then_ (OkC.ret (ret_one rfl (rd_tmp (v := (Value.slice p n n)) rfl) (fun w hw => ⟨rfl, hw.out⟩))))))
theorem cloneS_ok (ts : List T3) (x : RX (rowsL t3L ts) ts.length) (hl : ts.length ≤ 1000000000) (w : World) {S : Nat → Prop} (hx : Ro S w x) : Calls Tryz.prog 53 #[(Value.slice x.p ts.length x.c)] w (GivesL oxV (oxL (T := 51) (z := 3) (cs := rowsL t3L ts) (n := ts.length)) S w) := by
 have lx := atA (W := w) hx
 refine calls_ofR (args := [(Value.slice x.p ts.length x.c)]) (L := [rowR x.p (rowsL t3L ts)]) Tryz.func53 rfl rfl (leB rfl) (sxA hx roL_nil) (OkC.subF (sL [0] rfl) (q4 (asg' rfl (OkL.nilRow 51 3 (OkL.nil ?_)))))
 refine q1 (q4 (mv' rfl (st' (v := (Value.bool x.p.isNone)) (ex_eql_nil rfl rfl Tryz.underlying29) rfl (OkL.nil (OkQ.subF (sL [0, 2, 4] rfl) ?_)))))
 refine OkQ.then_ ?_
 refine OkC.cond rfl (fun hc0 => ?_) (fun hc0 => ?_)
 ·skip
  have hts : ts = [] := List.eq_nil_of_length_eq_zero (x.ok.nil (Option.isNone_iff_eq_none.1 hc0)).1
  refine q4 (asg' rfl (OkL.nilRow 51 3 (OkL.nil (OkQ.then_ (OkC.ret ?_)))))
  exact OkQ.then_ret (ret_one rfl (rd_tmp (v := (Value.slice none 0 0)) rfl) (fun w hw => (by subst hts; exact retL hw (OX.mk none 0 OwnOk.none) (by exact (sk (sl (sl sr)))) (AtL.own rfl AtL.nil) (by show Value.slice none 0 0 = _; rfl))))
 ·skip
  refine OkC.skip (q2 (OkL.openV (V := fun b1 => (Value.slice (some ⟨b1, 0, none⟩) 0 0)) (T := 51) (cs := []) (wt_none rfl) (op_build0 Tryz.underlying29 Tryz.sizeOf51) rfl (leB rfl) fun b1 => OkL.asRow0 (z := 3) 0 rfl (by omega) fun ho_b1 => mv' rfl (OkL.appendE0 tE29 rfl ho_b1 rfl (srcR (k := 2) rfl x.ok) (rowsL_length t3L_len _) (rowsL_one t3L_one _) (mxl (by omega)) (by omega) rfl fun p_1 c_1 ho_1 => ?_)))
  exact asg' rfl (OkL.nil (OkQ.subF (sL [0, 2] rfl) (OkQ.then_ (OkC.ret (ret_one rfl (rd_tmp (v := (Value.slice p_1 ts.length c_1)) rfl) (fun w hw => (retL hw (OX.mk p_1 c_1 ho_1) (sk (sl (sl sr))) (AtL.own rfl AtL.nil) rfl)))))))
theorem Copy_ok {ps : List Pt} {ts ss : List T3} (x : MX ps ts ss) (hp : ps.length ≤ 1000000000) (ht : ts.length ≤ 1000000000) (hs : ss.length ≤ 1000000000) (w : World) {S : Nat → Prop} (hx : Ro S w x) : Calls Tryz.prog 14 #[(aG (mxL x))] w (GivesL (fun a : CpX ps ts ss => aG (cpL a)) cpW S w) := by
 have lx := atA (W := w) hx
 refine calls_ofR (args := [(aG (mxL x))]) (L := [rowR x.a.p (rowsL ptL ps), rowR x.b.p (rowsL t3L ts), rowR x.c.p (rowsL t3L ss)]) Tryz.func14 rfl rfl (leB rfl) (sxA hx roL_nil) (OkC.subF (sL [0] rfl) (q4 (bx' (cs := mxL x) rfl fun b1 => al tZ31 rfl fun b2 => q6 (sL [1, 2] rfl) ?_)))
 refine rG' [(0, true), (1, true), (4, true), (5, true), (8, true), (9, true), (2, false), (3, false), (6, false), (7, false), (10, false), (11, false), (12, true), (13, false)] (sl sr) (pE' (v := (pP b1 0)) rfl (ex_fieldAddr rfl Tryz.underlying31 rfl Tryz.sizeOf27 rfl) (pO'' 0 (Value.slice x.a.p ps.length x.a.c) tO27 rfl (pE' (v := (pP b1 1)) rfl (ex_fieldAddr rfl Tryz.underlying31 rfl Tryz.sizeOf28 rfl) (pO'' 0 (Value.slice x.b.p ts.length x.b.c) tO28 rfl (pE' (v := (pP b1 2)) rfl (ex_fieldAddr rfl Tryz.underlying31 rfl Tryz.sizeOf29 rfl) ?_)))))
 refine pO'' 0 (Value.slice x.c.p ss.length x.c.c) tO29 rfl (OkE.imp rfl (OkL.callL (S := S) (V := oxV) (LW := oxL (T := 49) (z := 10) (cs := rowsL ptL ps) (n := ps.length)) (args := [(Value.slice x.a.p ps.length x.a.c)]) Tryz.call49 (fun w hw => cloneP_ok ps x.a (by omega) w (roMa (inS hw 2 rfl lx))) rfl fun cl1 hcl1 => OkE.back (sl (sl sr)) (OkE.imp rfl (ck' Tryz.call48 (clipP_ok cl1.p ps.length cl1.c cl1.ok.row.le) rfl ?_))))
 refine OkE.back (sl (sl sr)) (OkE.imp rfl (OkL.callL (S := S) (V := oxV) (LW := oxL (T := 34) (z := 3) (cs := rowsL t3L ts) (n := ts.length)) (args := [(Value.slice x.b.p ts.length x.b.c)]) Tryz.call51 (fun w hw => cloneT_ok ts x.b (by omega) w (roMb (inS hw 3 rfl lx))) rfl fun cl2 hcl2 => OkE.back (sl (sl (sl sr))) (OkE.imp rfl (ck' Tryz.call50 (clipT_ok cl2.p ts.length cl2.c cl2.ok.row.le) rfl ?_))))
 refine OkE.back (sl (sl (sl sr))) (OkE.imp rfl (OkL.callL (S := S) (V := oxV) (LW := oxL (T := 51) (z := 3) (cs := rowsL t3L ss) (n := ss.length)) (args := [(Value.slice x.c.p ss.length x.c.c)]) Tryz.call53 (fun w hw => cloneS_ok ss x.c (by omega) w (roMc (inS hw 4 rfl lx))) rfl fun cl3 hcl3 => OkE.back (sl (sl (sl (sl sr)))) (OkE.imp rfl (ck' Tryz.call52 (clipS_ok cl3.p ss.length cl3.c cl3.ok.row.le) rfl ?_))))
 refine OkE.back (sl (sl (sl (sl sr)))) (pE' (v := (aG ([(Value.slice cl1.p ps.length ps.length), (Value.slice cl2.p ts.length ts.length), (Value.slice cl3.p ss.length ss.length)]))) rfl (ex_build_struct (zs := [(Value.slice none 0 0), (Value.slice none 0 0), (Value.slice none 0 0)]) (vs := [(Value.slice cl1.p ps.length ps.length), (Value.slice cl2.p ts.length ts.length), (Value.slice cl3.p ss.length ss.length)]) (pv := [(0, (Value.slice cl1.p ps.length ps.length)), (1, (Value.slice cl2.p ts.length ts.length)), (2, (Value.slice cl3.p ss.length ss.length))]) (places := [(0, 1), (1, 1), (2, 1)]) Tryz.zeroValue31 Tryz.underlying31 (fun w => by simp [Tryz.sizeOf27, Tryz.sizeOf28, Tryz.sizeOf29]) rfl rfl) (OkE.imp rfl (stW3' rfl Tryz.sizeOf31 rfl (OkE.back (sl (sl (sl (sl sr)))) (OkE.nil ?_)))))
 exact OkQ.subF (sL [2] rfl) (OkQ.then_ (OkC.ret (ret_one rfl (rd_agg (i := 3) (cs := [(Value.slice cl1.p ps.length ps.length), (Value.slice cl2.p ts.length ts.length), (Value.slice cl3.p ss.length ss.length)]) rfl rfl Tryz.isAgg31 Tryz.sizeOf31 rfl) (fun w hw => (retL hw (CpX.mk (OX.mk cl1.p cl1.c cl1.ok) (OX.mk cl2.p cl2.c cl2.ok) (OX.mk cl3.p cl3.c cl3.ok)) (sk (sk (sk (sl (sl (sl (sl (sl sr)))))))) (AtL.own rfl (AtL.own rfl (AtL.own rfl AtL.nil))) rfl)))))
theorem tfill_numua_113 (x0 x1 : Nat) : Instr.fill (fun i => some (i * 1, 1)) (posL ((0, 0) : P2)).toArray [(0, vN x0), (1, vN x1)] = some (posL (x0, x1)).toArray := by kernel_rfl
theorem rOf_ok (a b : Nat) (w : World)  : Calls Tryz.prog 55 #[(vN a), (vN b)] w (Gives w (aG (posL (min a b, max a b)))) := by
 refine calls_of (args := [(vN a), (vN b)]) Tryz.func55 rfl rfl (leB rfl) (OkC.subF (sL [0, 1] rfl) (q4 (al tZ113 rfl fun b1 => OkL.nil (q2 ?_))))
 refine mv' rfl (mv' rfl (st' (ex_min (c := ((min a b : Nat) : Int)) rfl rfl (by split <;> omega)) rfl (mv' rfl (mv' rfl (st' (ex_max (c := ((max a b : Nat) : Int)) rfl rfl (by split <;> omega)) rfl ?_)))))
 exact st' (v := (aG (posL (min a b, max a b)))) (ex_build_array (zs := posL ((0, 0) : P2)) (vs := posL (min a b, max a b)) (pv := [(0, (vN (min a b))), (1, (vN (max a b)))]) Tryz.zeroValue113 Tryz.underlying113 Tryz.sizeOf3 rfl (tfill_numua_113 (min a b) (max a b))) rfl (stW0' rfl Tryz.sizeOf113 rfl (OkL.nil (OkQ.subF (sL [4] rfl) (OkQ.then_ (OkC.ret (ret_one rfl (rd_agg (i := 0) (cs := posL (min a b, max a b)) rfl rfl Tryz.isAgg113 Tryz.sizeOf113 rfl) (fun w hw => ⟨rfl, hw.out⟩)))))))
end
end Go.Proofs.YtaahheddmfddhaaGreat
