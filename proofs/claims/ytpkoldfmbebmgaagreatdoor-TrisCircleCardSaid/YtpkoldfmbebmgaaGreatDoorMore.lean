/- More of the calculus: loops with several told things, joins, a list of operations in two parts, a slot told anew, rows in blocks of one's own and of the caller's. -/
import Derived.Test.YtpkoldfmbebmgaaGreatDoorWord
import Derived.Laws.CopyRow
namespace Go.Proofs.YtpkoldfmbebmgaaGreatDoor
open Go Go.RowKit
set_option linter.unusedVariables false
set_option linter.unusedSimpArgs false

section
variable {P : Program} {ops : Array Oper} {l rest : List Oper} {Q : Exit → Act → World → Prop} {n : Nat} {F F' FM : List (Nat × Value)} {w0 : Base} {L L' LM : List As} {o : Oper} {v u : Value} {c x y : Code}

/-! ### Two parts of a list -/
theorem wp_mono_normal {o : Oper} {a : Act} {w : World} {K K' : Act → World → Prop} {Q' : Exit → Act → World → Prop} (h : ∀ a w, K a w → K' a w) (hq : ∀ e a w, e ≠ .normal → ¬ Q e a w)
    (hh : o.wp P a w K Q) : o.wp P a w K' Q' := by
  unfold Oper.wp at *
  generalize (execOp a.eval o).run P w = r at *
  cases r with
  | ok n w' =>
    cases n <;> simp only [Oper.upon] at hh ⊢ <;>
      first
        | exact h _ _ hh
        | exact Calls.mono hh (fun e w'' he => by cases e <;> first | exact h _ _ he | exact absurd he (hq _ _ _ (by simp)) | exact (match he with | ⟨_, _, hl⟩ => absurd hl (hq _ _ _ (by simp))))
        | exact Rows.mono hh (fun _ _ he => h _ _ he)
  | halt x w' => cases x <;> simp only [Oper.upon] at hh ⊢ <;> exact absurd hh (hq _ _ _ (by simp))

theorem OkL.mid (m : Nat) (h1 : OkL P ops (l.take m) (fun e a w => e = .normal ∧ Frm n a FM ∧ Own w0 w LM) n F w0 L) (h2 : OkL P ops (l.drop m) Q n FM w0 LM) : OkL P ops l Q n F w0 L := fun a w ha hW => by
  have key : ∀ (m : Nat) (l : List Oper) (a : Act) (w : World), wpList P ops (fun e a w => e = .normal ∧ Frm n a FM ∧ Own w0 w LM) (l.take m) a w → (∀ a w, Frm n a FM → Own w0 w LM → wpList P ops Q (l.drop m) a w) → wpList P ops Q l a w := by
    intro m
    induction m with
    | zero => intro l a w h h2; exact h2 a w h.2.1 h.2.2
    | succ m ih =>
      intro l a w h h2
      cases l with
      | nil => exact h2 a w h.2.1 h.2.2
      | cons o l =>
        simp only [List.take_succ_cons] at h
        unfold wpList at h ⊢
        split at h
        · rename_i hg
          rw [if_pos hg]
          rcases h with h | ⟨_, _, _, hl, _⟩
          · exact .inl (wp_mono_normal (fun a w hk => ih l a w hk h2) (fun e a w he hq => he hq.1) h)
          · cases hl
        · rename_i hg
          rw [if_neg hg]
          exact ih l _ w h h2
  exact key m l a w (h1 a w ha hW) h2
theorem OkQ.mid (hs : SubF FM F) (hl : LM.Sublist L) : OkQ (fun e a w => e = .normal ∧ Frm n a FM ∧ Own w0 w LM) .normal n F w0 L := fun _ _ ha hw => ⟨rfl, ha.sub hs, hw.weak hl⟩

/-! ### A slot told anew -/
theorem Frm.retell {a : Act} (h : Frm n a F) {k : Nat} (hk : F.lookup k = some v) (hv : v = u) : Frm n a ((k, u) :: F) := by
  subst hv
  refine ⟨h.1, h.2.1, fun j x hj => ?_⟩
  simp only [List.lookup_cons] at hj
  split at hj
  · rename_i e
    injection hj with hj
    subst hj
    have : j = k := by simpa using e
    subst this
    exact h.2.2 j _ hk
  · exact h.2.2 j x hj
theorem OkL.retell {k : Nat} (hk : F.lookup k = some v) (hv : v = u) (next : OkL P ops rest Q n ((k, u) :: F) w0 L) : OkL P ops rest Q n F w0 L := fun a w ha hW => next a w (ha.retell hk hv) hW
theorem OkQ.retell {e : Exit} {k : Nat} (hk : F.lookup k = some v) (hv : v = u) (next : OkQ Q e n ((k, u) :: F) w0 L) : OkQ Q e n F w0 L := fun a w ha hW => next a w (ha.retell hk hv) hW
theorem OkC.retell {k : Nat} (hk : F.lookup k = some v) (hv : v = u) (next : OkC P c Q n ((k, u) :: F) w0 L) : OkC P c Q n F w0 L := fun a w ha hW => next a w (ha.retell hk hv) hW
/-- The told blocks, in other words. -/
theorem OkQ.reblock {e : Exit} (h : L = L') (next : OkQ Q e n F w0 L') : OkQ Q e n F w0 L := h ▸ next
theorem OkL.reblock (h : L = L') (next : OkL P ops rest Q n F w0 L') : OkL P ops rest Q n F w0 L := h ▸ next
theorem OkC.reblock (h : L = L') (next : OkC P c Q n F w0 L') : OkC P c Q n F w0 L := h ▸ next

/-! ### Joins and loops -/
theorem OkC.seqJ {σ : Type} (J : σ → Prop) (FI : σ → List (Nat × Value)) (LI : σ → List As) (h1 : OkC P x (Exit.then (fun a w => ∃ s, J s ∧ Frm n a (FI s) ∧ Own w0 w (LI s)) Q) n F w0 L)
    (h2 : ∀ s, J s → OkC P y Q n (FI s) w0 (LI s)) : OkC P (.seq x y) Q n F w0 L := fun a w ha hw => by
  refine wp_seq (Code.wp_mono (fun e a' w' hq => ?_) (h1 a w ha hw))
  cases e <;> first
    | (obtain ⟨s, h3, h4, h5⟩ := hq; exact h2 s h3 a' w' h4 h5)
    | exact hq
theorem OkQ.join {σ : Type} {J : σ → Prop} {FI : σ → List (Nat × Value)} {LI : σ → List As} (s : σ) (hJ : J s) (hs : SubF (FI s) F) (hl : (LI s).Sublist L) :
    OkQ (Exit.then (fun a w => ∃ s, J s ∧ Frm n a (FI s) ∧ Own w0 w (LI s)) Q) .normal n F w0 L := fun _ _ ha hw => ⟨s, hJ, ha.sub hs, hw.weak hl⟩

theorem OkL.openV {d : Nat} {T : TypeId} {cs : List Value} {V : Nat → Value} (hw : Wt ops n F o)
    (he : ∀ a w, Frm n a F → Own w0 w L → (execOp a.eval o).run P w = .ok (.value (V w.heap.size)) (w.alloc (.cells cs.toArray T)))
    (ho : o.dst = some d) (hd : d < n) (next : ∀ b, OkL P ops rest Q n ((d, V b) :: F) w0 (blk b T cs :: L)) : OkL P ops (o :: rest) Q n F w0 L := fun a w ha hW => by
  unfold wpList
  rw [if_pos (hw a ha)]
  left
  unfold Oper.wp
  rw [he a w ha hW, Oper.upon_value, ho]
  exact next _ _ _ (ha.put hd) (hW.alloc _ rfl rfl)
end

/-! ### Rows -/
theorem ca_blk {w : World} {b : Nat} {cs : List Value} {T : TypeId} {fr : Nat × Nat} (h : w.heap[b]? = some (.cells cs.toArray T fr)) : CA w b 0 cs := by
  have := ca_of_row (off := 0) (k := cs.length) h
  simpa using this
theorem ble_row {xs : List Nat} {f : List Nat → List Value} (hf : (f xs).length = xs.length) {j : Nat} (h : j < xs.length) : Nat.ble (j + 1) (f xs).length = true := Nat.ble_eq_true_of_le (by omega)
theorem u8s_set {xs : List Nat} {j v : Nat} (h : j < xs.length) : lay (u8s xs) j [.int .u8 (v : Nat)] = u8s (xs.set j v) := by
  unfold lay u8s
  rw [List.set_eq_take_append_cons_drop, if_pos h]
  simp

def W32 (xs : List Nat) : Prop := ∀ x ∈ xs, x < 4294967296
theorem W32.getD {xs : List Nat} (h : W32 xs) (i : Nat) : xs.getD i 0 < 4294967296 := by
  by_cases hi : i < xs.length
  · simp [hi]; exact h _ (List.getElem_mem hi)
  · simp [Nat.not_lt.1 hi]
theorem W32.set {xs : List Nat} (h : W32 xs) {v : Nat} (hv : v < 4294967296) (i : Nat) : W32 (xs.set i v) := fun x hx => by
  rcases List.mem_or_eq_of_mem_set hx with h1 | h1
  · exact h x h1
  · omega
theorem W32.take {xs : List Nat} (h : W32 xs) (i : Nat) : W32 (xs.take i) := fun x hx => h x (List.mem_of_mem_take hx)
theorem W32.drop {xs : List Nat} (h : W32 xs) (i : Nat) : W32 (xs.drop i) := fun x hx => h x (List.mem_of_mem_drop hx)
theorem W32.zeros (k : Nat) : W32 (List.replicate k 0) := fun x hx => by rw [(List.mem_replicate.1 hx).2]; omega
theorem W32.append {xs ys : List Nat} (h : W32 xs) (h' : W32 ys) : W32 (xs ++ ys) := fun x hx => by
  rcases List.mem_append.1 hx with h1 | h1
  · exact h x h1
  · exact h' x h1
theorem W32.cons {x : Nat} {xs : List Nat} (h : x < 4294967296) (h' : W32 xs) : W32 (x :: xs) := fun y hy => by
  rcases List.mem_cons.1 hy with h1 | h1
  · omega
  · exact h' y h1
theorem W32.nil : W32 [] := fun _ h => by cases h

/-! ### The value of a row -/
def val : List Nat → Nat
  | [] => 0
  | x :: xs => x + 4294967296 * val xs
theorem val_nil : val [] = 0 := rfl
theorem val_cons (x : Nat) (xs : List Nat) : val (x :: xs) = x + 4294967296 * val xs := rfl
theorem val_append (xs ys : List Nat) : val (xs ++ ys) = val xs + 4294967296 ^ xs.length * val ys := by
  induction xs with
  | nil => simp [val]
  | cons x xs ih => simp only [List.cons_append, val, ih, List.length_cons, Nat.pow_succ]; grind
theorem val_zeros (k : Nat) : val (List.replicate k 0) = 0 := by
  induction k with
  | zero => rfl
  | succ k ih => simp [List.replicate_succ, val, ih]
theorem val_lt {xs : List Nat} (h : W32 xs) : val xs < 4294967296 ^ xs.length := by
  induction xs with
  | nil => simp [val]
  | cons x xs ih =>
    have h1 := h x (by simp)
    have h2 := ih (fun y hy => h y (by simp [hy]))
    simp only [val, List.length_cons, Nat.pow_succ]
    omega
theorem val_set {xs : List Nat} {i : Nat} (h : i < xs.length) (v : Nat) : val (xs.set i v) + xs.getD i 0 * 4294967296 ^ i = val xs + v * 4294967296 ^ i := by
  induction xs generalizing i with
  | nil => simp at h
  | cons x xs ih =>
    cases i with
    | zero => simp [val]; omega
    | succ i =>
      have := ih (i := i) (by simpa using h)
      simp only [List.set_cons_succ, val, List.getD_cons_succ, Nat.pow_succ]
      grind
theorem val_take_succ (xs : List Nat) (i : Nat) : val (xs.take (i + 1)) = val (xs.take i) + xs.getD i 0 * 4294967296 ^ i := by
  induction xs generalizing i with
  | nil => simp [val]
  | cons x xs ih =>
    cases i with
    | zero => simp [val]
    | succ i =>
      have := ih i
      simp only [List.take_succ_cons, val, List.getD_cons_succ, Nat.pow_succ] at this ⊢
      rw [this]
      grind
theorem val_split (xs : List Nat) (i : Nat) (h : i ≤ xs.length) : val xs = val (xs.take i) + 4294967296 ^ i * val (xs.drop i) := by
  have := val_append (xs.take i) (xs.drop i)
  rwa [List.take_append_drop, List.length_take, Nat.min_eq_left h] at this
theorem val_take_le (xs : List Nat) (i : Nat) : val (xs.take i) ≤ val xs := by
  by_cases h : i ≤ xs.length
  · have := val_split xs i h; omega
  · rw [List.take_of_length_le (by omega)]; exact Nat.le_refl _
theorem val_getD_le (xs : List Nat) (i : Nat) : xs.getD i 0 * 4294967296 ^ i ≤ val xs := by
  have h1 := val_take_succ xs i
  have h2 := val_take_le xs (i + 1)
  omega
theorem getD_zero_of_lt {xs : List Nat} {i m : Nat} (h : val xs < 4294967296 ^ m) (hm : m ≤ i) : xs.getD i 0 = 0 := by
  have h1 := val_getD_le xs i
  have h2 : 4294967296 ^ m ≤ 4294967296 ^ i := Nat.pow_le_pow_right (by omega) hm
  rcases Nat.eq_zero_or_pos (xs.getD i 0) with h3 | h3
  · exact h3
  · have : 1 * 4294967296 ^ i ≤ xs.getD i 0 * 4294967296 ^ i := Nat.mul_le_mul_right _ h3
    omega
theorem val_take_of_lt {xs : List Nat} {m : Nat} (h : val xs < 4294967296 ^ m) : val (xs.take m) = val xs := by
  by_cases hm : m ≤ xs.length
  · have h1 := val_split xs m hm
    rcases Nat.eq_zero_or_pos (val (xs.drop m)) with h3 | h3
    · rw [h3] at h1; omega
    · have : 4294967296 ^ m * 1 ≤ 4294967296 ^ m * val (xs.drop m) := Nat.mul_le_mul_left _ h3
      omega
  · rw [List.take_of_length_le (by omega)]

/-! ### The words of a number -/
theorem digs_fuel : ∀ (f v : Nat), v ≤ f → digs f v = wordsOf v := by
  intro f
  induction f using Nat.strongRecOn with
  | _ f ih =>
    intro v hv
    cases f with
    | zero => have : v = 0 := by omega
              subst this; rfl
    | succ f =>
      unfold wordsOf
      cases v with
      | zero => simp [digs]
      | succ v =>
        simp only [digs]
        have h1 : (v + 1) / 4294967296 ≤ v := by omega
        rw [ih f (by omega) _ (by omega)]
        by_cases hvf : v = f
        · subst hvf; rw [ih v (by omega) _ h1]
        · rw [ih v (by omega) _ h1]
theorem words_zero : wordsOf 0 = [] := rfl
theorem words_pos {v : Nat} (h : v ≠ 0) : wordsOf v = v % 4294967296 :: wordsOf (v / 4294967296) := by
  cases v with
  | zero => exact absurd rfl h
  | succ v =>
    conv => lhs; unfold wordsOf digs
    simp only [Nat.add_eq_zero_iff]
    rw [digs_fuel v _ (by omega)]
    simp
theorem val_words (v : Nat) : val (wordsOf v) = v := by
  induction v using Nat.strongRecOn with
  | _ v ih =>
    by_cases h : v = 0
    · subst h; rfl
    · rw [words_pos h, val, ih _ (by omega)]; omega
theorem words_w32 (v : Nat) : W32 (wordsOf v) := by
  induction v using Nat.strongRecOn with
  | _ v ih =>
    by_cases h : v = 0
    · subst h; exact W32.nil
    · rw [words_pos h]; exact W32.cons (by omega) (ih _ (by omega))
/-- The number of words. -/
def nw (v : Nat) : Nat := (wordsOf v).length
theorem nw_zero : nw 0 = 0 := rfl
theorem nw_pos {v : Nat} (h : v ≠ 0) : nw v = nw (v / 4294967296) + 1 := by unfold nw; rw [words_pos h]; rfl
theorem nw_le_iff {v k : Nat} : nw v ≤ k ↔ v < 4294967296 ^ k := by
  induction k generalizing v with
  | zero =>
    by_cases h : v = 0
    · subst h; simp [nw_zero]
    · rw [nw_pos h]; simp; omega
  | succ k ih =>
    by_cases h : v = 0
    · subst h; simp [nw_zero, Nat.pow_pos]
    · rw [nw_pos h, Nat.pow_succ, Nat.add_le_add_iff_right, ih, Nat.div_lt_iff_lt_mul (by omega)]
theorem lt_pow_nw (v : Nat) : v < 4294967296 ^ nw v := nw_le_iff.1 (Nat.le_refl _)
theorem nw_mono {a b : Nat} (h : a ≤ b) : nw a ≤ nw b := nw_le_iff.2 (Nat.lt_of_le_of_lt h (lt_pow_nw b))
theorem nw_mul (a b : Nat) : nw (a * b) ≤ nw a + nw b := by
  rw [nw_le_iff, Nat.pow_add]
  exact Nat.mul_lt_mul'' (lt_pow_nw a) (lt_pow_nw b)
theorem nw_add (a b : Nat) : nw (a + b) ≤ max (nw a) (nw b) + 1 := by
  rw [nw_le_iff, Nat.pow_succ]
  have h1 : a < 4294967296 ^ max (nw a) (nw b) := nw_le_iff.1 (Nat.le_max_left ..)
  have h2 : b < 4294967296 ^ max (nw a) (nw b) := nw_le_iff.1 (Nat.le_max_right ..)
  omega
theorem nw_small {a : Nat} (h : a < 18446744073709551616) : nw a ≤ 2 := nw_le_iff.2 (by omega)
/-- A row whose last word is no 0 is the words of its value. -/
theorem words_of_row {xs : List Nat} (h : W32 xs) (hl : ∀ x, xs.getLast? = some x → x ≠ 0) : wordsOf (val xs) = xs := by
  induction xs with
  | nil => rfl
  | cons x xs ih =>
    have hx := h x (by simp)
    have h0 : val (x :: xs) ≠ 0 := by
      intro h0
      rw [val_cons] at h0
      have hv : val xs = 0 := by omega
      cases xs with
      | nil => exact hl x rfl (by omega)
      | cons y ys =>
        have := ih (fun z hz => h z (by simp [hz])) (fun z hz => hl z (by simpa using hz))
        rw [hv] at this
        cases this
    rw [words_pos h0, val_cons]
    have e1 : (x + 4294967296 * val xs) % 4294967296 = x := by omega
    have e2 : (x + 4294967296 * val xs) / 4294967296 = val xs := by omega
    rw [e1, e2]
    congr 1
    exact ih (fun z hz => h z (by simp [hz])) (fun z hz => hl z (by
      cases xs with
      | nil => simp at hz
      | cons y ys => simpa using hz))

end Go.Proofs.YtpkoldfmbebmgaaGreatDoor
