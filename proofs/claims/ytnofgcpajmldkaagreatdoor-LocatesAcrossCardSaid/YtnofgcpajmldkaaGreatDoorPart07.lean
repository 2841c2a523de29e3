import Derived.Laws.CopyRow
import Derived.Test.YtnofgcpajmldkaaGreatDoorPart05
import Derived.Test.YtnofgcpajmldkaaGreatDoorPart06
namespace Go.Proofs.YtnofgcpajmldkaaGreatDoor
open Go Go.RowKit
set_option linter.unusedVariables false
set_option linter.unusedSimpArgs false
section
section
variable {P : Program} {ops : Array Oper} {l rest : List Oper} {Q : Exit → Act → World → Prop} {n : Nat} {F F' FM : List (Nat × Value)} {w0 : Base} {L L' LM : List As} {o : Oper} {v u : Value} {c x y : Code}
theorem wp_mono_normal {o : Oper} {a : Act} {w : World} {K K' : Act → World → Prop} {Q' : Exit → Act → World → Prop} (h : ∀ a w, K a w → K' a w) (hq : ∀ e a w, e ≠ .normal → ¬ Q e a w)
    (hh : o.wp P a w K Q) : o.wp P a w K' Q' := by
  unfold Oper.wp at *
  generalize (execOp a.eval o).run P w = r at *
  cases r with
  | ok n w' =>
    cases n <;> simp only [Oper.upon] at hh ⊢ <;>
      first
        | exact h _ _ hh
        | exact Calls.mono hh (fun e w'' he => by cases e <;> first | exact h _ _ he | exact absurd he (hq _ _ _ (by simp)) | exact (match he with | ⟨_, _, hl⟩ => absurd hl (hq _ _ _ (by simp))))
        | exact Rows.mono hh (fun _ _ he => h _ _ he)
  | halt x w' => cases x <;> simp only [Oper.upon] at hh ⊢ <;> exact absurd hh (hq _ _ _ (by simp))
theorem OkL.mid (m : Nat) (h1 : OkL P ops (l.take m) (fun e a w => e = .normal ∧ Frm n a FM ∧ Own w0 w LM) n F w0 L) (h2 : OkL P ops (l.drop m) Q n FM w0 LM) : OkL P ops l Q n F w0 L := fun a w ha hW => by
  have key : ∀ (m : Nat) (l : List Oper) (a : Act) (w : World), wpList P ops (fun e a w => e = .normal ∧ Frm n a FM ∧ Own w0 w LM) (l.take m) a w → (∀ a w, Frm n a FM → Own w0 w LM → wpList P ops Q (l.drop m) a w) → wpList P ops Q l a w := by
    intro m
    induction m with
    | zero => intro l a w h h2; exact h2 a w h.2.1 h.2.2
    | succ m ih =>
      intro l a w h h2
      cases l with
      | nil => exact h2 a w h.2.1 h.2.2
      | cons o l =>
        simp only [List.take_succ_cons] at h
        unfold wpList at h ⊢
        split at h
        · rename_i hg
          rw [if_pos hg]
          rcases h with h | ⟨_, _, _, hl, _⟩
          · exact .inl (wp_mono_normal (fun a w hk => ih l a w hk h2) (fun e a w he hq => he hq.1) h)
          · cases hl
        · rename_i hg
          rw [if_neg hg]
          exact ih l _ w h h2
  exact key m l a w (h1 a w ha hW) h2
theorem OkQ.mid (hs : SubF FM F) (hl : LM.Sublist L) : OkQ (fun e a w => e = .normal ∧ Frm n a FM ∧ Own w0 w LM) .normal n F w0 L := fun _ _ ha hw => ⟨rfl, ha.sub hs, hw.weak hl⟩
theorem Frm.retell {a : Act} (h : Frm n a F) {k : Nat} (hk : F.lookup k = some v) (hv : v = u) : Frm n a ((k, u) :: F) := by
  subst hv
  refine ⟨h.1, h.2.1, fun j x hj => ?_⟩
  simp only [List.lookup_cons] at hj
  split at hj
  · rename_i e
    injection hj with hj
    subst hj
    have : j = k := by simpa using e
    subst this
    exact h.2.2 j _ hk
  · exact h.2.2 j x hj
theorem OkL.retell {k : Nat} (hk : F.lookup k = some v) (hv : v = u) (next : OkL P ops rest Q n ((k, u) :: F) w0 L) : OkL P ops rest Q n F w0 L := fun a w ha hW => next a w (ha.retell hk hv) hW
theorem OkQ.retell {e : Exit} {k : Nat} (hk : F.lookup k = some v) (hv : v = u) (next : OkQ Q e n ((k, u) :: F) w0 L) : OkQ Q e n F w0 L := fun a w ha hW => next a w (ha.retell hk hv) hW
theorem OkC.retell {k : Nat} (hk : F.lookup k = some v) (hv : v = u) (next : OkC P c Q n ((k, u) :: F) w0 L) : OkC P c Q n F w0 L := fun a w ha hW => next a w (ha.retell hk hv) hW
theorem OkQ.reblock {e : Exit} (h : L = L') (next : OkQ Q e n F w0 L') : OkQ Q e n F w0 L := h ▸ next
theorem OkL.reblock (h : L = L') (next : OkL P ops rest Q n F w0 L') : OkL P ops rest Q n F w0 L := h ▸ next
theorem OkC.reblock (h : L = L') (next : OkC P c Q n F w0 L') : OkC P c Q n F w0 L := h ▸ next
theorem OkL.openV {d : Nat} {T : TypeId} {cs : List Value} {V : Nat → Value} (hw : Wt ops n F o)
    (he : ∀ a w, Frm n a F → Own w0 w L → (execOp a.eval o).run P w = .ok (.value (V w.heap.size)) (w.alloc (.cells cs.toArray T)))
    (ho : o.dst = some d) (hd : d < n) (next : ∀ b, OkL P ops rest Q n ((d, V b) :: F) w0 (blk b T cs :: L)) : OkL P ops (o :: rest) Q n F w0 L := fun a w ha hW => by
  unfold wpList
  rw [if_pos (hw a ha)]
  left
  unfold Oper.wp
  rw [he a w ha hW, Oper.upon_value, ho]
  exact next _ _ _ (ha.put hd) (hW.alloc _ rfl rfl)
end
theorem ca_blk {w : World} {b : Nat} {cs : List Value} {T : TypeId} {fr : Nat × Nat} (h : w.heap[b]? = some (.cells cs.toArray T fr)) : CA w b 0 cs := by
  have := ca_of_row (off := 0) (k := cs.length) h
  simpa using this
theorem ble_row {xs : List Nat} {f : List Nat → List Value} (hf : (f xs).length = xs.length) {j : Nat} (h : j < xs.length) : Nat.ble (j + 1) (f xs).length = true := Nat.ble_eq_true_of_le (by omega)
def W32 (xs : List Nat) : Prop := ∀ x ∈ xs, x < 4294967296
theorem W32.getD {xs : List Nat} (h : W32 xs) (i : Nat) : xs.getD i 0 < 4294967296 := by
  by_cases hi : i < xs.length
  · simp [hi]; exact h _ (List.getElem_mem hi)
  · simp [Nat.not_lt.1 hi]
theorem W32.set {xs : List Nat} (h : W32 xs) {v : Nat} (hv : v < 4294967296) (i : Nat) : W32 (xs.set i v) := fun x hx => by
  rcases List.mem_or_eq_of_mem_set hx with h1 | h1
  · exact h x h1
  · omega
theorem W32.take {xs : List Nat} (h : W32 xs) (i : Nat) : W32 (xs.take i) := fun x hx => h x (List.mem_of_mem_take hx)
theorem W32.drop {xs : List Nat} (h : W32 xs) (i : Nat) : W32 (xs.drop i) := fun x hx => h x (List.mem_of_mem_drop hx)
theorem W32.zeros (k : Nat) : W32 (List.replicate k 0) := fun x hx => by rw [(List.mem_replicate.1 hx).2]; omega
theorem W32.append {xs ys : List Nat} (h : W32 xs) (h' : W32 ys) : W32 (xs ++ ys) := fun x hx => by
  rcases List.mem_append.1 hx with h1 | h1
  · exact h x h1
  · exact h' x h1
theorem W32.cons {x : Nat} {xs : List Nat} (h : x < 4294967296) (h' : W32 xs) : W32 (x :: xs) := fun y hy => by
  rcases List.mem_cons.1 hy with h1 | h1
  · omega
  · exact h' y h1
theorem W32.nil : W32 [] := fun _ h => by cases h
def val : List Nat → Nat
  | [] => 0
  | x :: xs => x + 4294967296 * val xs
theorem val_cons (x : Nat) (xs : List Nat) : val (x :: xs) = x + 4294967296 * val xs := rfl
theorem val_append (xs ys : List Nat) : val (xs ++ ys) = val xs + 4294967296 ^ xs.length * val ys := by
  induction xs with
  | nil => simp [val]
  | cons x xs ih => simp only [List.cons_append, val, ih, List.length_cons, Nat.pow_succ]; grind
theorem val_zeros (k : Nat) : val (List.replicate k 0) = 0 := by
  induction k with
  | zero => rfl
  | succ k ih => simp [List.replicate_succ, val, ih]
theorem val_lt {xs : List Nat} (h : W32 xs) : val xs < 4294967296 ^ xs.length := by
  induction xs with
  | nil => simp [val]
  | cons x xs ih =>
    have h1 := h x (by simp)
    have h2 := ih (fun y hy => h y (by simp [hy]))
    simp only [val, List.length_cons, Nat.pow_succ]
    omega
theorem val_set {xs : List Nat} {i : Nat} (h : i < xs.length) (v : Nat) : val (xs.set i v) + xs.getD i 0 * 4294967296 ^ i = val xs + v * 4294967296 ^ i := by
  induction xs generalizing i with
  | nil => simp at h
  | cons x xs ih =>
    cases i with
    | zero => simp [val]; omega
    | succ i =>
      have := ih (i := i) (by simpa using h)
      simp only [List.set_cons_succ, val, List.getD_cons_succ, Nat.pow_succ]
      grind
theorem val_take_succ (xs : List Nat) (i : Nat) : val (xs.take (i + 1)) = val (xs.take i) + xs.getD i 0 * 4294967296 ^ i := by
  induction xs generalizing i with
  | nil => simp [val]
  | cons x xs ih =>
    cases i with
    | zero => simp [val]
    | succ i =>
      have := ih i
      simp only [List.take_succ_cons, val, List.getD_cons_succ, Nat.pow_succ] at this ⊢
      rw [this]
      grind
theorem val_split (xs : List Nat) (i : Nat) (h : i ≤ xs.length) : val xs = val (xs.take i) + 4294967296 ^ i * val (xs.drop i) := by
  have := val_append (xs.take i) (xs.drop i)
  rwa [List.take_append_drop, List.length_take, Nat.min_eq_left h] at this
theorem val_take_le (xs : List Nat) (i : Nat) : val (xs.take i) ≤ val xs := by
  by_cases h : i ≤ xs.length
  · have := val_split xs i h; omega
  · rw [List.take_of_length_le (by omega)]; exact Nat.le_refl _
theorem val_getD_le (xs : List Nat) (i : Nat) : xs.getD i 0 * 4294967296 ^ i ≤ val xs := by
  have h1 := val_take_succ xs i
  have h2 := val_take_le xs (i + 1)
  omega
theorem getD_zero_of_lt {xs : List Nat} {i m : Nat} (h : val xs < 4294967296 ^ m) (hm : m ≤ i) : xs.getD i 0 = 0 := by
  have h1 := val_getD_le xs i
  have h2 : 4294967296 ^ m ≤ 4294967296 ^ i := Nat.pow_le_pow_right (by omega) hm
  rcases Nat.eq_zero_or_pos (xs.getD i 0) with h3 | h3
  · exact h3
  · have : 1 * 4294967296 ^ i ≤ xs.getD i 0 * 4294967296 ^ i := Nat.mul_le_mul_right _ h3
    omega
theorem val_take_of_lt {xs : List Nat} {m : Nat} (h : val xs < 4294967296 ^ m) : val (xs.take m) = val xs := by
  by_cases hm : m ≤ xs.length
  · have h1 := val_split xs m hm
    rcases Nat.eq_zero_or_pos (val (xs.drop m)) with h3 | h3
    · rw [h3] at h1; omega
    · have : 4294967296 ^ m * 1 ≤ 4294967296 ^ m * val (xs.drop m) := Nat.mul_le_mul_left _ h3
      omega
  · rw [List.take_of_length_le (by omega)]
theorem digs_fuel : ∀ (f v : Nat), v ≤ f → digs f v = wordsOf v := by
  intro f
  induction f using Nat.strongRecOn with
  | _ f ih =>
    intro v hv
    cases f with
    | zero => have : v = 0 := by omega
              subst this; rfl
    | succ f =>
      unfold wordsOf
      cases v with
      | zero => simp [digs]
      | succ v =>
        simp only [digs]
        have h1 : (v + 1) / 4294967296 ≤ v := by omega
        rw [ih f (by omega) _ (by omega)]
        by_cases hvf : v = f
        · subst hvf; rw [ih v (by omega) _ h1]
        · rw [ih v (by omega) _ h1]
theorem words_zero : wordsOf 0 = [] := rfl
theorem words_pos {v : Nat} (h : v ≠ 0) : wordsOf v = v % 4294967296 :: wordsOf (v / 4294967296) := by
  cases v with
  | zero => exact absurd rfl h
  | succ v =>
    conv => lhs; unfold wordsOf digs
    simp only [Nat.add_eq_zero_iff]
    rw [digs_fuel v _ (by omega)]
    simp
theorem val_words (v : Nat) : val (wordsOf v) = v := by
  induction v using Nat.strongRecOn with
  | _ v ih =>
    by_cases h : v = 0
    · subst h; rfl
    · rw [words_pos h, val, ih _ (by omega)]; omega
theorem words_w32 (v : Nat) : W32 (wordsOf v) := by
  induction v using Nat.strongRecOn with
  | _ v ih =>
    by_cases h : v = 0
    · subst h; exact W32.nil
    · rw [words_pos h]; exact W32.cons (by omega) (ih _ (by omega))
def nw (v : Nat) : Nat := (wordsOf v).length
theorem nw_zero : nw 0 = 0 := rfl
theorem nw_pos {v : Nat} (h : v ≠ 0) : nw v = nw (v / 4294967296) + 1 := by unfold nw; rw [words_pos h]; rfl
theorem nw_le_iff {v k : Nat} : nw v ≤ k ↔ v < 4294967296 ^ k := by
  induction k generalizing v with
  | zero =>
    by_cases h : v = 0
    · subst h; simp [nw_zero]
    · rw [nw_pos h]; simp; omega
  | succ k ih =>
    by_cases h : v = 0
    · subst h; simp [nw_zero, Nat.pow_pos]
    · rw [nw_pos h, Nat.pow_succ, Nat.add_le_add_iff_right, ih, Nat.div_lt_iff_lt_mul (by omega)]
theorem lt_pow_nw (v : Nat) : v < 4294967296 ^ nw v := nw_le_iff.1 (Nat.le_refl _)
theorem nw_mono {a b : Nat} (h : a ≤ b) : nw a ≤ nw b := nw_le_iff.2 (Nat.lt_of_le_of_lt h (lt_pow_nw b))
theorem nw_mul (a b : Nat) : nw (a * b) ≤ nw a + nw b := by
  rw [nw_le_iff, Nat.pow_add]
  exact Nat.mul_lt_mul'' (lt_pow_nw a) (lt_pow_nw b)
theorem nw_add (a b : Nat) : nw (a + b) ≤ max (nw a) (nw b) + 1 := by
  rw [nw_le_iff, Nat.pow_succ]
  have h1 : a < 4294967296 ^ max (nw a) (nw b) := nw_le_iff.1 (Nat.le_max_left ..)
  have h2 : b < 4294967296 ^ max (nw a) (nw b) := nw_le_iff.1 (Nat.le_max_right ..)
  omega
theorem nw_small {a : Nat} (h : a < 18446744073709551616) : nw a ≤ 2 := nw_le_iff.2 (by omega)
theorem words_of_row {xs : List Nat} (h : W32 xs) (hl : ∀ x, xs.getLast? = some x → x ≠ 0) : wordsOf (val xs) = xs := by
  induction xs with
  | nil => rfl
  | cons x xs ih =>
    have hx := h x (by simp)
    have h0 : val (x :: xs) ≠ 0 := by
      intro h0
      rw [val_cons] at h0
      have hv : val xs = 0 := by omega
      cases xs with
      | nil => exact hl x rfl (by omega)
      | cons y ys =>
        have := ih (fun z hz => h z (by simp [hz])) (fun z hz => hl z (by simpa using hz))
        rw [hv] at this
        cases this
    rw [words_pos h0, val_cons]
    have e1 : (x + 4294967296 * val xs) % 4294967296 = x := by omega
    have e2 : (x + 4294967296 * val xs) / 4294967296 = val xs := by omega
    rw [e1, e2]
    congr 1
    exact ih (fun z hz => h z (by simp [hz])) (fun z hz => hl z (by
      cases xs with
      | nil => simp at hz
      | cons y ys => simpa using hz))
end
section
section
variable {P : Program} {Q : Exit → Act → World → Prop} {n : Nat} {F : List (Nat × Value)} {w0 : Base} {L : List As} {c x y : Code}
def Tg {α : Sort _} (_ : α) : Prop := True
theorem tg {α : Sort _} (a : α) : Tg a := trivial
def Jn0  (n : Nat) (w0 : Base) (J : Prop) (FI : List (Nat × Value)) (LI : List As) (Q : Exit → Act → World → Prop) : Exit → Act → World → Prop :=
  Exit.then (fun a w => J ∧ Frm n a FI ∧ Own w0 w LI) Q
theorem OkC.join0  (J : Prop) (FI : List (Nat × Value)) (LI : List As) (h1 : OkC P x (Jn0 n w0 J FI LI Q) n F w0 L) (h2 : J → OkQ Q .normal n FI w0 LI) : OkC P x Q n F w0 L := fun a w ha hw => by
  refine Code.wp_mono (fun e a' w' hq => ?_) (h1 a w ha hw)
  cases e <;> first
    | (obtain ⟨h3, h4, h5⟩ := hq; exact h2 h3 a' w' h4 h5)
    | exact hq
theorem OkQ.join0  {J : Prop} {FI : List (Nat × Value)} {LI : List As}  (hJ : J) (hs : SubF FI F) (hl : (LI).Sublist L) : OkQ (Jn0 n w0 J FI LI Q) .normal n F w0 L := fun _ _ ha hw => ⟨hJ, ha.sub hs, hw.weak hl⟩
theorem OkC.jn0  {J : Prop} {FI : List (Nat × Value)} {LI : List As} (_ : Tg J) (_ : Tg FI) (_ : Tg LI) (h1 : OkC P x (Jn0 n w0 J FI LI Q) n F w0 L) (h2 : J → OkQ Q .normal n FI w0 LI) : OkC P x Q n F w0 L := OkC.join0 J FI LI h1 h2
theorem OkQ.join0_ret  {J : Prop} {FI : List (Nat × Value)} {LI : List As}  (h : OkQ Q (.ret) n F w0 L) : OkQ (Jn0 n w0 J FI LI Q) (.ret) n F w0 L := h
def Jn1 {α : Type} (n : Nat) (w0 : Base) (J : α → Prop) (FI : α → List (Nat × Value)) (LI : α → List As) (Q : Exit → Act → World → Prop) : Exit → Act → World → Prop :=
  Exit.then (fun a w => ∃ i', J i' ∧ Frm n a (FI i') ∧ Own w0 w (LI i')) Q
theorem OkC.join1 {α : Type} (J : α → Prop) (FI : α → List (Nat × Value)) (LI : α → List As) (h1 : OkC P x (Jn1 n w0 J FI LI Q) n F w0 L) (h2 : ∀ i, J i → OkQ Q .normal n (FI i) w0 (LI i)) : OkC P x Q n F w0 L := fun a w ha hw => by
  refine Code.wp_mono (fun e a' w' hq => ?_) (h1 a w ha hw)
  cases e <;> first
    | (obtain ⟨i, h3, h4, h5⟩ := hq; exact h2 i h3 a' w' h4 h5)
    | exact hq
theorem OkQ.join1 {α : Type} {J : α → Prop} {FI : α → List (Nat × Value)} {LI : α → List As} (i : α) (hJ : J i) (hs : SubF (FI i) F) (hl : (LI i).Sublist L) : OkQ (Jn1 n w0 J FI LI Q) .normal n F w0 L := fun _ _ ha hw => ⟨i, hJ, ha.sub hs, hw.weak hl⟩
theorem OkC.jn1 {α : Type} {J : α → Prop} {FI : α → List (Nat × Value)} {LI : α → List As} (_ : Tg J) (_ : Tg FI) (_ : Tg LI) (h1 : OkC P x (Jn1 n w0 J FI LI Q) n F w0 L) (h2 : ∀ i, J i → OkQ Q .normal n (FI i) w0 (LI i)) : OkC P x Q n F w0 L := OkC.join1 J FI LI h1 h2
theorem OkQ.join1_ret {α : Type} {J : α → Prop} {FI : α → List (Nat × Value)} {LI : α → List As}  (h : OkQ Q (.ret) n F w0 L) : OkQ (Jn1 n w0 J FI LI Q) (.ret) n F w0 L := h
def Rnd1 {α : Type} (n : Nat) (w0 : Base) (J : α → Prop) (FI : α → List (Nat × Value)) (LI : α → List As) (m : α → Nat) (i : α) (Q : Exit → Act → World → Prop) : Exit → Act → World → Prop :=
  Exit.then (fun a w => ∃ i', J i' ∧ m i' < m i ∧ Frm n a (FI i') ∧ Own w0 w (LI i')) Q
theorem OkC.loop1 {α : Type} (J : α → Prop) (FI : α → List (Nat × Value)) (LI : α → List As) (m : α → Nat) (round : ∀ i, J i → OkC P c (Rnd1 n w0 J FI LI m i Q) n (FI i) w0 (LI i))
    (i : α) (h : J i) : OkC P (.loop c) Q n (FI i) w0 (LI i) :=
  OkC.loop (σ := α) (fun s => J s) (fun s => FI s) (fun s => LI s) (fun s => m s) (fun s hs a w ha hw => by
    refine Code.wp_mono (fun e a' w' hq => ?_) (round s hs a w ha hw)
    cases e <;> first
      | (obtain ⟨i', h1, h2, h3, h4⟩ := hq; exact ⟨i', h1, h2, h3, h4⟩)
      | exact hq) i h
theorem OkC.lp1 {α : Type} {J : α → Prop} {FI : α → List (Nat × Value)} {LI : α → List As} {m : α → Nat} (_ : Tg J) (_ : Tg FI) (_ : Tg LI) (_ : Tg m) (i : α) (h : J i) (hs : SubF (FI i) F) (hl : (LI i).Sublist L)
    (round : ∀ i, J i → OkC P c (Rnd1 n w0 J FI LI m i Q) n (FI i) w0 (LI i)) : OkC P (.loop c) Q n F w0 L := OkC.sub hs hl (OkC.loop1 J FI LI m round i h)
theorem OkQ.round1 {α : Type} {J : α → Prop} {FI : α → List (Nat × Value)} {LI : α → List As} {m : α → Nat} {i : α} (i' : α) (hJ : J i') (hm : m i' < m i) (hs : SubF (FI i') F) (hl : (LI i').Sublist L) : OkQ (Rnd1 n w0 J FI LI m i Q) .normal n F w0 L := fun _ _ ha hw => ⟨i', hJ, hm, ha.sub hs, hw.weak hl⟩
theorem OkQ.round1_ret {α : Type} {J : α → Prop} {FI : α → List (Nat × Value)} {LI : α → List As} {m : α → Nat} {i : α}  (h : OkQ Q (.ret) n F w0 L) : OkQ (Rnd1 n w0 J FI LI m i Q) (.ret) n F w0 L := h
theorem OkQ.round1_exit {α : Type} {J : α → Prop} {FI : α → List (Nat × Value)} {LI : α → List As} {m : α → Nat} {i : α} {id : Nat} (h : OkQ Q (.exit id) n F w0 L) : OkQ (Rnd1 n w0 J FI LI m i Q) (.exit id) n F w0 L := h
def Jn2 {α β : Type} (n : Nat) (w0 : Base) (J : α → β → Prop) (FI : α → β → List (Nat × Value)) (LI : α → β → List As) (Q : Exit → Act → World → Prop) : Exit → Act → World → Prop :=
  Exit.then (fun a w => ∃ i' j', J i' j' ∧ Frm n a (FI i' j') ∧ Own w0 w (LI i' j')) Q
theorem OkC.join2 {α β : Type} (J : α → β → Prop) (FI : α → β → List (Nat × Value)) (LI : α → β → List As) (h1 : OkC P x (Jn2 n w0 J FI LI Q) n F w0 L) (h2 : ∀ i j, J i j → OkQ Q .normal n (FI i j) w0 (LI i j)) : OkC P x Q n F w0 L := fun a w ha hw => by
  refine Code.wp_mono (fun e a' w' hq => ?_) (h1 a w ha hw)
  cases e <;> first
    | (obtain ⟨i, j, h3, h4, h5⟩ := hq; exact h2 i j h3 a' w' h4 h5)
    | exact hq
theorem OkQ.join2 {α β : Type} {J : α → β → Prop} {FI : α → β → List (Nat × Value)} {LI : α → β → List As} (i : α) (j : β) (hJ : J i j) (hs : SubF (FI i j) F) (hl : (LI i j).Sublist L) : OkQ (Jn2 n w0 J FI LI Q) .normal n F w0 L := fun _ _ ha hw => ⟨i, j, hJ, ha.sub hs, hw.weak hl⟩
theorem OkC.jn2 {α β : Type} {J : α → β → Prop} {FI : α → β → List (Nat × Value)} {LI : α → β → List As} (_ : Tg J) (_ : Tg FI) (_ : Tg LI) (h1 : OkC P x (Jn2 n w0 J FI LI Q) n F w0 L) (h2 : ∀ i j, J i j → OkQ Q .normal n (FI i j) w0 (LI i j)) : OkC P x Q n F w0 L := OkC.join2 J FI LI h1 h2
theorem OkQ.join2_ret {α β : Type} {J : α → β → Prop} {FI : α → β → List (Nat × Value)} {LI : α → β → List As}  (h : OkQ Q (.ret) n F w0 L) : OkQ (Jn2 n w0 J FI LI Q) (.ret) n F w0 L := h
def Rnd2 {α β : Type} (n : Nat) (w0 : Base) (J : α → β → Prop) (FI : α → β → List (Nat × Value)) (LI : α → β → List As) (m : α → β → Nat) (i : α) (j : β) (Q : Exit → Act → World → Prop) : Exit → Act → World → Prop :=
  Exit.then (fun a w => ∃ i' j', J i' j' ∧ m i' j' < m i j ∧ Frm n a (FI i' j') ∧ Own w0 w (LI i' j')) Q
theorem OkC.loop2 {α β : Type} (J : α → β → Prop) (FI : α → β → List (Nat × Value)) (LI : α → β → List As) (m : α → β → Nat) (round : ∀ i j, J i j → OkC P c (Rnd2 n w0 J FI LI m i j Q) n (FI i j) w0 (LI i j))
    (i : α) (j : β) (h : J i j) : OkC P (.loop c) Q n (FI i j) w0 (LI i j) :=
  OkC.loop (σ := α × β) (fun s => J s.1 s.2) (fun s => FI s.1 s.2) (fun s => LI s.1 s.2) (fun s => m s.1 s.2) (fun s hs a w ha hw => by
    refine Code.wp_mono (fun e a' w' hq => ?_) (round s.1 s.2 hs a w ha hw)
    cases e <;> first
      | (obtain ⟨i', j', h1, h2, h3, h4⟩ := hq; exact ⟨(i', j'), h1, h2, h3, h4⟩)
      | exact hq) (i, j) h
theorem OkC.lp2 {α β : Type} {J : α → β → Prop} {FI : α → β → List (Nat × Value)} {LI : α → β → List As} {m : α → β → Nat} (_ : Tg J) (_ : Tg FI) (_ : Tg LI) (_ : Tg m) (i : α) (j : β) (h : J i j) (hs : SubF (FI i j) F) (hl : (LI i j).Sublist L)
    (round : ∀ i j, J i j → OkC P c (Rnd2 n w0 J FI LI m i j Q) n (FI i j) w0 (LI i j)) : OkC P (.loop c) Q n F w0 L := OkC.sub hs hl (OkC.loop2 J FI LI m round i j h)
theorem OkQ.round2 {α β : Type} {J : α → β → Prop} {FI : α → β → List (Nat × Value)} {LI : α → β → List As} {m : α → β → Nat} {i : α} {j : β} (i' : α) (j' : β) (hJ : J i' j') (hm : m i' j' < m i j) (hs : SubF (FI i' j') F) (hl : (LI i' j').Sublist L) : OkQ (Rnd2 n w0 J FI LI m i j Q) .normal n F w0 L := fun _ _ ha hw => ⟨i', j', hJ, hm, ha.sub hs, hw.weak hl⟩
theorem OkQ.round2_exit {α β : Type} {J : α → β → Prop} {FI : α → β → List (Nat × Value)} {LI : α → β → List As} {m : α → β → Nat} {i : α} {j : β} {id : Nat} (h : OkQ Q (.exit id) n F w0 L) : OkQ (Rnd2 n w0 J FI LI m i j Q) (.exit id) n F w0 L := h
def Rnd3 {α β γ : Type} (n : Nat) (w0 : Base) (J : α → β → γ → Prop) (FI : α → β → γ → List (Nat × Value)) (LI : α → β → γ → List As) (m : α → β → γ → Nat) (i : α) (j : β) (k : γ) (Q : Exit → Act → World → Prop) : Exit → Act → World → Prop :=
  Exit.then (fun a w => ∃ i' j' k', J i' j' k' ∧ m i' j' k' < m i j k ∧ Frm n a (FI i' j' k') ∧ Own w0 w (LI i' j' k')) Q
theorem OkC.loop3 {α β γ : Type} (J : α → β → γ → Prop) (FI : α → β → γ → List (Nat × Value)) (LI : α → β → γ → List As) (m : α → β → γ → Nat) (round : ∀ i j k, J i j k → OkC P c (Rnd3 n w0 J FI LI m i j k Q) n (FI i j k) w0 (LI i j k))
    (i : α) (j : β) (k : γ) (h : J i j k) : OkC P (.loop c) Q n (FI i j k) w0 (LI i j k) :=
  OkC.loop (σ := α × β × γ) (fun s => J s.1 s.2.1 s.2.2) (fun s => FI s.1 s.2.1 s.2.2) (fun s => LI s.1 s.2.1 s.2.2) (fun s => m s.1 s.2.1 s.2.2) (fun s hs a w ha hw => by
    refine Code.wp_mono (fun e a' w' hq => ?_) (round s.1 s.2.1 s.2.2 hs a w ha hw)
    cases e <;> first
      | (obtain ⟨i', j', k', h1, h2, h3, h4⟩ := hq; exact ⟨(i', j', k'), h1, h2, h3, h4⟩)
      | exact hq) (i, j, k) h
theorem OkC.lp3 {α β γ : Type} {J : α → β → γ → Prop} {FI : α → β → γ → List (Nat × Value)} {LI : α → β → γ → List As} {m : α → β → γ → Nat} (_ : Tg J) (_ : Tg FI) (_ : Tg LI) (_ : Tg m) (i : α) (j : β) (k : γ) (h : J i j k) (hs : SubF (FI i j k) F) (hl : (LI i j k).Sublist L)
    (round : ∀ i j k, J i j k → OkC P c (Rnd3 n w0 J FI LI m i j k Q) n (FI i j k) w0 (LI i j k)) : OkC P (.loop c) Q n F w0 L := OkC.sub hs hl (OkC.loop3 J FI LI m round i j k h)
theorem OkQ.round3 {α β γ : Type} {J : α → β → γ → Prop} {FI : α → β → γ → List (Nat × Value)} {LI : α → β → γ → List As} {m : α → β → γ → Nat} {i : α} {j : β} {k : γ} (i' : α) (j' : β) (k' : γ) (hJ : J i' j' k') (hm : m i' j' k' < m i j k) (hs : SubF (FI i' j' k') F) (hl : (LI i' j' k').Sublist L) : OkQ (Rnd3 n w0 J FI LI m i j k Q) .normal n F w0 L := fun _ _ ha hw => ⟨i', j', k', hJ, hm, ha.sub hs, hw.weak hl⟩
theorem OkQ.round3_exit {α β γ : Type} {J : α → β → γ → Prop} {FI : α → β → γ → List (Nat × Value)} {LI : α → β → γ → List As} {m : α → β → γ → Nat} {i : α} {j : β} {k : γ} {id : Nat} (h : OkQ Q (.exit id) n F w0 L) : OkQ (Rnd3 n w0 J FI LI m i j k Q) (.exit id) n F w0 L := h
def Rnd4 {α β γ δ : Type} (n : Nat) (w0 : Base) (J : α → β → γ → δ → Prop) (FI : α → β → γ → δ → List (Nat × Value)) (LI : α → β → γ → δ → List As) (m : α → β → γ → δ → Nat) (i : α) (j : β) (k : γ) (l : δ) (Q : Exit → Act → World → Prop) : Exit → Act → World → Prop :=
  Exit.then (fun a w => ∃ i' j' k' l', J i' j' k' l' ∧ m i' j' k' l' < m i j k l ∧ Frm n a (FI i' j' k' l') ∧ Own w0 w (LI i' j' k' l')) Q
theorem OkC.loop4 {α β γ δ : Type} (J : α → β → γ → δ → Prop) (FI : α → β → γ → δ → List (Nat × Value)) (LI : α → β → γ → δ → List As) (m : α → β → γ → δ → Nat) (round : ∀ i j k l, J i j k l → OkC P c (Rnd4 n w0 J FI LI m i j k l Q) n (FI i j k l) w0 (LI i j k l))
    (i : α) (j : β) (k : γ) (l : δ) (h : J i j k l) : OkC P (.loop c) Q n (FI i j k l) w0 (LI i j k l) :=
  OkC.loop (σ := α × β × γ × δ) (fun s => J s.1 s.2.1 s.2.2.1 s.2.2.2) (fun s => FI s.1 s.2.1 s.2.2.1 s.2.2.2) (fun s => LI s.1 s.2.1 s.2.2.1 s.2.2.2) (fun s => m s.1 s.2.1 s.2.2.1 s.2.2.2) (fun s hs a w ha hw => by
    refine Code.wp_mono (fun e a' w' hq => ?_) (round s.1 s.2.1 s.2.2.1 s.2.2.2 hs a w ha hw)
    cases e <;> first
      | (obtain ⟨i', j', k', l', h1, h2, h3, h4⟩ := hq; exact ⟨(i', j', k', l'), h1, h2, h3, h4⟩)
      | exact hq) (i, j, k, l) h
theorem OkC.lp4 {α β γ δ : Type} {J : α → β → γ → δ → Prop} {FI : α → β → γ → δ → List (Nat × Value)} {LI : α → β → γ → δ → List As} {m : α → β → γ → δ → Nat} (_ : Tg J) (_ : Tg FI) (_ : Tg LI) (_ : Tg m) (i : α) (j : β) (k : γ) (l : δ) (h : J i j k l) (hs : SubF (FI i j k l) F) (hl : (LI i j k l).Sublist L)
    (round : ∀ i j k l, J i j k l → OkC P c (Rnd4 n w0 J FI LI m i j k l Q) n (FI i j k l) w0 (LI i j k l)) : OkC P (.loop c) Q n F w0 L := OkC.sub hs hl (OkC.loop4 J FI LI m round i j k l h)
theorem OkQ.round4 {α β γ δ : Type} {J : α → β → γ → δ → Prop} {FI : α → β → γ → δ → List (Nat × Value)} {LI : α → β → γ → δ → List As} {m : α → β → γ → δ → Nat} {i : α} {j : β} {k : γ} {l : δ} (i' : α) (j' : β) (k' : γ) (l' : δ) (hJ : J i' j' k' l') (hm : m i' j' k' l' < m i j k l) (hs : SubF (FI i' j' k' l') F) (hl : (LI i' j' k' l').Sublist L) : OkQ (Rnd4 n w0 J FI LI m i j k l Q) .normal n F w0 L := fun _ _ ha hw => ⟨i', j', k', l', hJ, hm, ha.sub hs, hw.weak hl⟩
theorem OkQ.round4_exit {α β γ δ : Type} {J : α → β → γ → δ → Prop} {FI : α → β → γ → δ → List (Nat × Value)} {LI : α → β → γ → δ → List As} {m : α → β → γ → δ → Nat} {i : α} {j : β} {k : γ} {l : δ} {id : Nat} (h : OkQ Q (.exit id) n F w0 L) : OkQ (Rnd4 n w0 J FI LI m i j k l Q) (.exit id) n F w0 L := h
def Rnd5 {α β γ δ ε : Type} (n : Nat) (w0 : Base) (J : α → β → γ → δ → ε → Prop) (FI : α → β → γ → δ → ε → List (Nat × Value)) (LI : α → β → γ → δ → ε → List As) (m : α → β → γ → δ → ε → Nat) (i : α) (j : β) (k : γ) (l : δ) (o : ε) (Q : Exit → Act → World → Prop) : Exit → Act → World → Prop :=
  Exit.then (fun a w => ∃ i' j' k' l' o', J i' j' k' l' o' ∧ m i' j' k' l' o' < m i j k l o ∧ Frm n a (FI i' j' k' l' o') ∧ Own w0 w (LI i' j' k' l' o')) Q
theorem OkC.loop5 {α β γ δ ε : Type} (J : α → β → γ → δ → ε → Prop) (FI : α → β → γ → δ → ε → List (Nat × Value)) (LI : α → β → γ → δ → ε → List As) (m : α → β → γ → δ → ε → Nat) (round : ∀ i j k l o, J i j k l o → OkC P c (Rnd5 n w0 J FI LI m i j k l o Q) n (FI i j k l o) w0 (LI i j k l o))
    (i : α) (j : β) (k : γ) (l : δ) (o : ε) (h : J i j k l o) : OkC P (.loop c) Q n (FI i j k l o) w0 (LI i j k l o) :=
  OkC.loop (σ := α × β × γ × δ × ε) (fun s => J s.1 s.2.1 s.2.2.1 s.2.2.2.1 s.2.2.2.2) (fun s => FI s.1 s.2.1 s.2.2.1 s.2.2.2.1 s.2.2.2.2) (fun s => LI s.1 s.2.1 s.2.2.1 s.2.2.2.1 s.2.2.2.2) (fun s => m s.1 s.2.1 s.2.2.1 s.2.2.2.1 s.2.2.2.2) (fun s hs a w ha hw => by
    refine Code.wp_mono (fun e a' w' hq => ?_) (round s.1 s.2.1 s.2.2.1 s.2.2.2.1 s.2.2.2.2 hs a w ha hw)
    cases e <;> first
      | (obtain ⟨i', j', k', l', o', h1, h2, h3, h4⟩ := hq; exact ⟨(i', j', k', l', o'), h1, h2, h3, h4⟩)
      | exact hq) (i, j, k, l, o) h
theorem OkC.lp5 {α β γ δ ε : Type} {J : α → β → γ → δ → ε → Prop} {FI : α → β → γ → δ → ε → List (Nat × Value)} {LI : α → β → γ → δ → ε → List As} {m : α → β → γ → δ → ε → Nat} (_ : Tg J) (_ : Tg FI) (_ : Tg LI) (_ : Tg m) (i : α) (j : β) (k : γ) (l : δ) (o : ε) (h : J i j k l o) (hs : SubF (FI i j k l o) F) (hl : (LI i j k l o).Sublist L)
    (round : ∀ i j k l o, J i j k l o → OkC P c (Rnd5 n w0 J FI LI m i j k l o Q) n (FI i j k l o) w0 (LI i j k l o)) : OkC P (.loop c) Q n F w0 L := OkC.sub hs hl (OkC.loop5 J FI LI m round i j k l o h)
theorem OkQ.round5 {α β γ δ ε : Type} {J : α → β → γ → δ → ε → Prop} {FI : α → β → γ → δ → ε → List (Nat × Value)} {LI : α → β → γ → δ → ε → List As} {m : α → β → γ → δ → ε → Nat} {i : α} {j : β} {k : γ} {l : δ} {o : ε} (i' : α) (j' : β) (k' : γ) (l' : δ) (o' : ε) (hJ : J i' j' k' l' o') (hm : m i' j' k' l' o' < m i j k l o) (hs : SubF (FI i' j' k' l' o') F) (hl : (LI i' j' k' l' o').Sublist L) : OkQ (Rnd5 n w0 J FI LI m i j k l o Q) .normal n F w0 L := fun _ _ ha hw => ⟨i', j', k', l', o', hJ, hm, ha.sub hs, hw.weak hl⟩
theorem OkQ.round5_exit {α β γ δ ε : Type} {J : α → β → γ → δ → ε → Prop} {FI : α → β → γ → δ → ε → List (Nat × Value)} {LI : α → β → γ → δ → ε → List As} {m : α → β → γ → δ → ε → Nat} {i : α} {j : β} {k : γ} {l : δ} {o : ε} {id : Nat} (h : OkQ Q (.exit id) n F w0 L) : OkQ (Rnd5 n w0 J FI LI m i j k l o Q) (.exit id) n F w0 L := h
end
end
section
section
variable {w0 : Base} {L : List As}
theorem Own.addRo {w w' : World} {a : As} (h : Own w0 w L) (hb : Bel w.heap.size w w') (hr : a.ro = true) (hh : Holds w' a) (hs : ∀ b, a.foot = some b → w.heap.size ≤ b ∨ ∃ y ∈ L, y.ro = true ∧ y.foot = some b) : Own w0 w' (a :: L) := by
  have h1 := h.below hb
  refine ⟨h1.1, fun z hz b e => ?_, List.pairwise_cons.2 ⟨fun z hz => ?_, h1.2.2⟩⟩
  · rcases List.mem_cons.1 hz with rfl | hz
    · exact ⟨.inl hr, hh b e⟩
    · exact h1.2.1 z hz b e
  · cases hf : a.foot with
    | none => exact .inr fun b e => by cases e
    | some b =>
      rcases hs b hf with h2 | ⟨y, hy, hyr, hyf⟩
      · refine .inr fun b' e e2 => ?_
        injection e with e; subst e
        exact absurd (h.lt hz e2) (by omega)
      · have h3 := alias_apart hr hyr hf hyf (pairwise_mem h.2.2 y hy z hz)
        rw [← hf]; exact h3
end
class Ref (α : Type) where
  val : α → Value
  rows : α → List As
  ro : ∀ a, ∀ y ∈ rows a, y.ro = true
def Ro (S : Nat → Prop) (w : World) {α : Type} [Ref α] (a : α) : Prop := ∀ y ∈ Ref.rows a, Holds w y ∧ ∀ b, y.foot = some b → S b
def GivesR (α : Type) [Ref α] (S : Nat → Prop) (W : World) (e : Ending) (w : World) : Prop :=
  ∃ a : α, e = .returned (Ref.val a) ∧ Bel W.heap.size W w ∧ Ro (fun b => W.heap.size ≤ b ∨ S b) w a
def Nw (w0 : Base) (S : Nat → Prop) (b : Nat) : Prop := w0.w.heap.size ≤ b ∨ S b
def SL (w0 : Base) (S : Nat → Prop) (L : List As) (b : Nat) : Prop := (∃ y ∈ L, y.ro = true ∧ y.foot = some b) ∧ Nw w0 S b
def At (w0 : Base) (S : Nat → Prop) {α : Type} [Ref α] (a : α) : Prop := ∀ y ∈ Ref.rows a, ∀ b, y.foot = some b → Nw w0 S b
section
variable {w0 : Base} {S : Nat → Prop} {w W : World} {L : List As} {α : Type} [Ref α]
theorem inS (hw : Own w0 w L) (i : Nat) {a : α} (hi : (L.drop i).take (Ref.rows a).length = Ref.rows a) (ha : At w0 S a) : Ro (SL w0 S L) w a := fun y hy => by
  have hm : y ∈ L := List.mem_of_mem_drop (i := i) (List.mem_of_mem_take (i := (Ref.rows a).length) (by rw [hi]; exact hy))
  exact ⟨fun b e => (hw.2.1 y hm b e).2, fun b e => ⟨⟨y, hm, Ref.ro a y hy, e⟩, ha y hy b e⟩⟩
theorem Ro.mono {S' : Nat → Prop} {a : α} (h : Ro S w a) (hs : ∀ b, S b → S' b) : Ro S' w a := fun y hy => ⟨(h y hy).1, fun b e => hs b ((h y hy).2 b e)⟩
theorem atA {a : α} (h : Ro S w a) : At ⟨W, none⟩ S a := fun y hy b e => .inr ((h y hy).2 b e)
theorem retR {a : α} {v : Value} (hw : Own ⟨W, none⟩ w L) (h : Ro (SL ⟨W, none⟩ S L) w a) (hv : v = Ref.val a) : GivesR α S W (.returned v) w := ⟨a, by rw [hv], hw.out, h.mono fun b h => h.2⟩
theorem sxA {a : α} (h : Ro S w a) (t : ∀ y ∈ L, y.ro = true ∧ Holds w y) : ∀ y ∈ Ref.rows a ++ L, y.ro = true ∧ Holds w y := fun y hy => (List.mem_append.1 hy).elim (fun k => ⟨Ref.ro a y k, (h y k).1⟩) (t y)
end
theorem Own.addRos {w0 : Base} {w w' : World} {L : List As} (h : Own w0 w L) (hb : Bel w.heap.size w w') : ∀ (xs : List As), (∀ x ∈ xs, x.ro = true ∧ Holds w' x ∧ ∀ b, x.foot = some b → w.heap.size ≤ b ∨ ∃ y ∈ L, y.ro = true ∧ y.foot = some b) → Own w0 w' (xs ++ L)
  | [], _ => h.below hb
  | x :: xs, hx => by
    have h1 := Own.addRos h hb xs fun y hy => hx y (List.mem_cons_of_mem _ hy)
    obtain ⟨hr, hh, hs⟩ := hx x List.mem_cons_self
    have h2 := h.addRo hb hr hh hs
    refine ⟨h1.1, fun y hy => (List.mem_cons.1 hy).elim (fun e => h2.2.1 y (e ▸ List.mem_cons_self)) (fun e => h1.2.1 y e), List.pairwise_cons.2 ⟨fun y hy => ?_, h1.2.2⟩⟩
    rcases List.mem_append.1 hy with hy | hy
    · exact .inl ⟨hr, (hx y (List.mem_cons_of_mem _ hy)).1⟩
    · exact (List.pairwise_cons.1 h2.2.2).1 y hy
section
variable {P : Program} {ops : Array Oper} {rest : List Oper} {Q : Exit → Act → World → Prop} {n d : Nat} {F : List (Nat × Value)} {w0 : Base} {S : Nat → Prop} {L : List As} {t : TypeId} {p : String} {af : Array Edge} {y : Operand} {f : FuncId} {xs : List Operand} {args : List Value} {ts : Array TypeId}
theorem OkL.callRg {α : Type} [Ref α] {g : Option (Nat × Bool)} (hw : Wt ops n F ⟨some d, .call { callee := .value y, args := xs.toArray, argTypes := ts }, t, p, af, g⟩) (hc : ∀ args w, (callFunc f args).run P w = .ok (.enter f args) w) (h : ∀ w, Own w0 w L → Calls P f args.toArray w (GivesR α (SL w0 S L) w))
    (hf : evF F y = some (.func (.func f) #[] #[])) (hargs : xs.map (evF F) = args.map some) (hd : Nat.ble (d + 1) n = true) (next : ∀ a : α, At w0 S a → OkL P ops rest Q n ((d, Ref.val a) :: F) w0 (Ref.rows a ++ L)) :
    OkL P ops (⟨some d, .call { callee := .value y, args := xs.toArray, argTypes := ts }, t, p, af, g⟩ :: rest) Q n F w0 L := fun a w ha hW => by
  unfold wpList
  rw [if_pos (hw a ha)]
  left
  unfold Oper.wp
  rw [op_call0 hf hargs hc a w ha hW, Oper.upon_enter]
  refine (h w hW).mono ?_
  rintro e w' ⟨v, rfl, hb, hr⟩
  exact next v (fun y hy b e => ((hr y hy).2 b e).elim (fun h => .inl (Nat.le_trans hW.1.size h)) fun h => h.2) _ _ (ha.put (blt_lt' hd)) (hW.addRos hb _ fun x hx => ⟨Ref.ro v x hx, (hr x hx).1, fun b e => ((hr x hx).2 b e).imp_right fun h => h.1⟩)
theorem OkL.callR {α : Type} [Ref α] (hc : ∀ args w, (callFunc f args).run P w = .ok (.enter f args) w) (h : ∀ w, Own w0 w L → Calls P f args.toArray w (GivesR α (SL w0 S L) w))
    (hf : evF F y = some (.func (.func f) #[] #[])) (hargs : xs.map (evF F) = args.map some) (hd : Nat.ble (d + 1) n = true) (next : ∀ a : α, At w0 S a → OkL P ops rest Q n ((d, Ref.val a) :: F) w0 (Ref.rows a ++ L)) :
    OkL P ops (⟨some d, .call { callee := .value y, args := xs.toArray, argTypes := ts }, t, p, af, none⟩ :: rest) Q n F w0 L := OkL.callRg (wt_none rfl) hc h hf hargs hd next
theorem wt_undef {ops : Array Oper} {o : Oper} {j t : Nat} {b : Bool} (h : o.guard = some (j, b)) (hj : (ops[j]?).bind (·.dst) = some t) (ht : F.lookup t = some undef) : ∀ a, Frm n a F → Region.wanted o (yielded ops a.tmps) = false := fun a ha => by
  have h1 := ha.2.2 t _ ht
  simp [Region.wanted, h, yielded, hj, h1, undef]
end
end
end Go.Proofs.YtnofgcpajmldkaaGreatDoor
