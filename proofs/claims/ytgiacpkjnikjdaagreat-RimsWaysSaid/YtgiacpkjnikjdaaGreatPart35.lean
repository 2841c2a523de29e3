import Derived.Test.YtgiacpkjnikjdaaGreatPart08
import Derived.Test.YtgiacpkjnikjdaaGreatPart32
import Derived.Test.YtgiacpkjnikjdaaGreatPart34
namespace Go.Proofs.YtgiacpkjnikjdaaGreat
open Go Go.RowKit
set_option linter.unusedVariables false
set_option linter.unusedSimpArgs false
section
set_option maxRecDepth 100000
theorem Loops_no {ps : List Pt} {ts ss : List T3} (x : MX ps ts ss) (hor : (numB ps.length ts && ornB ts (3 * ts.length)) = false) (hp : ps.length ≤ 1000000) (htl : ts.length ≤ 1000000) (w : World) {S : Nat → Prop} (hx : Ro S w x) : Calls Tryz.prog 30 #[(aG (mxL x))] w (Gives w (Value.slice none 0 0)) := by
 have lx := atA (W := w) hx
 refine calls_ofR (args := [(aG (mxL x))]) (L := [rowR x.a.p (rowsL ptL ps), rowR x.b.p (rowsL t3L ts), rowR x.c.p (rowsL t3L ss)]) Tryz.func30 rfl rfl (leB rfl) (sxA hx roL_nil) (OkC.subF (sL [0] rfl) (q4 (bx' (cs := mxL x) rfl fun b1 => asg' rfl (q3 (sL [1, 2] rfl) ?_))))
 refine ldW' 0 tA31 rfl (OkL.callR (S := S) (α := SX ts false) (args := [(aG (mxL x))]) Tryz.call72 (fun w hw => (by have h9 := steps_ok x hp htl w (inS hw 1 rfl lx); rw [hor] at h9; exact h9)) rfl rfl rfl fun sx lsx => mv' rfl (st' (ex_extract (v := (Value.map (some sx.b))) rfl rfl) rfl (st' (ex_extract (v := (Value.bool false)) rfl rfl) rfl (asg' rfl ?_))))
 refine asg' rfl (q6 (sL [1, 2, 3, 4] rfl) (q4 (mv' rfl (st' (ex_not (c := true) rfl rfl) rfl (OkL.nil ?_)))))
 refine OkQ.subF (sL [1, 2, 3, 18] rfl) (OkQ.then_ (OkC.cond_true rfl (q4 (asg' rfl (OkL.nil ?_)))))
 exact OkQ.subF (sL [1, 2, 3] rfl) (OkQ.then_ (OkC.ret (OkQ.then_ret (ret_one rfl (rd_tmp (v := (Value.slice none 0 0)) rfl) (fun w hw => ⟨rfl, hw.out⟩)))))
end
section
section
variable {P : Program} {Q : Exit → Act → World → Prop} {n : Nat} {F : List (Nat × Value)} {w0 : Base} {L : List As} {c x y : Code}
def Rnd7 {α β γ δ ε ζ η : Type} (n : Nat) (w0 : Base) (J : α → β → γ → δ → ε → ζ → η → Prop) (FI : α → β → γ → δ → ε → ζ → η → List (Nat × Value)) (LI : α → β → γ → δ → ε → ζ → η → List As) (m : α → β → γ → δ → ε → ζ → η → Nat) (i : α) (j : β) (k : γ) (l : δ) (o : ε) (q : ζ) (r : η) (Q : Exit → Act → World → Prop) : Exit → Act → World → Prop :=
  Exit.then (fun a w => ∃ i' j' k' l' o' q' r', J i' j' k' l' o' q' r' ∧ m i' j' k' l' o' q' r' < m i j k l o q r ∧ Frm n a (FI i' j' k' l' o' q' r') ∧ Own w0 w (LI i' j' k' l' o' q' r')) Q
theorem OkC.loop7 {α β γ δ ε ζ η : Type} (J : α → β → γ → δ → ε → ζ → η → Prop) (FI : α → β → γ → δ → ε → ζ → η → List (Nat × Value)) (LI : α → β → γ → δ → ε → ζ → η → List As) (m : α → β → γ → δ → ε → ζ → η → Nat) (round : ∀ i j k l o q r, J i j k l o q r → OkC P c (Rnd7 n w0 J FI LI m i j k l o q r Q) n (FI i j k l o q r) w0 (LI i j k l o q r))
    (i : α) (j : β) (k : γ) (l : δ) (o : ε) (q : ζ) (r : η) (h : J i j k l o q r) : OkC P (.loop c) Q n (FI i j k l o q r) w0 (LI i j k l o q r) :=
  OkC.loop (σ := α × β × γ × δ × ε × ζ × η) (fun s => J s.1 s.2.1 s.2.2.1 s.2.2.2.1 s.2.2.2.2.1 s.2.2.2.2.2.1 s.2.2.2.2.2.2) (fun s => FI s.1 s.2.1 s.2.2.1 s.2.2.2.1 s.2.2.2.2.1 s.2.2.2.2.2.1 s.2.2.2.2.2.2) (fun s => LI s.1 s.2.1 s.2.2.1 s.2.2.2.1 s.2.2.2.2.1 s.2.2.2.2.2.1 s.2.2.2.2.2.2) (fun s => m s.1 s.2.1 s.2.2.1 s.2.2.2.1 s.2.2.2.2.1 s.2.2.2.2.2.1 s.2.2.2.2.2.2) (fun s hs a w ha hw => by
    refine Code.wp_mono (fun e a' w' hq => ?_) (round s.1 s.2.1 s.2.2.1 s.2.2.2.1 s.2.2.2.2.1 s.2.2.2.2.2.1 s.2.2.2.2.2.2 hs a w ha hw)
    cases e <;> first
      | (obtain ⟨i', j', k', l', o', q', r', h1, h2, h3, h4⟩ := hq; exact ⟨(i', j', k', l', o', q', r'), h1, h2, h3, h4⟩)
      | exact hq) (i, j, k, l, o, q, r) h
theorem OkC.lp7 {α β γ δ ε ζ η : Type} {J : α → β → γ → δ → ε → ζ → η → Prop} {FI : α → β → γ → δ → ε → ζ → η → List (Nat × Value)} {LI : α → β → γ → δ → ε → ζ → η → List As} {m : α → β → γ → δ → ε → ζ → η → Nat} (_ : Tg J) (_ : Tg FI) (_ : Tg LI) (_ : Tg m) (i : α) (j : β) (k : γ) (l : δ) (o : ε) (q : ζ) (r : η) (h : J i j k l o q r) (hs : SubF (FI i j k l o q r) F) (hl : (LI i j k l o q r).Sublist L)
    (round : ∀ i j k l o q r, J i j k l o q r → OkC P c (Rnd7 n w0 J FI LI m i j k l o q r Q) n (FI i j k l o q r) w0 (LI i j k l o q r)) : OkC P (.loop c) Q n F w0 L := OkC.sub hs hl (OkC.loop7 J FI LI m round i j k l o q r h)
theorem OkQ.round7 {α β γ δ ε ζ η : Type} {J : α → β → γ → δ → ε → ζ → η → Prop} {FI : α → β → γ → δ → ε → ζ → η → List (Nat × Value)} {LI : α → β → γ → δ → ε → ζ → η → List As} {m : α → β → γ → δ → ε → ζ → η → Nat} {i : α} {j : β} {k : γ} {l : δ} {o : ε} {q : ζ} {r : η} (i' : α) (j' : β) (k' : γ) (l' : δ) (o' : ε) (q' : ζ) (r' : η) (hJ : J i' j' k' l' o' q' r') (hm : m i' j' k' l' o' q' r' < m i j k l o q r) (hs : SubF (FI i' j' k' l' o' q' r') F) (hl : (LI i' j' k' l' o' q' r').Sublist L) : OkQ (Rnd7 n w0 J FI LI m i j k l o q r Q) .normal n F w0 L := fun _ _ ha hw => ⟨i', j', k', l', o', q', r', hJ, hm, ha.sub hs, hw.weak hl⟩
theorem OkQ.round7_exit {α β γ δ ε ζ η : Type} {J : α → β → γ → δ → ε → ζ → η → Prop} {FI : α → β → γ → δ → ε → ζ → η → List (Nat × Value)} {LI : α → β → γ → δ → ε → ζ → η → List As} {m : α → β → γ → δ → ε → ζ → η → Nat} {i : α} {j : β} {k : γ} {l : δ} {o : ε} {q : ζ} {r : η} {id : Nat} (h : OkQ Q (.exit id) n F w0 L) : OkQ (Rnd7 n w0 J FI LI m i j k l o q r Q) (.exit id) n F w0 L := h
end
end
section
abbrev mdS (ts : List T3) : List (P2 × Nat) := stpN ts (3 * ts.length)
def swP (k : P2) : P2 := (k.2, k.1)
def thd (t : T3) (k : P2) : Nat := t.1 + t.2.1 + t.2.2 - k.1 - k.2
def nxP (ts : List T3) (k : P2) : P2 := (k.2, thd (ts.getD ((getM (mdS ts) k).getD 0) (0, 0, 0)) k)
def isS (ts : List T3) (k : P2) : Prop := (getM (mdS ts) k).isSome = true
def bdS (ts : List T3) (k : P2) : Prop := isS ts k ∧ ¬ isS ts (swP k)
def behF (ts : List T3) : Nat → P2 → Option P2
  | 0, _ => none
  | f + 1, k => if (getM (mdS ts) (swP (nxP ts k))).isSome then behF ts f (swP (nxP ts k)) else some (nxP ts k)
def behK (ts : List T3) (k : P2) : P2 := (behF ts (3 * ts.length) k).getD (0, 0)
section
variable {ts : List T3} {N : Nat} {k k0 : P2} {i : Nat}
theorem stpN_some {n : Nat} : ∀ s, getM (stpN ts s) k = some n → ∃ u, u < s ∧ dirE ts u = k ∧ n = u / 3
  | 0, h => by cases h
  | s + 1, h => by
    have h : getM (putM (stpN ts s) (dirE ts s) (s / 3)) k = some n := h
    rw [getM_put] at h
    split at h
    · rename_i e
      injection h with h
      exact ⟨s, by omega, e.symm, h.symm⟩
    · obtain ⟨u, h1, h2, h3⟩ := stpN_some s h
      exact ⟨u, by omega, h2, h3⟩
theorem stpN_has {u : Nat} : ∀ s, u < s → (getM (stpN ts s) (dirE ts u)).isSome = true
  | 0, h => absurd h (Nat.not_lt_zero _)
  | s + 1, h => by
    show (getM (putM (stpN ts s) (dirE ts s) (s / 3)) (dirE ts u)).isSome = true
    rw [getM_put]
    split
    · rfl
    · rename_i e
      rcases Nat.lt_or_ge u s with h1 | h1
      · exact stpN_has s h1
      · exact absurd (by rw [show u = s by omega]) e
theorem dirE_once {u v n : Nat} (ho : ornB ts n = true) (hu : u < n) (hv : v < n) (h : dirE ts u = dirE ts v) : u = v := by
  have key : ∀ {u v : Nat}, u < v → v < n → dirE ts u = dirE ts v → False := fun {u v} h1 h2 h => by
    have h3 := ornB_le (s := v + 1) _ (by omega) ho
    have h3 : (ornB ts v && (getM (stpN ts v) (dirE ts v)).isNone) = true := h3
    rw [Bool.and_eq_true] at h3
    have h4 := stpN_has (ts := ts) v h1
    rw [h] at h4
    rw [← Option.not_isSome, h4] at h3
    exact absurd h3.2 (by decide)
  rcases Nat.lt_trichotomy u v with h1 | h1 | h1
  · exact (key h1 hv h).elim
  · exact h1
  · exact (key h1 hu h.symm).elim
theorem stpN_get {u : Nat} (ho : ornB ts (3 * ts.length) = true) (hu : u < 3 * ts.length) : getM (mdS ts) (dirE ts u) = some (u / 3) := by
  obtain ⟨n, h⟩ := Option.isSome_iff_exists.1 (stpN_has (ts := ts) _ hu)
  obtain ⟨v, h1, h2, h3⟩ := stpN_some _ h
  have e := dirE_once ho hu h1 h2.symm
  rw [show getM (mdS ts) (dirE ts u) = some n from h, h3, e]
theorem isS_iff : isS ts k ↔ ∃ u, u < 3 * ts.length ∧ dirE ts u = k := by
  constructor
  · intro h
    obtain ⟨n, h⟩ := Option.isSome_iff_exists.1 h
    obtain ⟨u, h1, h2, _⟩ := stpN_some _ h
    exact ⟨u, h1, h2⟩
  · rintro ⟨u, h1, rfl⟩
    exact stpN_has _ h1
def nxU (u : Nat) : Nat := 3 * (u / 3) + (u % 3 + 1) % 3
theorem nxU_inj {u v : Nat} (h : nxU u = nxU v) : u = v := by unfold nxU at h; omega
theorem nxU_lt {u : Nat} (h : u < 3 * ts.length) : nxU u < 3 * ts.length := by unfold nxU; omega
theorem nxP_dir (ho : ornB ts (3 * ts.length) = true) {u : Nat} (hu : u < 3 * ts.length) : nxP ts (dirE ts u) = dirE ts (nxU u) := by
  unfold nxP
  rw [stpN_get ho hu, Option.getD_some]
  have hd : (nxU u) / 3 = u / 3 := by unfold nxU; omega
  have hm : (nxU u) % 3 = (u % 3 + 1) % 3 := by unfold nxU; omega
  unfold thd dirE
  rw [hd, hm]
  generalize ts.getD (u / 3) (0, 0, 0) = t
  have e : u % 3 = 0 ∨ u % 3 = 1 ∨ u % 3 = 2 := by omega
  rcases e with e | e | e <;> rw [e] <;> refine Prod.ext rfl ?_
  · show t.1 + t.2.1 + t.2.2 - t.1 - t.2.1 = t.2.2; omega
  · show t.1 + t.2.1 + t.2.2 - t.2.1 - t.2.2 = t.1; omega
  · show t.1 + t.2.1 + t.2.2 - t.2.2 - t.1 = t.2.1; omega
theorem isS_nx (ho : ornB ts (3 * ts.length) = true) (h : isS ts k) : isS ts (nxP ts k) := by
  obtain ⟨u, hu, rfl⟩ := isS_iff.1 h
  rw [nxP_dir ho hu]
  exact isS_iff.2 ⟨_, nxU_lt hu, rfl⟩
theorem nxP_inj (ho : ornB ts (3 * ts.length) = true) {k' : P2} (h : isS ts k) (h' : isS ts k') (e : nxP ts k = nxP ts k') : k = k' := by
  obtain ⟨u, hu, rfl⟩ := isS_iff.1 h
  obtain ⟨v, hv, rfl⟩ := isS_iff.1 h'
  rw [nxP_dir ho hu, nxP_dir ho hv] at e
  rw [nxU_inj (dirE_once ho (nxU_lt hu) (nxU_lt hv) e)]
theorem swP_swP (k : P2) : swP (swP k) = k := rfl
theorem swP_inj {a b : P2} (h : swP a = swP b) : a = b := by rw [← swP_swP a, h, swP_swP]
theorem nodupS_le {α : Type} [DecidableEq α] {l m : List α} (hn : l.Nodup) (hs : ∀ x ∈ l, x ∈ m) : l.length ≤ m.length := by
  induction l generalizing m with
  | nil => exact Nat.zero_le _
  | cons x r ih =>
    have hx := hs x List.mem_cons_self
    have hn2 := List.nodup_cons.1 hn
    have h := ih (m := m.erase x) hn2.2 fun y hy => by
      have : y ≠ x := fun e => hn2.1 (e ▸ hy)
      exact (List.mem_erase_of_ne this).2 (hs y (List.mem_cons_of_mem _ hy))
    rw [List.length_erase_of_mem hx] at h
    have := List.length_pos_of_mem hx
    simp only [List.length_cons]; omega
def allS (ts : List T3) : List P2 := (List.range (3 * ts.length)).map (dirE ts)
theorem allS_mem (h : isS ts k) : k ∈ allS ts := by
  obtain ⟨u, hu, rfl⟩ := isS_iff.1 h
  exact List.mem_map.2 ⟨u, List.mem_range.2 hu, rfl⟩
theorem allS_len : (allS ts).length = 3 * ts.length := by simp [allS]
structure BehI (ts : List T3) (k0 : P2) (i : Nat) (k : P2) : Prop where
  chain : ∃ s : Nat → P2, s 0 = k0 ∧ s i = k ∧ (∀ j, j ≤ i → isS ts (s j)) ∧ ∀ j, j < i → s (j + 1) = swP (nxP ts (s j))
theorem BehI.zero (h : isS ts k0) : BehI ts k0 0 k0 := ⟨fun _ => k0, rfl, rfl, fun _ _ => h, fun _ h => absurd h (Nat.not_lt_zero _)⟩
theorem BehI.isS (h : BehI ts k0 i k) : isS ts k := by
  obtain ⟨s, _, h2, h3, _⟩ := h.chain
  rw [← h2]; exact h3 i (Nat.le_refl _)
theorem BehI.succ (h : BehI ts k0 i k) (hs : (getM (mdS ts) (swP (nxP ts k))).isSome = true) : BehI ts k0 (i + 1) (swP (nxP ts k)) := by
  obtain ⟨s, h1, h2, h3, h4⟩ := h.chain
  refine ⟨fun j => if j ≤ i then s j else swP (nxP ts k), by simp [h1], if_neg (by omega), fun j hj => ?_, fun j hj => ?_⟩
  · show Go.Proofs.YtgiacpkjnikjdaaGreat.isS ts (if j ≤ i then s j else _)
    split
    · exact h3 j ‹_›
    · exact hs
  · show (if j + 1 ≤ i then s (j + 1) else _) = swP (nxP ts (if j ≤ i then s j else _))
    rw [if_pos (show j ≤ i by omega)]
    split
    · exact h4 j (by omega)
    · rw [show j = i by omega, h2]
theorem BehI.lt (ho : ornB ts (3 * ts.length) = true) (h0 : bdS ts k0) (h : BehI ts k0 i k) : i < 3 * ts.length := by
  obtain ⟨s, h1, h2, h3, h4⟩ := h.chain
  have ne : ∀ d a, a + d + 1 ≤ i → s a ≠ s (a + d + 1) := fun d a => by
    induction a with
    | zero =>
      intro hd e
      rw [h1, h4 (0 + d) (by omega)] at e
      refine h0.2 ?_
      rw [e, swP_swP]
      exact isS_nx ho (h3 _ (by omega))
    | succ a ih =>
      intro hd e
      rw [h4 a (by omega), show a + 1 + d + 1 = (a + d + 1) + 1 by omega, h4 (a + d + 1) (by omega)] at e
      exact ih (by omega) (nxP_inj ho (h3 _ (by omega)) (h3 _ (by omega)) (swP_inj e))
  have hnd : ((List.range (i + 1)).map s).Nodup := by
    refine List.pairwise_map.2 (List.Pairwise.imp_of_mem ?_ List.pairwise_lt_range)
    intro a b ha hb hab
    have := ne (b - a - 1) a (by have := List.mem_range.1 hb; omega)
    rw [show a + (b - a - 1) + 1 = b by omega] at this
    exact this
  have h5 := nodupS_le (m := allS ts) hnd fun x hx => by
    obtain ⟨j, hj, rfl⟩ := List.mem_map.1 hx
    exact allS_mem (h3 j (by have := List.mem_range.1 hj; omega))
  rw [allS_len, List.length_map, List.length_range] at h5
  omega
theorem BehI.fuel (h : BehI ts k0 i k) (f : Nat) : behF ts (f + i) k0 = behF ts f k := by
  obtain ⟨s, h1, h2, h3, h4⟩ := h.chain
  subst h1 h2
  have key : ∀ j, j ≤ i → behF ts (f + i) (s 0) = behF ts (f + (i - j)) (s j) := fun j => by
    induction j with
    | zero => intro _; rfl
    | succ j ih =>
      intro hj
      rw [ih (by omega), show f + (i - j) = (f + (i - (j + 1))) + 1 by omega]
      have h5 : (getM (mdS ts) (swP (nxP ts (s j)))).isSome = true := by rw [← h4 j (by omega)]; exact h3 (j + 1) hj
      show (if _ then _ else _) = _
      rw [if_pos h5, ← h4 j (by omega)]
  have := key i (Nat.le_refl _)
  rwa [Nat.sub_self, Nat.add_zero] at this
theorem BehI.stop (ho : ornB ts (3 * ts.length) = true) (h0 : bdS ts k0) (h : BehI ts k0 i k) (hs : ¬ (getM (mdS ts) (swP (nxP ts k))).isSome = true) : behK ts k0 = nxP ts k ∧ bdS ts (nxP ts k) := by
  have hlt := h.lt ho h0
  have h1 := h.fuel (3 * ts.length - i)
  rw [show 3 * ts.length - i + i = 3 * ts.length by omega, show 3 * ts.length - i = (3 * ts.length - i - 1) + 1 by omega] at h1
  have h2 : behF ts (3 * ts.length - i - 1 + 1) k = some (nxP ts k) := by
    show (if _ then _ else _) = _
    rw [if_neg hs]
  refine ⟨?_, isS_nx ho h.isS, hs⟩
  unfold behK
  rw [h1, h2]; rfl
theorem behK_bd (ho : ornB ts (3 * ts.length) = true) (h0 : bdS ts k0) : bdS ts (behK ts k0) := by
  have key : ∀ d i k, 3 * ts.length - i = d → BehI ts k0 i k → bdS ts (behK ts k0) := fun d => by
    induction d with
    | zero => intro i k hd h; have := h.lt ho h0; omega
    | succ d ih =>
      intro i k hd h
      by_cases hs : (getM (mdS ts) (swP (nxP ts k))).isSome = true
      · exact ih _ _ (by omega) (h.succ hs)
      · have h1 := h.stop ho h0 hs
        rw [h1.1]; exact h1.2
  exact key _ 0 k0 rfl (BehI.zero h0.1)
end
def goF (ts : List T3) : Nat → List (P2 × Nat) → P2 → List Nat → Option (List (P2 × Nat) × List Nat)
  | 0, _, _, _ => none
  | f + 1, dn, k, l => if (getM dn k).getD 0 = 0 then goF ts f (putM dn k 1) (behK ts k) (l ++ [k.1]) else some (dn, l)
def goV (ts : List T3) (dn : List (P2 × Nat)) (k : P2) : List (P2 × Nat) × List Nat := (goF ts (3 * ts.length + 1) dn k []).getD ([], [])
structure DnI (ts : List T3) (dn : List (P2 × Nat)) : Prop where
  ok : OkM okE dn
  bd : ∀ k n, getM dn k = some n → bdS ts k ∧ n = 1
section
variable {ts : List T3} {N : Nat} {k k0 : P2} {i : Nat} {dn dn0 : List (P2 × Nat)} {l : List Nat}
theorem DnI.nil : DnI ts [] := ⟨OkM.nil, fun k n h => by cases h⟩
theorem DnI.len (h : DnI ts dn) : dn.length ≤ 3 * ts.length := by
  have h1 : (dn.map (·.1)).Nodup := List.pairwise_map.2 (h.ok.once.imp fun {a b} h e => h e)
  have h2 := nodupS_le (m := allS ts) h1 fun x hx => by
    obtain ⟨p, hp, rfl⟩ := List.mem_map.1 hx
    obtain ⟨j, hj, h3⟩ := List.getElem_of_mem hp
    exact allS_mem (h.bd _ _ (getM_at (x := p.1) (v := p.2) h.ok.once (by rw [List.getElem?_eq_getElem hj, h3]))).1.1
  rwa [allS_len, List.length_map] at h2
theorem DnI.put (h : DnI ts dn) (hk : bdS ts k) (hok : okE k) : DnI ts (putM dn k 1) := ⟨h.ok.put hok, fun x n hx => by
  rw [getM_put] at hx
  split at hx
  · rename_i e
    injection hx with hx
    rw [e]; exact ⟨hk, hx.symm⟩
  · exact h.bd _ _ hx⟩
theorem DnI.zero (h : DnI ts dn) (e : (getM dn k).getD 0 = 0) : getM dn k = none := by
  cases hg : getM dn k with
  | none => rfl
  | some n => rw [hg, (h.bd _ _ hg).2] at e; cases e
theorem putM_lenN2 {α β : Type} [DecidableEq α] {kvs : List (α × β)} {x : α} {y : β} (h : getM kvs x = none) : (putM kvs x y).length = kvs.length + 1 := by
  induction kvs with
  | nil => rfl
  | cons p r ih =>
    obtain ⟨k, v⟩ := p
    unfold getM at h
    split at h
    · cases h
    · rename_i e
      unfold putM
      rw [if_neg e, List.length_cons, ih h]; rfl
theorem isS_ok (hn : numB N ts = true) (hN : N ≤ 4611686018427387904) (h : isS ts k) : okE k := by
  obtain ⟨u, hu, rfl⟩ := isS_iff.1 h
  have := dirE_lt hn hu
  exact ⟨by omega, by omega⟩
structure GoI (ts : List T3) (dn0 : List (P2 × Nat)) (k0 : P2) (i : Nat) (dn : List (P2 × Nat)) (k : P2) (l : List Nat) : Prop where
  fuel : ∀ f, goF ts (f + i) dn0 k0 [] = goF ts f dn k l
  bd : bdS ts k
  di : DnI ts dn
  len : dn.length = dn0.length + i
  ll : l.length = i
  at0 : i = 0 → dn = dn0 ∧ k = k0
theorem GoI.zero (h : DnI ts dn0) (hb : bdS ts k0) : GoI ts dn0 k0 0 dn0 k0 [] := ⟨fun _ => rfl, hb, h, rfl, rfl, fun _ => ⟨rfl, rfl⟩⟩
theorem GoI.succ (hn : numB N ts = true) (hN : N ≤ 4611686018427387904) (ho : ornB ts (3 * ts.length) = true) (h : GoI ts dn0 k0 i dn k l) (e : (getM dn k).getD 0 = 0) : GoI ts dn0 k0 (i + 1) (putM dn k 1) (behK ts k) (l ++ [k.1]) :=
  ⟨fun f => by
    rw [show f + (i + 1) = f + 1 + i by omega, h.fuel (f + 1)]
    show (if _ then _ else _) = _
    rw [if_pos e], behK_bd ho h.bd, h.di.put h.bd (isS_ok hn hN h.bd.1), by rw [putM_lenN2 (h.di.zero e), h.len]; omega, by rw [List.length_append, h.ll]; rfl, fun h => by omega⟩
theorem GoI.le (h : GoI ts dn0 k0 i dn k l) : i ≤ 3 * ts.length := by
  have h1 := h.di.len
  have := h.len
  omega
theorem GoI.lt (hn : numB N ts = true) (hN : N ≤ 4611686018427387904) (ho : ornB ts (3 * ts.length) = true) (h : GoI ts dn0 k0 i dn k l) (e : (getM dn k).getD 0 = 0) : i < 3 * ts.length := by
  have := (h.succ hn hN ho e).le
  omega
theorem GoI.stop (h : GoI ts dn0 k0 i dn k l) (e : ¬ (getM dn k).getD 0 = 0) : goV ts dn0 k0 = (dn, l) := by
  have h1 := h.fuel (3 * ts.length + 1 - i)
  have := h.le
  rw [show 3 * ts.length + 1 - i + i = 3 * ts.length + 1 by omega, show 3 * ts.length + 1 - i = (3 * ts.length - i) + 1 by omega] at h1
  have h2 : goF ts (3 * ts.length - i + 1) dn k l = some (dn, l) := by
    show (if _ then _ else _) = _
    rw [if_neg e]
  unfold goV
  rw [h1, h2]; rfl
end
def bstN (l : List Nat) : Nat → Nat
  | 0 => 0
  | i + 1 => if l.getD i 0 < l.getD (bstN l i) 0 ∨ l.getD i 0 = l.getD (bstN l i) 0 ∧ l.getD ((i + 1) % l.length) 0 < l.getD ((bstN l i + 1) % l.length) 0 then i else bstN l i
theorem bstN_lt {l : List Nat} : ∀ i, i ≤ l.length → 0 < l.length → bstN l i < l.length
  | 0, _, h => h
  | i + 1, h, h0 => by
    unfold bstN
    split
    · omega
    · exact bstN_lt i (by omega) h0
def turF (l : List Nat) : List Nat := l.drop (bstN l l.length) ++ l.take (bstN l l.length)
theorem turF_len (l : List Nat) : (turF l).length = l.length := by
  unfold turF
  rw [List.length_append, List.length_drop, List.length_take]; omega
def lpsN (ts : List T3) : Nat → List (P2 × Nat) × List (List Nat)
  | 0 => ([], [])
  | i + 1 => if 0 < (getM (lpsN ts i).1 (((wayL ts).getD i (0, 0, 0)).1, ((wayL ts).getD i (0, 0, 0)).2.1)).getD 0 then lpsN ts i
    else ((goV ts (lpsN ts i).1 (((wayL ts).getD i (0, 0, 0)).1, ((wayL ts).getD i (0, 0, 0)).2.1)).1, (lpsN ts i).2 ++ [turF (goV ts (lpsN ts i).1 (((wayL ts).getD i (0, 0, 0)).1, ((wayL ts).getD i (0, 0, 0)).2.1)).2])
def cmpL : List Nat → List Nat → Int
  | [], [] => 0
  | [], _ :: _ => -1
  | _ :: _, [] => 1
  | x :: r, y :: s => if x < y then -1 else if y < x then 1 else cmpL r s
theorem cmpL_self : ∀ a, cmpL a a = 0
  | [] => rfl
  | x :: r => by unfold cmpL; rw [if_neg (Nat.lt_irrefl _), if_neg (Nat.lt_irrefl _)]; exact cmpL_self r
theorem cmpL_swap : ∀ a b, cmpL b a = - cmpL a b
  | [], [] => rfl
  | [], _ :: _ => rfl
  | _ :: _, [] => rfl
  | x :: r, y :: s => by
    unfold cmpL
    rcases Nat.lt_trichotomy x y with h | h | h
    · rw [if_neg (by omega), if_pos h, if_pos h]; rfl
    · subst h
      rw [if_neg (Nat.lt_irrefl _), if_neg (Nat.lt_irrefl _), if_neg (Nat.lt_irrefl _), if_neg (Nat.lt_irrefl _)]
      exact cmpL_swap r s
    · rw [if_pos h, if_neg (by omega), if_pos h]
theorem cmpL_zero : ∀ a b, cmpL a b = 0 → a = b
  | [], [], _ => rfl
  | [], _ :: _, h => by cases h
  | _ :: _, [], h => by cases h
  | x :: r, y :: s, h => by
    unfold cmpL at h
    rcases Nat.lt_trichotomy x y with h1 | h1 | h1
    · rw [if_pos h1] at h; cases h
    · subst h1
      rw [if_neg (Nat.lt_irrefl _), if_neg (Nat.lt_irrefl _)] at h
      rw [cmpL_zero r s h]
    · rw [if_neg (by omega), if_pos h1] at h; cases h
theorem cmpL_trans : ∀ a b c, cmpL a b < 0 → cmpL b c < 0 → cmpL a c < 0
  | [], [], _, h, _ => by cases h
  | [], _ :: _, [], _, h => by cases h
  | [], _ :: _, _ :: _, _, _ => by show (-1 : Int) < 0; decide
  | _ :: _, [], _, h, _ => by cases h
  | _ :: _, _ :: _, [], _, h => by cases h
  | x :: r, y :: s, z :: t, h1, h2 => by
    unfold cmpL at h1 h2 ⊢
    by_cases hxy : x < y
    · by_cases hyz : y < z
      · rw [if_pos (by omega)]; decide
      · rw [if_neg hyz] at h2
        by_cases hzy : z < y
        · rw [if_pos hzy] at h2; omega
        · rw [if_pos (by omega)]; decide
    · rw [if_neg hxy] at h1
      by_cases hyx : y < x
      · rw [if_pos hyx] at h1; omega
      · rw [if_neg hyx] at h1
        have e : x = y := by omega
        subst e
        by_cases hyz : x < z
        · rw [if_pos hyz]; decide
        · rw [if_neg hyz] at h2 ⊢
          by_cases hzy : z < x
          · rw [if_pos hzy] at h2; omega
          · rw [if_neg hzy] at h2 ⊢
            exact cmpL_trans r s t h1 h2
theorem cmpL_step {a b : List Nat} {i : Nat} (ha : i < a.length) (hb : i < b.length) : cmpL (a.drop i) (b.drop i) = if a.getD i 0 < b.getD i 0 then -1 else if b.getD i 0 < a.getD i 0 then 1 else cmpL (a.drop (i + 1)) (b.drop (i + 1)) := by
  rw [List.drop_eq_getElem_cons ha, List.drop_eq_getElem_cons hb, List.getD, List.getD, List.getElem?_eq_getElem ha, List.getElem?_eq_getElem hb]; rfl
theorem cmpL_long {a b : List Nat} {i : Nat} (ha : i < a.length) (hb : b.length ≤ i) : cmpL (a.drop i) (b.drop i) = 1 := by
  rw [List.drop_eq_getElem_cons ha, List.drop_eq_nil_of_le hb]; rfl
theorem cmpL_end {a b : List Nat} {i : Nat} (ha : a.length ≤ i) (hi : i ≤ a.length) (hb : i ≤ b.length) : cmpL (a.drop i) (b.drop i) = if a.length < b.length then -1 else 0 := by
  rw [List.drop_eq_nil_of_le ha]
  split
  · rw [List.drop_eq_getElem_cons (show i < b.length by omega)]; rfl
  · rw [List.drop_eq_nil_of_le (by omega)]; rfl
theorem stepQ {ts : List T3} {N : Nat} {k : P2} (hn : numB N ts = true) (ho : ornB ts (3 * ts.length) = true) (h : isS ts k) : (getM (mdS ts) k).getD 0 < ts.length ∧ k.1 < N ∧ k.2 < N ∧ k.1 + k.2 ≤ (ts.getD ((getM (mdS ts) k).getD 0) (0, 0, 0)).1 + (ts.getD ((getM (mdS ts) k).getD 0) (0, 0, 0)).2.1 + (ts.getD ((getM (mdS ts) k).getD 0) (0, 0, 0)).2.2 := by
  obtain ⟨u, hu, rfl⟩ := isS_iff.1 h
  have h1 := dirE_lt hn hu
  rw [stpN_get ho hu, Option.getD_some]
  refine ⟨by omega, h1.1, h1.2, ?_⟩
  unfold dirE
  generalize ts.getD (u / 3) (0, 0, 0) = t
  have e : u % 3 = 0 ∨ u % 3 = 1 ∨ u % 3 = 2 := by omega
  rcases e with e | e | e <;> rw [e]
  · show t.1 + t.2.1 ≤ _; omega
  · show t.2.1 + t.2.2 ≤ _; omega
  · show t.2.2 + t.1 ≤ _; omega
theorem bst_yes1 {l : List Nat} {i b : Nat} (hb : b = bstN l i) (h : l.getD i 0 < l.getD b 0) : i = bstN l (i + 1) := by unfold bstN; rw [← hb, if_pos (.inl h)]
theorem bst_yes2 {l : List Nat} {i b : Nat} (hb : b = bstN l i) (h : l.getD i 0 = l.getD b 0) (h2 : l.getD ((i + 1) % l.length) 0 < l.getD ((b + 1) % l.length) 0) : i = bstN l (i + 1) := by unfold bstN; rw [← hb, if_pos (.inr ⟨h, h2⟩)]
theorem bst_no1 {l : List Nat} {i b : Nat} (hb : b = bstN l i) (h : ¬ l.getD i 0 < l.getD b 0) (h2 : ¬ l.getD i 0 = l.getD b 0) : b = bstN l (i + 1) := by unfold bstN; rw [← hb, if_neg (fun h9 => h9.elim h (fun h8 => h2 h8.1))]
theorem bst_no2 {l : List Nat} {i b : Nat} (hb : b = bstN l i) (h : ¬ l.getD i 0 < l.getD b 0) (h2 : ¬ l.getD ((i + 1) % l.length) 0 < l.getD ((b + 1) % l.length) 0) : b = bstN l (i + 1) := by unfold bstN; rw [← hb, if_neg (fun h9 => h9.elim h (fun h8 => h2 h8.2))]
theorem inL_one (l : List Nat) : ((inL l).all fun u => u.oneCell') = true := by
  unfold inL
  induction l with
  | nil => rfl
  | cons x r ih => exact ih
theorem inL_drop (l : List Nat) (b : Nat) : inL (l.drop b) = (inL l).drop b := by simp [inL, List.map_drop]
theorem inL_take (l : List Nat) (b : Nat) : inL (l.take b) = (inL l).take b := by simp [inL, List.map_take]
theorem slP_some {a : Addr} {lo c z : Nat} (h : lo < c) : slP (some a) lo c z = some (a.add (lo * z)) := by unfold slP; rw [if_neg (by omega)]; rfl
theorem rowOkLo {p : Option Addr} {n c b : Nat} (h : RowOk p n c) (hb : b < n) : RowOk (slP p b c 1) (n - b) (c - b) := by
  have hle := h.le
  cases hp : p with
  | none => subst hp; have := h.nil rfl; omega
  | some a =>
    subst hp
    have hs := h.spot a rfl
    rw [slP_some (by omega)]
    refine ⟨fun e => (by cases e), fun a' e => ?_, by omega⟩
    injection e with e
    subst e
    obtain ⟨x, y, z⟩ := a
    subst hs
    rw [Addr.add_lit]
theorem roLo {S : Nat → Prop} {w : World} {l : List Nat} {n : Nat} {y : RX (inL l) n} (h : Ro S w y) {b : Nat} (hb : b < n) : Ro S w (⟨slP y.p b y.c 1, y.c - b, rowOkLo y.ok hb⟩ : RX (inL (l.drop b)) (n - b)) := fun z hz => by
  rcases List.mem_singleton.1 hz with rfl
  obtain ⟨h1, h2⟩ := h y.row (List.mem_singleton.2 rfl)
  obtain ⟨p, c, ok⟩ := y
  have hle := ok.le
  cases p with
  | none => have := ok.nil rfl; omega
  | some a =>
    have hs := ok.spot a rfl
    obtain ⟨x, off, z⟩ := a
    subst hs
    have ef : (rowR (slP (some ⟨x, off, none⟩) b c 1) (inL (l.drop b))).foot = some x := by rw [slP_some (by omega), Addr.add_lit]; rfl
    refine ⟨fun d e => ?_, fun d e => h2 d (by rw [← e]; exact ef.symm)⟩
    obtain ⟨o, ho, hp⟩ := h1 x rfl
    have ed : x = d := by have e2 : (rowR (slP (some ⟨x, off, none⟩) b c 1) (inL (l.drop b))).foot = some d := e; rw [ef] at e2; injection e2
    subst ed
    refine ⟨o, ho, ?_⟩
    obtain ⟨cur, T, fr, rfl, hc⟩ := hp
    have hc : (cur.toList.drop off).take (inL l).length = inL l := hc
    show Lies (pO (slP (some ⟨x, off, none⟩) b c 1)) (inL (l.drop b)) _
    rw [slP_some (by omega), Addr.add_lit, inL_drop]
    refine ⟨cur, T, fr, rfl, ?_⟩
    show (cur.toList.drop (off + b * 1)).take _ = _
    rw [Nat.mul_one, ← List.drop_drop, List.length_drop]
    conv => rhs; rw [← hc]
    rw [List.drop_take]
theorem srcTk {w0 : Base} {L : List As} {q : Option Addr} {l : List Nat} {k n c m : Nat} (hi : L[k]? = some (rowR q (inL l))) (hok : RowOk q n c) (hm : m ≤ n) : Src w0 L q m (inL (l.take m)) := fun w hw hm0 => by
  obtain ⟨a, ha, h⟩ := srcR hi hok w hw (by omega)
  refine ⟨a, ha, fun j u hu => h j u ?_⟩
  rw [inL_take] at hu
  rw [List.getElem?_take] at hu
  split at hu
  · exact hu
  · cases hu
section
variable {ts : List T3} {N i : Nat} {dn dn2 : List (P2 × Nat)} {wq : T3} {l : List Nat}
theorem lps_skip (hw : wq = (wayL ts).getD i (0, 0, 0)) (hd : dn = (lpsN ts i).1) (h : 0 < (getM dn (wq.1, wq.2.1)).getD 0) : lpsN ts (i + 1) = lpsN ts i := by
  subst hw hd
  show (if _ then _ else _) = _
  rw [if_pos h]
theorem lps_new (hw : wq = (wayL ts).getD i (0, 0, 0)) (hd : dn = (lpsN ts i).1) (h : ¬ 0 < (getM dn (wq.1, wq.2.1)).getD 0) (hg : goV ts dn (wq.1, wq.2.1) = (dn2, l)) : lpsN ts (i + 1) = (dn2, (lpsN ts i).2 ++ [turF l]) := by
  subst hw hd
  show (if _ then _ else _) = _
  rw [if_neg h, hg]
theorem lps_pos : ∀ i, 0 < i → 0 < (lpsN ts i).2.length
  | 0, h => absurd h (Nat.lt_irrefl _)
  | i + 1, _ => by
    show 0 < (if _ then lpsN ts i else _ : List (P2 × Nat) × List (List Nat)).2.length
    split
    · rename_i h
      rcases Nat.eq_zero_or_pos i with e | e
      · subst e; exact absurd h (by show ¬ 0 < (getM ([] : List (P2 × Nat)) _).getD 0; exact Nat.lt_irrefl _)
      · exact lps_pos i e
    · simp
theorem two_count {n : Nat} {f : Nat → P2} {k : P2} {u v : Nat} (hu : u < n) (hv : v < n) (huv : u ≠ v) (h1 : f u = k) (h2 : f v = k) : 2 ≤ ((List.range n).map f).count k := by
  rw [List.count, List.countP_map, List.countP_eq_length_filter]
  have := nodupS_le (l := [u, v]) (m := (List.range n).filter ((fun x => x == k) ∘ f)) (by simp [huv]) fun x hx => by
    simp only [List.mem_cons, List.not_mem_nil, or_false] at hx
    refine List.mem_filter.2 ?_
    rcases hx with rfl | rfl
    · exact ⟨List.mem_range.2 hu, by simp [h1]⟩
    · exact ⟨List.mem_range.2 hv, by simp [h2]⟩
  simpa using this
theorem way_bd (hn : numB N ts = true) (hN : N ≤ 4611686018427387904) {s : T3} (hs : s ∈ rimL ts) : bdS ts ((wayE (mdS ts) s).1, (wayE (mdS ts) s).2.1) := by
  have h := ((mem_rimL hn hN).1 hs).1
  have hm : (s.1, s.2.1) ∈ allK ts := List.count_pos_iff.1 (by omega)
  have hlt : s.1 < s.2.1 := by
    obtain ⟨e, he, ea, eb⟩ := (mem_keys hn hN).1 hm
    have := edge_ends hn hN he
    omega
  have key : ∀ {u : Nat}, (dirE ts u = (s.1, s.2.1) ∨ dirE ts u = (s.2.1, s.1)) → keyU ts u = (s.1, s.2.1) := fun {u} h => by
    unfold keyU kyE
    rcases h with h | h <;> rw [h] <;> exact Prod.ext (by simp only; omega) (by simp only; omega)
  have hone : ¬ (isS ts (s.1, s.2.1) ∧ isS ts (s.2.1, s.1)) := fun ⟨h1, h2⟩ => by
    obtain ⟨u, hu, e1⟩ := isS_iff.1 h1
    obtain ⟨v, hv, e2⟩ := isS_iff.1 h2
    have := two_count (f := keyU ts) hu hv (fun e => by subst e; rw [e1] at e2; injection e2; omega) (key (.inl e1)) (key (.inr e2))
    rw [allK_range] at this
    omega
  cases hg : getM (mdS ts) (s.1, s.2.1) with
  | some t =>
    have e : wayE (mdS ts) s = (s.1, s.2.1, t) := by unfold wayE; rw [hg]
    rw [e]
    have h1 : isS ts (s.1, s.2.1) := by unfold isS; rw [hg]; rfl
    exact ⟨h1, fun h2 => hone ⟨h1, h2⟩⟩
  | none =>
    have e : wayE (mdS ts) s = (s.2.1, s.1, (getM (mdS ts) (s.2.1, s.1)).getD 0) := by unfold wayE; rw [hg]
    rw [e]
    have hno : ¬ isS ts (s.1, s.2.1) := by unfold isS; rw [hg]; exact fun h => by cases h
    refine ⟨?_, hno⟩
    rw [← allK_range, List.mem_map] at hm
    obtain ⟨u, hu, hk⟩ := hm
    have hu := List.mem_range.1 hu
    unfold keyU kyE at hk
    injection hk with k1 k2
    rcases Nat.lt_or_ge (dirE ts u).1 (dirE ts u).2 with h1 | h1
    · exact absurd (isS_iff.2 ⟨u, hu, Prod.ext (by show (dirE ts u).1 = _; omega) (by show (dirE ts u).2 = _; omega)⟩) hno
    · exact isS_iff.2 ⟨u, hu, Prod.ext (by show (dirE ts u).1 = s.2.1; omega) (by show (dirE ts u).2 = s.1; omega)⟩
theorem way_at (hn : numB N ts = true) (hN : N ≤ 4611686018427387904) (hi : i < (wayL ts).length) (hw : wq = (wayL ts).getD i (0, 0, 0)) : bdS ts (wq.1, wq.2.1) := by
  have hm : wq ∈ wayL ts := by rw [hw, List.getD, List.getElem?_eq_getElem hi]; exact List.getElem_mem hi
  unfold wayL at hm
  obtain ⟨s, hs, rfl⟩ := List.mem_map.1 hm
  exact way_bd hn hN hs
theorem wayL_len : (wayL ts).length = (rimL ts).length := by unfold wayL; rw [List.length_map]
end
end
end Go.Proofs.YtgiacpkjnikjdaaGreat
