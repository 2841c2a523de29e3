import Derived.Lib.ItoaNum
import Derived.Laws.Runes
import Derived.Test.YtpkoldfmbebmgaaGreatDoorPart05
import Derived.Test.YtpkoldfmbebmgaaGreatDoorPart10
namespace Go.Proofs.YtpkoldfmbebmgaaGreatDoor
open Go Go.RowKit
set_option linter.unusedVariables false
set_option linter.unusedSimpArgs false
theorem pow_le_words {b : Nat} (h : 0 < nw b) : 4294967296 ^ (nw b - 1) ≤ b := by
  rcases Nat.lt_or_ge b (4294967296 ^ (nw b - 1)) with h1 | h1
  · have := nw_le_iff.2 h1; omega
  · exact h1
theorem top_word {b : Nat} (h : 0 < nw b) : (wordsOf b).getD (nw b - 1) 0 = b / 4294967296 ^ (nw b - 1) ∧ 0 < (wordsOf b).getD (nw b - 1) 0 ∧ (wordsOf b).getD (nw b - 1) 0 < 4294967296 := by
  have h1 := pow_le_words h
  have h2 := lt_pow_nw b
  have h3 : b / 4294967296 ^ (nw b - 1) < 4294967296 := by
    rw [Nat.div_lt_iff_lt_mul (Nat.pow_pos (by omega))]
    have : 4294967296 ^ nw b = 4294967296 * 4294967296 ^ (nw b - 1) := by rw [← Nat.pow_succ', show (nw b - 1).succ = nw b by omega]
    omega
  have h4 : 0 < b / 4294967296 ^ (nw b - 1) := Nat.div_pos h1 (Nat.pow_pos (by omega))
  have h5 : (wordsOf b).getD (nw b - 1) 0 = b / 4294967296 ^ (nw b - 1) := by rw [words_getD, Nat.mod_eq_of_lt h3]
  exact ⟨h5, by rw [h5]; exact h4, by rw [h5]; exact h3⟩
theorem normed {b s : Nat} (h : 0 < nw b) (hs : s = 32 - bl ((wordsOf b).getD (nw b - 1) 0)) : s < 32 ∧ 2147483648 * 4294967296 ^ (nw b - 1) ≤ b * 2 ^ s ∧ b * 2 ^ s < 4294967296 ^ nw b := by
  obtain ⟨h1, h2, h3⟩ := top_word h
  obtain ⟨k1, k2, k3, k4⟩ := lz_bounds h2 h3
  rw [← hs] at k3 k4
  have hs32 : s < 32 := by omega
  have hp : 0 < 4294967296 ^ (nw b - 1) := Nat.pow_pos (by omega)
  have e : 4294967296 ^ nw b = 4294967296 * 4294967296 ^ (nw b - 1) := by rw [← Nat.pow_succ', show (nw b - 1).succ = nw b by omega]
  rw [e]
  rw [h1] at k3 k4
  have m := Nat.div_add_mod b (4294967296 ^ (nw b - 1))
  have ml := Nat.mod_lt b hp
  generalize b / 4294967296 ^ (nw b - 1) = y at *
  generalize b % 4294967296 ^ (nw b - 1) = r at *
  generalize 4294967296 ^ (nw b - 1) = p at *
  have h32 : (4294967296 : Nat) = 2 ^ (32 - s) * 2 ^ s := by rw [← Nat.pow_add, show 32 - s + s = 32 by omega]
  have k5 : (y + 1) * 2 ^ s ≤ 4294967296 := by
    rw [h32] at k4 ⊢
    exact Nat.mul_le_mul_right _ (Nat.lt_of_mul_lt_mul_right k4)
  refine ⟨hs32, ?_, ?_⟩
  · have : 2147483648 * p ≤ y * 2 ^ s * p := Nat.mul_le_mul_right _ k3
    have e2 : b * 2 ^ s = y * 2 ^ s * p + r * 2 ^ s := by rw [← m]; grind
    omega
  · have : (y + 1) * 2 ^ s * p ≤ 4294967296 * p := Nat.mul_le_mul_right _ k5
    have e2 : b < (y + 1) * p := by rw [Nat.add_mul, Nat.one_mul, Nat.mul_comm y]; omega
    have e3 : b * 2 ^ s < (y + 1) * p * 2 ^ s := Nat.mul_lt_mul_of_pos_right e2 (Nat.pow_pos (by omega))
    have e4 : (y + 1) * p * 2 ^ s = (y + 1) * 2 ^ s * p := by rw [Nat.mul_right_comm]
    omega
theorem two_words {xs : List Nat} {j : Nat} (h : W32 xs) : xs.getD (j + 1) 0 * 4294967296 + xs.getD j 0 = val xs / 4294967296 ^ j % 18446744073709551616 := by
  rw [val_getD xs _ h, val_getD xs _ h, Nat.pow_succ, ← Nat.div_div_eq_div_mul]
  omega
theorem top_two {xs : List Nat} {j : Nat} (h : W32 xs) (hv : val xs < 4294967296 ^ (j + 2)) : xs.getD (j + 1) 0 * 4294967296 + xs.getD j 0 = val xs / 4294967296 ^ j := by
  rw [two_words h, Nat.mod_eq_of_lt]
  rw [Nat.div_lt_iff_lt_mul (Nat.pow_pos (by omega))]
  rw [Nat.pow_succ, Nat.pow_succ] at hv
  omega
structure Nrm (vb : List Nat) (n V : Nat) : Prop where
  w32 : W32 vb
  len : vb.length = n + 1
  two : 2 ≤ n
  val_ : val vb = V
  low : 2147483648 * 4294967296 ^ (n - 1) ≤ V
  high : V < 4294967296 ^ n
theorem Nrm.take {vb : List Nat} {n V : Nat} (h : Nrm vb n V) : val (vb.take n) = V := by rw [val_take_of_lt (by rw [h.val_]; exact h.high), h.val_]
theorem Nrm.top {vb : List Nat} {n V : Nat} (h : Nrm vb n V) : vb.getD (n - 1) 0 * 4294967296 + vb.getD (n - 2) 0 = V / 4294967296 ^ (n - 2) ∧ 2147483648 ≤ vb.getD (n - 1) 0 ∧ vb.getD (n - 1) 0 < 4294967296 := by
  have h2 := h.two
  have e := top_two (j := n - 2) h.w32 (by rw [show n - 2 + 2 = n by omega, h.val_]; exact h.high)
  rw [show n - 2 + 1 = n - 1 by omega, h.val_] at e
  refine ⟨e, ?_, h.w32.getD _⟩
  rw [val_getD _ _ h.w32, h.val_, Nat.mod_eq_of_lt]
  · rw [Nat.le_div_iff_mul_le (Nat.pow_pos (by omega))]; exact h.low
  · rw [Nat.div_lt_iff_lt_mul (Nat.pow_pos (by omega))]
    have : 4294967296 ^ n = 4294967296 * 4294967296 ^ (n - 1) := by rw [← Nat.pow_succ', show (n - 1).succ = n by omega]
    have := h.high
    omega
theorem Nrm.parts {vb : List Nat} {n V : Nat} (h : Nrm vb n V) : V = (vb.getD (n - 1) 0 * 4294967296 + vb.getD (n - 2) 0) * 4294967296 ^ (n - 2) + V % 4294967296 ^ (n - 2) ∧ V % 4294967296 ^ (n - 2) < 4294967296 ^ (n - 2) := by
  rw [h.top.1]
  refine ⟨?_, Nat.mod_lt _ (Nat.pow_pos (by omega))⟩
  have := Nat.div_add_mod V (4294967296 ^ (n - 2))
  rw [Nat.mul_comm]; omega
structure Win (us : List Nat) (V k n W top u2 : Nat) : Prop where
  w : W = val us / 4294967296 ^ k
  lt : W < V * 4294967296
  low : (top * 4294967296 + u2) * 4294967296 ^ (n - 2) ≤ W
  high : W < (top * 4294967296 + u2 + 1) * 4294967296 ^ (n - 2)
  topb : top < 18446744073709551616
  fits : val us < 4294967296 ^ (k + n + 1)
theorem win_of {us vb : List Nat} {V k n : Nat} (hn : Nrm vb n V) (hu : W32 us) (hR : val us < V * 4294967296 ^ (k + 1)) :
    Win us V k n (val us / 4294967296 ^ k) (us.getD (k + n) 0 * 4294967296 + us.getD (k + n - 1) 0) (us.getD (k + n - 2) 0) := by
  have h2 := hn.two
  have hp : 0 < 4294967296 ^ k := Nat.pow_pos (by omega)
  have hfit : val us < 4294967296 ^ (k + n + 1) := by
    have h1 : V * 4294967296 ^ (k + 1) < 4294967296 ^ n * 4294967296 ^ (k + 1) := Nat.mul_lt_mul_of_pos_right hn.high (Nat.pow_pos (by omega))
    rw [← Nat.pow_add, show n + (k + 1) = k + n + 1 by omega] at h1
    omega
  have e1 := top_two (xs := us) (j := k + n - 1) hu (by rw [show k + n - 1 + 2 = k + n + 1 by omega]; exact hfit)
  rw [show k + n - 1 + 1 = k + n by omega] at e1
  have e3 : us.getD (k + n - 2) 0 = val us / 4294967296 ^ (k + n - 2) % 4294967296 := val_getD _ _ hu
  have e4 : val us / 4294967296 ^ (k + n - 1) = val us / 4294967296 ^ (k + n - 2) / 4294967296 := by
    rw [Nat.div_div_eq_div_mul, ← Nat.pow_succ, show (k + n - 2).succ = k + n - 1 by omega]
  have e5 : (us.getD (k + n) 0 * 4294967296 + us.getD (k + n - 1) 0) * 4294967296 + us.getD (k + n - 2) 0 = val us / 4294967296 ^ k / 4294967296 ^ (n - 2) := by
    have e6 : val us / 4294967296 ^ k / 4294967296 ^ (n - 2) = val us / 4294967296 ^ (k + n - 2) := by rw [Nat.div_div_eq_div_mul, ← Nat.pow_add, show k + (n - 2) = k + n - 2 by omega]
    rw [e1, e3, e4, e6]
    exact Nat.div_add_mod' _ _
  have w1 := hu.getD (k + n)
  have w2 := hu.getD (k + n - 1)
  refine ⟨rfl, ?_, ?_, ?_, by omega, hfit⟩
  · rw [Nat.div_lt_iff_lt_mul hp]
    rw [Nat.pow_succ] at hR
    have : V * (4294967296 ^ k * 4294967296) = V * 4294967296 * 4294967296 ^ k := by grind
    omega
  · rw [e5]; exact Nat.div_mul_le_self _ _
  · rw [e5, Nat.mul_comm]; exact Nat.lt_mul_div_succ _ (Nat.pow_pos (by omega))
theorem Win.quo_lt {us : List Nat} {V k n W top u2 : Nat} (h : Win us V k n W top u2) (hV : 0 < V) : W / V < 4294967296 := by
  rw [Nat.div_lt_iff_lt_mul hV, Nat.mul_comm]; exact h.lt
theorem Nrm.pos {vb : List Nat} {n V : Nat} (h : Nrm vb n V) : 0 < V := by
  have := h.low
  have := Nat.pow_pos (n := n - 1) (show 0 < 4294967296 by omega)
  omega
theorem first_guess {us vb : List Nat} {V k n W top u2 : Nat} (hn : Nrm vb n V) (h : Win us V k n W top u2) (hu2 : u2 < 4294967296) : Guess V W (vb.getD (n - 1) 0) top (top / vb.getD (n - 1) 0) (top % vb.getD (n - 1) 0) := by
  have hp : 0 < 4294967296 ^ (n - 2) := Nat.pow_pos (by omega)
  refine guess_init (p := 4294967296 ^ (n - 2)) (v2 := vb.getD (n - 2) 0) (u2 := u2) hp hn.parts.1 (hn.w32.getD _) hn.parts.2 ?_ (by have := hn.top; omega)
  have h1 := h.high
  have h2 : (top * 4294967296 + u2 + 1) * 4294967296 ^ (n - 2) ≤ ((top + 1) * 4294967296) * 4294967296 ^ (n - 2) := Nat.mul_le_mul_right _ (by omega)
  rw [← Nat.mul_assoc]
  omega
theorem next_guess {us vb : List Nat} {V k n W top u2 d r : Nat} (hn : Nrm vb n V) (h : Win us V k n W top u2) (hg : Guess V W (vb.getD (n - 1) 0) top d r) (ht : ¬ (d ≤ 4294967295 ∧ d * vb.getD (n - 2) 0 ≤ r * 4294967296 + u2)) :
    Guess V W (vb.getD (n - 1) 0) top (d - 1) (r + vb.getD (n - 1) 0) ∧ 0 < d :=
  guess_less hg (Nat.pow_pos (by omega)) hn.parts.1 (by have := hn.top; omega) h.high (h.quo_lt hn.pos) ht
theorem last_guess {us vb : List Nat} {V k n W top u2 d r : Nat} (hn : Nrm vb n V) (h : Win us V k n W top u2) (hg : Guess V W (vb.getD (n - 1) 0) top d r) (he : 4294967295 < r ∨ (d ≤ 4294967295 ∧ d * vb.getD (n - 2) 0 ≤ r * 4294967296 + u2)) :
    d ≤ 4294967295 ∧ (d = W / V ∨ d = W / V + 1) :=
  guess_done hg (Nat.pow_pos (by omega)) hn.parts.1 hn.parts.2 (by have := hn.top; omega) (hn.w32.getD _) h.low h.lt (hn.w32.getD _) he
theorem less_right {us vb : List Nat} {V k n W top u2 d : Nat} (hn : Nrm vb n V) (h : Win us V k n W top u2) (hd : d = W / V ∨ d = W / V + 1) (hl : ¬ val us < d * V * 4294967296 ^ k) : d = W / V ∧ val us + 0 - d * V * 4294967296 ^ k = val us - W / V * V * 4294967296 ^ k := by
  have e : d = W / V := by
    rcases hd with hd | hd
    · exact hd
    · exfalso
      refine hl ?_
      have h1 : W < d * V := by rw [hd]; exact (Nat.div_lt_iff_lt_mul hn.pos).1 (Nat.lt_succ_self _)
      have h2 : val us < (W + 1) * 4294967296 ^ k := by
        rw [h.w, Nat.mul_comm]; exact Nat.lt_mul_div_succ _ (Nat.pow_pos (by omega))
      have h3 : (W + 1) * 4294967296 ^ k ≤ d * V * 4294967296 ^ k := Nat.mul_le_mul_right _ h1
      omega
  exact ⟨e, by rw [e]; rfl⟩
theorem quo_le {us vb : List Nat} {V k n W top u2 : Nat} (h : Win us V k n W top u2) : W / V * V * 4294967296 ^ k ≤ val us := by
  have h1 : W / V * V * 4294967296 ^ k ≤ W * 4294967296 ^ k := Nat.mul_le_mul_right _ (Nat.div_mul_le_self _ _)
  have h2 : W * 4294967296 ^ k ≤ val us := by rw [h.w]; exact Nat.div_mul_le_self _ _
  omega
theorem less_wrong {us vb : List Nat} {V k n W top u2 d : Nat} (h : Win us V k n W top u2) (hd : d = W / V ∨ d = W / V + 1) (hl : val us < d * V * 4294967296 ^ k) : d = W / V + 1 ∧ d * V * 4294967296 ^ k = W / V * V * 4294967296 ^ k + V * 4294967296 ^ k := by
  have hq := quo_le (vb := vb) h
  have e : d = W / V + 1 := by
    rcases hd with hd | hd
    · subst hd; omega
    · exact hd
  exact ⟨e, by rw [e, Nat.add_mul, Nat.add_mul, Nat.one_mul]⟩
theorem back_step {os vb : List Nat} {U i k n c : Nat} (hl : os.length = n) (hi : k + i < n) (hv : val os + c * 4294967296 ^ (k + i) = U + val (vb.take i) * 4294967296 ^ k) :
    val (os.set (k + i) ((os.getD (k + i) 0 + vb.getD i 0 + c) % 4294967296)) + (os.getD (k + i) 0 + vb.getD i 0 + c) / 4294967296 * 4294967296 ^ (k + (i + 1)) = U + val (vb.take (i + 1)) * 4294967296 ^ k := by
  have e := val_set (xs := os) (i := k + i) (by omega) ((os.getD (k + i) 0 + vb.getD i 0 + c) % 4294967296)
  have t := val_take_succ vb i
  have hm := Nat.div_add_mod (os.getD (k + i) 0 + vb.getD i 0 + c) 4294967296
  rw [t, show k + (i + 1) = k + i + 1 by omega, Nat.pow_succ]
  rw [Nat.pow_add] at *
  generalize os.getD (k + i) 0 = o at *
  generalize vb.getD i 0 = y at *
  generalize (o + y + c) / 4294967296 = q at *
  generalize (o + y + c) % 4294967296 = r at *
  generalize 4294967296 ^ i = p at *
  generalize 4294967296 ^ k = p' at *
  generalize val (vb.take i) = v at *
  have hm2 : (4294967296 * q + r) * (p' * p) = (o + y + c) * (p' * p) := by rw [hm]
  grind
theorem back_done {os : List Nat} {T P p N c : Nat} (hl : os.length = N) (hp : p < N) (hw : W32 os) (hc : c ≤ 1) (hz : ∀ j, p + 1 ≤ j → os.getD j 0 = 0) (hP : P = 4294967296 ^ (p + 1)) (hv : val os + c * 4294967296 ^ p = T + P) (hT : T < P) :
    val (os.set p ((os.getD p 0 + c) % 4294967296)) = T := by
  have e := val_set (xs := os) (i := p) (by omega) ((os.getD p 0 + c) % 4294967296)
  have hw2 : W32 (os.set p ((os.getD p 0 + c) % 4294967296)) := hw.set (by omega) _
  have ho := hw.getD p
  have hlt : ∀ xs : List Nat, W32 xs → xs.length = N → (∀ j, p + 1 ≤ j → xs.getD j 0 = 0) → val xs < P := fun xs hx hxl hxz => by
    have h1 := val_split xs (p + 1) (by omega)
    have h2 : val (xs.drop (p + 1)) = 0 := by
      have : xs.drop (p + 1) = List.replicate (N - (p + 1)) 0 := by
        apply List.ext_getElem (by simp [hxl])
        intro j h1 h2
        have := hxz (p + 1 + j) (by omega)
        simp [List.getD_eq_getElem?_getD] at this h1
        simp
        have h3 : p + 1 + j < xs.length := by omega
        simpa [h3] using this
      rw [this, val_zeros]
    rw [h2] at h1
    have h3 := val_lt (hx.take (p + 1))
    rw [List.length_take, Nat.min_eq_left (by omega)] at h3
    omega
  have b2 := hlt _ hw2 (by rw [List.length_set]; exact hl) (set_above hz (by omega))
  rw [hP, Nat.pow_succ] at *
  generalize val (os.set p ((os.getD p 0 + c) % 4294967296)) = v' at *
  generalize os.getD p 0 = o at *
  generalize 4294967296 ^ p = z at *
  by_cases h : o + c < 4294967296
  · rw [Nat.mod_eq_of_lt h, Nat.add_mul] at e
    omega
  · have h1 : o + c = 4294967296 := by omega
    rw [h1, Nat.mod_self] at e
    have h2 : o * z + c * z = 4294967296 * z := by rw [← Nat.add_mul, h1]
    omega
theorem digit_done {us us2 vb qs : List Nat} {V k n W top u2 A m : Nat} (hn : Nrm vb n V) (h : Win us V k n W top u2) (hv2 : val us2 = val us - W / V * V * 4294967296 ^ k) (hA : A = val qs * V + val us) (hl : qs.length = m) (hk : k < m) (h0 : qs.getD k 0 = 0) :
    val us2 < V * 4294967296 ^ k ∧ A = val (qs.set k (W / V)) * V + val us2 := by
  have hq := quo_le (vb := vb) h
  have hm := Nat.div_add_mod W V
  have hml := Nat.mod_lt W hn.pos
  have hp : 0 < 4294967296 ^ k := Nat.pow_pos (by omega)
  have hk1 := Nat.div_add_mod (val us) (4294967296 ^ k)
  have hk2 := Nat.mod_lt (val us) hp
  rw [← h.w] at hk1
  constructor
  · have h1 : (W % V + 1) * 4294967296 ^ k ≤ V * 4294967296 ^ k := Nat.mul_le_mul_right _ hml
    have h2 : W * 4294967296 ^ k = W / V * V * 4294967296 ^ k + W % V * 4294967296 ^ k := by
      rw [← Nat.add_mul, Nat.mul_comm (W / V)]
      rw [hm]
    rw [Nat.add_mul, Nat.one_mul] at h1
    rw [Nat.mul_comm] at hk1
    omega
  · rw [mul_out hl hk h0, Nat.add_mul, hA, hv2]
    have : W / V * 4294967296 ^ k * V = W / V * V * 4294967296 ^ k := by rw [Nat.mul_right_comm]
    omega
theorem long_done {a b s q r : Nat} (hb : 0 < b) (h : a * 2 ^ s = q * (b * 2 ^ s) + r) (hr : r < b * 2 ^ s) : q = a / b ∧ r = a % b * 2 ^ s := by
  have hp : 0 < 2 ^ s := Nat.pow_pos (by omega)
  have h1 : a * 2 ^ s / (b * 2 ^ s) = q ∧ a * 2 ^ s % (b * 2 ^ s) = r := by
    have e : a * 2 ^ s = r + b * 2 ^ s * q := by rw [h, Nat.mul_comm q]; omega
    rw [e]
    constructor
    · rw [Nat.add_mul_div_left _ _ (by omega), Nat.div_eq_of_lt hr]; omega
    · rw [Nat.add_mul_mod_self_left, Nat.mod_eq_of_lt hr]
  rw [Nat.mul_div_mul_right _ _ hp, Nat.mul_mod_mul_right] at h1
  exact ⟨h1.1.symm, h1.2.symm⟩
theorem long_start {a b s n m : Nat} (hn : n = nw b) (hb : 0 < nw b) (hs : s < 32) (hV : 2147483648 * 4294967296 ^ (nw b - 1) ≤ b * 2 ^ s) (hm : m = nw a + 1 - nw b) (hba : nw b ≤ nw a) : a * 2 ^ s < b * 2 ^ s * 4294967296 ^ m := by
  have h1 := lt_pow_nw a
  have h2 : (2 : Nat) ^ s ≤ 2 ^ 31 := Nat.pow_le_pow_right (by omega) (by omega)
  have h3 : a * 2 ^ s ≤ a * 2147483648 := Nat.mul_le_mul_left _ h2
  have h4 : a * 2147483648 < 4294967296 ^ nw a * 2147483648 := Nat.mul_lt_mul_of_pos_right h1 (by omega)
  have h5 : 2147483648 * 4294967296 ^ (nw b - 1) * 4294967296 ^ m ≤ b * 2 ^ s * 4294967296 ^ m := Nat.mul_le_mul_right _ hV
  have h6 : 2147483648 * 4294967296 ^ (nw b - 1) * 4294967296 ^ m = 4294967296 ^ nw a * 2147483648 := by
    rw [Nat.mul_assoc, ← Nat.pow_add, show nw b - 1 + m = nw a by omega, Nat.mul_comm]
  omega
theorem Own.apart {w0 : Base} {w : World} {L : List As} (h : Own w0 w L) {i j b b' : Nat} {T T' : TypeId} {cs cs' : List Value} (hij : i < j) (hi : L[i]? = some (blk b T cs)) (hj : L[j]? = some (blk b' T' cs')) : b ≠ b' := by
  have hp := h.2.2
  obtain ⟨h1, e1⟩ := List.getElem?_eq_some_iff.1 hi
  obtain ⟨h2, e2⟩ := List.getElem?_eq_some_iff.1 hj
  have := (List.pairwise_iff_getElem.1 hp i j h1 h2 hij).resolve_left (fun k => by have := k.1; rw [e1] at this; cases this) b (by rw [e1])
  rw [e2] at this
  exact fun e => this (by rw [e])
def mkI (neg : Bool) (n : Nat) : Int := if neg then -(n : Int) else (n : Int)
theorem intL_neg (n : Nat) : intL (mkI true n) = natL n ++ [.bool (!(decide (n = 0)))] := by
  simp only [intL, natL, mkI, if_true, Int.natAbs_neg, Int.natAbs_natCast, List.cons_append, List.nil_append]
  have e : decide (-(n : Int) < 0) = !(decide (n = 0)) := by
    by_cases h : n = 0
    · subst h; rfl
    · simp [h]; omega
  rw [e]
theorem intL_pos (n : Nat) : intL (mkI false n) = natL n ++ [.bool false] := by
  simp only [intL, natL, mkI, Int.natAbs_natCast, List.cons_append, List.nil_append]
  have e : decide ((n : Int) < 0) = false := by simp
  simp [e]
theorem eqB_size (D a b : Nat) : EqB Tryz.prog (D + 3) 32 (.agg (natL a).toArray) (.agg (natL b).toArray) (decide (a = b)) := by
  have h := EqB.struct (D := D + 2) (xs := natL a) (ys := natL b) Tryz.underlying32 Tryz.stoodInHeld32 (EqF.agg (us := natL a) (bs := natL b) (by decide) Tryz.isAgg30 Tryz.sizeOf30 rfl rfl (eqB_nat D a b) EqF.nil)
  simpa using h
theorem mkI_natAbs (neg : Bool) (n : Nat) : (mkI neg n).natAbs = n := by cases neg <;> simp [mkI]
theorem mkI_not (a : Int) : mkI (!(decide (a < 0))) a.natAbs = -a := by
  unfold mkI
  by_cases h : a < 0
  · simp [h]; omega
  · simp [h]; omega
theorem mkI_mul (a b : Int) : mkI (!(decide (a < 0) == decide (b < 0))) (a.natAbs * b.natAbs) = a * b := by
  rw [← Int.natAbs_mul]
  unfold mkI
  by_cases h : a < 0 <;> by_cases h' : b < 0
  · have := Int.mul_pos_of_neg_of_neg h h'; simp [h, h']; omega
  · have : a * b ≤ 0 := Int.mul_nonpos_of_nonpos_of_nonneg (by omega) (by omega)
    simp [h, h']; omega
  · have : a * b ≤ 0 := Int.mul_nonpos_of_nonneg_of_nonpos (by omega) (by omega)
    simp [h, h']; omega
  · have : 0 ≤ a * b := Int.mul_nonneg (by omega) (by omega)
    simp [h, h']; omega
theorem mkI_add_same {a b : Int} (h : (decide (a < 0) == decide (b < 0)) = true) : mkI (decide (a < 0)) (a.natAbs + b.natAbs) = a + b := by
  unfold mkI
  by_cases h1 : a < 0 <;> by_cases h2 : b < 0 <;> simp [h1, h2] at h ⊢ <;> omega
theorem mkI_add_ge {a b : Int} (h : (decide (a < 0) == decide (b < 0)) = false) (h3 : b.natAbs ≤ a.natAbs) : mkI (decide (a < 0)) (a.natAbs - b.natAbs) = a + b := by
  unfold mkI
  by_cases h1 : a < 0 <;> by_cases h2 : b < 0 <;> simp [h1, h2] at h ⊢ <;> omega
theorem mkI_add_lt {a b : Int} (h : (decide (a < 0) == decide (b < 0)) = false) (h3 : ¬ b.natAbs ≤ a.natAbs) : mkI (decide (b < 0)) (b.natAbs - a.natAbs) = a + b := by
  unfold mkI
  by_cases h1 : a < 0 <;> by_cases h2 : b < 0 <;> simp [h1, h2] at h ⊢ <;> omega
theorem negU {z : Int} (h : z < 0) (h2 : -9223372036854775808 ≤ z) : IntKind.u64.wrap (-(IntKind.u64.wrap z)) = ((z.natAbs : Nat) : Int) := by
  simp only [IntKind.wrap, IntKind.bits, IntKind.signed]; simp; omega
theorem mkI_natAbs_neg {z : Int} (h : z < 0) : mkI true z.natAbs = z := by unfold mkI; simp; omega
theorem mkI_toNat {z : Int} (h : ¬ z < 0) : mkI false z.natAbs = z := by unfold mkI; simp; omega
def Sz (q : Rat) : Nat := max (nw q.num.natAbs) (nw q.den)
theorem Sz_num (q : Rat) : nw q.num.natAbs ≤ Sz q := Nat.le_max_left ..
theorem Sz_den (q : Rat) : nw q.den ≤ Sz q := Nat.le_max_right ..
theorem Sz_more (q : Rat) : nw (q.den - 1) ≤ Sz q := Nat.le_trans (nw_mono (Nat.sub_le _ _)) (Sz_den q)
theorem Sz_le {q : Rat} {k : Nat} (h1 : nw q.num.natAbs ≤ k) (h2 : nw q.den ≤ k) : Sz q ≤ k := Nat.max_le.2 ⟨h1, h2⟩
theorem nw_one : nw 1 = 1 := by decide
theorem Sz_pos (q : Rat) : 1 ≤ Sz q := Nat.le_trans (by rw [← nw_one]; exact nw_mono q.den_pos) (Sz_den q)
theorem Sz_mkRat {n : Int} {d k : Nat} (h1 : nw n.natAbs ≤ k) (h2 : nw d ≤ k) (hk : 1 ≤ k) : Sz (mkRat n d) ≤ k := by
  refine Sz_le ?_ ?_
  · rw [Rat.num_mkRat]
    split
    · exact Nat.zero_le _
    · refine Nat.le_trans (nw_mono ?_) h1
      rw [Int.natAbs_ediv_of_dvd (by rw [Int.ofNat_dvd_left]; exact Nat.gcd_dvd_right ..)]
      exact Nat.div_le_self _ _
  · rw [Rat.den_mkRat]
    split
    · rw [nw_one]; exact hk
    · exact Nat.le_trans (nw_mono (Nat.div_le_self _ _)) h2
theorem nwI_mul (a b : Int) : nw (a * b).natAbs ≤ nw a.natAbs + nw b.natAbs := by rw [Int.natAbs_mul]; exact nw_mul _ _
theorem nwI_add (a b : Int) : nw (a + b).natAbs ≤ max (nw a.natAbs) (nw b.natAbs) + 1 := Nat.le_trans (nw_mono (Int.natAbs_add_le a b)) (nw_add _ _)
theorem cross_nw (a b : Rat) : nw (a.num * ((b.den : Nat) : Int)).natAbs ≤ Sz a + Sz b := by
  have h1 := nwI_mul a.num ((b.den : Nat) : Int)
  have h2 := Sz_num a
  have h3 := Sz_den b
  rw [Int.natAbs_natCast] at h1
  omega
theorem den_nw (a b : Rat) : nw (a.den * b.den) ≤ Sz a + Sz b := by
  have h1 := nw_mul a.den b.den
  have h2 := Sz_den a
  have h3 := Sz_den b
  omega
theorem num_nw (a b : Rat) : nw (a.num * b.num).natAbs ≤ Sz a + Sz b := by
  have h1 := nwI_mul a.num b.num
  have h2 := Sz_num a
  have h3 := Sz_num b
  omega
theorem add_mkRat (a b : Rat) : mkRat (a.num * ((b.den : Nat) : Int) + b.num * ((a.den : Nat) : Int)) (a.den * b.den) = a + b := by rw [Rat.add_def, Rat.normalize_eq_mkRat]
theorem mul_mkRat (a b : Rat) : mkRat (a.num * b.num) (a.den * b.den) = a * b := by rw [Rat.mul_def, Rat.normalize_eq_mkRat]
theorem whole_eq {a : Rat} (h : a.den - 1 = 0) : a = ((a.num : Int) : Rat) := by
  have h1 : a.den = 1 := by have := a.den_pos; omega
  exact Rat.ext rfl h1
theorem add_whole {a b : Rat} (ha : a.den - 1 = 0) (hb : b.den - 1 = 0) : ((a.num + b.num : Int) : Rat) = a + b := by
  rw [Rat.intCast_add, ← whole_eq ha, ← whole_eq hb]
theorem mul_whole {a b : Rat} (ha : a.den - 1 = 0) (hb : b.den - 1 = 0) : ((a.num * b.num : Int) : Rat) = a * b := by
  rw [Rat.intCast_mul, ← whole_eq ha, ← whole_eq hb]
theorem den_same {a b : Rat} (h : a.den - 1 = b.den - 1) : a.den = b.den := by
  have h1 := a.den_pos
  have h2 := b.den_pos
  omega
theorem add_same {a b : Rat} (h : a.den - 1 = b.den - 1) : mkRat (a.num + b.num) a.den = a + b := by
  have h1 := den_same h
  have h2 : a + b = mkRat a.num a.den + mkRat b.num a.den := by rw [Rat.mkRat_self]; conv => lhs; rw [← Rat.mkRat_self b, ← h1]
  rw [h2, Rat.mkRat_eq_div, Rat.mkRat_eq_div, Rat.mkRat_eq_div, Rat.intCast_add, Rat.div_def, Rat.div_def, Rat.div_def, Rat.add_mul]
theorem Sz_add (a b : Rat) : Sz (a + b) ≤ Sz a + Sz b + 1 := by
  rw [← add_mkRat]
  have h1 := cross_nw a b
  have h2 := cross_nw b a
  have h3 := nwI_add (a.num * ((b.den : Nat) : Int)) (b.num * ((a.den : Nat) : Int))
  have h4 := den_nw a b
  exact Sz_mkRat (by omega) (by omega) (by omega)
theorem Sz_mul (a b : Rat) : Sz (a * b) ≤ Sz a + Sz b := by
  rw [← mul_mkRat]
  have := Sz_pos a
  exact Sz_mkRat (num_nw a b) (den_nw a b) (by omega)
theorem Sz_neg (a : Rat) : Sz (-a) = Sz a := by unfold Sz; rw [Rat.neg_num, Rat.neg_den, Int.natAbs_neg]
theorem Sz_sub (a b : Rat) : Sz (a - b) ≤ Sz a + Sz b + 1 := by rw [Rat.sub_eq_add_neg, ← Sz_neg b]; exact Sz_add a (-b)
theorem inv_mkRat {b : Rat} (h : b ≠ 0) : mkRat (mkI (decide (b.num.sign < 0)) b.den) b.num.natAbs = b⁻¹ := by
  have hn : b.num ≠ 0 := fun e => h (Rat.num_eq_zero.1 e)
  have hb : b = (b.num : Rat) / ((b.den : Nat) : Rat) := by rw [← Rat.mkRat_eq_div, Rat.mkRat_self]
  have hd : ((b.den : Nat) : Rat) ≠ 0 := by
    intro e
    have := b.den_pos
    have h2 : b.den = 0 := by exact_mod_cast e
    omega
  have hn2 : ((b.num : Int) : Rat) ≠ 0 := by
    intro e
    exact hn (by exact_mod_cast e)
  rw [Rat.mkRat_eq_div]
  conv => rhs; rw [hb]
  by_cases hs : b.num < 0
  · have e1 : decide (b.num.sign < 0) = true := by simp [Int.sign_eq_neg_one_of_neg hs]
    have e2 : ((b.num.natAbs : Nat) : Rat) = -((b.num : Int) : Rat) := by
      have : ((b.num.natAbs : Nat) : Int) = -b.num := by omega
      rw [← Rat.intCast_natCast, this, Rat.intCast_neg]
    rw [e1, e2]
    simp only [mkI, if_true, Rat.intCast_neg, Rat.intCast_natCast]
    grind
  · have e1 : decide (b.num.sign < 0) = false := by
      have : 0 ≤ b.num.sign := Int.sign_nonneg_iff.2 (by omega)
      exact decide_eq_false (by omega)
    have e2 : ((b.num.natAbs : Nat) : Rat) = ((b.num : Int) : Rat) := by
      have : ((b.num.natAbs : Nat) : Int) = b.num := by omega
      rw [← Rat.intCast_natCast, this]
    rw [e1, e2]
    simp only [mkI, Bool.false_eq_true, if_false, Rat.intCast_natCast]
    grind
theorem Sz_inv {b : Rat} (h : b ≠ 0) : Sz b⁻¹ ≤ Sz b := by
  rw [← inv_mkRat h]
  exact Sz_mkRat (by rw [mkI_natAbs]; exact Sz_den b) (Sz_num b) (Sz_pos b)
theorem Sz_div {a b : Rat} (h : b ≠ 0) : Sz (a / b) ≤ Sz a + Sz b := by
  rw [Rat.div_def]
  have h1 := Sz_mul a b⁻¹
  have h2 := Sz_inv h
  omega
def cmpQ (a b : Rat) : Int := if a < b then -1 else if a = b then 0 else 1
theorem cmpQ_cross (a b : Rat) : (a.num * ((b.den : Nat) : Int) - b.num * ((a.den : Nat) : Int)).sign = cmpQ a b := by
  have h1 := Rat.lt_iff a b
  have h2 := @Rat.eq_iff_mul_eq_mul a b
  unfold cmpQ
  split
  · rename_i h; exact Int.sign_eq_neg_one_of_neg (by have := h1.1 h; omega)
  · rename_i h
    split
    · rename_i h'; rw [h2.1 h']; simp
    · rename_i h'
      have h3 : ¬ a.num * ((b.den : Nat) : Int) < b.num * ((a.den : Nat) : Int) := fun e => h (h1.2 e)
      have h4 : ¬ a.num * ((b.den : Nat) : Int) = b.num * ((a.den : Nat) : Int) := fun e => h' (h2.2 e)
      exact Int.sign_eq_one_of_pos (by omega)
theorem cmpQ_same {a b : Rat} (h : a.den - 1 = b.den - 1) : (a.num - b.num).sign = cmpQ a b := by
  rw [← cmpQ_cross, ← den_same h, ← Int.sub_mul, Int.sign_mul]
  have := a.den_pos
  rw [show ((a.den : Nat) : Int).sign = 1 from Int.sign_eq_one_of_pos (by omega)]
  simp
theorem cmpQ_lt {a b : Rat} : cmpQ a b < 0 ↔ a < b := by
  unfold cmpQ; split
  · simp [*]
  · split <;> simp [*]
theorem fracL_parts (q : Rat) : fracL q = intL q.num ++ natL (q.den - 1) := rfl
theorem low_num {n : Int} {d : Nat} (hd : d ≠ 0) : (mkRat n d).num = mkI (decide (n.sign < 0)) (n.natAbs / Nat.gcd n.natAbs d) := by
  rw [Rat.num_mkRat, if_neg hd, Nat.gcd_comm]
  unfold mkI
  by_cases h : n < 0
  · rw [Int.sign_eq_neg_one_of_neg h]
    have e : n = -((n.natAbs : Nat) : Int) := by omega
    simp only [show decide ((-1 : Int) < 0) = true from rfl, if_true]
    conv => lhs; rw [e]
    rw [Int.natAbs_neg, Int.natAbs_natCast, Int.neg_ediv_of_dvd (by rw [Int.natCast_dvd_natCast]; exact Nat.gcd_dvd_left ..)]
    rfl
  · have h0 : 0 ≤ n.sign := Int.sign_nonneg_iff.2 (by omega)
    have e : n = ((n.natAbs : Nat) : Int) := by omega
    rw [if_neg (by simp; omega)]
    conv => lhs; rw [e]
    rw [Int.natAbs_natCast]
    rfl
theorem low_den {n : Int} {d : Nat} (hd : d ≠ 0) : (mkRat n d).den = d / Nat.gcd n.natAbs d := by rw [Rat.den_mkRat, if_neg hd, Nat.gcd_comm]
section
instance : Add Pt := ⟨fun a b => ⟨a.x + b.x, a.y + b.y⟩⟩
instance : Sub Pt := ⟨fun a b => ⟨a.x - b.x, a.y - b.y⟩⟩
def scaleP (a : Pt) (k : Rat) : Pt := ⟨a.x * k, a.y * k⟩
def crossP (a b : Pt) : Rat := a.x * b.y - a.y * b.x
def dotP (a b : Pt) : Rat := a.x * b.x + a.y * b.y
def turnP (a b c : Pt) : Rat := crossP (b - a) (c - a)
def SzP (p : Pt) : Nat := max (Sz p.x) (Sz p.y)
theorem SzP_x (p : Pt) : Sz p.x ≤ SzP p := Nat.le_max_left ..
theorem SzP_y (p : Pt) : Sz p.y ≤ SzP p := Nat.le_max_right ..
theorem SzP_le {p : Pt} {k : Nat} (h1 : Sz p.x ≤ k) (h2 : Sz p.y ≤ k) : SzP p ≤ k := Nat.max_le.2 ⟨h1, h2⟩
theorem SzP_add (a b : Pt) : SzP (a + b) ≤ SzP a + SzP b + 1 := by
  have h1 := SzP_x a; have h2 := SzP_y a; have h3 := SzP_x b; have h4 := SzP_y b
  refine SzP_le ?_ ?_
  · exact Nat.le_trans (Sz_add a.x b.x) (by omega)
  · exact Nat.le_trans (Sz_add a.y b.y) (by omega)
theorem SzP_sub (a b : Pt) : SzP (a - b) ≤ SzP a + SzP b + 1 := by
  have h1 := SzP_x a; have h2 := SzP_y a; have h3 := SzP_x b; have h4 := SzP_y b
  refine SzP_le ?_ ?_
  · exact Nat.le_trans (Sz_sub a.x b.x) (by omega)
  · exact Nat.le_trans (Sz_sub a.y b.y) (by omega)
theorem SzP_scale (a : Pt) (k : Rat) : SzP (scaleP a k) ≤ SzP a + Sz k := by
  have h1 := SzP_x a; have h2 := SzP_y a
  refine SzP_le ?_ ?_
  · exact Nat.le_trans (Sz_mul a.x k) (by omega)
  · exact Nat.le_trans (Sz_mul a.y k) (by omega)
theorem Sz_cross (a b : Pt) : Sz (crossP a b) ≤ 2 * SzP a + 2 * SzP b + 1 := by
  have h1 := SzP_x a; have h2 := SzP_y a; have h3 := SzP_x b; have h4 := SzP_y b
  have h5 := Sz_mul a.x b.y; have h6 := Sz_mul a.y b.x
  exact Nat.le_trans (Sz_sub _ _) (by omega)
theorem Sz_dot (a b : Pt) : Sz (dotP a b) ≤ 2 * SzP a + 2 * SzP b + 1 := by
  have h1 := SzP_x a; have h2 := SzP_y a; have h3 := SzP_x b; have h4 := SzP_y b
  have h5 := Sz_mul a.x b.x; have h6 := Sz_mul a.y b.y
  exact Nat.le_trans (Sz_add _ _) (by omega)
theorem Sz_turn (a b c : Pt) : Sz (turnP a b c) ≤ 4 * SzP a + 2 * SzP b + 2 * SzP c + 5 := by
  have h1 := SzP_sub b a; have h2 := SzP_sub c a
  exact Nat.le_trans (Sz_cross _ _) (by omega)
theorem Sz_half : Sz (1 / 2 : Rat) ≤ 1 := by decide +kernel
theorem half_of : ((1 : Int) : Rat) / ((2 : Int) : Rat) = 1 / 2 := by decide +kernel
theorem Sz_int {z : Int} (h1 : -9223372036854775808 ≤ z) (h2 : z < 9223372036854775808) : Sz ((z : Int) : Rat) ≤ 2 := Sz_le (nw_small (by show z.natAbs < _; omega)) (by show nw 1 ≤ 2; rw [nw_one]; omega)
theorem ptL_add (a b : Pt) : ptL (a + b) = fracL (a.x + b.x) ++ fracL (a.y + b.y) := rfl
theorem ptL_sub (a b : Pt) : ptL (a - b) = fracL (a.x - b.x) ++ fracL (a.y - b.y) := rfl
theorem ptL_scale (a : Pt) (k : Rat) : ptL (scaleP a k) = fracL (a.x * k) ++ fracL (a.y * k) := rfl
theorem ptL_mk (x y : Rat) : ptL ⟨x, y⟩ = fracL x ++ fracL y := rfl
section
variable {P : Program} {Q : Exit → Act → World → Prop} {n : Nat} {F : List (Nat × Value)} {w0 : Base} {L : List As} {c : Code}
def OkR (P : Program) (c : Code) (Q : Exit → Act → World → Prop) (k n : Nat) (F : List (Nat × Value)) (w0 : Base) (L : List As) : Prop := ∀ a w, Frm n a F → Own w0 w L → Code.rounds P c Q k a w
theorem OkC.unroll (k : Nat) (h : OkR P c Q k n F w0 L) : OkC P (.loop c) Q n F w0 L := fun a w ha hw => wp_loop_rounds k (h a w ha hw)
theorem OkR.step {k : Nat} (h : OkC P c (Exit.then (Code.rounds P c Q k) Q) n F w0 L) : OkR P c Q (k + 1) n F w0 L := fun a w ha hw => by
  rw [rounds_succ]; exact h a w ha hw
theorem OkQ.again {k : Nat} (h : OkR P c Q k n F w0 L) : OkQ (Exit.then (Code.rounds P c Q k) Q) .normal n F w0 L := h
end
end
section
def txB (l : List UInt8) : ByteArray := ⟨l.toArray⟩
theorem txB_size (l : List UInt8) : (txB l).size = l.length := by simp [txB, ByteArray.size]
theorem txB_append (a b : List UInt8) : txB a ++ txB b = txB (a ++ b) := by
  apply ByteArray.ext
  simp [txB]
def padD : Nat → Nat → List UInt8
  | 0, _ => []
  | k + 1, x => UInt8.ofNat (48 + x / 10 ^ k % 10) :: padD k x
theorem padD_length (k x : Nat) : (padD k x).length = k := by
  induction k with
  | zero => rfl
  | succ k ih => rw [padD, List.length_cons, ih]
theorem padD_snoc (k x : Nat) : padD (k + 1) x = padD k (x / 10) ++ [UInt8.ofNat (48 + x % 10)] := by
  induction k with
  | zero => simp [padD]
  | succ k ih =>
    rw [padD, ih, padD, List.cons_append, Nat.pow_succ', ← Nat.div_div_eq_div_mul]
theorem decDigits_pad (m x : Nat) (h0 : x / 10 ^ (m + 1) = 0) (h1 : m = 0 ∨ x / 10 ^ m ≠ 0) : Lib.decDigits x = padD (m + 1) x := by
  induction m generalizing x with
  | zero =>
    have hx : x < 10 := by omega
    rw [Lib.decDigits, dif_pos hx]
    simp [padD, Nat.mod_eq_of_lt hx]
  | succ m ih =>
    have h2 : x / 10 ^ (m + 1) ≠ 0 := h1.resolve_left (by omega)
    rw [Nat.pow_succ', ← Nat.div_div_eq_div_mul] at h0 h2
    have hx : ¬ x < 10 := fun h => h2 (by rw [Nat.div_eq_of_lt h]; exact Nat.zero_div _)
    rw [Lib.decDigits, dif_neg hx, padD_snoc (m + 1), ih (x / 10) h0 (.inr h2)]
theorem pow4 (i : Nat) : 10 ^ (4 * i) = 10000 ^ i := by rw [Nat.pow_mul]
theorem dg_dec {x i k : Nat} (hk : k < 4) : x / 10 ^ (4 * i + k) % 10 = (dg x).getD i 0 / 10 ^ k % 10 := by
  rw [Nat.pow_add, pow4, ← Nat.div_div_eq_div_mul, dg_get]
  generalize x / 10000 ^ i = y
  match k, hk with
  | 0, _ => simp only [Nat.pow_zero, Nat.div_one]; omega
  | 1, _ => show y / 10 % 10 = y % 10000 / 10 % 10; omega
  | 2, _ => show y / 100 % 10 = y % 10000 / 100 % 10; omega
  | 3, _ => show y / 1000 % 10 = y % 10000 / 1000 % 10; omega
theorem pad_step {x i k d : Nat} (hk : k < 4) (hd : d = (dg x).getD i 0 / 10 ^ k) : txB [UInt8.ofNat (48 + d % 10)] ++ txB (padD (4 * i + k) x) = txB (padD (4 * i + (k + 1)) x) := by
  rw [txB_append, ← Nat.add_assoc, padD, dg_dec hk, hd]
  rfl
theorem text_fin {x i k d : Nat} (hx : 0 < x) (hi : i + 1 = (dg x).length) (hk : k ≤ 4) (hd : d = (dg x).getD i 0 / 10 ^ k) (hnz : k = 0 ∨ (dg x).getD i 0 / 10 ^ (k - 1) ≠ 0) (hex : k = 4 ∨ d = 0) : padD (4 * i + k) x = Lib.decDigits x := by
  have h1 := val10_lt (dg_d10 x)
  rw [val_dg, ← hi, Nat.pow_succ] at h1
  have h2 := dg_ge hx
  rw [← hi, Nat.add_sub_cancel] at h2
  have hy : x / 10000 ^ i < 10000 := Nat.div_lt_of_lt_mul h1
  have hy1 : 1 ≤ x / 10000 ^ i := (Nat.le_div_iff_mul_le (Nat.pow_pos (by omega))).2 (by omega)
  rw [dg_get, Nat.mod_eq_of_lt hy] at hd hnz
  have e : ∀ j, x / 10 ^ (4 * i + j) = x / 10000 ^ i / 10 ^ j := fun j => by rw [Nat.pow_add, pow4, ← Nat.div_div_eq_div_mul]
  generalize hyy : x / 10000 ^ i = y at *
  have hk1 : 1 ≤ k := by
    rcases Nat.eq_zero_or_pos k with h | h
    · subst h; simp at hd; omega
    · exact h
  have hz : y / 10 ^ k = 0 := by
    rcases hex with h | h
    · subst h; exact Nat.div_eq_of_lt hy
    · omega
  obtain ⟨m, hm⟩ : ∃ m, m + 1 = 4 * i + k := ⟨4 * i + k - 1, by omega⟩
  rw [← hm]
  refine (decDigits_pad m x ?_ (.inr ?_)).symm
  · rw [hm, e, hz]
  · rw [show m = 4 * i + (k - 1) by omega, e]
    exact hnz.resolve_left (by omega)
theorem decDigits_zero : Lib.decDigits 0 = [48] := by rw [Lib.decDigits, dif_pos (by omega)]; rfl
theorem padD_add (a b x : Nat) : padD (a + b) x = padD a (x / 10 ^ b) ++ padD b x := by
  induction a with
  | zero => simp [padD]
  | succ a ih =>
    rw [show a + 1 + b = (a + b) + 1 by omega, padD, padD, List.cons_append, ih, Nat.div_div_eq_div_mul, ← Nat.pow_add, Nat.add_comm b a]
theorem padD_mod (k x : Nat) : padD k (x % 10 ^ k) = padD k x := by
  have h : ∀ j, j ≤ k → padD j (x % 10 ^ k) = padD j x := fun j => by
    induction j with
    | zero => intro _; rfl
    | succ j ih =>
      intro hj
      rw [padD, padD, ih (by omega)]
      congr 2
      have e : 10 ^ k = 10 ^ j * 10 ^ (k - j) := by rw [← Nat.pow_add]; congr 1; omega
      rw [e, Nat.mod_mul_right_div_self]
      have e2 : 10 ^ (k - j) = 10 * 10 ^ (k - j - 1) := by rw [← Nat.pow_succ']; congr 1; omega
      rw [e2, Nat.mod_mul_right_mod]
  exact h k (Nat.le_refl _)
theorem padD_zero (k : Nat) : padD k 0 = List.replicate k 48 := by
  induction k with
  | zero => rfl
  | succ k ih => rw [padD, ih, List.replicate_succ]; simp
theorem decDigits_eq_pad (x : Nat) : Lib.decDigits x = padD (Lib.decDigits x).length x := by
  induction x using Nat.strongRecOn with
  | _ x ih =>
    rw [Lib.decDigits]
    split
    · rename_i h
      simp [padD, Nat.mod_eq_of_lt h]
    · rename_i h
      have h1 := ih (x / 10) (by omega)
      rw [List.length_append, List.length_singleton, padD_snoc, ← h1]
theorem pad_zeros {k x : Nat} (h : (Lib.decDigits x).length ≤ k) (hx : x < 10 ^ (Lib.decDigits x).length) : List.replicate (k - (Lib.decDigits x).length) 48 ++ Lib.decDigits x = padD k x := by
  have e := padD_add (k - (Lib.decDigits x).length) (Lib.decDigits x).length x
  rw [Nat.sub_add_cancel h, Nat.div_eq_of_lt hx, padD_zero, ← decDigits_eq_pad] at e
  exact e.symm
theorem decDigits_cut {k x : Nat} (h : x / 10 ^ k ≠ 0) : Lib.decDigits x = Lib.decDigits (x / 10 ^ k) ++ padD k x := by
  induction k generalizing x with
  | zero => simp [padD]
  | succ k ih =>
    rw [Nat.pow_succ', ← Nat.div_div_eq_div_mul] at h ⊢
    have hx : ¬ x < 10 := fun h1 => h (by rw [Nat.div_eq_of_lt h1]; exact Nat.zero_div _)
    have h2 := ih h
    rw [padD_snoc, ← List.append_assoc, ← h2]
    conv => lhs; rw [Lib.decDigits, dif_neg hx]
section
variable {P : Program} {n : Nat} {F : List (Nat × Value)} {w0 : Base} {L : List As} {t : TypeId} {p : String} {af : Array Edge} {d : Option Tmp} {g : Option (Nat × Bool)} {x : Operand}
theorem wt_undef {ops : Array Oper} {o : Oper} {j t : Nat} {b : Bool} (h : o.guard = some (j, b)) (hj : (ops[j]?).bind (·.dst) = some t) (ht : F.lookup t = some undef) : ∀ a, Frm n a F → Region.wanted o (yielded ops a.tmps) = false := fun a ha => by
  have h1 := ha.2.2 t _ ht
  simp [Region.wanted, h, yielded, hj, h1, undef]
theorem ex_slice_string_hi {s r : ByteArray} {kj : IntKind} {j : Nat} {tx : TypeId} {hi : Operand} (hx : evF F x = some (.string s)) (hh : evF F hi = some (.int kj (j : Nat))) (hu : P.underlying tx = some .string) (h2 : j ≤ s.size) (hr : s.extract 0 j = r) :
    Ex P n F w0 L ⟨d, .slice tx x none (some hi) none, t, p, af, g⟩ (.string r) := fun A w ha _ => by
  subst hr
  simp only [execOp, ha.ev hx, Instr.sliceAt, run_underlying hu, Instr.slice, Option.map_some, Option.map_none, ha.ev hh, Instr.sliceBounds, Instr.sliceBound, asIntOf, Sem.run_bind, Result.andThen_ok, Sem.run_pure]
  simp [h2]
theorem ex_conv_str {k : IntKind} {a : Nat} {src dst : TypeId} {ds : TypeDesc} (hx : evF F x = some (.int k (a : Nat))) (h1 : P.underlying src = some ds) (h2 : P.underlying dst = some .string) (ha : a < 128) : Ex P n F w0 L ⟨d, .convert src dst x, t, p, af, g⟩ (.string (txB [UInt8.ofNat a])) := fun A w hf _ => by
  have e : Utf8.encode (a : Nat) = txB [UInt8.ofNat a] := by
    have hv : Utf8.valid (a : Int) = true := by simp [Utf8.valid]; omega
    simp only [Utf8.encode, hv, if_true, Int.toNat_natCast]
    rw [if_pos (by omega)]
    rfl
  simp only [execOp, hf.ev hx, Sem.run_bind, run_convert_int_string w src dst k (a : Nat) (by rw [h1]; rfl) h2, Result.andThen_ok, Sem.run_pure, e]
end
end
end Go.Proofs.YtpkoldfmbebmgaaGreatDoor
