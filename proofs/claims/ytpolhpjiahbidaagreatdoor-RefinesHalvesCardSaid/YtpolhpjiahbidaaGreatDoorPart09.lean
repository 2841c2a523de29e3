import Derived.Scope
import Derived.Test.YtpolhpjiahbidaaGreatDoorPart08
namespace Go.Proofs.YtpolhpjiahbidaaGreatDoor
open Go Go.RowKit Go.Proofs.Tryz
set_option linter.unusedVariables false
set_option linter.unusedSimpArgs false
section
def CK : Nat → Nat → List Nat
  | 0, _ => []
  | N + 1, v => v % 4294967296 :: CK N (v / 4294967296)
theorem BZ : ∀ (N v : Nat), (CK N v).length = N
  | 0, _ => rfl
  | N + 1, v => by simp [CK, BZ N]
theorem DP : ∀ (N v : Nat), W32 (CK N v)
  | 0, _ => W32.nil
  | N + 1, v => W32.cons (by omega) (DP N _)
theorem ET : ∀ (N v : Nat), v < 4294967296 ^ N → val (CK N v) = v
  | 0, v, h => by simp at h; simp [CK, val, h]
  | N + 1, v, h => by
    rw [Nat.pow_succ] at h
    rw [CK, val, ET N _ (by rw [Nat.div_lt_iff_lt_mul (by omega)]; exact h)]
    omega
theorem MJ : ∀ {xs : List Nat}, W32 xs → CK xs.length (val xs) = xs
  | [], _ => rfl
  | x :: xs, h => by
    have hx := h x (by simp)
    rw [List.length_cons, val, CK, show (x + 4294967296 * val xs) % 4294967296 = x by omega, show (x + 4294967296 * val xs) / 4294967296 = val xs by omega, MJ (fun y hy => h y (by simp [hy]))]
theorem Gp {xs : List Nat} {N v : Nat} (h : W32 xs) (hl : xs.length = N) (hv : val xs = v) : xs = CK N v := by subst hl; subst hv; exact (MJ h).symm
theorem QT {v k : Nat} : v / 4294967296 ^ (k + 1) * 4294967296 + v / 4294967296 ^ k % 4294967296 = v / 4294967296 ^ k := by
  rw [Nat.pow_succ, ← Nat.div_div_eq_div_mul]; omega
theorem Gs : ∀ (v k : Nat), (AM v).getD k 0 = v / 4294967296 ^ k % 4294967296 := by
  intro v
  induction v using Nat.strongRecOn with
  | _ v ih =>
    intro k
    by_cases h : v = 0
    · subst h; simp [OC]
    · rw [FD h]
      cases k with
      | zero => simp
      | succ k => rw [List.getD_cons_succ, ih _ (by omega), Nat.pow_succ, Nat.div_div_eq_div_mul, Nat.mul_comm]
theorem Fu : ∀ (xs : List Nat) (k : Nat), W32 xs → xs.getD k 0 = val xs / 4294967296 ^ k % 4294967296
  | [], k, _ => by simp [val]
  | x :: xs, 0, h => by have := h x (by simp); simp [val]; omega
  | x :: xs, k + 1, h => by
    have hx := h x (by simp)
    rw [List.getD_cons_succ, Fu xs k (fun y hy => h y (by simp [hy])), val, Nat.pow_succ, Nat.mul_comm (4294967296 ^ k), ← Nat.div_div_eq_div_mul, show (x + 4294967296 * val xs) / 4294967296 = val xs by omega]
theorem Nq {qs : List Nat} {a y k r n : Nat} (hl : qs.length = n) (hk : k < n) (hq : ∀ j, j ≤ k → qs.getD j 0 = 0) (hr : r < y) (hv : val qs * y + r * 4294967296 ^ (k + 1) = a / 4294967296 ^ (k + 1) * 4294967296 ^ (k + 1)) :
    val (qs.set k ((r * 4294967296 + a / 4294967296 ^ k % 4294967296) / y)) * y + (r * 4294967296 + a / 4294967296 ^ k % 4294967296) % y * 4294967296 ^ k = a / 4294967296 ^ k * 4294967296 ^ k := by
  have e := Ha (c := (r * 4294967296 + a / 4294967296 ^ k % 4294967296) / y) hl hk (hq k (Nat.le_refl _))
  have d := QT (v := a) (k := k)
  have m := Nat.div_add_mod (r * 4294967296 + a / 4294967296 ^ k % 4294967296) y
  rw [e]
  rw [Nat.pow_succ] at hv
  rw [Nat.pow_succ] at d
  generalize (r * 4294967296 + a / 4294967296 ^ k % 4294967296) / y = q at *
  generalize hrr : (r * 4294967296 + a / 4294967296 ^ k % 4294967296) % y = r' at *
  generalize a / 4294967296 ^ k % 4294967296 = w at *
  generalize a / (4294967296 ^ k * 4294967296) = h at *
  generalize a / 4294967296 ^ k = g at *
  generalize 4294967296 ^ k = p at *
  subst d
  have m2 : (y * q + r') * p = (r * 4294967296 + w) * p := by rw [m]
  grind
theorem Nz {a y v r : Nat} (hr : r < y) (hv : v * y + r * 4294967296 ^ 0 = a / 4294967296 ^ 0 * 4294967296 ^ 0) : v = a / y ∧ r = a % y := by
  simp at hv
  have e : a = r + y * v := by rw [← hv, Nat.mul_comm]; omega
  subst e
  constructor
  · rw [Nat.add_mul_div_left _ _ (by omega), Nat.div_eq_of_lt hr]; omega
  · rw [Nat.add_mul_mod_self_left, Nat.mod_eq_of_lt hr]
theorem W2 {w c s : Nat} (hw : w < 4294967296) (hc : c < 2 ^ s) (hs : s < 32) : w * 2 ^ s % 4294967296 ||| c = w * 2 ^ s % 4294967296 + c := by
  have e : w * 2 ^ s % 4294967296 = w % 2 ^ (32 - s) * 2 ^ s := by
    have : (4294967296 : Nat) = 2 ^ (32 - s) * 2 ^ s := by rw [← Nat.pow_add, show 32 - s + s = 32 by omega]
    rw [this, Nat.mul_mod_mul_right]
  rw [e, Nat.or_comm, Gu hc]; omega
theorem We {w s : Nat} (hw : w < 4294967296) (hs : s < 32) : w * 2 ^ s < 18446744073709551616 ∧ w * 2 ^ s / 4294967296 < 2 ^ s := by
  have h1 : w * 2 ^ s < 4294967296 * 2 ^ s := Nat.mul_lt_mul_of_pos_right hw (Nat.pow_pos (by omega))
  have h2 : (2 : Nat) ^ s ≤ 2 ^ 31 := Nat.pow_le_pow_right (by omega) (by omega)
  constructor
  · omega
  · rw [Nat.div_lt_iff_lt_mul (by omega)]; omega
theorem Nl {w c s : Nat} (hc : c < 2 ^ s) (hs : s < 32) : w * 2 ^ s % 4294967296 + c < 4294967296 := by
  have e : w * 2 ^ s % 4294967296 = w % 2 ^ (32 - s) * 2 ^ s := by
    have : (4294967296 : Nat) = 2 ^ (32 - s) * 2 ^ s := by rw [← Nat.pow_add, show 32 - s + s = 32 by omega]
    rw [this, Nat.mul_mod_mul_right]
  have h1 : w % 2 ^ (32 - s) + 1 ≤ 2 ^ (32 - s) := Nat.mod_lt _ (Nat.pow_pos (by omega))
  have h2 : (w % 2 ^ (32 - s) + 1) * 2 ^ s ≤ 2 ^ (32 - s) * 2 ^ s := Nat.mul_le_mul_right _ h1
  rw [← Nat.pow_add, show 32 - s + s = 32 by omega, Nat.add_mul] at h2
  rw [e]; omega
theorem Nk {os xs : List Nat} {i n c s : Nat} (hl : os.length = n) (hi : i < n) (h0 : ∀ j, i ≤ j → os.getD j 0 = 0) (hv : val os + c * 4294967296 ^ i = val (xs.take i) * 2 ^ s) :
    val (os.set i (xs.getD i 0 * 2 ^ s % 4294967296 + c)) + xs.getD i 0 * 2 ^ s / 4294967296 * 4294967296 ^ (i + 1) = val (xs.take (i + 1)) * 2 ^ s := by
  rw [Ha hl hi (h0 i (Nat.le_refl _)), BR, Nat.pow_succ]
  have m := Nat.div_add_mod (xs.getD i 0 * 2 ^ s) 4294967296
  generalize xs.getD i 0 * 2 ^ s % 4294967296 = r at *
  generalize xs.getD i 0 * 2 ^ s / 4294967296 = q at *
  generalize xs.getD i 0 = w at *
  generalize 2 ^ s = z at *
  generalize 4294967296 ^ i = p at *
  have m2 : (4294967296 * q + r) * p = w * z * p := by rw [m]
  grind
theorem P4 {os us : List Nat} {i n : Nat} (hl : us.length = n) (hlo : os.length = n) (hi : i < n) (hu : W32 us) (hd : os.drop i = us.drop i) (hv : 2 * val (os.take i) + us.getD 0 0 % 2 = val (us.take i) + us.getD i 0 % 2 * 4294967296 ^ i) {x : Nat} (hx : x = us.getD i 0 / 2 + us.getD (i + 1) 0 % 2 * 2147483648) :
    (os.set i x).drop (i + 1) = us.drop (i + 1) ∧ 2 * val ((os.set i x).take (i + 1)) + us.getD 0 0 % 2 = val (us.take (i + 1)) + us.getD (i + 1) 0 % 2 * 4294967296 ^ (i + 1) := by
  constructor
  · rw [List.drop_set_of_lt (by omega)]
    have h1 := congrArg (List.drop 1) hd
    rwa [List.drop_drop, List.drop_drop] at h1
  · rw [BR, BR, List.take_set_of_le (Nat.le_refl _), Nat.pow_succ]
    have e : (os.set i x).getD i 0 = x := by simp [List.getD_eq_getElem?_getD, hlo, hi]
    rw [e, hx]
    have m : us.getD i 0 = 2 * (us.getD i 0 / 2) + us.getD i 0 % 2 := by omega
    generalize us.getD i 0 / 2 = h at *
    generalize us.getD i 0 % 2 = b at *
    generalize us.getD (i + 1) 0 % 2 = b' at *
    rw [m]
    generalize 4294967296 ^ i = p at *
    grind
theorem QO {os us : List Nat} {n : Nat} (hl : us.length = n) (hlo : os.length = n) (hv : 2 * val (os.take n) + us.getD 0 0 % 2 = val (us.take n) + us.getD n 0 % 2 * 4294967296 ^ n) (hu : W32 us) : val os = val us / 2 := by
  rw [List.take_of_length_le (by omega), List.take_of_length_le (by omega)] at hv
  have e : us.getD n 0 = 0 := by simp [List.getD_eq_getElem?_getD, hl]
  rw [e] at hv
  simp at hv
  have := Nat.mod_lt (us.getD 0 0) (show 2 > 0 by omega)
  simp only [List.getD_eq_getElem?_getD] at this
  omega
theorem Qv {os us vs : List Nat} {k i n N c l D : Nat} (hl : os.length = N) (hi : k + i < N) (hw : W32 os) (hll : l ≤ 1)
    (hv : val os + D * val (vs.take i) * 4294967296 ^ k = val us + (c + l) * 4294967296 ^ (k + i)) {s c' : Nat} (hs : s = (c + D * vs.getD i 0) % 4294967296) (hc' : c' = (c + D * vs.getD i 0) / 4294967296) :
    val (os.set (k + i) ((os.getD (k + i) 0 + (4294967296 - s) + (4294967296 - l)) % 4294967296)) + D * val (vs.take (i + 1)) * 4294967296 ^ k = val us + (c' + IN (os.getD (k + i) 0) (s + l)) * 4294967296 ^ (k + (i + 1)) := by
  have e := Eg (xs := os) (i := k + i) (by omega) ((os.getD (k + i) 0 + (4294967296 - s) + (4294967296 - l)) % 4294967296)
  have t := BR vs i
  have ho := hw.getD (k + i)
  have hs2 : s < 4294967296 := by omega
  have m : c + D * vs.getD i 0 = 4294967296 * c' + s := by omega
  have b : (os.getD (k + i) 0 + (4294967296 - s) + (4294967296 - l)) % 4294967296 + s + l = os.getD (k + i) 0 + IN (os.getD (k + i) 0) (s + l) * 4294967296 := by unfold IN; split <;> omega
  rw [t, show k + (i + 1) = k + i + 1 by omega, Nat.pow_succ]
  rw [Nat.pow_add] at *
  generalize (os.getD (k + i) 0 + (4294967296 - s) + (4294967296 - l)) % 4294967296 = r at *
  generalize IN (os.getD (k + i) 0) (s + l) = q at *
  generalize os.getD (k + i) 0 = o at *
  generalize vs.getD i 0 = v at *
  generalize 4294967296 ^ i = p at *
  generalize 4294967296 ^ k = p' at *
  generalize val (vs.take i) = vv at *
  clear hs hc'
  have b2 : (r + s + l) * (p' * p) = (o + q * 4294967296) * (p' * p) := by rw [b]
  have m2 : (c + D * v) * (p' * p) = (4294967296 * c' + s) * (p' * p) := by rw [m]
  grind
theorem QR {os us vs : List Nat} {k n N c l D : Nat} (hl : os.length = N) (hw : W32 os) (hk : k + n + 1 ≤ N) (hu : val us < 4294967296 ^ (k + n + 1)) (hv : val os + D * val (vs.take n) * 4294967296 ^ k = val us + l * 4294967296 ^ (k + n + 1)) (hl1 : l ≤ 1) (hz : ∀ j, k + n + 1 ≤ j → os.getD j 0 = 0) :
    decide (0 < l) = decide (val us < D * val (vs.take n) * 4294967296 ^ k) ∧ os = CK N (val us + (if val us < D * val (vs.take n) * 4294967296 ^ k then 4294967296 ^ (k + n + 1) else 0) - D * val (vs.take n) * 4294967296 ^ k) := by
  have ho : val os < 4294967296 ^ (k + n + 1) := by
    have h1 := EM os (k + n + 1) (by omega)
    have h2 : val (os.drop (k + n + 1)) = 0 := by
      have : os.drop (k + n + 1) = List.replicate (N - (k + n + 1)) 0 := by
        apply List.ext_getElem (by simp [hl])
        intro j h1 h2
        have := hz (k + n + 1 + j) (by omega)
        simp [List.getD_eq_getElem?_getD] at this h1
        simp
        have h3 : k + n + 1 + j < os.length := by omega
        simpa [h3] using this
      rw [this, Dl]
    rw [h2] at h1
    have h3 := GG (hw.take (k + n + 1))
    rw [List.length_take, Nat.min_eq_left (by omega)] at h3
    omega
  generalize D * val (vs.take n) * 4294967296 ^ k = X at *
  generalize 4294967296 ^ (k + n + 1) = p at *
  have hl2 : l = 0 ∨ l = 1 := by omega
  rcases hl2 with rfl | rfl
  · have h1 : ¬ val us < X := by omega
    refine ⟨by simp [h1], Gp hw hl ?_⟩
    rw [if_neg h1]; omega
  · have h1 : val us < X := by omega
    refine ⟨by simp [h1], Gp hw hl ?_⟩
    rw [if_pos h1]; omega
theorem IG {os : List Nat} {p : Nat} (h : val os < 4294967296 ^ p) : ∀ j, p ≤ j → os.getD j 0 = 0 := fun j hj => Fm h hj
theorem Qy {os : List Nat} {p N c l X U : Nat} (hl : os.length = N) (hp : p < N) (hw : W32 os) (hll : l ≤ 1) (hc : c < 4294967296) (hv : val os + X = U + (c + l) * 4294967296 ^ p) :
    val (os.set p ((os.getD p 0 + (4294967296 - c) + (4294967296 - l)) % 4294967296)) + X = U + IN (os.getD p 0) (c + l) * 4294967296 ^ (p + 1) := by
  have e := Eg (xs := os) (i := p) (by omega) ((os.getD p 0 + (4294967296 - c) + (4294967296 - l)) % 4294967296)
  have ho := hw.getD p
  have b : (os.getD p 0 + (4294967296 - c) + (4294967296 - l)) % 4294967296 + c + l = os.getD p 0 + IN (os.getD p 0) (c + l) * 4294967296 := by unfold IN; split <;> omega
  rw [Nat.pow_succ]
  generalize (os.getD p 0 + (4294967296 - c) + (4294967296 - l)) % 4294967296 = r at *
  generalize IN (os.getD p 0) (c + l) = q at *
  generalize os.getD p 0 = o at *
  generalize 4294967296 ^ p = z at *
  have b2 : (r + c + l) * z = (o + q * 4294967296) * z := by rw [b]
  grind
theorem K4 {os us : List Nat} {i j : Nat} (h : os.drop i = us.drop i) (hj : i ≤ j) : os.getD j 0 = us.getD j 0 := by
  have h1 := congrArg (fun l : List Nat => l.getD (j - i) 0) h
  simp only [List.getD_eq_getElem?_getD, List.getElem?_drop] at h1 ⊢
  rwa [show i + (j - i) = j by omega] at h1
theorem UB {h y : Nat} (hh : h < 2147483648) : h ||| y * 2 ^ 31 % 4294967296 = h + y % 2 * 2147483648 := by
  have e : y * 2 ^ 31 % 4294967296 = y % 2 * 2 ^ 31 := by rw [show (4294967296 : Nat) = 2 * 2 ^ 31 from rfl, Nat.mul_mod_mul_right]
  rw [e, Gu (s := 31) (by omega)]
theorem KR {os : List Nat} {i v : Nat} (h : i < os.length) : (os.set i v).getD i 0 = v := by simp [List.getD_eq_getElem?_getD, h]
theorem IE {os : List Nat} {i j v : Nat} (h : i ≠ j) : (os.set i v).getD j 0 = os.getD j 0 := by
  rw [List.getD_eq_getElem?_getD, List.getElem?_set_ne h, ← List.getD_eq_getElem?_getD]
structure HP (V W v1 top d r : Nat) : Prop where
  low : W / V ≤ d
  eq : d * v1 + r = top
theorem OF {V W v1 v2 u2 top m p : Nat} (hp : 0 < p) (hV : V = (v1 * 4294967296 + v2) * p + m) (hv2 : v2 < 4294967296) (hm : m < p) (hW : W < (top + 1) * (4294967296 * p)) (h1 : 0 < v1) : HP V W v1 top (top / v1) (top % v1) := by
  refine ⟨?_, by rw [Nat.mul_comm]; exact Nat.div_add_mod top v1⟩
  have hVp : 0 < V := by
    have : 0 < v1 * 4294967296 + v2 := by omega
    have := Nat.mul_pos this hp
    omega
  rw [← Nat.lt_succ_iff, Nat.div_lt_iff_lt_mul hVp]
  have h2 : top < v1 * (top / v1 + 1) := Nat.lt_mul_div_succ top h1
  have h3 : (top + 1) * (4294967296 * p) ≤ v1 * (top / v1 + 1) * (4294967296 * p) := Nat.mul_le_mul_right _ h2
  have h4 : v1 * (4294967296 * p) ≤ V := by rw [hV]; have : v1 * (4294967296 * p) = v1 * 4294967296 * p := by rw [Nat.mul_assoc]
                                            rw [this, Nat.add_mul]; omega
  have h5 : (top / v1 + 1) * (v1 * (4294967296 * p)) ≤ (top / v1 + 1) * V := Nat.mul_le_mul_left _ h4
  have h6 : v1 * (top / v1 + 1) * (4294967296 * p) = (top / v1 + 1) * (v1 * (4294967296 * p)) := by rw [Nat.mul_comm v1, Nat.mul_assoc]
  show W < (top / v1 + 1) * V
  omega
theorem Nb {V W v1 v2 u2 top d r m p : Nat} (h : HP V W v1 top d r) (hp : 0 < p) (hV : V = (v1 * 4294967296 + v2) * p + m) (h1 : 0 < v1) (hW : W < (top * 4294967296 + u2 + 1) * p) (hq : W / V < 4294967296)
    (ht : ¬ (d ≤ 4294967295 ∧ d * v2 ≤ r * 4294967296 + u2)) : HP V W v1 top (d - 1) (r + v1) ∧ 0 < d := by
  have hVp : 0 < V := by
    have : 0 < v1 * 4294967296 + v2 := by omega
    have := Nat.mul_pos this hp
    omega
  have hdiv : ∀ x, W / V < x ↔ W < x * V := fun x => Nat.div_lt_iff_lt_mul hVp
  obtain ⟨hlow, heq⟩ := h
  suffices hlt : W / V < d by
    have h0 : 0 < d := Nat.lt_of_le_of_lt (Nat.zero_le _) hlt
    have e : d * v1 = (d - 1) * v1 + v1 := by
      obtain ⟨e, rfl⟩ : ∃ e, d = e + 1 := ⟨d - 1, (Nat.succ_pred_eq_of_pos h0).symm⟩
      rw [Nat.add_mul]; simp
    refine ⟨⟨Nat.le_sub_one_of_lt hlt, ?_⟩, h0⟩
    clear hdiv hlow hq ht hW hV hlt
    omega
  have hlt : W / V < d := by
    by_cases hd : d ≤ 4294967295
    · have h2 : r * 4294967296 + u2 + 1 ≤ d * v2 := by
        rcases Nat.lt_or_ge (r * 4294967296 + u2) (d * v2) with h3 | h3
        · exact h3
        · exact absurd ⟨hd, h3⟩ ht
      refine (hdiv d).2 ?_
      have ex : d * (v1 * 4294967296 + v2) = d * v1 * 4294967296 + d * v2 := by rw [Nat.mul_add, Nat.mul_assoc]
      have h3 : (top * 4294967296 + u2 + 1) * p ≤ (d * (v1 * 4294967296 + v2)) * p := by
        refine Nat.mul_le_mul_right _ ?_
        rw [ex, ← heq, Nat.add_mul, Nat.add_assoc, Nat.add_assoc]
        exact Nat.add_le_add_left (by rw [← Nat.add_assoc]; exact h2) _
      have h4 : d * V = d * (v1 * 4294967296 + v2) * p + d * m := by rw [hV, Nat.mul_add, Nat.mul_assoc]
      omega
    · exact Nat.lt_of_lt_of_le hq (by omega)
  exact hlt
theorem N0 {V W v1 v2 u2 top d r m p : Nat} (h : HP V W v1 top d r) (hp : 0 < p) (hV : V = (v1 * 4294967296 + v2) * p + m) (hm : m < p) (h1 : 0 < v1) (hv2 : v2 < 4294967296) (hW2 : (top * 4294967296 + u2) * p ≤ W) (hWV : W < V * 4294967296) (hv1 : v1 < 4294967296)
    (hend : 4294967295 < r ∨ (d ≤ 4294967295 ∧ d * v2 ≤ r * 4294967296 + u2)) : d ≤ 4294967295 ∧ (d = W / V ∨ d = W / V + 1) := by
  have hVp : 0 < V := by
    have : 0 < v1 * 4294967296 + v2 := by omega
    have := Nat.mul_pos this hp
    omega
  have hd : d ≤ 4294967295 := by
    rcases hend with hr | hr
    · -- top < (v1 + 1) * 2^32
      have hV2 : V < (v1 + 1) * 4294967296 * p := by
        have : (v1 * 4294967296 + v2) * p + p ≤ (v1 + 1) * 4294967296 * p := by
          have : (v1 * 4294967296 + v2 + 1) * p ≤ ((v1 + 1) * 4294967296) * p := Nat.mul_le_mul_right _ (by omega)
          rw [Nat.add_mul, Nat.one_mul] at this; exact this
        omega
      have h3 : (top * 4294967296) * p < (v1 + 1) * 4294967296 * p * 4294967296 := by
        have : (top * 4294967296) * p ≤ (top * 4294967296 + u2) * p := Nat.mul_le_mul_right _ (by omega)
        have : V * 4294967296 ≤ (v1 + 1) * 4294967296 * p * 4294967296 := Nat.mul_le_mul_right _ (Nat.le_of_lt hV2)
        omega
      have h4 : top * 4294967296 < (v1 + 1) * 4294967296 * 4294967296 := by
        rw [Nat.mul_right_comm _ p] at h3
        exact Nat.lt_of_mul_lt_mul_right h3
      have h5 : d * v1 < 4294967296 * v1 := by have := h.eq; omega
      have := Nat.lt_of_mul_lt_mul_right h5
      omega
    · exact hr.1
  refine ⟨hd, ?_⟩
  have ht : d * v2 ≤ r * 4294967296 + u2 := by
    rcases hend with hr | hr
    · have : d * v2 ≤ 4294967295 * 4294967295 := Nat.mul_le_mul hd (by omega)
      omega
    · exact hr.2
  have hle : d * V ≤ W + V := by
    have a1 : d * (v1 * 4294967296 + v2) ≤ top * 4294967296 + u2 := by
      rw [Nat.mul_add, ← Nat.mul_assoc]; have := h.eq; omega
    have a2 : d * (v1 * 4294967296 + v2) * p ≤ (top * 4294967296 + u2) * p := Nat.mul_le_mul_right _ a1
    have a3 : d * m ≤ 4294967296 * p := Nat.mul_le_mul (by omega) (Nat.le_of_lt hm)
    have a4 : 4294967296 * p ≤ V := by
      rw [hV]
      have : 4294967296 * p ≤ (v1 * 4294967296 + v2) * p := Nat.mul_le_mul_right _ (by omega)
      omega
    have e : d * V = d * (v1 * 4294967296 + v2) * p + d * m := by rw [hV, Nat.mul_add, Nat.mul_assoc]
    omega
  have h6 : d ≤ W / V + 1 := by
    rcases Nat.eq_zero_or_pos d with h0 | h0
    · rw [h0]; exact Nat.zero_le _
    · have : (d - 1) * V ≤ W := by
        obtain ⟨e, rfl⟩ : ∃ e, d = e + 1 := ⟨d - 1, (Nat.succ_pred_eq_of_pos h0).symm⟩
        rw [Nat.add_mul] at hle; simp; omega
      have := (Nat.le_div_iff_mul_le hVp).2 this
      generalize W / V = q at *
      omega
  have := h.low
  generalize W / V = q at *
  omega
section
variable {P : Program} {Q : Exit → Act → World → Prop} {n : Nat} {F : List (Nat × Value)} {w0 : A_} {L : List As}
theorem OkC.scope {c : Code} (h : OkC P c (Exit.noGoto Q) n F w0 L) : OkC P (.scope c) Q n F w0 L := fun a w ha hw => wp_scope_straight (h a w ha hw)
theorem OkC.label {l : Nat} (h : OkQ Q .normal n F w0 L) : OkC P (.label l) Q n F w0 L := fun a w ha hw => wp_label (h a w ha hw)
theorem OkQ.scope_normal (h : OkQ Q .normal n F w0 L) : OkQ (Exit.noGoto Q) .normal n F w0 L := h
theorem OkL.callBB {ops : Array Oper} {rest : List Oper} {o : Oper} {d : Nat} {f : FuncId} {args : Array Value} {V : Nat → Nat → Value} {T T2 : TypeId} {cs cs2 : List Value} (hw : Wt ops n F o)
    (he : ∀ a w, Cf n a F → BB w0 w L → (execOp a.eval o).run P w = .ok (.enter f args) w)
    (hc : ∀ w, BB w0 w L → Calls P f args w fun e w' => ∃ b b2, e = .returned (V b b2) ∧ GC w.heap.size w w' ∧ w.heap.size ≤ b ∧ w.heap.size ≤ b2 ∧ b ≠ b2 ∧ w'.heap[b]? = some (.cells cs.toArray T (0, 0)) ∧ w'.heap[b2]? = some (.cells cs2.toArray T2 (0, 0)))
    (ho : o.dst = some d) (hd : d < n) (next : ∀ b b2, OkL P ops rest Q n ((d, V b b2) :: F) w0 (AX b T cs :: AX b2 T2 cs2 :: L)) : OkL P ops (o :: rest) Q n F w0 L := fun a w ha hW => by
  unfold wpList
  rw [if_pos (hw a ha)]
  left
  unfold Oper.wp
  rw [he a w ha hW, Oper.upon_enter]
  refine (hc w hW).mono ?_
  rintro e w' ⟨b, b2, rfl, hb, h1, h2, hne, hcell, hcell2⟩
  rw [ho]
  have hW2 : BB w0 w' (AX b2 T2 cs2 :: L) := hW.add rfl hb h2 ⟨_, hcell2, rfl⟩
  refine next b b2 _ _ (ha.put hd) ⟨hW2.1, fun x hx c hc => ?_, ?_⟩
  · rcases List.mem_cons.1 hx with rfl | hx
    · injection hc with hc; subst hc
      exact ⟨.inr (.inl (Nat.le_trans hW.1.size h1)), _, hcell, rfl⟩
    · exact hW2.2.1 x hx c hc
  · refine List.pairwise_cons.2 ⟨fun y hy => .inr fun c hc => ?_, hW2.2.2⟩
    injection hc with hc; subst hc
    rcases List.mem_cons.1 hy with rfl | hy
    · intro e; injection e with e; exact hne e.symm
    · intro e
      have := hW.lt hy e
      omega
end
end
theorem G6 {b:Nat} (h:0<nw b):4294967296^(nw b-1)<=b:=by
  rcases Nat.lt_or_ge b (4294967296^(nw b-1)) with h1|h1
  · have:=CN.2 h1;omega
  · exact h1
theorem Mu {b:Nat} (h:0<nw b):(AM b).getD (nw b-1) 0=b/4294967296^(nw b-1)/\0<(AM b).getD (nw b-1) 0/\(AM b).getD (nw b-1) 0<4294967296:=by
  have h1:=G6 h
  have h2:=Bi b
  have h3:b/4294967296^(nw b-1)<4294967296:=by
    rw [Nat.div_lt_iff_lt_mul (Nat.pow_pos (by omega))]
    have:4294967296^nw b=4294967296*4294967296^(nw b-1):=by rw [<-Nat.pow_succ',show (nw b-1).succ=nw b by omega]
    omega
  have h4:0<b/4294967296^(nw b-1):=Nat.div_pos h1 (Nat.pow_pos (by omega))
  have h5:(AM b).getD (nw b-1) 0=b/4294967296^(nw b-1):=by rw [Gs,Nat.mod_eq_of_lt h3]
  exact ⟨h5,by rw [h5];exact h4,by rw [h5];exact h3⟩
theorem W_ {b s:Nat} (h:0<nw b) (hs:s=32-bl ((AM b).getD (nw b-1) 0)):s<32/\2147483648*4294967296^(nw b-1)<=b*2^s/\b*2^s<4294967296^nw b:=by
  obtain ⟨h1,h2,h3⟩:=Mu h
  obtain ⟨k1,k2,k3,k4⟩:=P3 h2 h3
  rw [<-hs] at k3 k4
  have hs32:s<32:=by omega
  have hp:0<4294967296^(nw b-1):=Nat.pow_pos (by omega)
  have e:4294967296^nw b=4294967296*4294967296^(nw b-1):=by rw [<-Nat.pow_succ',show (nw b-1).succ=nw b by omega]
  rw [e]
  rw [h1] at k3 k4
  have m:=Nat.div_add_mod b (4294967296^(nw b-1))
  have ml:=Nat.mod_lt b hp
  generalize b/4294967296^(nw b-1)=y at *
  generalize b%4294967296^(nw b-1)=r at *
  generalize 4294967296^(nw b-1)=p at *
  have h32:(4294967296:Nat)=2^(32-s)*2^s:=by rw [<-Nat.pow_add,show 32-s+s=32 by omega]
  have k5:(y+1)*2^s<=4294967296:=by
    rw [h32] at k4 ⊢
    exact Nat.mul_le_mul_right _ (Nat.lt_of_mul_lt_mul_right k4)
  refine ⟨hs32,?_,?_⟩
  · have:2147483648*p<=y*2^s*p:=Nat.mul_le_mul_right _ k3
    have e2:b*2^s=y*2^s*p+r*2^s:=by rw [<-m];grind
    omega
  · have:(y+1)*2^s*p<=4294967296*p:=Nat.mul_le_mul_right _ k5
    have e2:b<(y+1)*p:=by rw [Nat.add_mul,Nat.one_mul,Nat.mul_comm y];omega
    have e3:b*2^s<(y+1)*p*2^s:=Nat.mul_lt_mul_of_pos_right e2 (Nat.pow_pos (by omega))
    have e4:(y+1)*p*2^s=(y+1)*2^s*p:=by rw [Nat.mul_right_comm]
    omega
theorem QY {xs:List Nat} {j:Nat} (h:W32 xs):xs.getD (j+1) 0*4294967296+xs.getD j 0=val xs/4294967296^j%18446744073709551616:=by
  rw [Fu xs _ h,Fu xs _ h,Nat.pow_succ,<-Nat.div_div_eq_div_mul]
  omega
theorem PK {xs:List Nat} {j:Nat} (h:W32 xs) (hv:val xs<4294967296^(j+2)):xs.getD (j+1) 0*4294967296+xs.getD j 0=val xs/4294967296^j:=by
  rw [QY h,Nat.mod_eq_of_lt]
  rw [Nat.div_lt_iff_lt_mul (Nat.pow_pos (by omega))]
  rw [Nat.pow_succ,Nat.pow_succ] at hv
  omega
structure Nn (vb:List Nat) (n V:Nat):Prop where
  w32:W32 vb
  len:vb.length=n+1
  two:2<=n
  val_:val vb=V
  low:2147483648*4294967296^(n-1)<=V
  high:V<4294967296^n
theorem Nn.take {vb:List Nat} {n V:Nat} (h:Nn vb n V):val (vb.take n)=V:=by rw [I5 (by rw [h.val_];exact h.high),h.val_]
theorem Nn.top {vb:List Nat} {n V:Nat} (h:Nn vb n V):vb.getD (n-1) 0*4294967296+vb.getD (n-2) 0=V/4294967296^(n-2)/\2147483648<=vb.getD (n-1) 0/\vb.getD (n-1) 0<4294967296:=by
  have h2:=h.two
  have e:=PK (j:=n-2) h.w32 (by rw [show n-2+2=n by omega,h.val_];exact h.high)
  rw [show n-2+1=n-1 by omega,h.val_] at e
  refine ⟨e,?_,h.w32.getD _⟩
  rw [Fu _ _ h.w32,h.val_,Nat.mod_eq_of_lt]
  · rw [Nat.le_div_iff_mul_le (Nat.pow_pos (by omega))];exact h.low
  · rw [Nat.div_lt_iff_lt_mul (Nat.pow_pos (by omega))]
    have:4294967296^n=4294967296*4294967296^(n-1):=by rw [<-Nat.pow_succ',show (n-1).succ=n by omega]
    have:=h.high
    omega
theorem Nn.parts {vb:List Nat} {n V:Nat} (h:Nn vb n V):V=(vb.getD (n-1) 0*4294967296+vb.getD (n-2) 0)*4294967296^(n-2)+V%4294967296^(n-2)/\V%4294967296^(n-2)<4294967296^(n-2):=by
  rw [h.top.1]
  refine ⟨?_,Nat.mod_lt _ (Nat.pow_pos (by omega))⟩
  have:=Nat.div_add_mod V (4294967296^(n-2))
  rw [Nat.mul_comm];omega
structure T_ (us:List Nat) (V k n W top u2:Nat):Prop where
  w:W=val us/4294967296^k
  lt:W<V*4294967296
  low:(top*4294967296+u2)*4294967296^(n-2)<=W
  high:W<(top*4294967296+u2+1)*4294967296^(n-2)
  topb:top<18446744073709551616
  fits:val us<4294967296^(k+n+1)
theorem Wl {us vb:List Nat} {V k n:Nat} (hn:Nn vb n V) (hu:W32 us) (hR:val us<V*4294967296^(k+1)) :
    T_ us V k n (val us/4294967296^k) (us.getD (k+n) 0*4294967296+us.getD (k+n-1) 0) (us.getD (k+n-2) 0):=by
  have h2:=hn.two
  have hp:0<4294967296^k:=Nat.pow_pos (by omega)
  have hfit:val us<4294967296^(k+n+1):=by
    have h1:V*4294967296^(k+1)<4294967296^n*4294967296^(k+1):=Nat.mul_lt_mul_of_pos_right hn.high (Nat.pow_pos (by omega))
    rw [<-Nat.pow_add,show n+(k+1)=k+n+1 by omega] at h1
    omega
  have e1:=PK (xs:=us) (j:=k+n-1) hu (by rw [show k+n-1+2=k+n+1 by omega];exact hfit)
  rw [show k+n-1+1=k+n by omega] at e1
  have e3:us.getD (k+n-2) 0=val us/4294967296^(k+n-2)%4294967296:=Fu _ _ hu
  have e4:val us/4294967296^(k+n-1)=val us/4294967296^(k+n-2)/4294967296:=by
    rw [Nat.div_div_eq_div_mul,<-Nat.pow_succ,show (k+n-2).succ=k+n-1 by omega]
  have e5:(us.getD (k+n) 0*4294967296+us.getD (k+n-1) 0)*4294967296+us.getD (k+n-2) 0=val us/4294967296^k/4294967296^(n-2):=by
    have e6:val us/4294967296^k/4294967296^(n-2)=val us/4294967296^(k+n-2):=by rw [Nat.div_div_eq_div_mul,<-Nat.pow_add,show k+(n-2)=k+n-2 by omega]
    rw [e1,e3,e4,e6]
    exact Nat.div_add_mod' _ _
  have w1:=hu.getD (k+n)
  have w2:=hu.getD (k+n-1)
  refine ⟨rfl,?_,?_,?_,by omega,hfit⟩
  · rw [Nat.div_lt_iff_lt_mul hp]
    rw [Nat.pow_succ] at hR
    have:V*(4294967296^k*4294967296)=V*4294967296*4294967296^k:=by grind
    omega
  · rw [e5];exact Nat.div_mul_le_self _ _
  · rw [e5,Nat.mul_comm];exact Nat.lt_mul_div_succ _ (Nat.pow_pos (by omega))
theorem T_.quo_lt {us:List Nat} {V k n W top u2:Nat} (h:T_ us V k n W top u2) (hV:0<V):W/V<4294967296:=by
  rw [Nat.div_lt_iff_lt_mul hV,Nat.mul_comm];exact h.lt
theorem Nn.pos {vb:List Nat} {n V:Nat} (h:Nn vb n V):0<V:=by
  have:=h.low
  have:=Nat.pow_pos (n:=n-1) (show 0<4294967296 by omega)
  omega
theorem My {us vb:List Nat} {V k n W top u2:Nat} (hn:Nn vb n V) (h:T_ us V k n W top u2) (hu2:u2<4294967296):HP V W (vb.getD (n-1) 0) top (top/vb.getD (n-1) 0) (top%vb.getD (n-1) 0):=by
  have hp:0<4294967296^(n-2):=Nat.pow_pos (by omega)
  refine OF (p:=4294967296^(n-2)) (v2:=vb.getD (n-2) 0) (u2:=u2) hp hn.parts.1 (hn.w32.getD _) hn.parts.2 ?_ (by have:=hn.top;omega)
  have h1:=h.high
  have h2:(top*4294967296+u2+1)*4294967296^(n-2)<=((top+1)*4294967296)*4294967296^(n-2):=Nat.mul_le_mul_right _ (by omega)
  rw [<-Nat.mul_assoc]
  omega
theorem JN {us vb:List Nat} {V k n W top u2 d r:Nat} (hn:Nn vb n V) (h:T_ us V k n W top u2) (hg:HP V W (vb.getD (n-1) 0) top d r) (ht:¬(d<=4294967295/\d*vb.getD (n-2) 0<=r*4294967296+u2)) :
    HP V W (vb.getD (n-1) 0) top (d-1) (r+vb.getD (n-1) 0)/\0<d :=
  Nb hg (Nat.pow_pos (by omega)) hn.parts.1 (by have:=hn.top;omega) h.high (h.quo_lt hn.pos) ht
theorem JS {us vb:List Nat} {V k n W top u2 d r:Nat} (hn:Nn vb n V) (h:T_ us V k n W top u2) (hg:HP V W (vb.getD (n-1) 0) top d r) (he:4294967295<r\/(d<=4294967295/\d*vb.getD (n-2) 0<=r*4294967296+u2)) :
    d<=4294967295/\(d=W/V\/d=W/V+1) :=
  N0 hg (Nat.pow_pos (by omega)) hn.parts.1 hn.parts.2 (by have:=hn.top;omega) (hn.w32.getD _) h.low h.lt (hn.w32.getD _) he
theorem Ny {us vb:List Nat} {V k n W top u2 d:Nat} (hn:Nn vb n V) (h:T_ us V k n W top u2) (hd:d=W/V\/d=W/V+1) (hl:¬val us<d*V*4294967296^k):d=W/V/\val us+0-d*V*4294967296^k=val us-W/V*V*4294967296^k:=by
  have e:d=W/V:=by
    rcases hd with hd|hd
    · exact hd
    · exfalso
      refine hl ?_
      have h1:W<d*V:=by rw [hd];exact (Nat.div_lt_iff_lt_mul hn.pos).1 (Nat.lt_succ_self _)
      have h2:val us<(W+1)*4294967296^k:=by
        rw [h.w,Nat.mul_comm];exact Nat.lt_mul_div_succ _ (Nat.pow_pos (by omega))
      have h3:(W+1)*4294967296^k<=d*V*4294967296^k:=Nat.mul_le_mul_right _ h1
      omega
  exact ⟨e,by rw [e];rfl⟩
theorem OM {us vb:List Nat} {V k n W top u2:Nat} (h:T_ us V k n W top u2):W/V*V*4294967296^k<=val us:=by
  have h1:W/V*V*4294967296^k<=W*4294967296^k:=Nat.mul_le_mul_right _ (Nat.div_mul_le_self _ _)
  have h2:W*4294967296^k<=val us:=by rw [h.w];exact Nat.div_mul_le_self _ _
  omega
theorem OK {us vb:List Nat} {V k n W top u2 d:Nat} (h:T_ us V k n W top u2) (hd:d=W/V\/d=W/V+1) (hl:val us<d*V*4294967296^k):d=W/V+1/\d*V*4294967296^k=W/V*V*4294967296^k+V*4294967296^k:=by
  have hq:=OM (vb:=vb) h
  have e:d=W/V+1:=by
    rcases hd with hd|hd
    · subst hd;omega
    · exact hd
  exact ⟨e,by rw [e,Nat.add_mul,Nat.add_mul,Nat.one_mul]⟩
theorem P6 {os vb:List Nat} {U i k n c:Nat} (hl:os.length=n) (hi:k+i<n) (hv:val os+c*4294967296^(k+i)=U+val (vb.take i)*4294967296^k) :
    val (os.set (k+i) ((os.getD (k+i) 0+vb.getD i 0+c)%4294967296))+(os.getD (k+i) 0+vb.getD i 0+c)/4294967296*4294967296^(k+(i+1))=U+val (vb.take (i+1))*4294967296^k:=by
  have e:=Eg (xs:=os) (i:=k+i) (by omega) ((os.getD (k+i) 0+vb.getD i 0+c)%4294967296)
  have t:=BR vb i
  have hm:=Nat.div_add_mod (os.getD (k+i) 0+vb.getD i 0+c) 4294967296
  rw [t,show k+(i+1)=k+i+1 by omega,Nat.pow_succ]
  rw [Nat.pow_add] at *
  generalize os.getD (k+i) 0=o at *
  generalize vb.getD i 0=y at *
  generalize (o+y+c)/4294967296=q at *
  generalize (o+y+c)%4294967296=r at *
  generalize 4294967296^i=p at *
  generalize 4294967296^k=p' at *
  generalize val (vb.take i)=v at *
  have hm2:(4294967296*q+r)*(p'*p)=(o+y+c)*(p'*p):=by rw [hm]
  grind
theorem Qg {os:List Nat} {T P p N c:Nat} (hl:os.length=N) (hp:p<N) (hw:W32 os) (hc:c<=1) (hz:∀j,p+1<=j->os.getD j 0=0) (hP:P=4294967296^(p+1)) (hv:val os+c*4294967296^p=T+P) (hT:T<P) :
    val (os.set p ((os.getD p 0+c)%4294967296))=T:=by
  have e:=Eg (xs:=os) (i:=p) (by omega) ((os.getD p 0+c)%4294967296)
  have hw2:W32 (os.set p ((os.getD p 0+c)%4294967296)):=hw.set (by omega) _
  have ho:=hw.getD p
  have hlt:∀xs:List Nat,W32 xs->xs.length=N->(∀j,p+1<=j->xs.getD j 0=0)->val xs<P:=λxs hx hxl hxz=>by
    have h1:=EM xs (p+1) (by omega)
    have h2:val (xs.drop (p+1))=0:=by
      have:xs.drop (p+1)=List.replicate (N-(p+1)) 0:=by
        apply List.ext_getElem (by simp [hxl])
        intro j h1 h2
        have:=hxz (p+1+j) (by omega)
        simp [List.getD_eq_getElem?_getD] at this h1
        simp
        have h3:p+1+j<xs.length:=by omega
        simpa [h3] using this
      rw [this,Dl]
    rw [h2] at h1
    have h3:=GG (hx.take (p+1))
    rw [List.length_take,Nat.min_eq_left (by omega)] at h3
    omega
  have b2:=hlt _ hw2 (by rw [List.length_set];exact hl) (E_ hz (by omega))
  rw [hP,Nat.pow_succ] at *
  generalize val (os.set p ((os.getD p 0+c)%4294967296))=v' at *
  generalize os.getD p 0=o at *
  generalize 4294967296^p=z at *
  by_cases h:o+c<4294967296
  · rw [Nat.mod_eq_of_lt h,Nat.add_mul] at e
    omega
  · have h1:o+c=4294967296:=by omega
    rw [h1,Nat.mod_self] at e
    have h2:o*z+c*z=4294967296*z:=by rw [<-Nat.add_mul,h1]
    omega
theorem N_ {us us2 vb qs:List Nat} {V k n W top u2 A m:Nat} (hn:Nn vb n V) (h:T_ us V k n W top u2) (hv2:val us2=val us-W/V*V*4294967296^k) (hA:A=val qs*V+val us) (hl:qs.length=m) (hk:k<m) (h0:qs.getD k 0=0) :
    val us2<V*4294967296^k/\A=val (qs.set k (W/V))*V+val us2:=by
  have hq:=OM (vb:=vb) h
  have hm:=Nat.div_add_mod W V
  have hml:=Nat.mod_lt W hn.pos
  have hp:0<4294967296^k:=Nat.pow_pos (by omega)
  have hk1:=Nat.div_add_mod (val us) (4294967296^k)
  have hk2:=Nat.mod_lt (val us) hp
  rw [<-h.w] at hk1
  constructor
  · have h1:(W%V+1)*4294967296^k<=V*4294967296^k:=Nat.mul_le_mul_right _ hml
    have h2:W*4294967296^k=W/V*V*4294967296^k+W%V*4294967296^k:=by
      rw [<-Nat.add_mul,Nat.mul_comm (W/V)]
      rw [hm]
    rw [Nat.add_mul,Nat.one_mul] at h1
    rw [Nat.mul_comm] at hk1
    omega
  · rw [Ha hl hk h0,Nat.add_mul,hA,hv2]
    have:W/V*4294967296^k*V=W/V*V*4294967296^k:=by rw [Nat.mul_right_comm]
    omega
theorem Qi {a b s q r:Nat} (hb:0<b) (h:a*2^s=q*(b*2^s)+r) (hr:r<b*2^s):q=a/b/\r=a%b*2^s:=by
  have hp:0<2^s:=Nat.pow_pos (by omega)
  have h1:a*2^s/(b*2^s)=q/\a*2^s%(b*2^s)=r:=by
    have e:a*2^s=r+b*2^s*q:=by rw [h,Nat.mul_comm q];omega
    rw [e]
    constructor
    · rw [Nat.add_mul_div_left _ _ (by omega),Nat.div_eq_of_lt hr];omega
    · rw [Nat.add_mul_mod_self_left,Nat.mod_eq_of_lt hr]
  rw [Nat.mul_div_mul_right _ _ hp,Nat.mul_mod_mul_right] at h1
  exact ⟨h1.1.symm,h1.2.symm⟩
theorem No {a b s n m:Nat} (hn:n=nw b) (hb:0<nw b) (hs:s<32) (hV:2147483648*4294967296^(nw b-1)<=b*2^s) (hm:m=nw a+1-nw b) (hba:nw b<=nw a):a*2^s<b*2^s*4294967296^m:=by
  have h1:=Bi a
  have h2:(2:Nat)^s<=2^31:=Nat.pow_le_pow_right (by omega) (by omega)
  have h3:a*2^s<=a*2147483648:=Nat.mul_le_mul_left _ h2
  have h4:a*2147483648<4294967296^nw a*2147483648:=Nat.mul_lt_mul_of_pos_right h1 (by omega)
  have h5:2147483648*4294967296^(nw b-1)*4294967296^m<=b*2^s*4294967296^m:=Nat.mul_le_mul_right _ hV
  have h6:2147483648*4294967296^(nw b-1)*4294967296^m=4294967296^nw a*2147483648:=by
    rw [Nat.mul_assoc,<-Nat.pow_add,show nw b-1+m=nw a by omega,Nat.mul_comm]
  omega
theorem BB.apart {w0:A_} {w:World} {L:List As} (h:BB w0 w L) {i j b b':Nat} {T T':TypeId} {cs cs':List Value} (hij:i<j) (hi:L[i]?=some (AX b T cs)) (hj:L[j]?=some (AX b' T' cs')):b≠b':=by
  have hp:=h.2.2
  obtain ⟨h1,e1⟩:=List.getElem?_eq_some_iff.1 hi
  obtain ⟨h2,e2⟩:=List.getElem?_eq_some_iff.1 hj
  have:=(List.pairwise_iff_getElem.1 hp i j h1 h2 hij).resolve_left (λk=>by have:=k.1;rw [e1] at this;cases this) b (by rw [e1])
  rw [e2] at this
  exact λe=>this (by rw [e])
def Dc (neg:Bool) (n:Nat):Int:=if neg then -(n:Int) else (n:Int)
theorem SB (n:Nat):A7 (Dc true n)=AS n++[.bool (!(decide (n=0)))]:=by
  simp only [A7,AS,Dc,if_true,Int.natAbs_neg,Int.natAbs_natCast,List.cons_append,List.nil_append]
  have e:decide (-(n:Int)<0)=!(decide (n=0)):=by
    by_cases h:n=0
    · subst h;rfl
    · simp [h];omega
  rw [e]
theorem Sr (n:Nat):A7 (Dc false n)=AS n++[.bool false]:=by
  simp only [A7,AS,Dc,Int.natAbs_natCast,List.cons_append,List.nil_append]
  have e:decide ((n:Int)<0)=false:=by simp
  simp [e]
theorem Md (D a b:Nat):ER Tryz.prog (D+3) 73 (.agg (AS a).toArray) (.agg (AS b).toArray) (decide (a=b)):=by
  have h:=ER.struct (D:=D+2) (xs:=AS a) (ys:=AS b) Tryz.underlying73 Tryz.stoodInHeld73 (Hu.agg (us:=AS a) (bs:=AS b) (by decide) Tryz.isAgg71 Tryz.sizeOf71 rfl rfl (HJ D a b) Hu.nil)
  simpa using h
theorem A8 (neg:Bool) (n:Nat):(Dc neg n).natAbs=n:=by cases neg<;>simp [Dc]
theorem UW (a:Int):Dc (!(decide (a<0))) a.natAbs = -a:=by
  unfold Dc
  by_cases h:a<0
  · simp [h];omega
  · simp [h];omega
theorem PM (a b:Int):Dc (!(decide (a<0) == decide (b<0))) (a.natAbs*b.natAbs)=a*b:=by
  rw [<-Int.natAbs_mul]
  unfold Dc
  by_cases h:a<0<;>by_cases h':b<0
  · have:=Int.mul_pos_of_neg_of_neg h h';simp [h,h'];omega
  · have:a*b<=0:=Int.mul_nonpos_of_nonpos_of_nonneg (by omega) (by omega)
    simp [h,h'];omega
  · have:a*b<=0:=Int.mul_nonpos_of_nonneg_of_nonpos (by omega) (by omega)
    simp [h,h'];omega
  · have:0<=a*b:=Int.mul_nonneg (by omega) (by omega)
    simp [h,h'];omega
theorem HS {a b:Int} (h:(decide (a<0) == decide (b<0))=true):Dc (decide (a<0)) (a.natAbs+b.natAbs)=a+b:=by
  unfold Dc
  by_cases h1:a<0<;>by_cases h2:b<0<;>simp [h1,h2] at h ⊢<;>omega
theorem Jk {a b:Int} (h:(decide (a<0) == decide (b<0))=false) (h3:b.natAbs<=a.natAbs):Dc (decide (a<0)) (a.natAbs-b.natAbs)=a+b:=by
  unfold Dc
  by_cases h1:a<0<;>by_cases h2:b<0<;>simp [h1,h2] at h ⊢<;>omega
theorem JO {a b:Int} (h:(decide (a<0) == decide (b<0))=false) (h3:¬b.natAbs<=a.natAbs):Dc (decide (b<0)) (b.natAbs-a.natAbs)=a+b:=by
  unfold Dc
  by_cases h1:a<0<;>by_cases h2:b<0<;>simp [h1,h2] at h ⊢<;>omega
theorem Y8 {z:Int} (h:z<0) (h2:-9223372036854775808<=z):IntKind.u64.wrap (-(IntKind.u64.wrap z))=((z.natAbs:Nat):Int):=by
  simp only [IntKind.wrap,IntKind.bits,IntKind.signed];simp;omega
theorem F5 {z:Int} (h:z<0):Dc true z.natAbs=z:=by unfold Dc;simp;omega
theorem Kj {z:Int} (h:¬z<0):Dc false z.natAbs=z:=by unfold Dc;simp;omega
end Go.Proofs.YtpolhpjiahbidaaGreatDoor
