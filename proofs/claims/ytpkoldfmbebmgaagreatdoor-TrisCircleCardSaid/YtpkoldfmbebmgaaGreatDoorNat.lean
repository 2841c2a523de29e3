/- Numbers as rows of words: laws in plain Lean, for the walks through package nats. -/
import Derived.Test.YtpkoldfmbebmgaaGreatDoorLoop
namespace Go.Proofs.YtpkoldfmbebmgaaGreatDoor
open Go Go.RowKit
set_option linter.unusedVariables false
set_option linter.unusedSimpArgs false

/-! ### cut -/
def cutN (bs : List Nat) : Nat → Nat
  | 0 => 0
  | m + 1 => if bs.getD m 0 = 0 then cutN bs m else m + 1
theorem cutN_step {bs : List Nat} {k : Nat} (h : 0 < k) (h0 : bs.getD (k - 1) 0 = 0) : cutN bs k = cutN bs (k - 1) := by
  obtain ⟨j, rfl⟩ : ∃ j, k = j + 1 := ⟨k - 1, by omega⟩
  simp only [cutN]; rw [if_pos (by simpa using h0)]; simp
theorem cutN_stop {bs : List Nat} {k : Nat} (h : ¬(0 < k ∧ bs.getD (k - 1) 0 = 0)) : cutN bs k = k := by
  cases k with
  | zero => rfl
  | succ j => simp only [cutN]; rw [if_neg (by simpa using h)]
theorem cutN_le (bs : List Nat) : ∀ m, cutN bs m ≤ m
  | 0 => Nat.le_refl _
  | m + 1 => by
    simp only [cutN]
    split
    · have := cutN_le bs m; omega
    · exact Nat.le_refl _
theorem cutN_last (bs : List Nat) : ∀ m, cutN bs m ≠ 0 → bs.getD (cutN bs m - 1) 0 ≠ 0
  | 0, h => absurd rfl h
  | m + 1, h => by
    simp only [cutN] at h ⊢
    split
    · rename_i h0; rw [if_pos h0] at h; exact cutN_last bs m h
    · rename_i h0; simpa using h0
theorem val_cutN (bs : List Nat) : ∀ m, val (bs.take (cutN bs m)) = val (bs.take m)
  | 0 => rfl
  | m + 1 => by
    simp only [cutN]
    split
    · rename_i h0; rw [val_cutN bs m, val_take_succ, h0]; omega
    · rfl
theorem words_cut {bs : List Nat} (hb : W32 bs) {m : Nat} (hm : m ≤ bs.length) : wordsOf (val (bs.take m)) = bs.take (cutN bs m) := by
  rw [← val_cutN]
  refine words_of_row (hb.take _) fun x hx => ?_
  have hle := cutN_le bs m
  have hne : cutN bs m ≠ 0 := fun h0 => by rw [h0] at hx; simp at hx
  have hl : (bs.take (cutN bs m)).getLast? = some (bs.getD (cutN bs m - 1) 0) := by
    rw [List.getLast?_eq_getElem?]
    have h1 : (bs.take (cutN bs m)).length - 1 = cutN bs m - 1 := by simp; omega
    rw [h1, List.getElem?_take, if_pos (by omega)]
    have h2 : cutN bs m - 1 < bs.length := by omega
    simp [h2]
  rw [hl] at hx
  injection hx with hx
  rw [← hx]
  exact cutN_last bs m hne
theorem nw_cut {bs : List Nat} (hb : W32 bs) {m : Nat} (hm : m ≤ bs.length) : nw (val (bs.take m)) = cutN bs m := by
  unfold nw
  rw [words_cut hb hm, List.length_take]
  have := cutN_le bs m
  omega

/-! ### the two forms of a number -/
theorem small_true {v : Nat} (h : v < 18446744073709551616) : small v = true := by simp [small, h]
theorem small_false {v : Nat} (h : ¬ v < 18446744073709551616) : small v = false := by simp [small, h]
theorem natL_small {v : Nat} (h : v < 18446744073709551616) : natL v = [.int .u64 (v : Nat), .string ByteArray.empty] := by
  simp [natL, lowN, bigB, small_true h]
theorem lowN_small {v : Nat} (h : v < 18446744073709551616) : lowN v = v := by simp [lowN, small_true h]
theorem lowN_lt (v : Nat) : lowN v < 18446744073709551616 := by
  unfold lowN; split
  · rename_i h; simpa [small] using h
  · omega
def bytesN (xs : List Nat) : List Nat := xs.flatMap fun x => [x % 256, x / 256 % 256, x / 65536 % 256, x / 16777216 % 256]
theorem bytesN_length (xs : List Nat) : (bytesN xs).length = 4 * xs.length := by
  induction xs with
  | nil => rfl
  | cons x xs ih => simp [bytesN] at ih ⊢; omega
theorem bytesN_append (xs ys : List Nat) : bytesN (xs ++ ys) = bytesN xs ++ bytesN ys := by simp [bytesN]
theorem bytes_str (xs : List Nat) : strOf (bytesN xs) = ⟨(xs.flatMap bytes4).toArray⟩ := by
  unfold strOf
  congr 2
  induction xs with
  | nil => rfl
  | cons x xs ih =>
    simp only [bytesN, List.flatMap_cons, List.map_append] at ih ⊢
    rw [ih]
    rfl
theorem natL_big {v : Nat} (h : ¬ v < 18446744073709551616) : natL v = [.int .u64 (0 : Nat), .string (strOf (bytesN (wordsOf v)))] := by
  simp [natL, lowN, bigB, small_false h, bytes_str]
theorem bigB_small {v : Nat} (h : v < 18446744073709551616) : bigB v = ByteArray.empty := by simp [bigB, small_true h]
theorem bigB_big {v : Nat} (h : ¬ v < 18446744073709551616) : bigB v = strOf (bytesN (wordsOf v)) := by simp [bigB, small_false h, bytes_str]
theorem strOf_size (xs : List Nat) : (strOf xs).size = xs.length := by simp [strOf, ByteArray.size]
theorem strOf_get {xs : List Nat} {j : Nat} (h : j < xs.length) : (strOf xs)[j]? = some (UInt8.ofNat (xs.getD j 0)) := by
  have h1 : j < (strOf xs).size := by rw [strOf_size]; exact h
  rw [getElem?_pos (strOf xs) j h1]
  congr 1
  show (strOf xs).data[j]'h1 = _
  simp [strOf, h]
theorem bytesN_get : ∀ (xs : List Nat) (i k : Nat), i < xs.length → k < 4 → (bytesN xs).getD (4 * i + k) 0 = xs.getD i 0 / 256 ^ k % 256
  | [], i, k, h, _ => by simp at h
  | x :: xs, 0, k, _, hk => by
    rcases k with _ | _ | _ | _ | k
    · simp [bytesN]
    · simp [bytesN]
    · simp [bytesN]
    · simp [bytesN]
    · omega
  | x :: xs, i + 1, k, h, hk => by
    have ih := bytesN_get xs i k (by simpa using h) hk
    have e : 4 * (i + 1) + k = (4 * i + k) + 4 := by omega
    rw [e, List.getD_cons_succ, ← ih]
    simp [bytesN]
theorem nw_big {v : Nat} (h : ¬ v < 18446744073709551616) : 2 < nw v := by
  rcases Nat.lt_or_ge 2 (nw v) with h1 | h1
  · exact h1
  · exact absurd (nw_le_iff.1 h1) (by omega)
theorem bigB_empty {v : Nat} : ((bigB v).toList == (ByteArray.mk #[]).toList) = decide (v < 18446744073709551616) := by
  by_cases h : v < 18446744073709551616
  · rw [bigB_small h]; simp [h]
  · have h1 := nw_big h
    rw [ByteArray.toList_eq, ByteArray.toList_eq]
    have h2 : (bigB v).data.toList ≠ [] := fun e => by
      have h3 : (bigB v).data.toList.length = 0 := by rw [e]; rfl
      rw [bigB_big h] at h3
      simp [strOf, bytesN_length] at h3
      unfold nw at h1
      omega
    have h4 : ((bigB v).data.toList == []) = false := by
      cases hl : (bigB v).data.toList with
      | nil => exact absurd hl h2
      | cons => rfl
    rw [show (ByteArray.mk #[]).data.toList = [] from rfl, h4]
    simp [h]
/-- The two words of a small number; the words of a big one. -/
def padW (v : Nat) : List Nat := if v < 18446744073709551616 then [v % 4294967296, v / 4294967296] else wordsOf v
theorem padW_w32 (v : Nat) : W32 (padW v) := by
  unfold padW
  split
  · exact W32.cons (by omega) (W32.cons (by omega) W32.nil)
  · exact words_w32 v
theorem padW_of {v : Nat} (h : v < 18446744073709551616) : W32 [v % 4294967296, v / 4294967296] := W32.cons (by omega) (W32.cons (by omega) W32.nil)
theorem nw_le_pad (v : Nat) : nw v ≤ (padW v).length := by
  unfold padW
  split
  · rename_i h; exact nw_small h
  · exact Nat.le_refl _
theorem pad_take (v : Nat) : (padW v).take (nw v) = wordsOf v := by
  unfold padW
  split
  · rename_i h
    have e : v = val ([v % 4294967296, v / 4294967296].take 2) := by simp [val]; omega
    have hw : W32 [v % 4294967296, v / 4294967296] := W32.cons (by omega) (W32.cons (by omega) W32.nil)
    have h1 := words_cut hw (m := 2) (by simp)
    have h2 := nw_cut hw (m := 2) (by simp)
    rw [← e] at h1 h2
    rw [h2, ← h1]
  · exact List.take_of_length_le (Nat.le_refl _)
theorem val_pad (v : Nat) : val (padW v) = v := by
  unfold padW
  split
  · simp [val]; omega
  · exact val_words v

/-! ### bits -/
theorem or_add {a b s : Nat} (ha : a < 2 ^ s) : a ||| b * 2 ^ s = a + b * 2 ^ s := by
  rw [Nat.or_comm, Nat.mul_comm, ← Nat.two_pow_add_eq_or_of_lt ha]; omega
theorem orN_u64 {a b : Nat} (ha : a < 18446744073709551616) (hb : b < 18446744073709551616) {c : Nat} (hc : a ||| b = c) : IntKind.u64.wrap ((BitVec.ofInt IntKind.u64.bits (a : Int) ||| BitVec.ofInt IntKind.u64.bits (b : Int)).toNat : Int) = (c : Int) := by
  have e : (BitVec.ofInt IntKind.u64.bits (a : Int) ||| BitVec.ofInt IntKind.u64.bits (b : Int)).toNat = a ||| b := by
    show (BitVec.ofInt 64 (a : Int) ||| BitVec.ofInt 64 (b : Int)).toNat = _
    rw [BitVec.toNat_or, BitVec.ofInt_natCast, BitVec.ofInt_natCast, BitVec.toNat_ofNat, BitVec.toNat_ofNat, Nat.mod_eq_of_lt (show a < 2 ^ 64 by omega), Nat.mod_eq_of_lt (show b < 2 ^ 64 by omega)]
  rw [e, hc]
  have h2 : a ||| b < 2 ^ 64 := Nat.or_lt_two_pow ha hb
  exact wrap_u64 (by omega) (by omega)
theorem orN_u32 {a b : Nat} (ha : a < 4294967296) (hb : b < 4294967296) {c : Nat} (hc : a ||| b = c) : IntKind.u32.wrap ((BitVec.ofInt IntKind.u32.bits (a : Int) ||| BitVec.ofInt IntKind.u32.bits (b : Int)).toNat : Int) = (c : Int) := by
  have e : (BitVec.ofInt IntKind.u32.bits (a : Int) ||| BitVec.ofInt IntKind.u32.bits (b : Int)).toNat = a ||| b := by
    show (BitVec.ofInt 32 (a : Int) ||| BitVec.ofInt 32 (b : Int)).toNat = _
    rw [BitVec.toNat_or, BitVec.ofInt_natCast, BitVec.ofInt_natCast, BitVec.toNat_ofNat, BitVec.toNat_ofNat, Nat.mod_eq_of_lt (show a < 2 ^ 32 by omega), Nat.mod_eq_of_lt (show b < 2 ^ 32 by omega)]
  rw [e, hc]
  have h2 : a ||| b < 2 ^ 32 := Nat.or_lt_two_pow ha hb
  exact wrap_u32 (by omega) (by omega)
theorem shlN_u64 {a s : Nat} (h : a * 2 ^ s < 18446744073709551616) : IntKind.u64.wrap ((a : Int) * 2 ^ s) = ((a * 2 ^ s : Nat) : Int) := by
  have e : (a : Int) * 2 ^ s = ((a * 2 ^ s : Nat) : Int) := by simp
  rw [e, wrap_u64 (by omega) (by omega)]
theorem shlN_u32 {a s : Nat} (h : a * 2 ^ s < 4294967296) : IntKind.u32.wrap ((a : Int) * 2 ^ s) = ((a * 2 ^ s : Nat) : Int) := by
  have e : (a : Int) * 2 ^ s = ((a * 2 ^ s : Nat) : Int) := by simp
  rw [e, wrap_u32 (by omega) (by omega)]
theorem shlN_u32m {a s : Nat} : IntKind.u32.wrap ((a : Int) * 2 ^ s) = ((a * 2 ^ s % 4294967296 : Nat) : Int) := by
  have e : (a : Int) * 2 ^ s = ((a * 2 ^ s : Nat) : Int) := by simp
  rw [e]; exact modN_u32


/-! ### words -/
theorem pow256 (k : Nat) : (256 : Nat) ^ k = 2 ^ (8 * k) := by rw [show (256 : Nat) = 2 ^ 8 from rfl, ← Nat.pow_mul]
theorem byte_lt {w k : Nat} (hk : k < 4) : w / 256 ^ k % 256 * 2 ^ (8 * k) < 4294967296 := by
  rcases k with _ | _ | _ | _ | k
  · simp; omega
  · simp; omega
  · simp; omega
  · simp; omega
  · omega
theorem byte_step {w k x : Nat} (hx : x = w % 256 ^ k) : x ||| w / 256 ^ k % 256 * 2 ^ (8 * k) = w % 256 ^ (k + 1) := by
  subst hx
  rw [or_add (by rw [← pow256]; exact Nat.mod_lt _ (Nat.pow_pos (by omega))), ← pow256, Nat.mod_pow_succ, Nat.mul_comm]
theorem words_step {os ws xs : List Nat} {n i : Nat} (hl : os.length = n) (hn : ws.length = n) (hi : i < n) (ht : os.take i = ws.take i) (h0 : ∀ j, i ≤ j → os.getD j 0 = 0) (hx : xs = os.set i (ws.getD i 0)) :
    xs.length = n ∧ xs.take (i + 1) = ws.take (i + 1) ∧ ∀ j, i + 1 ≤ j → xs.getD j 0 = 0 := by
  subst hx
  refine ⟨by simp [hl], ?_, fun j hj => ?_⟩
  · have e1 : i < os.length := by omega
    have e2 : i < ws.length := by omega
    rw [List.take_add_one, List.take_add_one, List.take_set_of_le (Nat.le_refl _), ht]
    simp [e1, e2]
  · have := h0 j (by omega)
    rw [List.getD_eq_getElem?_getD, List.getElem?_set_ne (by omega), ← List.getD_eq_getElem?_getD]
    exact this
theorem set_self {os : List Nat} {i : Nat} (h : os.getD i 0 = 0) : os = os.set i 0 := by
  apply List.ext_getElem (by simp)
  intro j h1 h2
  by_cases e : i = j
  · subst e; simpa [h1] using h
  · simp [e]
theorem pow32 (k : Nat) : (4294967296 : Nat) ^ k = 2 ^ (32 * k) := by rw [show (4294967296 : Nat) = 2 ^ 32 from rfl, ← Nat.pow_mul]
theorem shift_lt {x i : Nat} (hx : x < 4294967296) (hi : i < 2) : x * 2 ^ (32 * i) < 18446744073709551616 := by
  rcases i with _ | _ | i
  · simp; omega
  · simp; omega
  · omega
theorem small_pow {n i : Nat} (h : n < 4294967296 ^ i) (hi : i < 2) : n < 18446744073709551616 := by
  rcases i with _ | _ | i
  · simp at h; omega
  · simp at h; omega
  · omega
theorem bytes_step {bs : List Nat} {i K : Nat} (hi : i < K) (hK : K ≤ bs.length) :
    lay (u8s (bytesN (bs.take i) ++ List.replicate (4 * (K - i)) 0)) (4 * i) (u8s [bs.getD i 0 % 256, bs.getD i 0 / 256 % 256, bs.getD i 0 / 65536 % 256, bs.getD i 0 / 16777216 % 256]) = u8s (bytesN (bs.take (i + 1)) ++ List.replicate (4 * (K - (i + 1))) 0) := by
  have hib : i < bs.length := by omega
  have e1 : bs.take (i + 1) = bs.take i ++ [bs.getD i 0] := by rw [List.take_add_one]; simp [hib]
  have hl : (bytesN (bs.take i)).length = 4 * i := by rw [bytesN_length, List.length_take]; omega
  have e2 : List.replicate (4 * (K - i)) 0 = List.replicate 4 0 ++ List.replicate (4 * (K - (i + 1))) 0 := by rw [List.replicate_append_replicate]; congr 1; omega
  have e3 : bytesN [bs.getD i 0] = [bs.getD i 0 % 256, bs.getD i 0 / 256 % 256, bs.getD i 0 / 65536 % 256, bs.getD i 0 / 16777216 % 256] := by simp [bytesN]
  rw [e1, bytesN_append, e3, e2]
  unfold lay u8s
  simp only [List.map_append]
  rw [List.take_append_of_le_length (by simp [hl]), List.take_of_length_le (by simp [hl])]
  rw [show 4 * i + (List.map (fun x => Value.int IntKind.u8 (x : Nat)) [bs.getD i 0 % 256, bs.getD i 0 / 256 % 256, bs.getD i 0 / 65536 % 256, bs.getD i 0 / 16777216 % 256]).length = 4 * i + 4 from rfl]
  rw [List.drop_append, List.drop_of_length_le (by simp [hl])]
  simp [hl]
theorem row_done {os ws : List Nat} {n i : Nat} (hl : os.length = n) (hn : ws.length = n) (hi : ¬ i < n) (ht : os.take i = ws.take i) : os = ws := by
  rwa [List.take_of_length_le (by omega), List.take_of_length_le (by omega)] at ht

end Go.Proofs.YtpkoldfmbebmgaaGreatDoor
