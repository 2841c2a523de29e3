import Derived.Laws.Externs
import Derived.Test.YtnofgcpajmldkaaGreatDoorPart04
import Derived.Test.YtnofgcpajmldkaaGreatDoorPart07
namespace Go.Proofs.YtnofgcpajmldkaaGreatDoor
open Go Go.RowKit
set_option linter.unusedVariables false
set_option linter.unusedSimpArgs false
def cutN (bs : List Nat) : Nat → Nat
  | 0 => 0
  | m + 1 => if bs.getD m 0 = 0 then cutN bs m else m + 1
theorem cutN_step {bs : List Nat} {k : Nat} (h : 0 < k) (h0 : bs.getD (k - 1) 0 = 0) : cutN bs k = cutN bs (k - 1) := by
  obtain ⟨j, rfl⟩ : ∃ j, k = j + 1 := ⟨k - 1, by omega⟩
  simp only [cutN]; rw [if_pos (by simpa using h0)]; simp
theorem cutN_stop {bs : List Nat} {k : Nat} (h : ¬(0 < k ∧ bs.getD (k - 1) 0 = 0)) : cutN bs k = k := by
  cases k with
  | zero => rfl
  | succ j => simp only [cutN]; rw [if_neg (by simpa using h)]
theorem cutN_le (bs : List Nat) : ∀ m, cutN bs m ≤ m
  | 0 => Nat.le_refl _
  | m + 1 => by
    simp only [cutN]
    split
    · have := cutN_le bs m; omega
    · exact Nat.le_refl _
theorem cutN_last (bs : List Nat) : ∀ m, cutN bs m ≠ 0 → bs.getD (cutN bs m - 1) 0 ≠ 0
  | 0, h => absurd rfl h
  | m + 1, h => by
    simp only [cutN] at h ⊢
    split
    · rename_i h0; rw [if_pos h0] at h; exact cutN_last bs m h
    · rename_i h0; simpa using h0
theorem val_cutN (bs : List Nat) : ∀ m, val (bs.take (cutN bs m)) = val (bs.take m)
  | 0 => rfl
  | m + 1 => by
    simp only [cutN]
    split
    · rename_i h0; rw [val_cutN bs m, val_take_succ, h0]; omega
    · rfl
theorem words_cut {bs : List Nat} (hb : W32 bs) {m : Nat} (hm : m ≤ bs.length) : wordsOf (val (bs.take m)) = bs.take (cutN bs m) := by
  rw [← val_cutN]
  refine words_of_row (hb.take _) fun x hx => ?_
  have hle := cutN_le bs m
  have hne : cutN bs m ≠ 0 := fun h0 => by rw [h0] at hx; simp at hx
  have hl : (bs.take (cutN bs m)).getLast? = some (bs.getD (cutN bs m - 1) 0) := by
    rw [List.getLast?_eq_getElem?]
    have h1 : (bs.take (cutN bs m)).length - 1 = cutN bs m - 1 := by simp; omega
    rw [h1, List.getElem?_take, if_pos (by omega)]
    have h2 : cutN bs m - 1 < bs.length := by omega
    simp [h2]
  rw [hl] at hx
  injection hx with hx
  rw [← hx]
  exact cutN_last bs m hne
theorem nw_cut {bs : List Nat} (hb : W32 bs) {m : Nat} (hm : m ≤ bs.length) : nw (val (bs.take m)) = cutN bs m := by
  unfold nw
  rw [words_cut hb hm, List.length_take]
  have := cutN_le bs m
  omega
theorem small_true {v : Nat} (h : v < 18446744073709551616) : small v = true := by simp [small, h]
theorem small_false {v : Nat} (h : ¬ v < 18446744073709551616) : small v = false := by simp [small, h]
theorem natL_small {v : Nat} (h : v < 18446744073709551616) : natL v = [.int .u64 (v : Nat), .string ByteArray.empty] := by
  simp [natL, lowN, bigB, small_true h]
theorem lowN_small {v : Nat} (h : v < 18446744073709551616) : lowN v = v := by simp [lowN, small_true h]
def bytesN (xs : List Nat) : List Nat := xs.flatMap fun x => [x % 256, x / 256 % 256, x / 65536 % 256, x / 16777216 % 256]
theorem bytesN_length (xs : List Nat) : (bytesN xs).length = 4 * xs.length := by
  induction xs with
  | nil => rfl
  | cons x xs ih => simp [bytesN] at ih ⊢; omega
theorem bytesN_append (xs ys : List Nat) : bytesN (xs ++ ys) = bytesN xs ++ bytesN ys := by simp [bytesN]
theorem bytes_str (xs : List Nat) : strOf (bytesN xs) = ⟨(xs.flatMap bytes4).toArray⟩ := by
  unfold strOf
  congr 2
  induction xs with
  | nil => rfl
  | cons x xs ih =>
    simp only [bytesN, List.flatMap_cons, List.map_append] at ih ⊢
    rw [ih]
    rfl
theorem natL_big {v : Nat} (h : ¬ v < 18446744073709551616) : natL v = [.int .u64 (0 : Nat), .string (strOf (bytesN (wordsOf v)))] := by
  simp [natL, lowN, bigB, small_false h, bytes_str]
theorem bigB_small {v : Nat} (h : v < 18446744073709551616) : bigB v = ByteArray.empty := by simp [bigB, small_true h]
theorem bigB_big {v : Nat} (h : ¬ v < 18446744073709551616) : bigB v = strOf (bytesN (wordsOf v)) := by simp [bigB, small_false h, bytes_str]
theorem strOf_size (xs : List Nat) : (strOf xs).size = xs.length := by simp [strOf, ByteArray.size]
theorem strOf_get {xs : List Nat} {j : Nat} (h : j < xs.length) : (strOf xs)[j]? = some (UInt8.ofNat (xs.getD j 0)) := by
  have h1 : j < (strOf xs).size := by rw [strOf_size]; exact h
  rw [getElem?_pos (strOf xs) j h1]
  congr 1
  show (strOf xs).data[j]'h1 = _
  simp [strOf, h]
theorem bytesN_get : ∀ (xs : List Nat) (i k : Nat), i < xs.length → k < 4 → (bytesN xs).getD (4 * i + k) 0 = xs.getD i 0 / 256 ^ k % 256
  | [], i, k, h, _ => by simp at h
  | x :: xs, 0, k, _, hk => by
    rcases k with _ | _ | _ | _ | k
    · simp [bytesN]
    · simp [bytesN]
    · simp [bytesN]
    · simp [bytesN]
    · omega
  | x :: xs, i + 1, k, h, hk => by
    have ih := bytesN_get xs i k (by simpa using h) hk
    have e : 4 * (i + 1) + k = (4 * i + k) + 4 := by omega
    rw [e, List.getD_cons_succ, ← ih]
    simp [bytesN]
theorem nw_big {v : Nat} (h : ¬ v < 18446744073709551616) : 2 < nw v := by
  rcases Nat.lt_or_ge 2 (nw v) with h1 | h1
  · exact h1
  · exact absurd (nw_le_iff.1 h1) (by omega)
theorem bigB_empty {v : Nat} : ((bigB v).toList == (ByteArray.mk #[]).toList) = decide (v < 18446744073709551616) := by
  by_cases h : v < 18446744073709551616
  · rw [bigB_small h]; simp [h]
  · have h1 := nw_big h
    rw [ByteArray.toList_eq, ByteArray.toList_eq]
    have h2 : (bigB v).data.toList ≠ [] := fun e => by
      have h3 : (bigB v).data.toList.length = 0 := by rw [e]; rfl
      rw [bigB_big h] at h3
      simp [strOf, bytesN_length] at h3
      unfold nw at h1
      omega
    have h4 : ((bigB v).data.toList == []) = false := by
      cases hl : (bigB v).data.toList with
      | nil => exact absurd hl h2
      | cons => rfl
    rw [show (ByteArray.mk #[]).data.toList = [] from rfl, h4]
    simp [h]
def padW (v : Nat) : List Nat := if v < 18446744073709551616 then [v % 4294967296, v / 4294967296] else wordsOf v
theorem padW_w32 (v : Nat) : W32 (padW v) := by
  unfold padW
  split
  · exact W32.cons (by omega) (W32.cons (by omega) W32.nil)
  · exact words_w32 v
theorem padW_of {v : Nat} (h : v < 18446744073709551616) : W32 [v % 4294967296, v / 4294967296] := W32.cons (by omega) (W32.cons (by omega) W32.nil)
theorem nw_le_pad (v : Nat) : nw v ≤ (padW v).length := by
  unfold padW
  split
  · rename_i h; exact nw_small h
  · exact Nat.le_refl _
theorem pad_take (v : Nat) : (padW v).take (nw v) = wordsOf v := by
  unfold padW
  split
  · rename_i h
    have e : v = val ([v % 4294967296, v / 4294967296].take 2) := by simp [val]; omega
    have hw : W32 [v % 4294967296, v / 4294967296] := W32.cons (by omega) (W32.cons (by omega) W32.nil)
    have h1 := words_cut hw (m := 2) (by simp)
    have h2 := nw_cut hw (m := 2) (by simp)
    rw [← e] at h1 h2
    rw [h2, ← h1]
  · exact List.take_of_length_le (Nat.le_refl _)
theorem val_pad (v : Nat) : val (padW v) = v := by
  unfold padW
  split
  · simp [val]; omega
  · exact val_words v
theorem or_add {a b s : Nat} (ha : a < 2 ^ s) : a ||| b * 2 ^ s = a + b * 2 ^ s := by
  rw [Nat.or_comm, Nat.mul_comm, ← Nat.two_pow_add_eq_or_of_lt ha]; omega
theorem orN_u64 {a b : Nat} (ha : a < 18446744073709551616) (hb : b < 18446744073709551616) {c : Nat} (hc : a ||| b = c) : IntKind.u64.wrap ((BitVec.ofInt IntKind.u64.bits (a : Int) ||| BitVec.ofInt IntKind.u64.bits (b : Int)).toNat : Int) = (c : Int) := by
  have e : (BitVec.ofInt IntKind.u64.bits (a : Int) ||| BitVec.ofInt IntKind.u64.bits (b : Int)).toNat = a ||| b := by
    show (BitVec.ofInt 64 (a : Int) ||| BitVec.ofInt 64 (b : Int)).toNat = _
    rw [BitVec.toNat_or, BitVec.ofInt_natCast, BitVec.ofInt_natCast, BitVec.toNat_ofNat, BitVec.toNat_ofNat, Nat.mod_eq_of_lt (show a < 2 ^ 64 by omega), Nat.mod_eq_of_lt (show b < 2 ^ 64 by omega)]
  rw [e, hc]
  have h2 : a ||| b < 2 ^ 64 := Nat.or_lt_two_pow ha hb
  exact wrap_u64 (by omega) (by omega)
theorem orN_u32 {a b : Nat} (ha : a < 4294967296) (hb : b < 4294967296) {c : Nat} (hc : a ||| b = c) : IntKind.u32.wrap ((BitVec.ofInt IntKind.u32.bits (a : Int) ||| BitVec.ofInt IntKind.u32.bits (b : Int)).toNat : Int) = (c : Int) := by
  have e : (BitVec.ofInt IntKind.u32.bits (a : Int) ||| BitVec.ofInt IntKind.u32.bits (b : Int)).toNat = a ||| b := by
    show (BitVec.ofInt 32 (a : Int) ||| BitVec.ofInt 32 (b : Int)).toNat = _
    rw [BitVec.toNat_or, BitVec.ofInt_natCast, BitVec.ofInt_natCast, BitVec.toNat_ofNat, BitVec.toNat_ofNat, Nat.mod_eq_of_lt (show a < 2 ^ 32 by omega), Nat.mod_eq_of_lt (show b < 2 ^ 32 by omega)]
  rw [e, hc]
  have h2 : a ||| b < 2 ^ 32 := Nat.or_lt_two_pow ha hb
  exact wrap_u32 (by omega) (by omega)
theorem shlN_u64 {a s : Nat} (h : a * 2 ^ s < 18446744073709551616) : IntKind.u64.wrap ((a : Int) * 2 ^ s) = ((a * 2 ^ s : Nat) : Int) := by
  have e : (a : Int) * 2 ^ s = ((a * 2 ^ s : Nat) : Int) := by simp
  rw [e, wrap_u64 (by omega) (by omega)]
theorem shlN_u32 {a s : Nat} (h : a * 2 ^ s < 4294967296) : IntKind.u32.wrap ((a : Int) * 2 ^ s) = ((a * 2 ^ s : Nat) : Int) := by
  have e : (a : Int) * 2 ^ s = ((a * 2 ^ s : Nat) : Int) := by simp
  rw [e, wrap_u32 (by omega) (by omega)]
theorem shlN_u32m {a s : Nat} : IntKind.u32.wrap ((a : Int) * 2 ^ s) = ((a * 2 ^ s % 4294967296 : Nat) : Int) := by
  have e : (a : Int) * 2 ^ s = ((a * 2 ^ s : Nat) : Int) := by simp
  rw [e]; exact modN_u32
theorem pow256 (k : Nat) : (256 : Nat) ^ k = 2 ^ (8 * k) := by rw [show (256 : Nat) = 2 ^ 8 from rfl, ← Nat.pow_mul]
theorem byte_lt {w k : Nat} (hk : k < 4) : w / 256 ^ k % 256 * 2 ^ (8 * k) < 4294967296 := by
  rcases k with _ | _ | _ | _ | k
  · simp; omega
  · simp; omega
  · simp; omega
  · simp; omega
  · omega
theorem byte_step {w k x : Nat} (hx : x = w % 256 ^ k) : x ||| w / 256 ^ k % 256 * 2 ^ (8 * k) = w % 256 ^ (k + 1) := by
  subst hx
  rw [or_add (by rw [← pow256]; exact Nat.mod_lt _ (Nat.pow_pos (by omega))), ← pow256, Nat.mod_pow_succ, Nat.mul_comm]
theorem words_step {os ws xs : List Nat} {n i : Nat} (hl : os.length = n) (hn : ws.length = n) (hi : i < n) (ht : os.take i = ws.take i) (h0 : ∀ j, i ≤ j → os.getD j 0 = 0) (hx : xs = os.set i (ws.getD i 0)) :
    xs.length = n ∧ xs.take (i + 1) = ws.take (i + 1) ∧ ∀ j, i + 1 ≤ j → xs.getD j 0 = 0 := by
  subst hx
  refine ⟨by simp [hl], ?_, fun j hj => ?_⟩
  · have e1 : i < os.length := by omega
    have e2 : i < ws.length := by omega
    rw [List.take_add_one, List.take_add_one, List.take_set_of_le (Nat.le_refl _), ht]
    simp [e1, e2]
  · have := h0 j (by omega)
    rw [List.getD_eq_getElem?_getD, List.getElem?_set_ne (by omega), ← List.getD_eq_getElem?_getD]
    exact this
theorem set_self {os : List Nat} {i : Nat} (h : os.getD i 0 = 0) : os = os.set i 0 := by
  apply List.ext_getElem (by simp)
  intro j h1 h2
  by_cases e : i = j
  · subst e; simpa [h1] using h
  · simp [e]
theorem pow32 (k : Nat) : (4294967296 : Nat) ^ k = 2 ^ (32 * k) := by rw [show (4294967296 : Nat) = 2 ^ 32 from rfl, ← Nat.pow_mul]
theorem shift_lt {x i : Nat} (hx : x < 4294967296) (hi : i < 2) : x * 2 ^ (32 * i) < 18446744073709551616 := by
  rcases i with _ | _ | i
  · simp; omega
  · simp; omega
  · omega
theorem small_pow {n i : Nat} (h : n < 4294967296 ^ i) (hi : i < 2) : n < 18446744073709551616 := by
  rcases i with _ | _ | i
  · simp at h; omega
  · simp at h; omega
  · omega
theorem bytes_step {bs : List Nat} {i K : Nat} (hi : i < K) (hK : K ≤ bs.length) :
    lay (u8s (bytesN (bs.take i) ++ List.replicate (4 * (K - i)) 0)) (4 * i) (u8s [bs.getD i 0 % 256, bs.getD i 0 / 256 % 256, bs.getD i 0 / 65536 % 256, bs.getD i 0 / 16777216 % 256]) = u8s (bytesN (bs.take (i + 1)) ++ List.replicate (4 * (K - (i + 1))) 0) := by
  have hib : i < bs.length := by omega
  have e1 : bs.take (i + 1) = bs.take i ++ [bs.getD i 0] := by rw [List.take_add_one]; simp [hib]
  have hl : (bytesN (bs.take i)).length = 4 * i := by rw [bytesN_length, List.length_take]; omega
  have e2 : List.replicate (4 * (K - i)) 0 = List.replicate 4 0 ++ List.replicate (4 * (K - (i + 1))) 0 := by rw [List.replicate_append_replicate]; congr 1; omega
  have e3 : bytesN [bs.getD i 0] = [bs.getD i 0 % 256, bs.getD i 0 / 256 % 256, bs.getD i 0 / 65536 % 256, bs.getD i 0 / 16777216 % 256] := by simp [bytesN]
  rw [e1, bytesN_append, e3, e2]
  unfold lay u8s
  simp only [List.map_append]
  rw [List.take_append_of_le_length (by simp [hl]), List.take_of_length_le (by simp [hl])]
  rw [show 4 * i + (List.map (fun x => Value.int IntKind.u8 (x : Nat)) [bs.getD i 0 % 256, bs.getD i 0 / 256 % 256, bs.getD i 0 / 65536 % 256, bs.getD i 0 / 16777216 % 256]).length = 4 * i + 4 from rfl]
  rw [List.drop_append, List.drop_of_length_le (by simp [hl])]
  simp [hl]
theorem row_done {os ws : List Nat} {n i : Nat} (hl : os.length = n) (hn : ws.length = n) (hi : ¬ i < n) (ht : os.take i = ws.take i) : os = ws := by
  rwa [List.take_of_length_le (by omega), List.take_of_length_le (by omega)] at ht
section
theorem modN_u64 {a : Nat} : IntKind.u64.wrap (a : Int) = ((a % 18446744073709551616 : Nat) : Int) := by
  simp only [IntKind.wrap, IntKind.bits, IntKind.signed]; simp
theorem mulM_u64 {a b : Nat} : IntKind.u64.wrap ((a : Int) * (b : Int)) = ((a * b % 18446744073709551616 : Nat) : Int) := by
  rw [← Int.natCast_mul]; exact modN_u64
theorem addM_u32 {a b : Nat} : IntKind.u32.wrap ((a : Int) + (b : Int)) = (((a + b) % 4294967296 : Nat) : Int) := by
  rw [← Int.natCast_add]; exact modN_u32
theorem subM_u32 {a b : Nat} (h : b ≤ 4294967296) : IntKind.u32.wrap ((a : Int) - (b : Int)) = (((a + (4294967296 - b)) % 4294967296 : Nat) : Int) := by
  simp only [IntKind.wrap, IntKind.bits, IntKind.signed]; simp; omega
theorem toNat_u64 {a : Nat} (h : a < 18446744073709551616) : (BitVec.ofInt IntKind.u64.bits (a : Int)).toNat = a := by
  show (BitVec.ofInt 64 (a : Int)).toNat = _
  rw [BitVec.ofInt_natCast, BitVec.toNat_ofNat, Nat.mod_eq_of_lt (by omega)]
theorem toNat_u32 {a : Nat} (h : a < 4294967296) : (BitVec.ofInt IntKind.u32.bits (a : Int)).toNat = a := by
  show (BitVec.ofInt 32 (a : Int)).toNat = _
  rw [BitVec.ofInt_natCast, BitVec.toNat_ofNat, Nat.mod_eq_of_lt (by omega)]
theorem andN_u64 {a b : Nat} (ha : a < 18446744073709551616) (hb : b < 18446744073709551616) : IntKind.u64.wrap ((BitVec.ofInt IntKind.u64.bits (a : Int) &&& BitVec.ofInt IntKind.u64.bits (b : Int)).toNat : Int) = ((a &&& b : Nat) : Int) := by
  rw [BitVec.toNat_and, toNat_u64 ha, toNat_u64 hb]
  have : a &&& b ≤ a := Nat.and_le_left
  exact wrap_u64 (by omega) (by omega)
theorem maskN_u64 {a : Nat} (ha : a < 18446744073709551616) : IntKind.u64.wrap ((BitVec.ofInt IntKind.u64.bits (a : Int) &&& BitVec.ofInt IntKind.u64.bits ((4294967295 : Nat) : Int)).toNat : Int) = ((a % 4294967296 : Nat) : Int) := by
  rw [andN_u64 ha (by omega), show (4294967295 : Nat) = 2 ^ 32 - 1 from rfl, Nat.and_two_pow_sub_one_eq_mod]
theorem andN_u32 {a b : Nat} (ha : a < 4294967296) (hb : b < 4294967296) : IntKind.u32.wrap ((BitVec.ofInt IntKind.u32.bits (a : Int) &&& BitVec.ofInt IntKind.u32.bits (b : Int)).toNat : Int) = ((a &&& b : Nat) : Int) := by
  rw [BitVec.toNat_and, toNat_u32 ha, toNat_u32 hb]
  have : a &&& b ≤ a := Nat.and_le_left
  exact wrap_u32 (by omega) (by omega)
theorem xorN_u32 {a b : Nat} (ha : a < 4294967296) (hb : b < 4294967296) : IntKind.u32.wrap ((BitVec.ofInt IntKind.u32.bits (a : Int) ^^^ BitVec.ofInt IntKind.u32.bits (b : Int)).toNat : Int) = ((a ^^^ b : Nat) : Int) := by
  rw [BitVec.toNat_xor, toNat_u32 ha, toNat_u32 hb]
  have : a ^^^ b < 2 ^ 32 := Nat.xor_lt_two_pow ha hb
  exact wrap_u32 (by omega) (by omega)
theorem comN_u32 {a : Nat} (ha : a < 4294967296) : IntKind.u32.wrap ((BitVec.ofInt IntKind.u32.bits (if IntKind.u32.signed then -1 else IntKind.u32.max) ^^^ BitVec.ofInt IntKind.u32.bits (a : Int)).toNat : Int) = ((4294967295 ^^^ a : Nat) : Int) := by
  rw [show (if IntKind.u32.signed then -1 else IntKind.u32.max) = ((4294967295 : Nat) : Int) from rfl]
  exact xorN_u32 (by omega) ha
def bor (x y : Nat) : Nat := if x < y then 1 else 0
theorem top32 {r : Nat} (h : r < 4294967296) : r / 2147483648 = if r.testBit 31 then 1 else 0 := by
  have e : r.testBit 31 = decide (r / 2147483648 % 2 = 1) := Nat.testBit_eq_decide_div_mod_eq ..
  rw [e]
  by_cases h1 : r / 2147483648 % 2 = 1
  · rw [if_pos (by simpa using h1)]; omega
  · rw [if_neg (by simpa using h1)]; omega
theorem bit31 {x : Nat} (h : x < 4294967296) : x.testBit 31 = decide (2147483648 ≤ x) := by
  rw [Nat.testBit_eq_decide_div_mod_eq]
  exact decide_eq_decide.2 (by omega)
theorem borrow32 {x y c : Nat} (hx : x < 4294967296) (hy : y < 4294967296) (hc : c ≤ 1) {d : Nat} (hd : d = (x + (4294967296 - y) + (4294967296 - c)) % 4294967296) :
    ((4294967295 ^^^ x) &&& y ||| (4294967295 ^^^ (x ^^^ y)) &&& d) / 2147483648 = bor x (y + c) := by
  have hd' : d < 4294967296 := by omega
  have h1 : ((4294967295 ^^^ x) &&& y ||| (4294967295 ^^^ (x ^^^ y)) &&& d) < 2 ^ 32 := by
    refine Nat.or_lt_two_pow ?_ ?_
    · exact Nat.lt_of_le_of_lt Nat.and_le_right hy
    · exact Nat.lt_of_le_of_lt Nat.and_le_right hd'
  rw [top32 (by omega)]
  simp only [Nat.testBit_or, Nat.testBit_and, Nat.testBit_xor, bit31 hx, bit31 hy, bit31 hd', bit31 (show 4294967295 < 4294967296 by omega)]
  unfold bor
  by_cases h2 : 2147483648 ≤ x <;> by_cases h3 : 2147483648 ≤ y <;> by_cases h4 : 2147483648 ≤ d <;> simp [h2, h3, h4] <;> omega
theorem mul64_hi (x y : Nat) : x / 4294967296 * (y / 4294967296) + (x / 4294967296 * (y % 4294967296) + x % 4294967296 * (y % 4294967296) / 4294967296) / 4294967296 + ((x / 4294967296 * (y % 4294967296) + x % 4294967296 * (y % 4294967296) / 4294967296) % 4294967296 + x % 4294967296 * (y / 4294967296)) / 4294967296 = x * y / 18446744073709551616 := by
  have e : x * y = x % 4294967296 * (y % 4294967296) + 4294967296 * (x / 4294967296 * (y % 4294967296) + x % 4294967296 * (y / 4294967296)) + 18446744073709551616 * (x / 4294967296 * (y / 4294967296)) := by
    have hx : x = x % 4294967296 + 4294967296 * (x / 4294967296) := by omega
    have hy : y = y % 4294967296 + 4294967296 * (y / 4294967296) := by omega
    generalize x % 4294967296 = a at *
    generalize x / 4294967296 = b at *
    generalize y % 4294967296 = c at *
    generalize y / 4294967296 = d at *
    subst hx; subst hy
    grind
  rw [e]
  generalize x % 4294967296 * (y % 4294967296) = p
  generalize x / 4294967296 * (y % 4294967296) = q
  generalize x % 4294967296 * (y / 4294967296) = r
  generalize x / 4294967296 * (y / 4294967296) = t
  omega
theorem mul_w {a b : Nat} (ha : a < 4294967296) (hb : b < 4294967296) : a * b ≤ 18446744065119617025 := Nat.mul_le_mul (show a ≤ 4294967295 by omega) (show b ≤ 4294967295 by omega)
def bl (x : Nat) : Nat := if x = 0 then 0 else Nat.log2 x + 1
theorem log2_shift {x k : Nat} (h : 2 ^ k ≤ x) : Nat.log2 x = Nat.log2 (x / 2 ^ k) + k := by
  have hx : x ≠ 0 := by have := Nat.pow_pos (n := k) (show 0 < 2 by omega); omega
  have hq : x / 2 ^ k ≠ 0 := by
    have := Nat.div_pos h (Nat.pow_pos (n := k) (show 0 < 2 by omega)); omega
  have h1 := (Nat.log2_eq_iff hq).1 rfl
  rw [Nat.log2_eq_iff hx]
  have hm := Nat.div_add_mod x (2 ^ k)
  have hlt := Nat.mod_lt x (Nat.pow_pos (n := k) (show 0 < 2 by omega))
  constructor
  · rw [Nat.pow_add, Nat.mul_comm]
    exact Nat.le_trans (Nat.mul_le_mul_left _ h1.1) (Nat.mul_div_le x _)
  · rw [show (x / 2 ^ k).log2 + k + 1 = ((x / 2 ^ k).log2 + 1) + k by omega, Nat.pow_add]
    exact (Nat.div_lt_iff_lt_mul (Nat.pow_pos (by omega))).1 h1.2
theorem bl_shift {x k : Nat} (h : 2 ^ k ≤ x) : bl x = bl (x / 2 ^ k) + k := by
  have hx : x ≠ 0 := by have := Nat.pow_pos (n := k) (show 0 < 2 by omega); omega
  have hq : x / 2 ^ k ≠ 0 := by
    have := Nat.div_pos h (Nat.pow_pos (n := k) (show 0 < 2 by omega)); omega
  simp only [bl, hx, hq, if_false, log2_shift h]
  omega
theorem bl_le {x k : Nat} (h : x < 2 ^ k) : bl x ≤ k := by
  unfold bl
  split
  · omega
  · rename_i hx
    have := (Nat.log2_lt hx).2 h
    omega
theorem lz_bounds {y : Nat} (h0 : 0 < y) (h : y < 4294967296) : bl y ≤ 32 ∧ 0 < bl y ∧ 2147483648 ≤ y * 2 ^ (32 - bl y) ∧ y * 2 ^ (32 - bl y) < 4294967296 := by
  have hy : y ≠ 0 := by omega
  have h1 := (Nat.log2_eq_iff hy).1 rfl
  have h2 := bl_le (k := 32) (show y < 2 ^ 32 by omega)
  have hb : bl y = y.log2 + 1 := by simp [bl, hy]
  refine ⟨h2, by omega, ?_, ?_⟩
  · rw [hb] at h2 ⊢
    calc 2147483648 = 2 ^ y.log2 * 2 ^ (32 - (y.log2 + 1)) := by rw [← Nat.pow_add, show y.log2 + (32 - (y.log2 + 1)) = 31 by omega]
      _ ≤ _ := Nat.mul_le_mul_right _ h1.1
  · rw [hb] at h2 ⊢
    calc y * 2 ^ (32 - (y.log2 + 1)) < 2 ^ (y.log2 + 1) * 2 ^ (32 - (y.log2 + 1)) := Nat.mul_lt_mul_of_pos_right h1.2 (Nat.pow_pos (by omega))
      _ = 4294967296 := by rw [← Nat.pow_add, show y.log2 + 1 + (32 - (y.log2 + 1)) = 32 by omega]
theorem tab_ok {s : ByteArray} (h : ((List.range 256).all fun j => s[j]? == some (UInt8.ofNat (bl j))) = true) {j : Nat} (hj : j < 256) : s[j]? = some (UInt8.ofNat (bl j)) := by
  simpa using List.all_eq_true.1 h j (List.mem_range.2 hj)
theorem bl_256 {x : Nat} (h : 256 ≤ x) : bl x = bl (x / 256) + 8 := bl_shift (k := 8) h
theorem sign_law (z : Int) : (if (if z < 1 then z else 1) > -1 then (if z < 1 then z else 1) else -1) = z.sign := by
  rcases Int.lt_trichotomy z 0 with h | h | h
  · rw [Int.sign_eq_neg_one_of_neg h, if_pos (show z < 1 by omega)]; split <;> omega
  · subst h; rfl
  · rw [Int.sign_eq_one_of_pos h, if_neg (show ¬ z < 1 by omega)]; rfl
section
variable {P : Program} {n : Nat} {F : List (Nat × Value)} {w0 : Base} {L : List As} {x y : Operand} {d : Option Tmp} {t : TypeId} {p : String} {af : Array Edge} {g : Option (Nat × Bool)}
theorem ex_index_str {s : ByteArray} {k : IntKind} {j m : Nat} {tx : TypeId} (hx : evF F x = some (.string s)) (hy : evF F y = some (.int k ((j : Nat) : Int))) (hu : P.underlying tx = some .string) (hb : s[j]? = some (UInt8.ofNat m)) (hm : m < 256) : Ex P n F w0 L ⟨d, .index tx x y, t, p, af, g⟩ (.int .u8 ((m : Nat) : Int)) := by
  have h := ex_index_string (P := P) (n := n) (F := F) (w0 := w0) (L := L) (d := d) (t := t) (p := p) (af := af) (g := g) hx hy hu rfl hb
  have e : (UInt8.ofNat m).toNat = m := by simp; omega
  rwa [e] at h
theorem ex_extern {f : FuncId} {xs : List Operand} {args : List Value} {ts : Array TypeId} {v : Value} (hf : evF F x = some (.func (.func f) #[] #[])) (hargs : xs.map (evF F) = args.map some)
    (hc : ∀ w, (callFunc f args.toArray).run P w = .ok (.value v) w) : Ex P n F w0 L ⟨d, .call { callee := .value x, args := xs.toArray, argTypes := ts }, t, p, af, g⟩ v := fun A w ha _ => by
  have e1 : xs.toArray.map A.eval = args.toArray := by rw [← evals_of ha hargs]; simp
  simp [execOp, resolve, ha.ev hf, Deferred.ofValue, e1, invoke, hc]
theorem run_Add64 {f : FuncId} {fn : Func} (hf : P.funcs[f]? = some fn) (hname : (fn.name == "runtime.NumGoroutine") = false) (hb : fn.body.isNone = true) (hn : Extern.findNext fn = none) (he : Extern.find fn = some add64Entry) (x y c : Nat) (hc : c ≤ 1) (w : World) :
    (callFunc f #[.int .u64 x, .int .u64 y, .int .u64 c]).run P w = .ok (.value (.tuple #[.int .u64 (((x + y + c) % 18446744073709551616 : Nat) : Int), .int .u64 (((x + y + c) / 18446744073709551616 : Nat) : Int)])) w := by
  rw [run_callFunc_extern hf hname hb hn he, run_add64 x y c (by omega) (by omega) (by omega) (by omega)]
  simp only [Result.andThen]
  congr 5 <;> omega
end
theorem Own.fresh {W w : World} {L : List As} (h : Own ⟨W, none⟩ w L) {i b : Nat} {T : TypeId} {cs : List Value} (hi : L[i]? = some (blk b T cs)) : W.heap.size ≤ b := by
  rcases (h.2.1 _ (List.mem_of_getElem? hi) b rfl).1 with h1 | h1 | h1
  · cases h1
  · exact h1
  · cases h1
end
section
set_option maxRecDepth 100000
theorem tO2 : OneT Tryz.prog 2 := ⟨Tryz.isAgg2⟩
theorem tO3 : OneT Tryz.prog 3 := ⟨Tryz.isAgg3⟩
theorem tO4 : OneT Tryz.prog 4 := ⟨Tryz.isAgg4⟩
theorem tO5 : OneT Tryz.prog 5 := ⟨Tryz.isAgg5⟩
theorem tO9 : OneT Tryz.prog 9 := ⟨Tryz.isAgg9⟩
theorem tO22 : OneT Tryz.prog 22 := ⟨Tryz.isAgg22⟩
theorem tO23 : OneT Tryz.prog 23 := ⟨Tryz.isAgg23⟩
theorem tA26 : AggT Tryz.prog 26 9 := ⟨Tryz.isAgg26, Tryz.sizeOf26⟩
theorem tO27 : OneT Tryz.prog 27 := ⟨Tryz.isAgg27⟩
theorem tA29 : AggT Tryz.prog 29 2 := ⟨Tryz.isAgg29, Tryz.sizeOf29⟩
theorem tA31 : AggT Tryz.prog 31 4 := ⟨Tryz.isAgg31, Tryz.sizeOf31⟩
theorem tO33 : OneT Tryz.prog 33 := ⟨Tryz.isAgg33⟩
theorem tO34 : OneT Tryz.prog 34 := ⟨Tryz.isAgg34⟩
theorem tO35 : OneT Tryz.prog 35 := ⟨Tryz.isAgg35⟩
theorem tA37 : AggT Tryz.prog 37 3 := ⟨Tryz.isAgg37, Tryz.sizeOf37⟩
theorem tO39 : OneT Tryz.prog 39 := ⟨Tryz.isAgg39⟩
theorem tA41 : AggT Tryz.prog 41 2 := ⟨Tryz.isAgg41, Tryz.sizeOf41⟩
theorem tA43 : AggT Tryz.prog 43 2 := ⟨Tryz.isAgg43, Tryz.sizeOf43⟩
theorem tA45 : AggT Tryz.prog 45 3 := ⟨Tryz.isAgg45, Tryz.sizeOf45⟩
theorem tA47 : AggT Tryz.prog 47 5 := ⟨Tryz.isAgg47, Tryz.sizeOf47⟩
theorem tA49 : AggT Tryz.prog 49 10 := ⟨Tryz.isAgg49, Tryz.sizeOf49⟩
theorem tO51 : OneT Tryz.prog 51 := ⟨Tryz.isAgg51⟩
theorem tA58 : AggT Tryz.prog 58 4 := ⟨Tryz.isAgg58, Tryz.sizeOf58⟩
theorem tA61 : AggT Tryz.prog 61 11 := ⟨Tryz.isAgg61, Tryz.sizeOf61⟩
theorem tO66 : OneT Tryz.prog 66 := ⟨Tryz.isAgg66⟩
theorem tA68 : AggT Tryz.prog 68 3 := ⟨Tryz.isAgg68, Tryz.sizeOf68⟩
theorem tA71 : AggT Tryz.prog 71 3 := ⟨Tryz.isAgg71, Tryz.sizeOf71⟩
theorem tA82 : AggT Tryz.prog 82 30 := ⟨Tryz.isAgg82, Tryz.sizeOf82⟩
theorem tA107 : AggT Tryz.prog 107 2 := ⟨Tryz.isAgg107, Tryz.sizeOf107⟩
theorem tA114 : AggT Tryz.prog 114 15 := ⟨Tryz.isAgg114, Tryz.sizeOf114⟩
theorem tA135 : AggT Tryz.prog 135 2 := ⟨Tryz.isAgg135, Tryz.sizeOf135⟩
theorem tZ3 : ZeroT Tryz.prog 3 ([(vI 0)]) := ⟨_, Tryz.zeroValue3, rfl⟩
theorem tZ31 : ZeroT Tryz.prog 31 ([(vI 0), (Value.int .u32 (0 : Int)), (vI 0), (Value.int .u32 (0 : Int))]) := ⟨_, Tryz.zeroValue31, rfl⟩
theorem tZ37 : ZeroT Tryz.prog 37 ([(Value.slice none 0 0), (Value.slice none 0 0), (Value.slice none 0 0)]) := ⟨_, Tryz.zeroValue37, rfl⟩
theorem tZ41 : ZeroT Tryz.prog 41 (natL 0) := ⟨_, Tryz.zeroValue41, rfl⟩
theorem tZ43 : ZeroT Tryz.prog 43 (natL 0) := ⟨_, Tryz.zeroValue43, rfl⟩
theorem tZ45 : ZeroT Tryz.prog 45 (intL 0) := ⟨_, Tryz.zeroValue45, rfl⟩
theorem tZ47 : ZeroT Tryz.prog 47 (fracL (0 : Rat)) := ⟨_, Tryz.zeroValue47, rfl⟩
theorem tZ49 : ZeroT Tryz.prog 49 (ptL (⟨0, 0⟩ : Pt)) := ⟨_, Tryz.zeroValue49, rfl⟩
theorem tZ51 : ZeroT Tryz.prog 51 ([(Value.slice none 0 0)]) := ⟨_, Tryz.zeroValue51, rfl⟩
theorem tZ58 : ZeroT Tryz.prog 58 ([(vI 0), (vI 0), (vI 0), (vI 0)]) := ⟨_, Tryz.zeroValue58, rfl⟩
theorem tZ68 : ZeroT Tryz.prog 68 ([(Value.slice none 0 0), (Value.slice none 0 0), (Value.slice none 0 0)]) := ⟨_, Tryz.zeroValue68, rfl⟩
theorem tZ70 : ZeroT Tryz.prog 70 ([(vI 0), (vI 0)]) := ⟨_, Tryz.zeroValue70, rfl⟩
theorem tZ71 : ZeroT Tryz.prog 71 ([(vI 0), (vI 0), (vI 0)]) := ⟨_, Tryz.zeroValue71, rfl⟩
theorem tZ82 : ZeroT Tryz.prog 82 (ptL (⟨0, 0⟩ : Pt) ++ ptL (⟨0, 0⟩ : Pt) ++ ptL (⟨0, 0⟩ : Pt)) := ⟨_, Tryz.zeroValue82, rfl⟩
theorem tZ107 : ZeroT Tryz.prog 107 ([(vI 0), (vI 0)]) := ⟨_, Tryz.zeroValue107, rfl⟩
theorem tZ114 : ZeroT Tryz.prog 114 (fracL (0 : Rat) ++ fracL (0 : Rat) ++ fracL (0 : Rat)) := ⟨_, Tryz.zeroValue114, rfl⟩
theorem tZ135 : ZeroT Tryz.prog 135 ([(vI 0), (vI 0)]) := ⟨_, Tryz.zeroValue135, rfl⟩
theorem tZ147 : ZeroT Tryz.prog 147 ([(vI 0), (vI 0), (vI 0), (vI 0)]) := ⟨_, Tryz.zeroValue147, rfl⟩
end
end Go.Proofs.YtnofgcpajmldkaaGreatDoor
