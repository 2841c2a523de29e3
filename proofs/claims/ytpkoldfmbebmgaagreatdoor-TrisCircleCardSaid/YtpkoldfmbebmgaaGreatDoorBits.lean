/- Words and bits: laws in plain Lean, for the walks through math/bits. -/
import Derived.Test.YtpkoldfmbebmgaaGreatDoorNat
import Derived.Laws.Externs
namespace Go.Proofs.YtpkoldfmbebmgaaGreatDoor
open Go Go.RowKit
set_option linter.unusedVariables false
set_option linter.unusedSimpArgs false

theorem modN_u64 {a : Nat} : IntKind.u64.wrap (a : Int) = ((a % 18446744073709551616 : Nat) : Int) := by
  simp only [IntKind.wrap, IntKind.bits, IntKind.signed]; simp
theorem mulM_u64 {a b : Nat} : IntKind.u64.wrap ((a : Int) * (b : Int)) = ((a * b % 18446744073709551616 : Nat) : Int) := by
  rw [← Int.natCast_mul]; exact modN_u64
theorem addM_u32 {a b : Nat} : IntKind.u32.wrap ((a : Int) + (b : Int)) = (((a + b) % 4294967296 : Nat) : Int) := by
  rw [← Int.natCast_add]; exact modN_u32
theorem subM_u32 {a b : Nat} (h : b ≤ 4294967296) : IntKind.u32.wrap ((a : Int) - (b : Int)) = (((a + (4294967296 - b)) % 4294967296 : Nat) : Int) := by
  simp only [IntKind.wrap, IntKind.bits, IntKind.signed]; simp; omega
theorem toNat_u64 {a : Nat} (h : a < 18446744073709551616) : (BitVec.ofInt IntKind.u64.bits (a : Int)).toNat = a := by
  show (BitVec.ofInt 64 (a : Int)).toNat = _
  rw [BitVec.ofInt_natCast, BitVec.toNat_ofNat, Nat.mod_eq_of_lt (by omega)]
theorem toNat_u32 {a : Nat} (h : a < 4294967296) : (BitVec.ofInt IntKind.u32.bits (a : Int)).toNat = a := by
  show (BitVec.ofInt 32 (a : Int)).toNat = _
  rw [BitVec.ofInt_natCast, BitVec.toNat_ofNat, Nat.mod_eq_of_lt (by omega)]
theorem andN_u64 {a b : Nat} (ha : a < 18446744073709551616) (hb : b < 18446744073709551616) : IntKind.u64.wrap ((BitVec.ofInt IntKind.u64.bits (a : Int) &&& BitVec.ofInt IntKind.u64.bits (b : Int)).toNat : Int) = ((a &&& b : Nat) : Int) := by
  rw [BitVec.toNat_and, toNat_u64 ha, toNat_u64 hb]
  have : a &&& b ≤ a := Nat.and_le_left
  exact wrap_u64 (by omega) (by omega)
theorem maskN_u64 {a : Nat} (ha : a < 18446744073709551616) : IntKind.u64.wrap ((BitVec.ofInt IntKind.u64.bits (a : Int) &&& BitVec.ofInt IntKind.u64.bits ((4294967295 : Nat) : Int)).toNat : Int) = ((a % 4294967296 : Nat) : Int) := by
  rw [andN_u64 ha (by omega), show (4294967295 : Nat) = 2 ^ 32 - 1 from rfl, Nat.and_two_pow_sub_one_eq_mod]
theorem andN_u32 {a b : Nat} (ha : a < 4294967296) (hb : b < 4294967296) : IntKind.u32.wrap ((BitVec.ofInt IntKind.u32.bits (a : Int) &&& BitVec.ofInt IntKind.u32.bits (b : Int)).toNat : Int) = ((a &&& b : Nat) : Int) := by
  rw [BitVec.toNat_and, toNat_u32 ha, toNat_u32 hb]
  have : a &&& b ≤ a := Nat.and_le_left
  exact wrap_u32 (by omega) (by omega)
theorem xorN_u32 {a b : Nat} (ha : a < 4294967296) (hb : b < 4294967296) : IntKind.u32.wrap ((BitVec.ofInt IntKind.u32.bits (a : Int) ^^^ BitVec.ofInt IntKind.u32.bits (b : Int)).toNat : Int) = ((a ^^^ b : Nat) : Int) := by
  rw [BitVec.toNat_xor, toNat_u32 ha, toNat_u32 hb]
  have : a ^^^ b < 2 ^ 32 := Nat.xor_lt_two_pow ha hb
  exact wrap_u32 (by omega) (by omega)
theorem comN_u32 {a : Nat} (ha : a < 4294967296) : IntKind.u32.wrap ((BitVec.ofInt IntKind.u32.bits (if IntKind.u32.signed then -1 else IntKind.u32.max) ^^^ BitVec.ofInt IntKind.u32.bits (a : Int)).toNat : Int) = ((4294967295 ^^^ a : Nat) : Int) := by
  rw [show (if IntKind.u32.signed then -1 else IntKind.u32.max) = ((4294967295 : Nat) : Int) from rfl]
  exact xorN_u32 (by omega) ha

/-! ### Sub32 -/
/-- The bit that says whether a subtraction borrows. -/
def bor (x y : Nat) : Nat := if x < y then 1 else 0
theorem top32 {r : Nat} (h : r < 4294967296) : r / 2147483648 = if r.testBit 31 then 1 else 0 := by
  have e : r.testBit 31 = decide (r / 2147483648 % 2 = 1) := Nat.testBit_eq_decide_div_mod_eq ..
  rw [e]
  by_cases h1 : r / 2147483648 % 2 = 1
  · rw [if_pos (by simpa using h1)]; omega
  · rw [if_neg (by simpa using h1)]; omega
theorem bit31 {x : Nat} (h : x < 4294967296) : x.testBit 31 = decide (2147483648 ≤ x) := by
  rw [Nat.testBit_eq_decide_div_mod_eq]
  exact decide_eq_decide.2 (by omega)
theorem borrow32 {x y c : Nat} (hx : x < 4294967296) (hy : y < 4294967296) (hc : c ≤ 1) {d : Nat} (hd : d = (x + (4294967296 - y) + (4294967296 - c)) % 4294967296) :
    ((4294967295 ^^^ x) &&& y ||| (4294967295 ^^^ (x ^^^ y)) &&& d) / 2147483648 = bor x (y + c) := by
  have hd' : d < 4294967296 := by omega
  have h1 : ((4294967295 ^^^ x) &&& y ||| (4294967295 ^^^ (x ^^^ y)) &&& d) < 2 ^ 32 := by
    refine Nat.or_lt_two_pow ?_ ?_
    · exact Nat.lt_of_le_of_lt Nat.and_le_right hy
    · exact Nat.lt_of_le_of_lt Nat.and_le_right hd'
  rw [top32 (by omega)]
  simp only [Nat.testBit_or, Nat.testBit_and, Nat.testBit_xor, bit31 hx, bit31 hy, bit31 hd', bit31 (show 4294967295 < 4294967296 by omega)]
  unfold bor
  by_cases h2 : 2147483648 ≤ x <;> by_cases h3 : 2147483648 ≤ y <;> by_cases h4 : 2147483648 ≤ d <;> simp [h2, h3, h4] <;> omega

/-! ### Mul64 -/
theorem mul64_hi (x y : Nat) : x / 4294967296 * (y / 4294967296) + (x / 4294967296 * (y % 4294967296) + x % 4294967296 * (y % 4294967296) / 4294967296) / 4294967296 + ((x / 4294967296 * (y % 4294967296) + x % 4294967296 * (y % 4294967296) / 4294967296) % 4294967296 + x % 4294967296 * (y / 4294967296)) / 4294967296 = x * y / 18446744073709551616 := by
  have e : x * y = x % 4294967296 * (y % 4294967296) + 4294967296 * (x / 4294967296 * (y % 4294967296) + x % 4294967296 * (y / 4294967296)) + 18446744073709551616 * (x / 4294967296 * (y / 4294967296)) := by
    have hx : x = x % 4294967296 + 4294967296 * (x / 4294967296) := by omega
    have hy : y = y % 4294967296 + 4294967296 * (y / 4294967296) := by omega
    generalize x % 4294967296 = a at *
    generalize x / 4294967296 = b at *
    generalize y % 4294967296 = c at *
    generalize y / 4294967296 = d at *
    subst hx; subst hy
    grind
  rw [e]
  generalize x % 4294967296 * (y % 4294967296) = p
  generalize x / 4294967296 * (y % 4294967296) = q
  generalize x % 4294967296 * (y / 4294967296) = r
  generalize x / 4294967296 * (y / 4294967296) = t
  omega
theorem mul_w {a b : Nat} (ha : a < 4294967296) (hb : b < 4294967296) : a * b ≤ 18446744065119617025 := Nat.mul_le_mul (show a ≤ 4294967295 by omega) (show b ≤ 4294967295 by omega)

/-! ### The length of a word -/
def bl (x : Nat) : Nat := if x = 0 then 0 else Nat.log2 x + 1
theorem log2_shift {x k : Nat} (h : 2 ^ k ≤ x) : Nat.log2 x = Nat.log2 (x / 2 ^ k) + k := by
  have hx : x ≠ 0 := by have := Nat.pow_pos (n := k) (show 0 < 2 by omega); omega
  have hq : x / 2 ^ k ≠ 0 := by
    have := Nat.div_pos h (Nat.pow_pos (n := k) (show 0 < 2 by omega)); omega
  have h1 := (Nat.log2_eq_iff hq).1 rfl
  rw [Nat.log2_eq_iff hx]
  have hm := Nat.div_add_mod x (2 ^ k)
  have hlt := Nat.mod_lt x (Nat.pow_pos (n := k) (show 0 < 2 by omega))
  constructor
  · rw [Nat.pow_add, Nat.mul_comm]
    exact Nat.le_trans (Nat.mul_le_mul_left _ h1.1) (Nat.mul_div_le x _)
  · rw [show (x / 2 ^ k).log2 + k + 1 = ((x / 2 ^ k).log2 + 1) + k by omega, Nat.pow_add]
    exact (Nat.div_lt_iff_lt_mul (Nat.pow_pos (by omega))).1 h1.2
theorem bl_shift {x k : Nat} (h : 2 ^ k ≤ x) : bl x = bl (x / 2 ^ k) + k := by
  have hx : x ≠ 0 := by have := Nat.pow_pos (n := k) (show 0 < 2 by omega); omega
  have hq : x / 2 ^ k ≠ 0 := by
    have := Nat.div_pos h (Nat.pow_pos (n := k) (show 0 < 2 by omega)); omega
  simp only [bl, hx, hq, if_false, log2_shift h]
  omega
theorem bl_le {x k : Nat} (h : x < 2 ^ k) : bl x ≤ k := by
  unfold bl
  split
  · omega
  · rename_i hx
    have := (Nat.log2_lt hx).2 h
    omega
theorem lz_bounds {y : Nat} (h0 : 0 < y) (h : y < 4294967296) : bl y ≤ 32 ∧ 0 < bl y ∧ 2147483648 ≤ y * 2 ^ (32 - bl y) ∧ y * 2 ^ (32 - bl y) < 4294967296 := by
  have hy : y ≠ 0 := by omega
  have h1 := (Nat.log2_eq_iff hy).1 rfl
  have h2 := bl_le (k := 32) (show y < 2 ^ 32 by omega)
  have hb : bl y = y.log2 + 1 := by simp [bl, hy]
  refine ⟨h2, by omega, ?_, ?_⟩
  · rw [hb] at h2 ⊢
    calc 2147483648 = 2 ^ y.log2 * 2 ^ (32 - (y.log2 + 1)) := by rw [← Nat.pow_add, show y.log2 + (32 - (y.log2 + 1)) = 31 by omega]
      _ ≤ _ := Nat.mul_le_mul_right _ h1.1
  · rw [hb] at h2 ⊢
    calc y * 2 ^ (32 - (y.log2 + 1)) < 2 ^ (y.log2 + 1) * 2 ^ (32 - (y.log2 + 1)) := Nat.mul_lt_mul_of_pos_right h1.2 (Nat.pow_pos (by omega))
      _ = 4294967296 := by rw [← Nat.pow_add, show y.log2 + 1 + (32 - (y.log2 + 1)) = 32 by omega]

theorem tab_ok {s : ByteArray} (h : ((List.range 256).all fun j => s[j]? == some (UInt8.ofNat (bl j))) = true) {j : Nat} (hj : j < 256) : s[j]? = some (UInt8.ofNat (bl j)) := by
  simpa using List.all_eq_true.1 h j (List.mem_range.2 hj)
theorem bl_256 {x : Nat} (h : 256 ≤ x) : bl x = bl (x / 256) + 8 := bl_shift (k := 8) h
theorem sign_law (z : Int) : (if (if z < 1 then z else 1) > -1 then (if z < 1 then z else 1) else -1) = z.sign := by
  rcases Int.lt_trichotomy z 0 with h | h | h
  · rw [Int.sign_eq_neg_one_of_neg h, if_pos (show z < 1 by omega)]; split <;> omega
  · subst h; rfl
  · rw [Int.sign_eq_one_of_pos h, if_neg (show ¬ z < 1 by omega)]; rfl
section
variable {P : Program} {n : Nat} {F : List (Nat × Value)} {w0 : Base} {L : List As} {x y : Operand} {d : Option Tmp} {t : TypeId} {p : String} {af : Array Edge} {g : Option (Nat × Bool)}
/-- A byte of a string, as a number. -/
theorem ex_index_str {s : ByteArray} {k : IntKind} {j m : Nat} {tx : TypeId} (hx : evF F x = some (.string s)) (hy : evF F y = some (.int k ((j : Nat) : Int))) (hu : P.underlying tx = some .string) (hb : s[j]? = some (UInt8.ofNat m)) (hm : m < 256) : Ex P n F w0 L ⟨d, .index tx x y, t, p, af, g⟩ (.int .u8 ((m : Nat) : Int)) := by
  have h := ex_index_string (P := P) (n := n) (F := F) (w0 := w0) (L := L) (d := d) (t := t) (p := p) (af := af) (g := g) hx hy hu rfl hb
  have e : (UInt8.ofNat m).toNat = m := by simp; omega
  rwa [e] at h

theorem ex_extern {f : FuncId} {xs : List Operand} {args : List Value} {ts : Array TypeId} {v : Value} (hf : evF F x = some (.func (.func f) #[] #[])) (hargs : xs.map (evF F) = args.map some)
    (hc : ∀ w, (callFunc f args.toArray).run P w = .ok (.value v) w) : Ex P n F w0 L ⟨d, .call { callee := .value x, args := xs.toArray, argTypes := ts }, t, p, af, g⟩ v := fun A w ha _ => by
  have e1 : xs.toArray.map A.eval = args.toArray := by rw [← evals_of ha hargs]; simp
  simp [execOp, resolve, ha.ev hf, Deferred.ofValue, e1, invoke, hc]
theorem run_Add64 {f : FuncId} {fn : Func} (hf : P.funcs[f]? = some fn) (hname : (fn.name == "runtime.NumGoroutine") = false) (hb : fn.body.isNone = true) (hn : Extern.findNext fn = none) (he : Extern.find fn = some add64Entry) (x y c : Nat) (hc : c ≤ 1) (w : World) :
    (callFunc f #[.int .u64 x, .int .u64 y, .int .u64 c]).run P w = .ok (.value (.tuple #[.int .u64 (((x + y + c) % 18446744073709551616 : Nat) : Int), .int .u64 (((x + y + c) / 18446744073709551616 : Nat) : Int)])) w := by
  rw [run_callFunc_extern hf hname hb hn he, run_add64 x y c (by omega) (by omega) (by omega) (by omega)]
  simp only [Result.andThen]
  congr 5 <;> omega
end

/-- What stands in one's own new block is new. -/
theorem Own.fresh {W w : World} {L : List As} (h : Own ⟨W, none⟩ w L) {i b : Nat} {T : TypeId} {cs : List Value} (hi : L[i]? = some (blk b T cs)) : W.heap.size ≤ b := by
  rcases (h.2.1 _ (List.mem_of_getElem? hi) b rfl).1 with h1 | h1
  · exact h1
  · cases h1

end Go.Proofs.YtpkoldfmbebmgaaGreatDoor
