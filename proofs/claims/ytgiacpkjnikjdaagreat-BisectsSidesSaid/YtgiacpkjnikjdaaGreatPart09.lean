import Derived.Laws.Externs
import Derived.Test.YtgiacpkjnikjdaaGreatPart03
import Derived.Test.YtgiacpkjnikjdaaGreatPart06
import Derived.Test.YtgiacpkjnikjdaaGreatPart08
namespace Go.Proofs.YtgiacpkjnikjdaaGreat
open Go Go.RowKit
set_option linter.unusedVariables false
set_option linter.unusedSimpArgs false
section
theorem modN_u64 {a : Nat} : IntKind.u64.wrap (a : Int) = ((a % 18446744073709551616 : Nat) : Int) := by
  simp only [IntKind.wrap, IntKind.bits, IntKind.signed]; simp
theorem mulM_u64 {a b : Nat} : IntKind.u64.wrap ((a : Int) * (b : Int)) = ((a * b % 18446744073709551616 : Nat) : Int) := by
  rw [← Int.natCast_mul]; exact modN_u64
theorem addM_u32 {a b : Nat} : IntKind.u32.wrap ((a : Int) + (b : Int)) = (((a + b) % 4294967296 : Nat) : Int) := by
  rw [← Int.natCast_add]; exact modN_u32
theorem subM_u32 {a b : Nat} (h : b ≤ 4294967296) : IntKind.u32.wrap ((a : Int) - (b : Int)) = (((a + (4294967296 - b)) % 4294967296 : Nat) : Int) := by
  simp only [IntKind.wrap, IntKind.bits, IntKind.signed]; simp; omega
theorem toNat_u64 {a : Nat} (h : a < 18446744073709551616) : (BitVec.ofInt IntKind.u64.bits (a : Int)).toNat = a := by
  show (BitVec.ofInt 64 (a : Int)).toNat = _
  rw [BitVec.ofInt_natCast, BitVec.toNat_ofNat, Nat.mod_eq_of_lt (by omega)]
theorem toNat_u32 {a : Nat} (h : a < 4294967296) : (BitVec.ofInt IntKind.u32.bits (a : Int)).toNat = a := by
  show (BitVec.ofInt 32 (a : Int)).toNat = _
  rw [BitVec.ofInt_natCast, BitVec.toNat_ofNat, Nat.mod_eq_of_lt (by omega)]
theorem andN_u64 {a b : Nat} (ha : a < 18446744073709551616) (hb : b < 18446744073709551616) : IntKind.u64.wrap ((BitVec.ofInt IntKind.u64.bits (a : Int) &&& BitVec.ofInt IntKind.u64.bits (b : Int)).toNat : Int) = ((a &&& b : Nat) : Int) := by
  rw [BitVec.toNat_and, toNat_u64 ha, toNat_u64 hb]
  have : a &&& b ≤ a := Nat.and_le_left
  exact wrap_u64 (by omega) (by omega)
theorem maskN_u64 {a : Nat} (ha : a < 18446744073709551616) : IntKind.u64.wrap ((BitVec.ofInt IntKind.u64.bits (a : Int) &&& BitVec.ofInt IntKind.u64.bits ((4294967295 : Nat) : Int)).toNat : Int) = ((a % 4294967296 : Nat) : Int) := by
  rw [andN_u64 ha (by omega), show (4294967295 : Nat) = 2 ^ 32 - 1 from rfl, Nat.and_two_pow_sub_one_eq_mod]
theorem andN_u32 {a b : Nat} (ha : a < 4294967296) (hb : b < 4294967296) : IntKind.u32.wrap ((BitVec.ofInt IntKind.u32.bits (a : Int) &&& BitVec.ofInt IntKind.u32.bits (b : Int)).toNat : Int) = ((a &&& b : Nat) : Int) := by
  rw [BitVec.toNat_and, toNat_u32 ha, toNat_u32 hb]
  have : a &&& b ≤ a := Nat.and_le_left
  exact wrap_u32 (by omega) (by omega)
theorem xorN_u32 {a b : Nat} (ha : a < 4294967296) (hb : b < 4294967296) : IntKind.u32.wrap ((BitVec.ofInt IntKind.u32.bits (a : Int) ^^^ BitVec.ofInt IntKind.u32.bits (b : Int)).toNat : Int) = ((a ^^^ b : Nat) : Int) := by
  rw [BitVec.toNat_xor, toNat_u32 ha, toNat_u32 hb]
  have : a ^^^ b < 2 ^ 32 := Nat.xor_lt_two_pow ha hb
  exact wrap_u32 (by omega) (by omega)
theorem comN_u32 {a : Nat} (ha : a < 4294967296) : IntKind.u32.wrap ((BitVec.ofInt IntKind.u32.bits (if IntKind.u32.signed then -1 else IntKind.u32.max) ^^^ BitVec.ofInt IntKind.u32.bits (a : Int)).toNat : Int) = ((4294967295 ^^^ a : Nat) : Int) := by
  rw [show (if IntKind.u32.signed then -1 else IntKind.u32.max) = ((4294967295 : Nat) : Int) from rfl]
  exact xorN_u32 (by omega) ha
def bor (x y : Nat) : Nat := if x < y then 1 else 0
theorem top32 {r : Nat} (h : r < 4294967296) : r / 2147483648 = if r.testBit 31 then 1 else 0 := by
  have e : r.testBit 31 = decide (r / 2147483648 % 2 = 1) := Nat.testBit_eq_decide_div_mod_eq ..
  rw [e]
  by_cases h1 : r / 2147483648 % 2 = 1
  · rw [if_pos (by simpa using h1)]; omega
  · rw [if_neg (by simpa using h1)]; omega
theorem bit31 {x : Nat} (h : x < 4294967296) : x.testBit 31 = decide (2147483648 ≤ x) := by
  rw [Nat.testBit_eq_decide_div_mod_eq]
  exact decide_eq_decide.2 (by omega)
theorem borrow32 {x y c : Nat} (hx : x < 4294967296) (hy : y < 4294967296) (hc : c ≤ 1) {d : Nat} (hd : d = (x + (4294967296 - y) + (4294967296 - c)) % 4294967296) :
    ((4294967295 ^^^ x) &&& y ||| (4294967295 ^^^ (x ^^^ y)) &&& d) / 2147483648 = bor x (y + c) := by
  have hd' : d < 4294967296 := by omega
  have h1 : ((4294967295 ^^^ x) &&& y ||| (4294967295 ^^^ (x ^^^ y)) &&& d) < 2 ^ 32 := by
    refine Nat.or_lt_two_pow ?_ ?_
    · exact Nat.lt_of_le_of_lt Nat.and_le_right hy
    · exact Nat.lt_of_le_of_lt Nat.and_le_right hd'
  rw [top32 (by omega)]
  simp only [Nat.testBit_or, Nat.testBit_and, Nat.testBit_xor, bit31 hx, bit31 hy, bit31 hd', bit31 (show 4294967295 < 4294967296 by omega)]
  unfold bor
  by_cases h2 : 2147483648 ≤ x <;> by_cases h3 : 2147483648 ≤ y <;> by_cases h4 : 2147483648 ≤ d <;> simp [h2, h3, h4] <;> omega
theorem mul64_hi (x y : Nat) : x / 4294967296 * (y / 4294967296) + (x / 4294967296 * (y % 4294967296) + x % 4294967296 * (y % 4294967296) / 4294967296) / 4294967296 + ((x / 4294967296 * (y % 4294967296) + x % 4294967296 * (y % 4294967296) / 4294967296) % 4294967296 + x % 4294967296 * (y / 4294967296)) / 4294967296 = x * y / 18446744073709551616 := by
  have e : x * y = x % 4294967296 * (y % 4294967296) + 4294967296 * (x / 4294967296 * (y % 4294967296) + x % 4294967296 * (y / 4294967296)) + 18446744073709551616 * (x / 4294967296 * (y / 4294967296)) := by
    have hx : x = x % 4294967296 + 4294967296 * (x / 4294967296) := by omega
    have hy : y = y % 4294967296 + 4294967296 * (y / 4294967296) := by omega
    generalize x % 4294967296 = a at *
    generalize x / 4294967296 = b at *
    generalize y % 4294967296 = c at *
    generalize y / 4294967296 = d at *
    subst hx; subst hy
    grind
  rw [e]
  generalize x % 4294967296 * (y % 4294967296) = p
  generalize x / 4294967296 * (y % 4294967296) = q
  generalize x % 4294967296 * (y / 4294967296) = r
  generalize x / 4294967296 * (y / 4294967296) = t
  omega
theorem mul_w {a b : Nat} (ha : a < 4294967296) (hb : b < 4294967296) : a * b ≤ 18446744065119617025 := Nat.mul_le_mul (show a ≤ 4294967295 by omega) (show b ≤ 4294967295 by omega)
def bl (x : Nat) : Nat := if x = 0 then 0 else Nat.log2 x + 1
theorem log2_shift {x k : Nat} (h : 2 ^ k ≤ x) : Nat.log2 x = Nat.log2 (x / 2 ^ k) + k := by
  have hx : x ≠ 0 := by have := Nat.pow_pos (n := k) (show 0 < 2 by omega); omega
  have hq : x / 2 ^ k ≠ 0 := by
    have := Nat.div_pos h (Nat.pow_pos (n := k) (show 0 < 2 by omega)); omega
  have h1 := (Nat.log2_eq_iff hq).1 rfl
  rw [Nat.log2_eq_iff hx]
  have hm := Nat.div_add_mod x (2 ^ k)
  have hlt := Nat.mod_lt x (Nat.pow_pos (n := k) (show 0 < 2 by omega))
  constructor
  · rw [Nat.pow_add, Nat.mul_comm]
    exact Nat.le_trans (Nat.mul_le_mul_left _ h1.1) (Nat.mul_div_le x _)
  · rw [show (x / 2 ^ k).log2 + k + 1 = ((x / 2 ^ k).log2 + 1) + k by omega, Nat.pow_add]
    exact (Nat.div_lt_iff_lt_mul (Nat.pow_pos (by omega))).1 h1.2
theorem bl_shift {x k : Nat} (h : 2 ^ k ≤ x) : bl x = bl (x / 2 ^ k) + k := by
  have hx : x ≠ 0 := by have := Nat.pow_pos (n := k) (show 0 < 2 by omega); omega
  have hq : x / 2 ^ k ≠ 0 := by
    have := Nat.div_pos h (Nat.pow_pos (n := k) (show 0 < 2 by omega)); omega
  simp only [bl, hx, hq, if_false, log2_shift h]
  omega
theorem bl_le {x k : Nat} (h : x < 2 ^ k) : bl x ≤ k := by
  unfold bl
  split
  · omega
  · rename_i hx
    have := (Nat.log2_lt hx).2 h
    omega
theorem lz_bounds {y : Nat} (h0 : 0 < y) (h : y < 4294967296) : bl y ≤ 32 ∧ 0 < bl y ∧ 2147483648 ≤ y * 2 ^ (32 - bl y) ∧ y * 2 ^ (32 - bl y) < 4294967296 := by
  have hy : y ≠ 0 := by omega
  have h1 := (Nat.log2_eq_iff hy).1 rfl
  have h2 := bl_le (k := 32) (show y < 2 ^ 32 by omega)
  have hb : bl y = y.log2 + 1 := by simp [bl, hy]
  refine ⟨h2, by omega, ?_, ?_⟩
  · rw [hb] at h2 ⊢
    calc 2147483648 = 2 ^ y.log2 * 2 ^ (32 - (y.log2 + 1)) := by rw [← Nat.pow_add, show y.log2 + (32 - (y.log2 + 1)) = 31 by omega]
      _ ≤ _ := Nat.mul_le_mul_right _ h1.1
  · rw [hb] at h2 ⊢
    calc y * 2 ^ (32 - (y.log2 + 1)) < 2 ^ (y.log2 + 1) * 2 ^ (32 - (y.log2 + 1)) := Nat.mul_lt_mul_of_pos_right h1.2 (Nat.pow_pos (by omega))
      _ = 4294967296 := by rw [← Nat.pow_add, show y.log2 + 1 + (32 - (y.log2 + 1)) = 32 by omega]
theorem tab_ok {s : ByteArray} (h : ((List.range 256).all fun j => s[j]? == some (UInt8.ofNat (bl j))) = true) {j : Nat} (hj : j < 256) : s[j]? = some (UInt8.ofNat (bl j)) := by
  simpa using List.all_eq_true.1 h j (List.mem_range.2 hj)
theorem bl_256 {x : Nat} (h : 256 ≤ x) : bl x = bl (x / 256) + 8 := bl_shift (k := 8) h
theorem sign_law (z : Int) : (if (if z < 1 then z else 1) > -1 then (if z < 1 then z else 1) else -1) = z.sign := by
  rcases Int.lt_trichotomy z 0 with h | h | h
  · rw [Int.sign_eq_neg_one_of_neg h, if_pos (show z < 1 by omega)]; split <;> omega
  · subst h; rfl
  · rw [Int.sign_eq_one_of_pos h, if_neg (show ¬ z < 1 by omega)]; rfl
section
variable {P : Program} {n : Nat} {F : List (Nat × Value)} {w0 : Base} {L : List As} {x y : Operand} {d : Option Tmp} {t : TypeId} {p : String} {af : Array Edge} {g : Option (Nat × Bool)}
theorem ex_index_str {s : ByteArray} {k : IntKind} {j m : Nat} {tx : TypeId} (hx : evF F x = some (.string s)) (hy : evF F y = some (.int k ((j : Nat) : Int))) (hu : P.underlying tx = some .string) (hb : s[j]? = some (UInt8.ofNat m)) (hm : m < 256) : Ex P n F w0 L ⟨d, .index tx x y, t, p, af, g⟩ (.int .u8 ((m : Nat) : Int)) := by
  have h := ex_index_string (P := P) (n := n) (F := F) (w0 := w0) (L := L) (d := d) (t := t) (p := p) (af := af) (g := g) hx hy hu rfl hb
  have e : (UInt8.ofNat m).toNat = m := by simp; omega
  rwa [e] at h
theorem ex_extern {f : FuncId} {xs : List Operand} {args : List Value} {ts : Array TypeId} {v : Value} (hf : evF F x = some (.func (.func f) #[] #[])) (hargs : xs.map (evF F) = args.map some)
    (hc : ∀ w, (callFunc f args.toArray).run P w = .ok (.value v) w) : Ex P n F w0 L ⟨d, .call { callee := .value x, args := xs.toArray, argTypes := ts }, t, p, af, g⟩ v := fun A w ha _ => by
  have e1 : xs.toArray.map A.eval = args.toArray := by rw [← evals_of ha hargs]; simp
  simp [execOp, resolve, ha.ev hf, Deferred.ofValue, e1, invoke, hc]
theorem run_Add64 {f : FuncId} {fn : Func} (hf : P.funcs[f]? = some fn) (hname : (fn.name == "runtime.NumGoroutine") = false) (hb : fn.body.isNone = true) (hn : Extern.findNext fn = none) (he : Extern.find fn = some add64Entry) (x y c : Nat) (hc : c ≤ 1) (w : World) :
    (callFunc f #[.int .u64 x, .int .u64 y, .int .u64 c]).run P w = .ok (.value (.tuple #[.int .u64 (((x + y + c) % 18446744073709551616 : Nat) : Int), .int .u64 (((x + y + c) / 18446744073709551616 : Nat) : Int)])) w := by
  rw [run_callFunc_extern hf hname hb hn he, run_add64 x y c (by omega) (by omega) (by omega) (by omega)]
  simp only [Result.andThen]
  congr 5 <;> omega
end
theorem Own.fresh {W w : World} {L : List As} (h : Own ⟨W, none⟩ w L) {i b : Nat} {T : TypeId} {cs : List Value} (hi : L[i]? = some (blk b T cs)) : W.heap.size ≤ b := by
  rcases (h.2.1 _ (List.mem_of_getElem? hi) b rfl).1 with h1 | h1 | h1
  · cases h1
  · exact h1
  · cases h1
end
section
set_option maxRecDepth 100000
theorem tO2 : OneT Tryz.prog 2 := ⟨Tryz.isAgg2⟩
theorem tO3 : OneT Tryz.prog 3 := ⟨Tryz.isAgg3⟩
theorem tO4 : OneT Tryz.prog 4 := ⟨Tryz.isAgg4⟩
theorem tO5 : OneT Tryz.prog 5 := ⟨Tryz.isAgg5⟩
theorem tO9 : OneT Tryz.prog 9 := ⟨Tryz.isAgg9⟩
theorem tO22 : OneT Tryz.prog 22 := ⟨Tryz.isAgg22⟩
theorem tO23 : OneT Tryz.prog 23 := ⟨Tryz.isAgg23⟩
theorem tA26 : AggT Tryz.prog 26 9 := ⟨Tryz.isAgg26, Tryz.sizeOf26⟩
theorem tO27 : OneT Tryz.prog 27 := ⟨Tryz.isAgg27⟩
theorem tO28 : OneT Tryz.prog 28 := ⟨Tryz.isAgg28⟩
theorem tO29 : OneT Tryz.prog 29 := ⟨Tryz.isAgg29⟩
theorem tA31 : AggT Tryz.prog 31 3 := ⟨Tryz.isAgg31, Tryz.sizeOf31⟩
theorem tO34 : OneT Tryz.prog 34 := ⟨Tryz.isAgg34⟩
theorem tA44 : AggT Tryz.prog 44 4 := ⟨Tryz.isAgg44, Tryz.sizeOf44⟩
theorem tA45 : AggT Tryz.prog 45 3 := ⟨Tryz.isAgg45, Tryz.sizeOf45⟩
theorem tA66 : AggT Tryz.prog 66 3 := ⟨Tryz.isAgg66, Tryz.sizeOf66⟩
theorem tO73 : OneT Tryz.prog 73 := ⟨Tryz.isAgg73⟩
theorem tA75 : AggT Tryz.prog 75 2 := ⟨Tryz.isAgg75, Tryz.sizeOf75⟩
theorem tA77 : AggT Tryz.prog 77 2 := ⟨Tryz.isAgg77, Tryz.sizeOf77⟩
theorem tA79 : AggT Tryz.prog 79 3 := ⟨Tryz.isAgg79, Tryz.sizeOf79⟩
theorem tA81 : AggT Tryz.prog 81 5 := ⟨Tryz.isAgg81, Tryz.sizeOf81⟩
theorem tA83 : AggT Tryz.prog 83 10 := ⟨Tryz.isAgg83, Tryz.sizeOf83⟩
theorem tO101 : OneT Tryz.prog 101 := ⟨Tryz.isAgg101⟩
theorem tA103 : AggT Tryz.prog 103 3 := ⟨Tryz.isAgg103, Tryz.sizeOf103⟩
theorem tO105 : OneT Tryz.prog 105 := ⟨Tryz.isAgg105⟩
theorem tA108 : AggT Tryz.prog 108 2 := ⟨Tryz.isAgg108, Tryz.sizeOf108⟩
theorem tA110 : AggT Tryz.prog 110 4 := ⟨Tryz.isAgg110, Tryz.sizeOf110⟩
theorem tO116 : OneT Tryz.prog 116 := ⟨Tryz.isAgg116⟩
theorem tA118 : AggT Tryz.prog 118 2 := ⟨Tryz.isAgg118, Tryz.sizeOf118⟩
theorem tA119 : AggT Tryz.prog 119 2 := ⟨Tryz.isAgg119, Tryz.sizeOf119⟩
theorem tO120 : OneT Tryz.prog 120 := ⟨Tryz.isAgg120⟩
theorem tA230 : AggT Tryz.prog 230 2 := ⟨Tryz.isAgg230, Tryz.sizeOf230⟩
theorem tZ28 : ZeroT Tryz.prog 28 ([(Value.slice none 0 0)]) := ⟨_, Tryz.zeroValue28, rfl⟩
theorem tZ31 : ZeroT Tryz.prog 31 ([(Value.slice none 0 0), (Value.slice none 0 0), (Value.slice none 0 0)]) := ⟨_, Tryz.zeroValue31, rfl⟩
theorem tZ34 : ZeroT Tryz.prog 34 ([(Value.slice none 0 0)]) := ⟨_, Tryz.zeroValue34, rfl⟩
theorem tZ44 : ZeroT Tryz.prog 44 ([(vI 0), (vI 0), (vI 0), (vI 0)]) := ⟨_, Tryz.zeroValue44, rfl⟩
theorem tZ45 : ZeroT Tryz.prog 45 ([(vI 0), (vI 0), (vI 0)]) := ⟨_, Tryz.zeroValue45, rfl⟩
theorem tZ66 : ZeroT Tryz.prog 66 ([(vI 0), (vI 0), (vI 0)]) := ⟨_, Tryz.zeroValue66, rfl⟩
theorem tZ75 : ZeroT Tryz.prog 75 (natL 0) := ⟨_, Tryz.zeroValue75, rfl⟩
theorem tZ77 : ZeroT Tryz.prog 77 (natL 0) := ⟨_, Tryz.zeroValue77, rfl⟩
theorem tZ79 : ZeroT Tryz.prog 79 (intL 0) := ⟨_, Tryz.zeroValue79, rfl⟩
theorem tZ81 : ZeroT Tryz.prog 81 (fracL (0 : Rat)) := ⟨_, Tryz.zeroValue81, rfl⟩
theorem tZ83 : ZeroT Tryz.prog 83 (ptL (⟨0, 0⟩ : Pt)) := ⟨_, Tryz.zeroValue83, rfl⟩
theorem tZ103 : ZeroT Tryz.prog 103 ([(Value.slice none 0 0), (Value.slice none 0 0), (Value.slice none 0 0)]) := ⟨_, Tryz.zeroValue103, rfl⟩
theorem tZ106 : ZeroT Tryz.prog 106 ([(vI 0), (vI 0)]) := ⟨_, Tryz.zeroValue106, rfl⟩
theorem tZ110 : ZeroT Tryz.prog 110 ([(vI 0), (Value.int .u32 (0 : Int)), (vI 0), (Value.int .u32 (0 : Int))]) := ⟨_, Tryz.zeroValue110, rfl⟩
theorem tZ116 : ZeroT Tryz.prog 116 ([(Value.map none)]) := ⟨_, Tryz.zeroValue116, rfl⟩
theorem tZ118 : ZeroT Tryz.prog 118 ([(vI 0), (vI 0)]) := ⟨_, Tryz.zeroValue118, rfl⟩
theorem tZ119 : ZeroT Tryz.prog 119 ([(vI 0), (vI 0)]) := ⟨_, Tryz.zeroValue119, rfl⟩
theorem tZ120 : ZeroT Tryz.prog 120 ([Value.nilFunc]) := ⟨_, Tryz.zeroValue120, rfl⟩
theorem tZ172 : ZeroT Tryz.prog 172 ([(vI 0), (vI 0)]) := ⟨_, Tryz.zeroValue172, rfl⟩
theorem tZ230 : ZeroT Tryz.prog 230 ([(vI 0), (vI 0)]) := ⟨_, Tryz.zeroValue230, rfl⟩
theorem tZ238 : ZeroT Tryz.prog 238 ([(vI 0), (vI 0), (vI 0), (vI 0)]) := ⟨_, Tryz.zeroValue238, rfl⟩
end
section
set_option maxRecDepth 100000
theorem cut_ok (b m c : Nat) (bs : List Nat) (hbs : W32 bs) (hm : m ≤ bs.length) (hc : m ≤ c) (hL : c < 4611686018427387904) (w : World) (hb : w.heap[b]? = some (.cells (u32s bs).toArray 105 (0, 0))) : Calls Tryz.prog 180 #[(Value.slice (some ⟨b, 0, none⟩) m c)] w (Gives w (Value.slice (some ⟨b, 0, none⟩) (cutN bs m) c)) := by
 refine calls_of (args := [(Value.slice (some ⟨b, 0, none⟩) m c)]) Tryz.func180 rfl rfl (leB rfl) (OkC.subF (sL [0] rfl) (q4 (asg' rfl (OkL.nil (q1 ?_)))))
 refine OkC.block ?_
 refine OkC.lp1 (tg fun (k : Nat) => k ≤ m ∧ cutN bs k = cutN bs m) (tg fun (k : Nat) => [(2, (Value.slice none 0 0)), (0, (Value.slice (some ⟨b, 0, none⟩) k c))]) (tg fun (k : Nat) => []) (tg fun (k : Nat) => k) m (⟨Nat.le_refl _, rfl⟩) (sF rfl) sr (fun k hJ => ?_)
 obtain ⟨hk, hv⟩ := hJ
 refine OkC.seq (q4 (mv' rfl (st' (v := (vN k)) (ex_len_slice rfl Tryz.underlying226) rfl (st' (ex_gtr (c := (decide (0 < k))) rfl rfl (ltN (a := 0) (b := k))) rfl (mv' rfl ?_)))))
 refine OkL.mid (FM := [(2, (Value.slice none 0 0)), (0, (Value.slice (some ⟨b, 0, none⟩) k c)), (3, (Value.slice (some ⟨b, 0, none⟩) k c)), (4, (vN k)), (5, (Value.bool (decide (0 < k)))), (6, (Value.bool (decide (0 < k)))), (14, (Value.bool ((decide (0 < k)) && (decide ((bs.getD (k - 1) 0) = 0)))))]) (LM := []) 8 ?_ ?_
 ·rcases Bool.eq_false_or_eq_true (decide (0 < k)) with hg1 | hg1
  ·skip
   refine OkL.retell (k := 6) (u := Value.bool true) rfl (by rw [hg1]) ?_
   have hg1' := hg1
   replace hg1' := of_decide_eq_true hg1'
   refine OkL.step (v := (Value.slice (some ⟨b, 0, none⟩) k c)) (wt_some' rfl) (ex_move rfl) rfl (leB rfl) (OkL.step (v := (Value.slice (some ⟨b, 0, none⟩) k c)) (wt_some' rfl) (ex_move rfl) rfl (leB rfl) (OkL.step (v := (vN k)) (wt_some' rfl) (ex_len_slice rfl Tryz.underlying226) rfl (leB rfl) (OkL.step (v := (vN (k - 1))) (wt_some' rfl) (ex_sub (c := ((k - 1 : Nat) : Int)) rfl rfl (subN_i64 (a := k) (b := 1) (by omega) (by omega))) rfl (leB rfl) (OkL.step (v := (pP b (k - 1))) (wt_some' rfl) (ex_indexAddr_slice (j := k - 1) rfl rfl Tryz.underlying226 Tryz.sizeOf105 rfl (by omega) (by simp)) rfl (leB rfl) ?_))))
   have hx1 : bs.getD (k - 1) 0 < 4294967296 := W32.getD hbs (k - 1)
   exact OkL.step (v := (vK .u32 (bs.getD (k - 1) 0))) (wt_some' rfl) (ex_load_one_at (v := (vK .u32 (bs.getD (k - 1) 0))) rfl (fun w' hw => CA.at0 (hw.oldCA (by simp) (ca_blk hb)) (u32s_get (xs := bs) (j := (k - 1)) (by omega))) Tryz.isAgg105) rfl (leB rfl) (OkL.step (v := (Value.bool (decide ((bs.getD (k - 1) 0) = 0)))) (wt_some' rfl) (ex_eql (c := (decide ((bs.getD (k - 1) 0) = 0))) rfl rfl (eqN (a := bs.getD (k - 1) 0) (b := 0))) rfl (leB rfl) (st' (v := (Value.bool (decide ((bs.getD (k - 1) 0) = 0)))) (ex_pick_true rfl rfl) rfl (OkL.nil (OkQ.mid (sS rfl (sS rfl (sS rfl (sS rfl (sS rfl (sS (by first | rfl | (rw [hg1]; rfl) | rw [hg1]) (sS (by first | rfl | (rw [hg1]; rfl) | rw [hg1]) (sN)))))))) (List.Sublist.refl _)))))
  ·skip
   refine OkL.retell (k := 6) (u := Value.bool false) rfl (by rw [hg1]) ?_
   have hg1' := hg1
   replace hg1' := of_decide_eq_false hg1'
   refine OkL.skip (wt_not' rfl) rfl (leB rfl) (OkL.skip (wt_not' rfl) rfl (leB rfl) (OkL.skip (wt_not' rfl) rfl (leB rfl) (OkL.skip (wt_not' rfl) rfl (leB rfl) (OkL.skip (wt_not' rfl) rfl (leB rfl) (OkL.skip (wt_not' rfl) rfl (leB rfl) ?_)))))
   exact OkL.skip (wt_not' rfl) rfl (leB rfl) (st' (v := (Value.bool false)) (ex_pick_false rfl rfl) rfl (OkL.nil (OkQ.mid (sS rfl (sS rfl (sS rfl (sS rfl (sS rfl (sS (by first | rfl | (rw [hg1]; rfl) | rw [hg1]) (sS (by first | rfl | (rw [hg1]; rfl) | rw [hg1]) (sN)))))))) (List.Sublist.refl _))))
 refine OkL.nil (OkQ.subF (sL [2, 0, 14] rfl) (OkQ.then_ ?_))
 refine OkC.cond rfl (fun hc0 => ?_) (fun hc0 => ?_)
 ·simp only [Bool.and_eq_true, Bool.or_eq_true, Bool.and_eq_false_iff, Bool.or_eq_false_iff, Bool.not_eq_true', Bool.not_eq_false', decide_eq_true_eq, decide_eq_false_iff_not] at hc0
  refine OkC.skip (OkQ.then_ (OkC.block (OkC.region (mv' rfl (mv' rfl ?_)))))
  refine st' (v := (vN k)) (ex_len_slice rfl Tryz.underlying226) rfl (st' (ex_sub (c := ((k - 1 : Nat) : Int)) rfl rfl (subN_i64 (a := k) (b := 1) (by omega) (by omega))) rfl (st' (v := (Value.slice (some ⟨b, 0, none⟩) (k - 1) c)) (ex_slice_hi (m := k - 1) rfl rfl Tryz.underlying226 Tryz.sizeOf105 (by omega)) rfl (asg' rfl (OkL.nil (OkQ.subF (sL [2, 0] rfl) ?_)))))
  exact OkQ.in_normal (OkQ.round1 (k - 1) (⟨by omega, by rw [← cutN_step hc0.1 hc0.2]; exact hv⟩) (by omega) (sF rfl) sr)
 ·simp only [Bool.and_eq_true, Bool.or_eq_true, Bool.and_eq_false_iff, Bool.or_eq_false_iff, Bool.not_eq_true', Bool.not_eq_false', decide_eq_true_eq, decide_eq_false_iff_not] at hc0
  have hstop : cutN bs k = k := cutN_stop (by omega)
  refine OkC.exit (OkQ.then_exit (OkQ.round1_exit (OkQ.in_exit (q2 (mv' rfl ?_)))))
  exact asg' rfl (OkL.nil (OkQ.subF (sL [2, 0] rfl) (OkQ.then_ (OkC.ret (ret_one rfl (rd_tmp (v := (Value.slice (some ⟨b, 0, none⟩) k c)) rfl) (fun w hw => ⟨by rw [← hv, hstop], hw.out⟩))))))
theorem add32_ok (x y c : Nat) (hx : x < 4294967296) (hy : y < 4294967296) (hc : c ≤ 1) (w : World)  : Calls Tryz.prog 182 #[(vK .u32 x), (vK .u32 y), (vK .u32 c)] w (Gives w (Value.tuple #[(vK .u32 ((x + y + c) % 4294967296)), (vK .u32 ((x + y + c) / 4294967296))])) := by
 refine calls_of (args := [(vK .u32 x), (vK .u32 y), (vK .u32 c)]) Tryz.func182 rfl rfl (leB rfl) (OkC.subF (sL [0, 1, 2] rfl) (q4 (asg' rfl (asg' rfl (OkL.nil ?_)))))
 refine q2 (mv' rfl (st' (ex_conv (c := ((x : Nat) : Int)) rfl Tryz.underlying105 Tryz.underlying73 (convN_u64 (by omega))) rfl (mv' rfl (st' (ex_conv (c := ((y : Nat) : Int)) rfl Tryz.underlying105 Tryz.underlying73 (convN_u64 (by omega))) rfl (st' (ex_add (c := ((x + y : Nat) : Int)) rfl rfl (addN_u64 (a := x) (b := y) (by omega))) rfl ?_)))))
 refine mv' rfl (st' (ex_conv (c := ((c : Nat) : Int)) rfl Tryz.underlying105 Tryz.underlying73 (convN_u64 (by omega))) rfl (st' (ex_add (c := (((x + y) + c : Nat) : Int)) rfl rfl (addN_u64 (a := x + y) (b := c) (by omega))) rfl (asg' rfl (q3 (sL [6, 7, 8] rfl) (mv' rfl ?_)))))
 refine st' (ex_conv (c := ((((x + y) + c) % 4294967296 : Nat) : Int)) rfl Tryz.underlying73 Tryz.underlying105 modN_u32) rfl (asg' rfl (q3 (sL [6, 7, 8] rfl) (mv' rfl (st' (ex_shr (s := 32) (c := ((((x + y) + c) / 4294967296 : Nat) : Int)) rfl rfl rfl (by decide) (shrN (a := (x + y) + c) (s := 32))) rfl (st' (ex_conv (c := ((((x + y) + c) / 4294967296 : Nat) : Int)) rfl Tryz.underlying73 Tryz.underlying105 (convN_u32 (by omega))) rfl ?_)))))
 exact asg' rfl (OkL.nil (OkQ.subF (sL [6, 7, 8] rfl) (OkQ.then_ (OkC.ret (ret_two rfl (rd_tmp (v := (vK .u32 (((x + y) + c) % 4294967296))) rfl) (rd_tmp (v := (vK .u32 (((x + y) + c) / 4294967296))) rfl) (fun w hw => ⟨rfl, hw.out⟩))))))
theorem sub32_ok (x y c d : Nat) (hx : x < 4294967296) (hy : y < 4294967296) (hc : c ≤ 1) (hd : d = (x + (4294967296 - y) + (4294967296 - c)) % 4294967296) (w : World)  : Calls Tryz.prog 178 #[(vK .u32 x), (vK .u32 y), (vK .u32 c)] w (Gives w (Value.tuple #[(vK .u32 d), (vK .u32 (bor x (y + c)))])) := by
 have hd2 : d < 4294967296 := by omega
 have hb := borrow32 hx hy hc hd
 have hx1 : 4294967295 ^^^ x < 4294967296 := Nat.xor_lt_two_pow (n := 32) (by omega) hx
 have hx2 : x ^^^ y < 4294967296 := Nat.xor_lt_two_pow (n := 32) hx hy
 have hx3 : 4294967295 ^^^ (x ^^^ y) < 4294967296 := Nat.xor_lt_two_pow (n := 32) (by omega) hx2
 have hx4 : (4294967295 ^^^ x) &&& y < 4294967296 := Nat.lt_of_le_of_lt Nat.and_le_right hy
 have hx5 : (4294967295 ^^^ (x ^^^ y)) &&& d < 4294967296 := Nat.lt_of_le_of_lt Nat.and_le_right hd2
 refine calls_of (args := [(vK .u32 x), (vK .u32 y), (vK .u32 c)]) Tryz.func178 rfl rfl (leB rfl) (OkC.subF (sL [0, 1, 2] rfl) (q4 (asg' rfl (asg' rfl (OkL.nil ?_)))))
 refine q2 (mv' rfl (mv' rfl (st' (ex_sub (c := (((x + (4294967296 - y)) % 4294967296 : Nat) : Int)) rfl rfl (subM_u32 (by omega))) rfl (mv' rfl (st' (ex_sub (c := ((d : Nat) : Int)) rfl rfl (by rw [subM_u32 (by omega), hd]; exact congrArg Int.ofNat (by omega))) rfl ?_)))))
 refine asg' rfl (q3 (sL [0, 1, 6, 7] rfl) (mv' rfl (st' (ex_com (c := ((4294967295 ^^^ x : Nat) : Int)) rfl (comN_u32 hx)) rfl (mv' rfl (st' (ex_and (c := (((4294967295 ^^^ x) &&& y : Nat) : Int)) rfl rfl (andN_u32 hx1 hy)) rfl ?_)))))
 refine mv' rfl (mv' rfl (st' (ex_xor (c := ((x ^^^ y : Nat) : Int)) rfl rfl (xorN_u32 hx hy)) rfl (st' (ex_com (c := ((4294967295 ^^^ (x ^^^ y) : Nat) : Int)) rfl (comN_u32 hx2)) rfl (mv' rfl (st' (ex_and (c := (((4294967295 ^^^ (x ^^^ y)) &&& d : Nat) : Int)) rfl rfl (andN_u32 hx3 hd2)) rfl ?_)))))
 refine st' (ex_or (c := (((4294967295 ^^^ x) &&& y ||| (4294967295 ^^^ (x ^^^ y)) &&& d : Nat) : Int)) rfl rfl (orN_u32 hx4 hx5 rfl)) rfl (st' (ex_shr (s := 31) (c := ((((4294967295 ^^^ x) &&& y ||| (4294967295 ^^^ (x ^^^ y)) &&& d) / 2147483648 : Nat) : Int)) rfl rfl rfl (by decide) (shrN (a := (4294967295 ^^^ x) &&& y ||| (4294967295 ^^^ (x ^^^ y)) &&& d) (s := 31))) rfl (asg' rfl (OkL.nil (OkQ.subF (sL [0, 1, 6, 7] rfl) (OkQ.then_ ?_)))))
 exact OkC.ret (ret_two rfl (rd_tmp (v := (vK .u32 d)) rfl) (rd_tmp (v := (vK .u32 (((4294967295 ^^^ x) &&& y ||| (4294967295 ^^^ (x ^^^ y)) &&& d) / 2147483648))) rfl) (fun w hw => ⟨by rw [← hb], hw.out⟩))
theorem mul64_ok (x y : Nat) (hx : x < 18446744073709551616) (hy : y < 18446744073709551616) (w : World)  : Calls Tryz.prog 142 #[(vK .u64 x), (vK .u64 y)] w (Gives w (Value.tuple #[(vK .u64 (x * y / 18446744073709551616)), (vK .u64 (x * y % 18446744073709551616))])) := by
 have h1 := mul_w (a := x % 4294967296) (b := y % 4294967296) (by omega) (by omega)
 have h2 := mul_w (a := x / 4294967296) (b := y % 4294967296) (by omega) (by omega)
 have h3 := mul_w (a := x % 4294967296) (b := y / 4294967296) (by omega) (by omega)
 have h4 := mul_w (a := x / 4294967296) (b := y / 4294967296) (by omega) (by omega)
 have hh := mul64_hi x y
 have hh2 : x * y / 18446744073709551616 < 18446744073709551616 := Nat.div_lt_of_lt_mul (Nat.mul_lt_mul'' hx hy)
 refine calls_of (args := [(vK .u64 x), (vK .u64 y)]) Tryz.func142 rfl rfl (leB rfl) (OkC.subF (sL [0, 1] rfl) (q4 (asg' rfl (asg' rfl (OkL.nil ?_)))))
 refine q2 (mv' rfl (st' (ex_and (c := ((x % 4294967296 : Nat) : Int)) rfl rfl (maskN_u64 (a := x) (by omega))) rfl (asg' rfl (q3 (sL [0, 1, 4, 5, 6] rfl) (mv' rfl ?_)))))
 refine st' (ex_shr (s := 32) (c := ((x / 4294967296 : Nat) : Int)) rfl rfl rfl (by decide) (shrN (a := x) (s := 32))) rfl (asg' rfl (q3 (sL [0, 1, 4, 5, 6, 7] rfl) (mv' rfl (st' (ex_and (c := ((y % 4294967296 : Nat) : Int)) rfl rfl (maskN_u64 (a := y) (by omega))) rfl (asg' rfl ?_)))))
 refine q3 (sL [0, 1, 4, 5, 6, 7, 8] rfl) (mv' rfl (st' (ex_shr (s := 32) (c := ((y / 4294967296 : Nat) : Int)) rfl rfl rfl (by decide) (shrN (a := y) (s := 32))) rfl (asg' rfl (q3 (sL [0, 1, 4, 5, 6, 7, 8, 9] rfl) (mv' rfl ?_)))))
 refine mv' rfl (st' (ex_mul (c := (((x % 4294967296) * (y % 4294967296) : Nat) : Int)) rfl rfl (mulN_u64 (a := x % 4294967296) (b := y % 4294967296) (by omega))) rfl (asg' rfl (q3 (sL [0, 1, 4, 5, 6, 7, 8, 9, 10] rfl) (mv' rfl (mv' rfl ?_)))))
 refine st' (ex_mul (c := (((x / 4294967296) * (y % 4294967296) : Nat) : Int)) rfl rfl (mulN_u64 (a := x / 4294967296) (b := y % 4294967296) (by omega))) rfl (mv' rfl (st' (ex_shr (s := 32) (c := ((((x % 4294967296) * (y % 4294967296)) / 4294967296 : Nat) : Int)) rfl rfl rfl (by decide) (shrN (a := (x % 4294967296) * (y % 4294967296)) (s := 32))) rfl (st' (ex_add (c := ((((x / 4294967296) * (y % 4294967296)) + (((x % 4294967296) * (y % 4294967296)) / 4294967296) : Nat) : Int)) rfl rfl (addN_u64 (a := (x / 4294967296) * (y % 4294967296)) (b := ((x % 4294967296) * (y % 4294967296)) / 4294967296) (by omega))) rfl (asg' rfl (q3 (sL [0, 1, 4, 5, 6, 7, 8, 9, 11] rfl) ?_)))))
 refine mv' rfl (st' (ex_and (c := (((((x / 4294967296) * (y % 4294967296)) + (((x % 4294967296) * (y % 4294967296)) / 4294967296)) % 4294967296 : Nat) : Int)) rfl rfl (maskN_u64 (a := ((x / 4294967296) * (y % 4294967296)) + (((x % 4294967296) * (y % 4294967296)) / 4294967296)) (by omega))) rfl (asg' rfl (q3 (sL [0, 1, 4, 5, 6, 7, 8, 9, 11, 12] rfl) (mv' rfl (st' (ex_shr (s := 32) (c := (((((x / 4294967296) * (y % 4294967296)) + (((x % 4294967296) * (y % 4294967296)) / 4294967296)) / 4294967296 : Nat) : Int)) rfl rfl rfl (by decide) (shrN (a := ((x / 4294967296) * (y % 4294967296)) + (((x % 4294967296) * (y % 4294967296)) / 4294967296)) (s := 32))) rfl ?_)))))
 refine asg' rfl (q3 (sL [0, 1, 4, 5, 6, 7, 8, 9, 11, 12, 13] rfl) (mv' rfl (mv' rfl (mv' rfl (st' (ex_mul (c := (((x % 4294967296) * (y / 4294967296) : Nat) : Int)) rfl rfl (mulN_u64 (a := x % 4294967296) (b := y / 4294967296) (by omega))) rfl ?_)))))
 refine st' (ex_add (c := ((((((x / 4294967296) * (y % 4294967296)) + (((x % 4294967296) * (y % 4294967296)) / 4294967296)) % 4294967296) + ((x % 4294967296) * (y / 4294967296)) : Nat) : Int)) rfl rfl (addN_u64 (a := (((x / 4294967296) * (y % 4294967296)) + (((x % 4294967296) * (y % 4294967296)) / 4294967296)) % 4294967296) (b := (x % 4294967296) * (y / 4294967296)) (by omega))) rfl (asg' rfl (q3 (sL [0, 1, 4, 5, 6, 7, 8, 9, 11, 12, 13] rfl) (mv' rfl (mv' rfl (st' (ex_mul (c := (((x / 4294967296) * (y / 4294967296) : Nat) : Int)) rfl rfl (mulN_u64 (a := x / 4294967296) (b := y / 4294967296) (by omega))) rfl ?_)))))
 refine mv' rfl (st' (ex_add (c := ((((x / 4294967296) * (y / 4294967296)) + ((((x / 4294967296) * (y % 4294967296)) + (((x % 4294967296) * (y % 4294967296)) / 4294967296)) / 4294967296) : Nat) : Int)) rfl rfl (addN_u64 (a := (x / 4294967296) * (y / 4294967296)) (b := (((x / 4294967296) * (y % 4294967296)) + (((x % 4294967296) * (y % 4294967296)) / 4294967296)) / 4294967296) (by omega))) rfl (mv' rfl (st' (ex_shr (s := 32) (c := (((((((x / 4294967296) * (y % 4294967296)) + (((x % 4294967296) * (y % 4294967296)) / 4294967296)) % 4294967296) + ((x % 4294967296) * (y / 4294967296))) / 4294967296 : Nat) : Int)) rfl rfl rfl (by decide) (shrN (a := ((((x / 4294967296) * (y % 4294967296)) + (((x % 4294967296) * (y % 4294967296)) / 4294967296)) % 4294967296) + ((x % 4294967296) * (y / 4294967296))) (s := 32))) rfl (st' (ex_add (c := ((x * y / 18446744073709551616 : Nat) : Int)) rfl rfl (by rw [← Int.natCast_add, hh]; exact convN_u64 hh2)) rfl (asg' rfl ?_)))))
 refine q3 (sL [0, 1, 4, 5, 6, 7, 8, 9, 11, 12] rfl) (mv' rfl (mv' rfl (st' (ex_mul (c := ((x * y % 18446744073709551616 : Nat) : Int)) rfl rfl mulM_u64) rfl (asg' rfl (OkL.nil ?_)))))
 exact OkQ.subF (sL [0, 1, 4, 5, 6, 7, 8, 9, 11, 12] rfl) (OkQ.then_ (OkC.ret (ret_two rfl (rd_tmp (v := (vK .u64 (x * y / 18446744073709551616))) rfl) (rd_tmp (v := (vK .u64 (x * y % 18446744073709551616))) rfl) (fun w hw => ⟨rfl, hw.out⟩))))
theorem div32_ok (hi lo y : Nat) (hh : hi < y) (hl : lo < 4294967296) (hy : y < 4294967296) (w : World)  : Calls Tryz.prog 204 #[(vK .u32 hi), (vK .u32 lo), (vK .u32 y)] w (Gives w (Value.tuple #[(vK .u32 ((hi * 4294967296 + lo) / y)), (vK .u32 ((hi * 4294967296 + lo) % y))])) := by
 refine calls_of (args := [(vK .u32 hi), (vK .u32 lo), (vK .u32 y)]) Tryz.func204 rfl rfl (leB rfl) (OkC.subF (sL [0, 1, 2] rfl) (q4 (asg' rfl (asg' rfl (OkL.nil ?_)))))
 refine q1 (q4 (mv' rfl (st' (ex_neq (c := (decide (y ≠ 0))) rfl rfl (neN (a := y) (b := 0))) rfl (mv' rfl ?_))))
 refine OkL.mid (FM := [(0, (vK .u32 hi)), (1, (vK .u32 lo)), (2, (vK .u32 y)), (6, (Value.int .u32 (0 : Int))), (7, (Value.int .u32 (0 : Int))), (9, (vK .u32 y)), (10, (Value.bool (decide (y ≠ 0)))), (11, (Value.bool (decide (y ≠ 0)))), (15, (Value.bool ((decide (y ≠ 0)) && (decide (y ≤ hi)))))]) (LM := []) 4 ?_ ?_
 ·rcases Bool.eq_false_or_eq_true (decide (y ≠ 0)) with hg1 | hg1
  ·skip
   refine OkL.retell (k := 11) (u := Value.bool true) rfl (by rw [hg1]) ?_
   have hg1' := hg1
   replace hg1' := of_decide_eq_true hg1'
   exact OkL.step (v := (vK .u32 y)) (wt_some' rfl) (ex_move rfl) rfl (leB rfl) (OkL.step (v := (vK .u32 hi)) (wt_some' rfl) (ex_move rfl) rfl (leB rfl) (OkL.step (v := (Value.bool (decide (y ≤ hi)))) (wt_some' rfl) (ex_leq (c := (decide (y ≤ hi))) rfl rfl (leN (a := y) (b := hi))) rfl (leB rfl) (st' (v := (Value.bool (decide (y ≤ hi)))) (ex_pick_true rfl rfl) rfl (OkL.nil (OkQ.mid (sS rfl (sS rfl (sS rfl (sS rfl (sS rfl (sS rfl (sS rfl (sS (by first | rfl | (rw [hg1]; rfl) | rw [hg1]) (sS (by first | rfl | (rw [hg1]; rfl) | rw [hg1]) (sN)))))))))) (List.Sublist.refl _))))))
  ·skip
   refine OkL.retell (k := 11) (u := Value.bool false) rfl (by rw [hg1]) ?_
   have hg1' := hg1
   replace hg1' := of_decide_eq_false hg1'
   exact OkL.skip (wt_not' rfl) rfl (leB rfl) (OkL.skip (wt_not' rfl) rfl (leB rfl) (OkL.skip (wt_not' rfl) rfl (leB rfl) (st' (v := (Value.bool false)) (ex_pick_false rfl rfl) rfl (OkL.nil (OkQ.mid (sS rfl (sS rfl (sS rfl (sS rfl (sS rfl (sS rfl (sS rfl (sS (by first | rfl | (rw [hg1]; rfl) | rw [hg1]) (sS (by first | rfl | (rw [hg1]; rfl) | rw [hg1]) (sN)))))))))) (List.Sublist.refl _))))))
 refine OkL.nil (OkQ.subF (sL [0, 1, 2, 6, 7, 15] rfl) (OkQ.then_ ?_))
 refine OkC.cond rfl (fun hc0 => ?_) (fun hc0 => ?_)
 ·simp only [Bool.and_eq_true, Bool.or_eq_true, Bool.and_eq_false_iff, Bool.or_eq_false_iff, Bool.not_eq_true', Bool.not_eq_false', decide_eq_true_eq, decide_eq_false_iff_not] at hc0
  exfalso; omega
 ·simp only [Bool.and_eq_true, Bool.or_eq_true, Bool.and_eq_false_iff, Bool.or_eq_false_iff, Bool.not_eq_true', Bool.not_eq_false', decide_eq_true_eq, decide_eq_false_iff_not] at hc0
  refine OkC.skip (q2 (mv' rfl (st' (ex_conv (c := ((hi : Nat) : Int)) rfl Tryz.underlying105 Tryz.underlying73 (convN_u64 (by omega))) rfl (st' (v := (vK .u64 (hi * 4294967296))) (ex_shl (s := 32) rfl rfl rfl (by decide) (shlN_u64 (s := 32) (by omega))) rfl (mv' rfl ?_)))))
  refine st' (ex_conv (c := ((lo : Nat) : Int)) rfl Tryz.underlying105 Tryz.underlying73 (convN_u64 (by omega))) rfl (st' (ex_or (c := ((hi * 4294967296 + lo : Nat) : Int)) rfl rfl (orN_u64 (by omega) (by omega) (by rw [Nat.or_comm, Nat.add_comm]; exact or_add (s := 32) (by omega)))) rfl ?_)
  have hq : (hi * 4294967296 + lo) / y < 4294967296 := Nat.div_lt_of_lt_mul (by have h9 : (hi + 1) * 4294967296 ≤ y * 4294967296 := Nat.mul_le_mul_right _ hh; omega)
  have hr : (hi * 4294967296 + lo) % y < y := Nat.mod_lt _ (by omega)
  refine asg' rfl (q6 (sL [0, 2, 6, 7, 8] rfl) (rG' [(0, true), (1, true), (2, true), (3, true), (4, true), (5, true), (6, true), (7, true), (8, true), (9, true), (10, true), (11, true)] sr (pM' rfl (pM' rfl (pE' rfl (ex_conv (c := ((y : Nat) : Int)) rfl Tryz.underlying105 Tryz.underlying73 (convN_u64 (by omega))) ?_)))))
  refine pE' rfl (ex_quo (c := (((hi * 4294967296 + lo) / y : Nat) : Int)) rfl rfl (by omega) (quoN_u64 (a := hi * 4294967296 + lo) (b := y) (by omega))) (pE' rfl (ex_conv (c := (((hi * 4294967296 + lo) / y : Nat) : Int)) rfl Tryz.underlying73 Tryz.underlying105 (convN_u32 (by omega))) (pM' rfl (pM' rfl (pE' rfl (ex_conv (c := ((y : Nat) : Int)) rfl Tryz.underlying105 Tryz.underlying73 (convN_u64 (by omega))) (pE' rfl (ex_rem (c := (((hi * 4294967296 + lo) % y : Nat) : Int)) rfl rfl (by omega) (remN (a := hi * 4294967296 + lo) (b := y))) ?_)))))
  refine pE' rfl (ex_conv (c := (((hi * 4294967296 + lo) % y : Nat) : Int)) rfl Tryz.underlying73 Tryz.underlying105 (convN_u32 (by omega))) (pS' rfl (pS' rfl (OkE.nil (OkQ.subF (sL [0, 2, 6, 7] rfl) (OkQ.then_ ?_)))))
  exact OkC.ret (ret_two rfl (rd_tmp (v := (vK .u32 ((hi * 4294967296 + lo) / y))) rfl) (rd_tmp (v := (vK .u32 ((hi * 4294967296 + lo) % y))) rfl) (fun w hw => ⟨rfl, hw.out⟩))
theorem len32_ok (x : Nat) (hx : x < 4294967296) (w : World)  : Calls Tryz.prog 171 #[(vK .u32 x)] w (Gives w (vN (bl x))) := by
 refine calls_of (args := [(vK .u32 x)]) Tryz.func171 rfl rfl (leB rfl) (OkC.subF (sL [0] rfl) (q4 (asg' rfl (OkL.nil (q1 ?_)))))
 refine q4 (mv' rfl (st' (ex_geq (c := (decide (65536 ≤ x))) rfl rfl (leN (a := 65536) (b := x))) rfl (OkL.nil (OkQ.subF (sL [0, 2, 4] rfl) (OkQ.then_ ?_)))))
 refine OkC.jn2 (tg fun (u : Nat) (n : Nat) => u < 65536 ∧ n ≤ 16 ∧ bl x = bl u + n) (tg fun (u : Nat) (n : Nat) => [(0, (vK .u32 u)), (2, (vN n))]) (tg fun (u : Nat) (n : Nat) => []) ?_ ?_
 ·skip
  refine OkC.cond rfl (fun hc0 => ?_) (fun hc0 => ?_)
  ·replace hc0 := of_decide_eq_true hc0
   refine q4 (mv' rfl (st' (ex_shr (s := 16) (c := ((x / 65536 : Nat) : Int)) rfl rfl rfl (by decide) (shrN (a := x) (s := 16))) rfl (asg' rfl (OkL.nil (OkQ.subF (sL [0, 2] rfl) ?_)))))
   exact OkQ.then_ (OkC.region (asg' rfl (OkL.nil (OkQ.join2 (x / 65536) 16 (⟨by omega, by omega, bl_shift (k := 16) hc0⟩) (sF rfl) sr))))
  ·replace hc0 := of_decide_eq_false hc0
   exact OkC.skip (OkQ.join2 x 0 (⟨by omega, by omega, rfl⟩) (sF rfl) sr)
 ·intro u n hJ
  obtain ⟨hu, hn, hv⟩ := hJ
  refine q1 (q4 (mv' rfl (st' (ex_geq (c := (decide (256 ≤ u))) rfl rfl (leN (a := 256) (b := u))) rfl (OkL.nil (OkQ.subF (sL [0, 2, 8] rfl) ?_)))))
  refine OkQ.then_ ?_
  refine OkC.jn2 (tg fun (u2 : Nat) (n2 : Nat) => u2 < 256 ∧ n2 ≤ 24 ∧ bl x = bl u2 + n2) (tg fun (u2 : Nat) (n2 : Nat) => [(0, (vK .u32 u2)), (2, (vN n2))]) (tg fun (u2 : Nat) (n2 : Nat) => []) ?_ ?_
  ·skip
   refine OkC.cond rfl (fun hc1 => ?_) (fun hc1 => ?_)
   ·replace hc1 := of_decide_eq_true hc1
    refine q4 (mv' rfl (st' (ex_shr (s := 8) (c := ((u / 256 : Nat) : Int)) rfl rfl rfl (by decide) (shrN (a := u) (s := 8))) rfl (asg' rfl (OkL.nil (OkQ.subF (sL [0, 2] rfl) ?_)))))
    refine OkQ.then_ (OkC.region (mv' rfl (st' (ex_add (c := ((n + 8 : Nat) : Int)) rfl rfl (addN_i64 (a := n) (b := 8) (by omega))) rfl (asg' rfl (OkL.nil ?_)))))
    exact OkQ.subF (sL [0, 2] rfl) (OkQ.join2 (u / 256) (n + 8) (⟨by omega, by omega, by rw [hv, bl_256 hc1]; omega⟩) (sF rfl) sr)
   ·replace hc1 := of_decide_eq_false hc1
    exact OkC.skip (OkQ.join2 u n (⟨by omega, by omega, hv⟩) (sF rfl) sr)
  ·intro u2 n2 hJ
   obtain ⟨hu2, hn2, hv2⟩ := hJ
   refine q2 (mv' rfl (mv' rfl (st' (ex_conv (c := ((u2 : Nat) : Int)) rfl Tryz.underlying105 Tryz.underlying5 (convN_u8 (by omega))) rfl ?_)))
   have hb8 : bl u2 ≤ 8 := bl_le (k := 8) hu2
   refine st' (v := (vK .u8 (bl u2))) (ex_index_str (j := u2) (m := bl u2) rfl rfl Tryz.underlying9 (tab_ok (by kernel_rfl) hu2) (by omega)) rfl (st' (ex_conv (c := ((bl u2 : Nat) : Int)) rfl Tryz.underlying5 Tryz.underlying3 (convN_i64 (by omega))) rfl (st' (ex_add (c := ((bl x : Nat) : Int)) rfl rfl (by rw [hv2, Int.add_comm, ← Int.natCast_add]; exact convN_i64 (by omega))) rfl (asg' rfl (OkL.nil (OkQ.subF (sL [0, 2] rfl) ?_)))))
   exact OkQ.then_ (OkC.ret (ret_one rfl (rd_tmp (v := (vN (bl x))) rfl) (fun w hw => ⟨rfl, hw.out⟩)))
theorem lz32_ok (x : Nat) (hx : x < 4294967296) (w : World)  : Calls Tryz.prog 205 #[(vK .u32 x)] w (Gives w (vN (32 - bl x))) := by
 have hb := bl_le (k := 32) hx
 refine calls_of (args := [(vK .u32 x)]) Tryz.func205 rfl rfl (leB rfl) (OkC.subF (sL [0] rfl) (q4 (asg' rfl (OkL.nil (q2 ?_)))))
 refine mv' rfl (ck' Tryz.call171 (len32_ok _ (by omega)) rfl (st' (ex_sub (c := ((32 - (bl x) : Nat) : Int)) rfl rfl (subN_i64 (a := 32) (b := bl x) (by omega) (by omega))) rfl (asg' rfl (OkL.nil (OkQ.subF (sL [2] rfl) ?_)))))
 exact OkQ.then_ (OkC.ret (ret_one rfl (rd_tmp (v := (vN (32 - (bl x)))) rfl) (fun w hw => ⟨rfl, hw.out⟩)))
theorem sign_ok (z : Int) (hz : -9223372036854775808 ≤ z) (hz2 : z < 9223372036854775808) (w : World)  : Calls Tryz.prog 227 #[(vI z)] w (Gives w (vI z.sign)) := by
 refine calls_of (args := [(vI z)]) Tryz.func227 rfl rfl (leB rfl) (OkC.subF (sL [0] rfl) (q4 (asg' rfl (OkL.nil (q2 ?_)))))
 refine mv' rfl (st' (ex_min (c := (if z < 1 then z else 1)) rfl rfl rfl) rfl (st' (ex_max (c := z.sign) rfl rfl (sign_law z)) rfl (asg' rfl (OkL.nil (OkQ.subF (sL [2] rfl) ?_)))))
 exact OkQ.then_ (OkC.ret (ret_one rfl (rd_tmp (v := (vI z.sign)) rfl) (fun w hw => ⟨rfl, hw.out⟩)))
end
end Go.Proofs.YtgiacpkjnikjdaaGreat
