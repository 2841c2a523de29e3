/- Texts of small numbers: cutting a string in a walk. -/
import Derived.Test.YtpkoldfmbebmgaaGreatDoorSum
namespace Go.Proofs.YtpkoldfmbebmgaaGreatDoor
open Go Go.RowKit
set_option linter.unusedVariables false
set_option linter.unusedSimpArgs false

section
variable {P : Program} {n : Nat} {F : List (Nat × Value)} {w0 : Base} {L : List As} {v : Value} {x lo hi : Operand} {d : Option Tmp} {t : TypeId} {p : String} {af : Array Edge} {g : Option (Nat × Bool)}
theorem ex_slice_string {s r : ByteArray} {ki kj : IntKind} {i j : Nat} {tx : TypeId} (hx : evF F x = some (.string s)) (hl : evF F lo = some (.int ki (i : Nat))) (hh : evF F hi = some (.int kj (j : Nat))) (hu : P.underlying tx = some .string) (h1 : i ≤ j) (h2 : j ≤ s.size) (hr : s.extract i j = r) :
    Ex P n F w0 L ⟨d, .slice tx x (some lo) (some hi) none, t, p, af, g⟩ (.string r) := fun A w ha _ => by
  subst hr
  simp only [execOp, ha.ev hx, Instr.sliceAt, run_underlying hu, Instr.slice, Option.map_some, Option.map_none, ha.ev hl, ha.ev hh, Instr.sliceBounds, Instr.sliceBound, asIntOf, Sem.run_bind, Result.andThen_ok, Sem.run_pure]
  simp [h1, h2]
end
/-- The text of a digit. -/
def dig (n : Nat) : ByteArray := ⟨#[UInt8.ofNat (48 + n)]⟩

theorem dig_of {s : ByteArray} (h : ((List.range 10).all fun n => (s.extract n (n + 1)).data.toList == (dig n).data.toList) = true) {n : Nat} (hn : n < 10) : s.extract n (n + 1) = dig n := by
  have h1 := List.all_eq_true.1 h n (List.mem_range.2 hn)
  have h2 : (s.extract n (n + 1)).data.toList = (dig n).data.toList := by simpa using h1
  cases hA : s.extract n (n + 1) with | mk da => cases hB : dig n with | mk db =>
    rw [hA, hB] at h2
    congr 1
    exact Array.toList_inj.1 h2

def textI (z : Int) : ByteArray := if z < 0 then ⟨#[45]⟩ ++ dig z.natAbs else dig z.natAbs
def textQ (q : Rat) : ByteArray := if q.den - 1 = 0 then textI q.num else textI q.num ++ ⟨#[47]⟩ ++ dig q.den
theorem dig_size (n : Nat) : (dig n).size = 1 := rfl
theorem textI_size (z : Int) : (textI z).size ≤ 2 := by
  unfold textI
  split
  · rw [ByteArray.size_append]; exact Nat.le_refl 2
  · exact Nat.le_succ 1

end Go.Proofs.YtpkoldfmbebmgaaGreatDoor
