/- Rows of fractions, their sum; calls of functions with a bound receiver. -/
import Derived.Test.YtpkoldfmbebmgaaGreatDoorTri
namespace Go.Proofs.YtpkoldfmbebmgaaGreatDoor
open Go Go.RowKit
set_option linter.unusedVariables false
set_option linter.unusedSimpArgs false

def fracsL (qs : List Rat) : List Value := qs.flatMap fracL
theorem fracL_length (q : Rat) : (fracL q).length = 5 := rfl
theorem fracsL_length (qs : List Rat) : (fracsL qs).length = 5 * qs.length := by
  induction qs with
  | nil => rfl
  | cons q qs ih => simp only [fracsL, List.flatMap_cons, List.length_append, fracL_length, List.length_cons] at ih ⊢; omega
theorem fracsL_get : ∀ {qs : List Rat} {i : Nat}, i < qs.length → ((fracsL qs).drop (i * 5)).take 5 = fracL (qs.getD i 0)
  | [], i, h => by simp at h
  | q :: qs, 0, _ => by
    simp only [fracsL, List.flatMap_cons, Nat.zero_mul, List.drop_zero, List.getD_cons_zero]
    rw [List.take_append_of_le_length (by rw [fracL_length]; omega), List.take_of_length_le (by rw [fracL_length]; omega)]
  | q :: qs, i + 1, h => by
    have ih := fracsL_get (qs := qs) (i := i) (by simpa using h)
    simp only [fracsL, List.flatMap_cons, List.getD_cons_succ] at ih ⊢
    rw [show (i + 1) * 5 = (fracL q).length + i * 5 by rw [fracL_length]; omega, List.drop_append, List.drop_of_length_le (Nat.le_add_right _ _), List.nil_append, Nat.add_sub_cancel_left]
    exact ih
/-- The sum so far. -/
def accQ (s : Rat) (qs : List Rat) (i : Nat) : Rat := (qs.take i).foldl (· + ·) s
theorem accQ_zero (s : Rat) (qs : List Rat) : accQ s qs 0 = s := rfl
theorem accQ_succ {s : Rat} {qs : List Rat} {i : Nat} (h : i < qs.length) : accQ s qs (i + 1) = accQ s qs i + qs.getD i 0 := by
  unfold accQ
  rw [List.take_add_one, List.foldl_append]
  simp [h]

section
variable {P : Program} {n : Nat} {F : List (Nat × Value)} {w0 : Base} {L : List As} {v : Value} {x : Operand} {d : Option Tmp} {t : TypeId} {p : String} {af : Array Edge} {g : Option (Nat × Bool)}
theorem ex_slice_array {tx e : TypeId} {b len k : Nat} (hx : evF F x = some (.pointer (some ⟨b, 0, none⟩))) (hu : P.underlying tx = some (.array len e)) (hs : ∀ w, (sizeOf e).run P w = .ok k w) (h0 : 0 < len) :
    Ex P n F w0 L ⟨d, .slice tx x none none none, t, p, af, g⟩ (.slice (some ⟨b, 0, none⟩) len len) := fun A w ha _ => by
  have e1 : ¬ len = 0 := by omega
  simp [execOp, ha.ev hx, Instr.sliceAt, run_underlying hu, Instr.sureAddr, Instr.sliceBounds, Instr.sliceBound, hs, e1, Addr.add_lit]
theorem ex_nilCheck {a : Addr} (hx : evF F x = some (.pointer (some a))) : Ex P n F w0 L ⟨d, .nilCheck x, t, p, af, g⟩ (.pointer (some a)) := fun A w ha _ => by
  simp [execOp, ha.ev hx]
theorem op_callF {f : FuncId} {xs : List Operand} {first args caps all : List Value} {ts : Array TypeId} (hf : evF F x = some (.func (.func f) first.toArray caps.toArray)) (hargs : xs.map (evF F) = args.map some)
    (hall : first ++ args ++ caps = all) (hc : ∀ args w, (callFunc f args).run P w = .ok (.enter f args) w) :
    ∀ a w, Frm n a F → Own w0 w L → (execOp a.eval ⟨d, .call { callee := .value x, args := xs.toArray, argTypes := ts }, t, p, af, g⟩).run P w = .ok (.enter f all.toArray) w := fun A w ha _ => by
  have e1 : xs.toArray.map A.eval = args.toArray := by rw [← evals_of ha hargs]; simp
  subst hall
  simp [execOp, resolve, ha.ev hf, Deferred.ofValue, e1, invoke, hc]
end

end Go.Proofs.YtpkoldfmbebmgaaGreatDoor
