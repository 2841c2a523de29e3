/- Points: laws in plain Lean. -/
import Derived.Test.YtpkoldfmbebmgaaGreatDoorRat
namespace Go.Proofs.YtpkoldfmbebmgaaGreatDoor
open Go Go.RowKit
set_option linter.unusedVariables false
set_option linter.unusedSimpArgs false

instance : Add Pt := ⟨fun a b => ⟨a.x + b.x, a.y + b.y⟩⟩
instance : Sub Pt := ⟨fun a b => ⟨a.x - b.x, a.y - b.y⟩⟩
def scaleP (a : Pt) (k : Rat) : Pt := ⟨a.x * k, a.y * k⟩
def crossP (a b : Pt) : Rat := a.x * b.y - a.y * b.x
def dotP (a b : Pt) : Rat := a.x * b.x + a.y * b.y
def turnP (a b c : Pt) : Rat := crossP (b - a) (c - a)
def SzP (p : Pt) : Nat := max (Sz p.x) (Sz p.y)
theorem SzP_x (p : Pt) : Sz p.x ≤ SzP p := Nat.le_max_left ..
theorem SzP_y (p : Pt) : Sz p.y ≤ SzP p := Nat.le_max_right ..
theorem SzP_le {p : Pt} {k : Nat} (h1 : Sz p.x ≤ k) (h2 : Sz p.y ≤ k) : SzP p ≤ k := Nat.max_le.2 ⟨h1, h2⟩
theorem SzP_add (a b : Pt) : SzP (a + b) ≤ SzP a + SzP b + 1 := by
  have h1 := SzP_x a; have h2 := SzP_y a; have h3 := SzP_x b; have h4 := SzP_y b
  refine SzP_le ?_ ?_
  · exact Nat.le_trans (Sz_add a.x b.x) (by omega)
  · exact Nat.le_trans (Sz_add a.y b.y) (by omega)
theorem SzP_sub (a b : Pt) : SzP (a - b) ≤ SzP a + SzP b + 1 := by
  have h1 := SzP_x a; have h2 := SzP_y a; have h3 := SzP_x b; have h4 := SzP_y b
  refine SzP_le ?_ ?_
  · exact Nat.le_trans (Sz_sub a.x b.x) (by omega)
  · exact Nat.le_trans (Sz_sub a.y b.y) (by omega)
theorem SzP_scale (a : Pt) (k : Rat) : SzP (scaleP a k) ≤ SzP a + Sz k := by
  have h1 := SzP_x a; have h2 := SzP_y a
  refine SzP_le ?_ ?_
  · exact Nat.le_trans (Sz_mul a.x k) (by omega)
  · exact Nat.le_trans (Sz_mul a.y k) (by omega)
theorem Sz_cross (a b : Pt) : Sz (crossP a b) ≤ 2 * SzP a + 2 * SzP b + 1 := by
  have h1 := SzP_x a; have h2 := SzP_y a; have h3 := SzP_x b; have h4 := SzP_y b
  have h5 := Sz_mul a.x b.y; have h6 := Sz_mul a.y b.x
  exact Nat.le_trans (Sz_sub _ _) (by omega)
theorem Sz_dot (a b : Pt) : Sz (dotP a b) ≤ 2 * SzP a + 2 * SzP b + 1 := by
  have h1 := SzP_x a; have h2 := SzP_y a; have h3 := SzP_x b; have h4 := SzP_y b
  have h5 := Sz_mul a.x b.x; have h6 := Sz_mul a.y b.y
  exact Nat.le_trans (Sz_add _ _) (by omega)
theorem Sz_turn (a b c : Pt) : Sz (turnP a b c) ≤ 4 * SzP a + 2 * SzP b + 2 * SzP c + 5 := by
  have h1 := SzP_sub b a; have h2 := SzP_sub c a
  exact Nat.le_trans (Sz_cross _ _) (by omega)
theorem Sz_half : Sz (1 / 2 : Rat) ≤ 1 := by decide +kernel
theorem half_of : ((1 : Int) : Rat) / ((2 : Int) : Rat) = 1 / 2 := by decide +kernel
theorem Sz_int {z : Int} (h1 : -9223372036854775808 ≤ z) (h2 : z < 9223372036854775808) : Sz ((z : Int) : Rat) ≤ 2 := Sz_le (nw_small (by show z.natAbs < _; omega)) (by show nw 1 ≤ 2; rw [nw_one]; omega)

theorem ptL_add (a b : Pt) : ptL (a + b) = fracL (a.x + b.x) ++ fracL (a.y + b.y) := rfl
theorem ptL_sub (a b : Pt) : ptL (a - b) = fracL (a.x - b.x) ++ fracL (a.y - b.y) := rfl
theorem ptL_scale (a : Pt) (k : Rat) : ptL (scaleP a k) = fracL (a.x * k) ++ fracL (a.y * k) := rfl
theorem ptL_mk (x y : Rat) : ptL ⟨x, y⟩ = fracL x ++ fracL y := rfl

/-! ### A loop walked round by round -/
section
variable {P : Program} {Q : Exit → Act → World → Prop} {n : Nat} {F : List (Nat × Value)} {w0 : Base} {L : List As} {c : Code}
def OkR (P : Program) (c : Code) (Q : Exit → Act → World → Prop) (k n : Nat) (F : List (Nat × Value)) (w0 : Base) (L : List As) : Prop := ∀ a w, Frm n a F → Own w0 w L → Code.rounds P c Q k a w
theorem OkC.unroll (k : Nat) (h : OkR P c Q k n F w0 L) : OkC P (.loop c) Q n F w0 L := fun a w ha hw => wp_loop_rounds k (h a w ha hw)
theorem OkR.step {k : Nat} (h : OkC P c (Exit.then (Code.rounds P c Q k) Q) n F w0 L) : OkR P c Q (k + 1) n F w0 L := fun a w ha hw => by
  rw [rounds_succ]; exact h a w ha hw
theorem OkQ.again {k : Nat} (h : OkR P c Q k n F w0 L) : OkQ (Exit.then (Code.rounds P c Q k) Q) .normal n F w0 L := h
end

end Go.Proofs.YtpkoldfmbebmgaaGreatDoor
