/- Equality (==) of whole numbers, fractions, points, and of arrays of fractions. -/
import Derived.Test.YtpkoldfmbebmgaaGreatDoorTri
import Derived.ChangeKeysEq
namespace Go.Proofs.YtpkoldfmbebmgaaGreatDoor
open Go Go.RowKit
set_option linter.unusedVariables false
set_option linter.unusedSimpArgs false

theorem eq_intL (a b : Int) : (decide (a.natAbs = b.natAbs) && ((decide (a < 0) == decide (b < 0)) && true)) = decide (a = b) := by
  by_cases e : a = b
  · subst e; simp
  · rw [decide_eq_false e]
    by_cases h1 : a < 0 <;> by_cases h2 : b < 0 <;> simp [h1, h2] <;> omega
theorem eqB_int (D : Nat) (a b : Int) : EqB Tryz.prog (D + 4) 34 (.agg (intL a).toArray) (.agg (intL b).toArray) (decide (a = b)) := by
  rw [← eq_intL]
  exact EqB.struct Tryz.underlying34 Tryz.stoodInHeld34 (EqF.agg (us := natL a.natAbs) (bs := natL b.natAbs) (by decide) Tryz.isAgg32 Tryz.sizeOf32 rfl rfl (eqB_size D _ _) (EqF.one (by decide) Tryz.isAgg4 rfl rfl (EqB.bool Tryz.underlying4) EqF.nil))
theorem eq_fracL (a b : Rat) : (decide (a.num = b.num) && (decide (a.den - 1 = b.den - 1) && true)) = decide (a = b) := by
  by_cases e : a = b
  · subst e; simp
  · rw [decide_eq_false e]
    have h1 := a.den_pos
    have h2 := b.den_pos
    simp only [Bool.and_true, Bool.and_eq_false_iff, decide_eq_false_iff_not]
    apply Classical.byContradiction
    intro h
    refine e (Rat.ext ?_ ?_)
    · exact Classical.byContradiction fun k => h (.inl k)
    · exact Classical.byContradiction fun k => h (.inr (by omega))
theorem eqB_frac (D : Nat) (a b : Rat) : EqB Tryz.prog (D + 5) 36 (.agg (fracL a).toArray) (.agg (fracL b).toArray) (decide (a = b)) := by
  rw [← eq_fracL]
  exact EqB.struct Tryz.underlying36 Tryz.stoodInHeld36 (EqF.agg (us := intL a.num) (bs := intL b.num) (by decide) Tryz.isAgg34 Tryz.sizeOf34 rfl rfl (eqB_int D _ _) (EqF.agg (us := natL (a.den - 1)) (bs := natL (b.den - 1)) (by decide) Tryz.isAgg30 Tryz.sizeOf30 rfl rfl (eqB_nat (D + 2) _ _) EqF.nil))
instance : DecidableEq Pt := fun a b => decidable_of_iff (a.x = b.x ∧ a.y = b.y) ⟨fun h => Pt.ext h.1 h.2, fun h => h ▸ ⟨rfl, rfl⟩⟩
theorem eq_ptL (a b : Pt) : (decide (a.x = b.x) && (decide (a.y = b.y) && true)) = decide (a = b) := by
  by_cases e : a = b
  · subst e; simp
  · rw [decide_eq_false e]
    simp only [Bool.and_true, Bool.and_eq_false_iff, decide_eq_false_iff_not]
    apply Classical.byContradiction
    intro h
    refine e (Pt.ext ?_ ?_)
    · exact Classical.byContradiction fun k => h (.inl k)
    · exact Classical.byContradiction fun k => h (.inr k)
theorem eqB_pt (D : Nat) (a b : Pt) : EqB Tryz.prog (D + 6) 38 (.agg (ptL a).toArray) (.agg (ptL b).toArray) (decide (a = b)) := by
  rw [← eq_ptL]
  exact EqB.struct Tryz.underlying38 Tryz.stoodInHeld38 (EqF.agg (us := fracL a.x) (bs := fracL b.x) (by decide) Tryz.isAgg36 Tryz.sizeOf36 rfl rfl (eqB_frac D _ _) (EqF.agg (us := fracL a.y) (bs := fracL b.y) (by decide) Tryz.isAgg36 Tryz.sizeOf36 rfl rfl (eqB_frac D _ _) EqF.nil))

/-! ### Arrays -/
section
variable {P : Program}
def EqI (P : Program) (D : Nat) (e : TypeId) (c : Nat) (xs ys : List Value) (is : List Nat) (b : Bool) : Prop := ∀ w, (Go.Op.eqItems D e c xs.toArray ys.toArray is).run P w = .ok b w
theorem EqI.nil {D c : Nat} {e : TypeId} {xs ys : List Value} : EqI P D e c xs ys [] true := fun w => rfl
theorem EqI.cons {D c i : Nat} {e : TypeId} {is : List Nat} {xs ys us bs : List Value} {r s : Bool} (hg : ∀ w, (isAgg e).run P w = .ok true w) (hs : ∀ w, (sizeOf e).run P w = .ok c w)
    (ha : (xs.drop (i * c)).take c = us) (hb : (ys.drop (i * c)).take c = bs) (h : EqB P D e (.agg us.toArray) (.agg bs.toArray) r) (h2 : EqI P D e c xs ys is s) : EqI P D e c xs ys (i :: is) (r && s) := fun w => by
  have ex : ∀ l : List Value, l.toArray.extract (i * c) (i * c + c) = ((l.drop (i * c)).take c).toArray := fun l => by simp [List.extract_eq_take_drop]
  have e1 : (part e xs.toArray (i * c)).run P w = .ok (.agg us.toArray) w := by simp [part, hg, hs, ex, ha]
  have e2 : (part e ys.toArray (i * c)).run P w = .ok (.agg bs.toArray) w := by simp [part, hg, hs, ex, hb]
  simp only [Go.Op.eqItems, Sem.run_bind, e1, e2, Result.andThen_ok, h w]
  cases r
  · simp
  · simp [h2 w]
theorem EqB.array {D n c : Nat} {T e : TypeId} {xs ys : List Value} {b : Bool} (hu : P.underlying T = some (.array n e)) (hi : ∃ i, P.info? e = some i) (hc : P.cellsOf e = c) (h : EqI P D e c xs ys (List.range n) b) :
    EqB P (D + 1) T (.agg xs.toArray) (.agg ys.toArray) b := fun w => by
  obtain ⟨i, hi⟩ := hi
  rw [Go.run_equalIn_array w D xs.toArray ys.toArray hu hi, hc]
  exact h w
end
theorem info_frac : ∃ i, Tryz.prog.info? 36 = some i := Option.isSome_iff_exists.1 (by kernel_rfl)
theorem cells_frac : Tryz.prog.cellsOf 36 = 5 := by kernel_rfl
theorem eqB_frac3 (D : Nat) (a b c a' b' c' : Rat) : EqB Tryz.prog (D + 6) 56 (.agg (fracL a ++ fracL b ++ fracL c).toArray) (.agg (fracL a' ++ fracL b' ++ fracL c').toArray) (decide (a = a') && (decide (b = b') && (decide (c = c') && true))) :=
  EqB.array Tryz.underlying56 info_frac cells_frac (EqI.cons Tryz.isAgg36 Tryz.sizeOf36 rfl rfl (eqB_frac D _ _) (EqI.cons Tryz.isAgg36 Tryz.sizeOf36 rfl rfl (eqB_frac D _ _) (EqI.cons Tryz.isAgg36 Tryz.sizeOf36 rfl rfl (eqB_frac D _ _) EqI.nil)))
theorem eqB_frac2 (D : Nat) (a b a' b' : Rat) : EqB Tryz.prog (D + 6) 62 (.agg (fracL a ++ fracL b).toArray) (.agg (fracL a' ++ fracL b').toArray) (decide (a = a') && (decide (b = b') && true)) :=
  EqB.array Tryz.underlying62 info_frac cells_frac (EqI.cons Tryz.isAgg36 Tryz.sizeOf36 rfl rfl (eqB_frac D _ _) (EqI.cons Tryz.isAgg36 Tryz.sizeOf36 rfl rfl (eqB_frac D _ _) EqI.nil))

/-! ### Known to be equal -/
theorem eqB_frac_t (D : Nat) {a b : Rat} (h : a = b) : EqB Tryz.prog (D + 5) 36 (.agg (fracL a).toArray) (.agg (fracL b).toArray) true := by
  have := eqB_frac D a b; rwa [decide_eq_true h] at this
theorem eqB_pt_t (D : Nat) {a b : Pt} (h : a = b) : EqB Tryz.prog (D + 6) 38 (.agg (ptL a).toArray) (.agg (ptL b).toArray) true := by
  have := eqB_pt D a b; rwa [decide_eq_true h] at this
theorem eqB_frac3_t (D : Nat) {a b c a' b' c' : Rat} (h : a = a' ∧ b = b' ∧ c = c') : EqB Tryz.prog (D + 6) 56 (.agg (fracL a ++ fracL b ++ fracL c).toArray) (.agg (fracL a' ++ fracL b' ++ fracL c').toArray) true := by
  have := eqB_frac3 D a b c a' b' c'; rwa [decide_eq_true h.1, decide_eq_true h.2.1, decide_eq_true h.2.2] at this
theorem eqB_frac2_t (D : Nat) {a b a' b' : Rat} (h : a = a' ∧ b = b') : EqB Tryz.prog (D + 6) 62 (.agg (fracL a ++ fracL b).toArray) (.agg (fracL a' ++ fracL b').toArray) true := by
  have := eqB_frac2 D a b a' b'; rwa [decide_eq_true h.1, decide_eq_true h.2] at this
section
variable {P : Program} {n : Nat} {F : List (Nat × Value)} {w0 : Base} {L : List As} {x y : Operand} {d : Option Tmp} {t : TypeId} {p : String} {af : Array Edge} {g : Option (Nat × Bool)}
theorem ex_neq_agg_f {xs ys : List Value} {tx ty : TypeId} (hx : evF F x = some (.agg xs.toArray)) (hy : evF F y = some (.agg ys.toArray)) (hg : P.eqGuardType P.depth tx = false) (hc : EqB P 10000 tx (.agg xs.toArray) (.agg ys.toArray) true) :
    Ex P n F w0 L ⟨d, .binOp .neq tx x y ty, t, p, af, g⟩ (.bool false) := ex_neq_agg hx hy hg hc
theorem ex_neq_agg_d {xs ys : List Value} {c e : Bool} {tx ty : TypeId} (hx : evF F x = some (.agg xs.toArray)) (hy : evF F y = some (.agg ys.toArray)) (hg : P.eqGuardType P.depth tx = false) (hc : EqB P 10000 tx (.agg xs.toArray) (.agg ys.toArray) c) (he : (!c) = e) :
    Ex P n F w0 L ⟨d, .binOp .neq tx x y ty, t, p, af, g⟩ (.bool e) := he ▸ ex_neq_agg hx hy hg hc
end

end Go.Proofs.YtpkoldfmbebmgaaGreatDoor
