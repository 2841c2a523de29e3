/- Equality (==) of numbers, fractions and points. -/
import Derived.Test.YtpkoldfmbebmgaaGreatDoorBits
import Derived.Laws.StructEq
namespace Go.Proofs.YtpkoldfmbebmgaaGreatDoor
open Go Go.RowKit
set_option linter.unusedVariables false
set_option linter.unusedSimpArgs false

section
variable {P : Program} {n : Nat} {F : List (Nat × Value)} {w0 : Base} {L : List As} {x y : Operand} {d : Option Tmp} {t : TypeId} {p : String} {af : Array Edge} {g : Option (Nat × Bool)}

/-- Two values of type T are found equal, or not, whatever the world. -/
def EqB (P : Program) (D : Nat) (T : TypeId) (u v : Value) (b : Bool) : Prop := ∀ w, (Op.equalIn D T u v).run P w = .ok b w
def EqF (P : Program) (D : Nat) (xs ys : List Value) (fs : List Field) (b : Bool) : Prop := ∀ w, (Op.eqFields D xs.toArray ys.toArray fs).run P w = .ok b w

theorem EqB.int {D : Nat} {T : TypeId} {k k' : IntKind} {a b : Int} (h : P.underlying T = some (.int k')) : EqB P (D + 1) T (.int k a) (.int k b) (a == b) := fun w => run_equalIn_int w D T k k' a b h
theorem EqB.bool {D : Nat} {T : TypeId} {a b : Bool} (h : P.underlying T = some .bool) : EqB P (D + 1) T (.bool a) (.bool b) (a == b) := fun w => run_equalIn_bool' w D T a b h
theorem EqB.str {D : Nat} {T : TypeId} {a b : ByteArray} (h : P.underlying T = some .string) : EqB P (D + 1) T (.string a) (.string b) (a.toList == b.toList) := fun w => run_equalIn_string w D T a b h
theorem EqB.struct {D : Nat} {T : TypeId} {xs ys : List Value} {b : Bool} {fs : Array Field} (hu : P.underlying T = some (.struct fs)) (hp : P.stoodInHeld T = false) (h : EqF P D xs ys fs.toList b) : EqB P (D + 1) T (.agg xs.toArray) (.agg ys.toArray) b := fun w => by
  have e : P.fieldsOf T = fs := by simp [Program.fieldsOf, hu]
  rw [run_equalIn_struct w D T _ _ (by rw [e]; exact hu) hp, e]; exact h w
theorem EqF.nil {D : Nat} {xs ys : List Value} : EqF P D xs ys [] true := fun w => rfl
theorem EqF.one {D : Nat} {xs ys : List Value} {f : Field} {fs : List Field} {a b : Value} {r s : Bool} (hn : f.name ≠ "_") (hg : ∀ w, (isAgg f.type).run P w = .ok false w) (ha : xs[f.offset]? = some a) (hb : ys[f.offset]? = some b)
    (h : EqB P D f.type a b r) (h2 : EqF P D xs ys fs s) : EqF P D xs ys (f :: fs) (r && s) := fun w => by
  have e1 : (part f.type xs.toArray f.offset).run P w = .ok a w := by simp [part, hg, ha]
  have e2 : (part f.type ys.toArray f.offset).run P w = .ok b w := by simp [part, hg, hb]
  simp only [Op.eqFields, Sem.run_ite, if_pos hn, Sem.run_bind, e1, e2, Result.andThen_ok, h w]
  cases r
  · simp
  · simp [h2 w]
theorem EqF.agg {D k : Nat} {xs ys us bs : List Value} {f : Field} {fs : List Field} {r s : Bool} (hn : f.name ≠ "_") (hg : ∀ w, (isAgg f.type).run P w = .ok true w) (hs : ∀ w, (sizeOf f.type).run P w = .ok k w)
    (ha : (xs.drop f.offset).take k = us) (hb : (ys.drop f.offset).take k = bs)
    (h : EqB P D f.type (.agg us.toArray) (.agg bs.toArray) r) (h2 : EqF P D xs ys fs s) : EqF P D xs ys (f :: fs) (r && s) := fun w => by
  have ex : ∀ l : List Value, l.toArray.extract f.offset (f.offset + k) = ((l.drop f.offset).take k).toArray := fun l => by simp [List.extract_eq_take_drop]
  have e1 : (part f.type xs.toArray f.offset).run P w = .ok (.agg us.toArray) w := by simp [part, hg, hs, ex, ha]
  have e2 : (part f.type ys.toArray f.offset).run P w = .ok (.agg bs.toArray) w := by simp [part, hg, hs, ex, hb]
  simp only [Op.eqFields, Sem.run_ite, if_pos hn, Sem.run_bind, e1, e2, Result.andThen_ok, h w]
  cases r
  · simp
  · simp [h2 w]

theorem ex_eql_agg {xs ys : List Value} {c : Bool} {tx ty : TypeId} (hx : evF F x = some (.agg xs.toArray)) (hy : evF F y = some (.agg ys.toArray)) (hg : P.eqGuardType P.depth tx = false) (hc : EqB P 10000 tx (.agg xs.toArray) (.agg ys.toArray) c) :
    Ex P n F w0 L ⟨d, .binOp .eql tx x y ty, t, p, af, g⟩ (.bool c) := fun A w ha _ => by
  simp only [execOp, ha.ev hx, ha.ev hy, Sem.run_bind, run_eqGuard_agg w .eql tx x y _ _ hg, Result.andThen_ok, run_eql_struct, hc w, Sem.run_pure]
theorem ex_neq_agg {xs ys : List Value} {c : Bool} {tx ty : TypeId} (hx : evF F x = some (.agg xs.toArray)) (hy : evF F y = some (.agg ys.toArray)) (hg : P.eqGuardType P.depth tx = false) (hc : EqB P 10000 tx (.agg xs.toArray) (.agg ys.toArray) c) :
    Ex P n F w0 L ⟨d, .binOp .neq tx x y ty, t, p, af, g⟩ (.bool (!c)) := fun A w ha _ => by
  simp only [execOp, ha.ev hx, ha.ev hy, Sem.run_bind, run_eqGuard_agg w .neq tx x y _ _ hg, Result.andThen_ok, run_neq_struct, hc w, Sem.run_pure]
end

theorem bigB_inj {a b : Nat} (ha : ¬ a < 18446744073709551616) (hb : ¬ b < 18446744073709551616) (h : bigB a = bigB b) : a = b := by
  rw [bigB_big ha, bigB_big hb] at h
  have h1 : bytesN (wordsOf a) = bytesN (wordsOf b) := by
    have lt : ∀ (xs : List Nat), ∀ x ∈ bytesN xs, x < 256 := fun xs x hx => by
      simp only [bytesN, List.mem_flatMap, List.mem_cons, List.not_mem_nil, or_false] at hx
      obtain ⟨y, _, hy⟩ := hx
      omega
    have inj : ∀ (l r : List Nat), (∀ x ∈ l, x < 256) → (∀ x ∈ r, x < 256) → l.map UInt8.ofNat = r.map UInt8.ofNat → l = r := by
      intro l
      induction l with
      | nil => intro r _ _ h; cases r <;> simp_all
      | cons x l ih =>
        intro r hl hr h
        cases r with
        | nil => simp at h
        | cons y r =>
          simp only [List.map_cons, List.cons.injEq] at h
          have e : x = y := by
            have h3 := congrArg UInt8.toNat h.1
            have h4 := hl x (by simp)
            have h5 := hr y (by simp)
            simp at h3
            omega
          rw [e, ih r (fun z hz => hl z (by simp [hz])) (fun z hz => hr z (by simp [hz])) h.2]
    refine inj _ _ (lt _) (lt _) ?_
    have := congrArg (fun s : ByteArray => s.data.toList) h
    simpa [strOf] using this
  have h2 : wordsOf a = wordsOf b := by
    have hl : (wordsOf a).length = (wordsOf b).length := by
      have := congrArg List.length h1
      simp only [bytesN_length] at this
      omega
    apply List.ext_getElem hl
    intro i hi hi'
    have g : ∀ k, k < 4 → (wordsOf a).getD i 0 / 256 ^ k % 256 = (wordsOf b).getD i 0 / 256 ^ k % 256 := fun k hk => by rw [← bytesN_get _ _ _ hi hk, ← bytesN_get _ _ _ hi' hk, h1]
    have wa := (words_w32 a).getD i
    have wb := (words_w32 b).getD i
    have ea : (wordsOf a).getD i 0 = (wordsOf a)[i] := by simp [hi]
    have eb : (wordsOf b).getD i 0 = (wordsOf b)[i] := by simp [hi']
    rw [ea, eb] at g
    rw [ea] at wa
    rw [eb] at wb
    have g0 := g 0 (by omega)
    have g1 := g 1 (by omega)
    have g2 := g 2 (by omega)
    have g3 := g 3 (by omega)
    simp only [Nat.pow_zero, Nat.div_one, Nat.pow_one, show (256 : Nat) ^ 2 = 65536 from rfl, show (256 : Nat) ^ 3 = 16777216 from rfl] at g0 g1 g2 g3
    omega
  rw [← val_words a, ← val_words b, h2]
theorem eq_natL (a b : Nat) : ((((lowN a : Nat) : Int) == ((lowN b : Nat) : Int)) && (((bigB a).toList == (bigB b).toList) && true)) = decide (a = b) := by
  by_cases e : a = b
  · subst e; simp
  · rw [decide_eq_false e]
    by_cases ha : a < 18446744073709551616
    · by_cases hb : b < 18446744073709551616
      · rw [lowN_small ha, lowN_small hb]
        have : ((a : Int) == (b : Int)) = false := by simp; omega
        rw [this]; rfl
      · have h1 := nw_big hb
        rw [bigB_small ha, ← beq_toListBytes]
        have : (ByteArray.empty == bigB b) = false := by
          rw [beq_toListBytes, ByteArray.toList_eq, ByteArray.toList_eq, bigB_big hb]
          cases hl : (strOf (bytesN (wordsOf b))).data.toList with
          | nil =>
            have h3 := congrArg List.length hl
            simp [strOf, bytesN_length] at h3
            unfold nw at h1
            omega
          | cons => rfl
        rw [this]; simp
    · by_cases hb : b < 18446744073709551616
      · have h1 := nw_big ha
        rw [bigB_small hb, ← beq_toListBytes]
        have : (bigB a == ByteArray.empty) = false := by
          rw [beq_toListBytes, ByteArray.toList_eq, ByteArray.toList_eq, bigB_big ha]
          cases hl : (strOf (bytesN (wordsOf a))).data.toList with
          | nil =>
            have h3 := congrArg List.length hl
            simp [strOf, bytesN_length] at h3
            unfold nw at h1
            omega
          | cons => rfl
        rw [this]; simp
      · rw [← beq_toListBytes]
        have : (bigB a == bigB b) = false := by
          cases hbb : bigB a == bigB b with
          | false => rfl
          | true =>
            rw [beq_toListBytes] at hbb
            have h2 : (bigB a).toList = (bigB b).toList := by simpa using hbb
            rw [ByteArray.toList_eq, ByteArray.toList_eq] at h2
            have h3 : bigB a = bigB b := by
              cases hA : bigB a with | mk da => cases hB : bigB b with | mk db =>
                rw [hA, hB] at h2
                congr 1
                exact Array.toList_inj.1 h2
            exact absurd (bigB_inj ha hb h3) e
        rw [this]; simp

theorem eqB_nat (D a b : Nat) : EqB Tryz.prog (D + 2) 30 (.agg (natL a).toArray) (.agg (natL b).toArray) (decide (a = b)) := by
  rw [← eq_natL]
  exact EqB.struct Tryz.underlying30 Tryz.stoodInHeld30 (EqF.one (by decide) Tryz.isAgg28 rfl rfl (EqB.int Tryz.underlying28) (EqF.one (by decide) Tryz.isAgg9 rfl rfl (EqB.str Tryz.underlying9) EqF.nil))

end Go.Proofs.YtpkoldfmbebmgaaGreatDoor
