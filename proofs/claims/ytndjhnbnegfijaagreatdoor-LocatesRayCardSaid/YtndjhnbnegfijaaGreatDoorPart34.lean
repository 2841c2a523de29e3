import Derived.OrdersIn
import Derived.Test.YtndjhnbnegfijaaGreatDoorPart30
namespace Go.Proofs.YtndjhnbnegfijaaGreatDoor
open Go Go.RowKit
set_option linter.unusedVariables false
set_option linter.unusedSimpArgs false
section
theorem nd_at {ops : Array Oper} {l : List Oper} (h : ndO l = true) : ∀ (i : Nat) (o : Oper), l[i]? = some o → ∀ c, o.op ≠ .defer c := by
  induction l with
  | nil => intro i o hi; cases i <;> simp at hi
  | cons x l ih =>
    unfold ndO at h
    have h2 := (Bool.and_eq_true _ _ ▸ h : _ ∧ _)
    intro i o hi c
    cases i with
    | zero =>
      simp only [List.getElem?_cons_zero, Option.some.injEq] at hi
      subst hi
      intro e
      have h3 := h2.1
      rw [e] at h3
      cases h3
    | succ i => exact ih h2.2 i o (by simpa using hi) c
section
variable {r : Option Nat} {P : Program} {ops : Array Oper} {Q : Exit → Act → World → Prop} {S : World → Prop}
theorem wpOp_in {i : Nat} {a : Act} {w : World} {K K' : Act → World → Prop} (hno : ∀ a w, ¬ Q .outgrown a w) (hnd : ∀ (i : Nat) (o : Oper), ops[i]? = some o → ∀ c, o.op ≠ .defer c) (hK : ∀ a w, K a w → K' a w) (h : wpOp P ops Q i K a w) : wpOpIn (rF r) 0 P ops Q i K' a w := by
  unfold wpOp at h
  unfold wpOpIn
  cases ho : ops[i]? with
  | none => simp only [ho] at h ⊢; exact hK _ _ h
  | some o =>
    simp only [ho] at h ⊢
    split
    · rename_i hw
      rw [if_pos hw] at h
      rcases h with h | ⟨_, a', w', h⟩
      · exact oper_in hK (fun _ _ k => k) (fun k => k) (hnd i o ho) h
      · exact absurd h (hno a' w')
    · rename_i hw
      rw [if_neg hw] at h
      exact ⟨fun _ _ => trivial, hK _ _ h⟩
theorem wpAnyH_in (hno : ∀ a w, ¬ Q .outgrown a w) (hnd : ∀ (i : Nat) (o : Oper), ops[i]? = some o → ∀ c, o.op ≠ .defer c) : ∀ (fuel : Nat) (listed : Array Bool) (a : Act) (w : World), wpAnyH P .any ops Q S fuel listed a w → wpAnyIn (rF r) 0 P .any ops Q fuel listed a w
  | 0, _, _, _, h => h
  | fuel + 1, listed, a, w, h => ⟨h.1, fun i hi => wpOp_in hno hnd (fun a' w' k => wpAnyH_in hno hnd fuel _ a' w' k.2) (h.2 i hi)⟩
end
section
variable {P : Program} {ops : Array Oper} {Q : Exit → Act → World → Prop} {n : Nat} {w0 : Base} {Lro L L' : List As} {F F' : List (Nat × Value)} {l : List Oper}
theorem wp_startI {id : Nat} {r : Option Nat} {l : List Oper} (hno : ∀ a w, ¬ Q .outgrown a w) (hnd : ndO l = true) (hm : P.follows .mixedOrders = true) {k : Nat} (hk : k = l.length) (h : ∀ a w, Frm n a F → Own w0 w L → wpAnyH P .any l.toArray Q (fun w => Own w0 w Lro) k (Array.replicate l.length false) a w) : OkI r P (.region id l.toArray true) Q n F w0 L := fun a w ha hw => by
  refine wpIn_region_any hm (wpAnyH_in (S := fun w => Own w0 w Lro) hno (fun i o ho => nd_at (ops := #[]) hnd i o (by simpa using ho)) _ _ _ _ ?_)
  rw [show l.toArray.size = l.length by simp, ← hk]
  subst hk
  exact h a w.drew ha hw.drew
theorem OkI.chainE {id : Nat} {r : Option Nat} (hno : ∀ a w, ¬ Q .outgrown a w) (hnd : ndO l = true) (es : List (Nat × Bool)) (hro : Lro.Sublist L) (hm : P.follows .mixedOrders = true) (hc : chkE l es = true) (hQ : ∀ c a d v w, Q (.panic c) (a.put d v) w → Q (.panic c) a w)
    (h : OkE P l.toArray Q n w0 Lro es F L) : OkI r P (.region id l.toArray true) Q n F w0 L := by
  simp only [chkE, Bool.and_eq_true] at hc
  obtain ⟨⟨⟨h1, h2⟩, h3⟩, h4⟩ := hc
  refine wp_startI hno hnd hm (Nat.eq_of_beq_eq_true h3) fun a w ha hw => walk_E h4 hQ es [] none _ a w F L h1 lst_start (fun i hi => ?_) hro ha hw h
  have := List.all_eq_true.1 h2 i (List.mem_range.2 hi)
  simpa using this
end
section
variable {P : Program} {ops : Array Oper} {Q : Exit → Act → World → Prop} {n : Nat} {w0 : Base} {Lro L L' : List As} {F F' : List (Nat × Value)} {l : List Oper} {N : List NewE} {e2 : List (Nat × Bool)}
theorem OkI.chainN {id : Nat} {r : Option Nat} (hno : ∀ a w, ¬ Q .outgrown a w) (hnd : ndO l = true) (e1 : List (Nat × Bool)) (N : List NewE) (e2 : List (Nat × Bool)) (hro : Lro.Sublist L) (hm : P.follows .mixedOrders = true) (hc : chkN l e1 N e2 = true) (hN : ∀ x ∈ N, NewOk P l n x) (hk0 : noK N F = true) (hQ : ∀ c a d v w, Q (.panic c) (a.put d v) w → Q (.panic c) a w)
    (h : OkN P l.toArray Q n w0 Lro N e2 e1 F L) : OkI r P (.region id l.toArray true) Q n F w0 L := by
  simp only [chkN, Bool.and_eq_true] at hc
  obtain ⟨⟨⟨⟨⟨⟨⟨⟨h1, h2⟩, h3⟩, h4⟩, h5⟩, h6⟩, h7⟩, h8⟩, h9⟩ := hc
  have hlen := Nat.eq_of_beq_eq_true h5
  have hdis : ∀ e ∈ e1, e.1 ∉ N.map (·.i) := fun e he => by
    have := List.all_eq_true.1 h9 e he
    simpa using this
  refine wp_startI (Lro := Lro) hno hnd hm (k := e1.length + e2.length + N.length) hlen fun a w ha hw => ?_
  refine walk_N ⟨hN, h6, nodupB_spec h7, nodupB_spec h8, fun x hx => List.all_eq_true.1 h2 x hx, h3⟩ hQ (e1.length + N.length) e1 [] none [] (fun _ => 0) _ a w F L N.length rfl (by simp) h1 rfl (fun x => ?_) hdis (by simp) (fun i hi => ?_) ⟨lst_start, by simp, List.nodup_nil, ha, by simp, by simpa [nL] using hw, hro, hk0⟩ h
  · rw [List.mem_append]
    refine or_congr Iff.rfl ⟨fun hx => .inr ?_, fun hx => ?_⟩
    · obtain ⟨e, he, rfl⟩ := List.mem_map.1 hx
      exact List.any_eq_true.2 ⟨e, he, by simp⟩
    · rcases hx with hx | hx
      · cases hx
      · obtain ⟨e, he, rfl⟩ := any_mem hx
        exact List.mem_map_of_mem he
  · have := List.all_eq_true.1 h4 i (List.mem_range.2 hi)
    rw [Bool.or_eq_true] at this
    rcases this with h | h
    · exact .inl (by simpa using h)
    · exact .inr (.inr h)
theorem iN {id : Nat} {r : Option Nat} (e1 : List (Nat × Bool)) (N : List NewE) (e2 : List (Nat × Bool)) (hro : Lro.Sublist L) (hc : chkN l e1 N e2 = true) (hQ : ∀ c a d v w, Q (.panic c) (a.put d v) w → Q (.panic c) a w) (hN : ∀ x ∈ N, NewOk Tryz.prog l n x) (hk0 : noK N F = true) (hno : ∀ a w, ¬ Q .outgrown a w) (hnd : ndO l = true) (h : OkN Tryz.prog l.toArray Q n w0 Lro N e2 e1 F L) : OkI r Tryz.prog (.region id l.toArray true) Q n F w0 L := OkI.chainN hno hnd e1 N e2 hro follows_mixed hc hN hk0 hQ h
end
end
end Go.Proofs.YtndjhnbnegfijaaGreatDoor
