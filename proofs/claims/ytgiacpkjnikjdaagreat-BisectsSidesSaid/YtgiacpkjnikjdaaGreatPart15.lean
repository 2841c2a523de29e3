import Derived.Test.YtgiacpkjnikjdaaGreatPart06
import Derived.Test.YtgiacpkjnikjdaaGreatPart14
namespace Go.Proofs.YtgiacpkjnikjdaaGreat
open Go Go.RowKit
set_option linter.unusedVariables false
set_option linter.unusedSimpArgs false
section
def wpAnyS (P : Program) (ops : Array Oper) (Q : Exit → Act → World → Prop) (S : Array Bool → World → Prop) : Nat → Array Bool → Act → World → Prop
  | 0, listed, a, w => Region.ready .any ops listed = [] ∧ Q .normal a w
  | fuel + 1, listed, a, w => (Region.ready .any ops listed = [] → Q .normal a w) ∧
    ∀ i ∈ Region.ready .any ops listed, wpOp P ops Q i (fun a' w' => S (listed.setIfInBounds i true) w' ∧ wpAnyS P ops Q S fuel (listed.setIfInBounds i true) a' w') a w
section
variable {P : Program} {ops : Array Oper} {Q : Exit → Act → World → Prop} {S : Array Bool → World → Prop}
theorem wpAny_of_S : ∀ (fuel : Nat) (listed : Array Bool) (a : Act) (w : World), wpAnyS P ops Q S fuel listed a w → wpAny P .any ops Q fuel listed a w
  | 0, _, _, _, h => h
  | fuel + 1, _, _, _, h => ⟨h.1, fun i hi => wpOp_mono (fun a' w' h' => wpAny_of_S fuel _ a' w' h'.2) (h.2 i hi)⟩
theorem wpAnyS_of_H {T : World → Prop} : ∀ (fuel : Nat) (listed : Array Bool) (a : Act) (w : World), (∀ l', (∀ j, listed.getD j false = true → l'.getD j false = true) → ∀ w, T w → S l' w) → wpAnyH P .any ops Q T fuel listed a w → wpAnyS P ops Q S fuel listed a w
  | 0, _, _, _, _, h => h
  | fuel + 1, listed, a, w, hT, h => ⟨h.1, fun i hi => wpOp_mono (fun a' w' h' => ⟨hT _ (fun j hj => getD_set_true hj) w' h'.1, wpAnyS_of_H fuel _ a' w' (fun l' hl w hw => hT l' (fun j hj => hl j (getD_set_true hj)) w hw) h'.2⟩) (h.2 i hi)⟩
def ClosedL (ops : Array Oper) (listed : Array Bool) : Prop := ∀ (j : Nat) (o : Oper), listed.getD j false = true → ops[j]? = some o → ∀ e ∈ o.after, Region.binds .any e = true → listed.getD e.on false = true
theorem ClosedL.set {listed : Array Bool} (h : ClosedL ops listed) {i : Nat} (hi : i ∈ Region.ready .any ops listed) : ClosedL ops (listed.setIfInBounds i true) := fun j o hj ho e he hb => by
  obtain ⟨h0, o', ho', hall⟩ := mem_ready.1 hi
  by_cases e1 : i = j
  · subst e1
    rw [ho'] at ho; injection ho with ho; subst ho
    exact getD_set_true (hall e he hb)
  · rw [getD_set_ne false e1] at hj
    exact getD_set_true (h j o hj ho e he hb)
theorem wpAnyS_first {T : World → Prop} {i : Nat} {oi : Oper} {v : Value} (hi : ops[i]? = some oi) (hsel : ∀ (j : Nat) (o : Oper) cs b, ops[j]? = some o → o.op ≠ .select cs b) (hQ : ∀ c a w, Q (.panic c) (a.put oi.dst v) w → Q (.panic c) a w)
    (hT : ∀ listed w, ClosedL ops listed → i ∈ Region.ready .any ops listed → S listed w → T w) (hS : ∀ listed w, S (listed.setIfInBounds i true) w ↔ S listed w) :
    ∀ (fuel : Nat) (listed : Array Bool) (a : Act) (w : World),
      (∀ j oj, ops[j]? = some oj → j ≠ i → listed.getD j true = false → (∀ e ∈ oj.after, Region.binds .any e = true → e.on ≠ i) → oi.apart ops oj = true) →
      i ∈ Region.ready .any ops listed → YieldsIf P ops T oi v a → S listed w → ClosedL ops listed →
      wpAnyS P ops Q S fuel (listed.setIfInBounds i true) (a.put oi.dst v) w → wpAnyS P ops Q S (fuel + 1) listed a w := by
  intro fuel
  induction fuel with
  | zero =>
    intro listed a w _ hr hy hw hcl H
    refine ⟨fun h => (by rw [h] at hr; cases hr), fun j hj => ?_⟩
    by_cases hji : j = i
    · subst hji; exact hy.wpOp hi (hT listed w hcl hr hw) ⟨(hS _ _).2 hw, H⟩
    · have := ready_mono hj hji
      rw [H.1] at this
      cases this
  | succ fuel ih =>
    intro listed a w hfree hr hy hw hcl H
    refine ⟨fun h => (by rw [h] at hr; cases hr), fun j hj => ?_⟩
    by_cases hji : j = i
    · subst hji; exact hy.wpOp hi (hT listed w hcl hr hw) ⟨(hS _ _).2 hw, H⟩
    · have h1 := H.2 j (ready_mono hj hji)
      obtain ⟨hjun, oj, hoj, hall⟩ := mem_ready.1 hj
      have hnot : ∀ e ∈ oj.after, Region.binds .any e = true → e.on ≠ i := fun e he hb heq => by
        have h1 := hall e he hb
        have h0 := (mem_ready.1 hr).1
        rw [heq] at h1
        rcases Nat.lt_or_ge i listed.size with h' | h'
        · simp [h'] at h0 h1; rw [h0] at h1; cases h1
        · simp [Array.getElem?_eq_none h'] at h1
      have h2 := wpOp_putIf hoj (hfree j oj hoj hji hjun hnot) (fun cs b => hsel i oi cs b hi) (fun cs b => hsel j oj cs b hoj) hQ hy h1
      have hfree' : ∀ k ok, ops[k]? = some ok → k ≠ i → (listed.setIfInBounds j true).getD k true = false →
          (∀ e ∈ ok.after, Region.binds .any e = true → e.on ≠ i) → oi.apart ops ok = true := fun k ok hk hki hun hno => by
        refine hfree k ok hk hki ?_ hno
        by_cases hjk : j = k
        · subst hjk; exact hjun
        · rw [getD_set_ne true hjk] at hun; exact hun
      refine wpOp_mono (fun a' w' h3 => ?_) h2
      obtain ⟨h4, h5, h6⟩ := h3
      rw [Array.setIfInBounds_comm _ _ (Ne.symm hji)] at h5 h6
      have h7 := (hS _ _).1 h5
      exact ⟨h7, ih (listed.setIfInBounds j true) a' w' hfree' (ready_mono hr (Ne.symm hji)) h4 h7 (hcl.set hj) h6⟩
end
def OkF (P : Program) (ops : Array Oper) (Q : Exit → Act → World → Prop) (n : Nat) (w0 : Base) (Lro : List As) (K : List (Nat × Value) → List As → Prop) : List (Nat × Bool) → List (Nat × Value) → List As → Prop
  | [], F, L => K F L
  | (i, true) :: r, F, L => ∃ o d v, ops[i]? = some o ∧ o.dst = some d ∧ d < n ∧ Pas P ops n w0 Lro F o v ∧ OkF P ops Q n w0 Lro K r ((d, v) :: F) L
  | (i, false) :: r, F, L => ∃ o, ops[i]? = some o ∧ OkL P ops [o] (PE Q n w0 Lro fun F' L' => OkF P ops Q n w0 Lro K r F' L') n F w0 L
def OkCut (P : Program) (ops : Array Oper) (Q : Exit → Act → World → Prop) (n : Nat) (w0 : Base) (LB : List As) (k : Nat) (e2 : List (Nat × Bool)) (F : List (Nat × Value)) (L : List As) : Prop :=
  ∃ o, ops[k]? = some o ∧ OkL P ops [o] (PE Q n w0 LB fun F' L' => OkE P ops Q n w0 LB e2 F' L') n F w0 L
def chkCut (l : List Oper) (e1 : List (Nat × Bool)) (k : Nat) (e2 : List (Nat × Bool)) : Bool :=
  chkGo l [] none (e1 ++ (k, false) :: e2) && chkAll l [] (e1 ++ (k, false) :: e2) && Nat.beq (e1.length + e2.length + 1) l.length && Region.noSelect l.toArray && (match l[k]? with | some o => e1.all fun e => !e.2 || hasEdge o e.1 | none => false)
section
variable {P : Program} {ops : Array Oper} {Q : Exit → Act → World → Prop} {n : Nat} {w0 : Base} {LA LB L L' : List As} {F F' : List (Nat × Value)} {l : List Oper} {e2 : List (Nat × Bool)} {k : Nat}
theorem walk_cut (hsel : Region.noSelect l.toArray = true) (hQ : ∀ c a d v w, Q (.panic c) (a.put d v) w → Q (.panic c) a w) (hAB : LB.Sublist LA) {ok : Oper} (hok : l[k]? = some ok) :
    ∀ (es : List (Nat × Bool)) (D : List Nat) (p : Option Nat) (listed : Array Bool) (a : Act) (w : World) (F : List (Nat × Value)) (L : List As),
      (es.all fun e => !e.2 || hasEdge ok e.1) = true → k ∉ D → chkGo l D p (es ++ (k, false) :: e2) = true → Lst l D listed → (∀ i, i < l.length → i ∈ D ∨ (es ++ (k, false) :: e2).any (fun e => e.1 == i) = true) → Wk LA L → Frm n a F → Own w0 w L → OkF P l.toArray Q n w0 LA (OkCut P l.toArray Q n w0 LB k e2) es F L →
      wpAnyS P l.toArray Q (fun listed w => Own w0 w (if listed.getD k false = true then LB else LA)) (es.length + e2.length + 1) listed a w := by
  have only : ∀ (i : Nat) (r : List (Nat × Bool)) (D : List Nat) (p : Option Nat) (listed : Array Bool), chkGo l D p ((i, false) :: r) = true → Lst l D listed → (∀ j, j < l.length → j ∈ D ∨ ((i, false) :: r).any (fun e => e.1 == j) = true) → ∀ j, j ∈ Region.ready .any l.toArray listed → j = i := fun i r D p listed hc hL hall j hj => by
    obtain ⟨o, hg⟩ := chkGo_hd hc
    obtain ⟨h0, oj, hoj, _⟩ := mem_ready.1 hj
    have hjl : j < l.length := by simpa using (Array.getElem?_eq_some_iff.1 hoj).1
    rw [getD_tf (by rw [hL.size]; exact hjl)] at h0
    rcases hall j hjl with h1 | h1
    · rw [(hL.mem j).1 h1] at h0; cases h0
    · obtain ⟨e, he, rfl⟩ := any_mem h1
      rcases List.mem_cons.1 he with rfl | he
      · rfl
      · exact absurd hj (notReady hL.cl hg.tl (hL.no hg.nin) (fun e he => hL.no fun hd => (chkGo_out hg.tl e he).1 (List.mem_cons_of_mem _ hd)) e he)
  have nxt : ∀ (i : Nat) (b : Bool) (r : List (Nat × Bool)) (D : List Nat), (∀ j, j < l.length → j ∈ D ∨ ((i, b) :: r).any (fun e => e.1 == j) = true) → ∀ j, j < l.length → j ∈ i :: D ∨ r.any (fun e => e.1 == j) = true := fun i b r D hall j hj => by
    rcases hall j hj with h1 | h1
    · exact .inl (List.mem_cons_of_mem _ h1)
    · simp only [List.any_cons, Bool.or_eq_true, beq_iff_eq] at h1
      rcases h1 with h1 | h1
      · exact .inl (h1 ▸ List.mem_cons_self)
      · exact .inr h1
  intro es
  induction es with
  | nil =>
    intro D p listed a w F L hE hkD hc hL hall hro ha hw h
    obtain ⟨o', ho', h⟩ := h
    simp only [List.nil_append, List.length_nil, Nat.zero_add] at hc hall ⊢
    obtain ⟨o, hg⟩ := chkGo_hd hc
    have hat : l.toArray[k]? = some o := by simpa using hg.at_
    rw [hat] at ho'; injection ho' with ho'; subst ho'
    have hkl : k < l.length := (List.getElem?_eq_some_iff.1 hg.at_).1
    have hp : ∀ e ∈ o.after, Region.binds .any e = true → listed.getD e.on false = true := fun e he hb => (hL.mem _).1 (hg.pre e he hb)
    have hrd : k ∈ Region.ready .any l.toArray listed := mem_ready.2 ⟨by rw [getD_tf (by rw [hL.size]; exact hkl)]; exact hL.no hg.nin, o, hat, hp⟩
    refine ⟨fun h0 => absurd hrd (by rw [h0]; exact List.not_mem_nil), fun j hj => ?_⟩
    have hjk := only k e2 D p listed hc hL hall j hj
    subst hjk
    have hlk : (listed.setIfInBounds j true).getD j false = true := by rw [getD_set _ _ _ _ (by rw [hL.size]; exact hkl)]; simp
    refine wpOp_of hat (h a w ha hw) fun F' L' a' w' h1 h2 h3 h4 => ⟨by show Own _ _ (ite _ _ _); rw [if_pos hlk]; exact h3 _ _ h2, ?_⟩
    exact wpAnyS_of_H (T := fun w => Own w0 w LB) _ _ _ _ (fun l' hl w hw => by show Own _ _ (ite _ _ _); rw [if_pos (hl j hlk)]; exact hw) (walk_E hsel hQ e2 (j :: D) (some j) _ a' w' F' L' hg.tl (hL.add hg.at_ hp) (nxt j false e2 D hall) h3 h1 h2 h4)
  | cons e r ih =>
    intro D p listed a w F L hE hkD hc hL hall hro ha hw h
    obtain ⟨i, b⟩ := e
    rw [List.cons_append] at hc hall
    obtain ⟨o, hg⟩ := chkGo_hd hc
    have hat : l.toArray[i]? = some o := by simpa using hg.at_
    have hil : i < l.length := (List.getElem?_eq_some_iff.1 hg.at_).1
    have hp : ∀ e ∈ o.after, Region.binds .any e = true → listed.getD e.on false = true := fun e he hb => (hL.mem _).1 (hg.pre e he hb)
    have hrd : i ∈ Region.ready .any l.toArray listed := mem_ready.2 ⟨by rw [getD_tf (by rw [hL.size]; exact hil)]; exact hL.no hg.nin, o, hat, hp⟩
    have hki : k ≠ i := fun e => (chkGo_out hg.tl (k, false) (List.mem_append_right _ List.mem_cons_self)).1 (e ▸ List.mem_cons_self)
    have hkD' : k ∉ i :: D := fun h => (List.mem_cons.1 h).elim hki hkD
    have hE' : (r.all fun e => !e.2 || hasEdge ok e.1) = true := by rw [List.all_cons, Bool.and_eq_true] at hE; exact hE.2
    have hnk : listed.getD k false = false := hL.no hkD
    have hnk' : (listed.setIfInBounds i true).getD k false = false := (hL.add hg.at_ hp).no hkD'
    rw [show ((i, b) :: r).length + e2.length + 1 = r.length + e2.length + 1 + 1 by simp only [List.length_cons]; omega]
    cases b with
    | true =>
      obtain ⟨o', d, v, ho', hd, hdn, hy, hn⟩ := h
      rw [hat] at ho'; injection ho' with ho'; subst ho'
      have hyield : YieldsIf P l.toArray (fun w => Own w0 w LA) o v a := by
        rcases hy with ⟨h1, h2⟩ | ⟨h1, h2⟩
        · exact .inl ⟨h1 a ha, fun w hW => h2 a w ha hW⟩
        · exact .inr ⟨h1 a ha, h2⟩
      have hedge : hasEdge ok i = true := by
        rw [List.all_cons, Bool.and_eq_true] at hE
        simpa using hE.1
      refine wpAnyS_first hat (Region.noSelect_spec hsel) (fun c a w => hQ' hQ c a o.dst v w) (T := fun w => Own w0 w LA) (fun l' w hcl hr hS => ?_) (fun l' w => ?_) _ listed a w (hfree_of hL hg.at_ (hg.fr rfl) hp) hrd hyield ?_ (fun j oj hj ho e he hb => hL.cl j oj hj (by simpa using ho) e he hb) ?_
      · have hkf : ¬ l'.getD k false = true := fun hk => by
          obtain ⟨e, he, hb, rfl⟩ := hasEdge_spec hedge
          have h1 := hcl k ok hk (by simpa using hok) e he hb
          obtain ⟨h0, _⟩ := mem_ready.1 hr
          rcases Nat.lt_or_ge e.on l'.size with h5 | h5
          · rw [getD_tf h5] at h0; rw [h0] at h1; cases h1
          · simp [Array.getElem?_eq_none h5] at h1
        have hS : Own w0 w (if l'.getD k false = true then LB else LA) := hS
        rw [if_neg hkf] at hS; exact hS
      · show Own _ _ (ite _ _ _) ↔ Own _ _ (ite _ _ _); rw [getD_set_ne false (Ne.symm hki)]
      · show Own _ _ (ite _ _ _); rw [if_neg (by rw [hnk]; exact Bool.false_ne_true)]; exact hro _ _ hw
      · exact ih (i :: D) p _ _ w ((d, v) :: F) L hE' hkD' hg.tl (hL.add hg.at_ hp) (nxt i true _ D hall) hro (by rw [hd]; exact ha.put hdn) hw hn
    | false =>
      obtain ⟨o', ho', h⟩ := h
      rw [hat] at ho'; injection ho' with ho'; subst ho'
      refine ⟨fun h0 => absurd hrd (by rw [h0]; exact List.not_mem_nil), fun j hj => ?_⟩
      have hji := only i (r ++ (k, false) :: e2) D p listed hc hL hall j hj
      subst hji
      refine wpOp_of hat (h a w ha hw) fun F' L' a' w' h1 h2 h3 h4 => ⟨by show Own _ _ (ite _ _ _); rw [if_neg (by rw [hnk']; exact Bool.false_ne_true)]; exact h3 _ _ h2, ?_⟩
      exact ih (j :: D) (some j) _ a' w' F' L' hE' hkD' hg.tl (hL.add hg.at_ hp) (nxt j false _ D hall) h3 h1 h2 h4
theorem rCW {id : Nat} (e1 : List (Nat × Bool)) (k : Nat) (e2 : List (Nat × Bool)) (hA : Wk LA L) (hAB : LB.Sublist LA) (hc : chkCut l e1 k e2 = true) (hQ : ∀ c a d v w, Q (.panic c) (a.put d v) w → Q (.panic c) a w)
    (h : OkF Tryz.prog l.toArray Q n w0 LA (OkCut Tryz.prog l.toArray Q n w0 LB k e2) e1 F L) : OkC Tryz.prog (.region id l.toArray true) Q n F w0 L := fun a w ha hw => by
  simp only [chkCut, Bool.and_eq_true] at hc
  obtain ⟨⟨⟨⟨h1, h2⟩, h3⟩, h4⟩, h5⟩ := hc
  have hlen := Nat.eq_of_beq_eq_true h3
  cases hok : l[k]? with
  | none => simp [hok] at h5
  | some ok =>
    simp only [hok] at h5
    refine wp_region_any follows_mixed (wpAny_of_S (S := fun listed w => Own w0 w (if listed.getD k false = true then LB else LA)) _ _ _ _ ?_)
    rw [show l.toArray.size = e1.length + e2.length + 1 by rw [hlen]; simp]
    have hst := lst_start (l := l)
    rw [← hlen] at hst
    refine walk_cut h4 hQ hAB hok e1 [] none _ a w.drew F L h5 (by simp) h1 hst (fun i hi => ?_) hA ha hw.drew h
    have := List.all_eq_true.1 h2 i (List.mem_range.2 hi)
    simpa using this
theorem rC {id : Nat} (e1 : List (Nat × Bool)) (k : Nat) (e2 : List (Nat × Bool)) (hA : LA.Sublist L) (hAB : LB.Sublist LA) (hc : chkCut l e1 k e2 = true) (hQ : ∀ c a d v w, Q (.panic c) (a.put d v) w → Q (.panic c) a w)
    (h : OkF Tryz.prog l.toArray Q n w0 LA (OkCut Tryz.prog l.toArray Q n w0 LB k e2) e1 F L) : OkC Tryz.prog (.region id l.toArray true) Q n F w0 L := rCW e1 k e2 (Wk.of hA) hAB hc hQ h
variable {r : List (Nat × Bool)} {i d s b off : Nat} {op : Op} {t ty T : TypeId} {p : String} {af : Array Edge} {u v : Value} {x y : Operand} {cs vs : List Value} {o : Oper} {K : List (Nat × Value) → List As → Prop}
theorem OkF.back (hro : LA.Sublist L') (h : OkF P ops Q n w0 LA K r F' L') : OkL P ops [] (PE Q n w0 LA fun F' L' => OkF P ops Q n w0 LA K r F' L') n F' w0 L' := OkL.nil fun a w ha hw => ⟨F', L', ha, hw, Wk.of hro, h⟩
theorem OkF.backW (hro : Wk LA L') (h : OkF P ops Q n w0 LA K r F' L') : OkL P ops [] (PE Q n w0 LA fun F' L' => OkF P ops Q n w0 LA K r F' L') n F' w0 L' := OkL.nil fun a w ha hw => ⟨F', L', ha, hw, hro, h⟩
theorem OkF.imp (ho : ops[i]? = some o) (h : OkL P ops [o] (PE Q n w0 LA fun F' L' => OkF P ops Q n w0 LA K r F' L') n F w0 L) : OkF P ops Q n w0 LA K ((i, false) :: r) F L := ⟨o, ho, h⟩
theorem OkF.cut (ho : ops[k]? = some o) (h : OkL P ops [o] (PE Q n w0 LB fun F' L' => OkE P ops Q n w0 LB e2 F' L') n F w0 L) : OkF P ops Q n w0 LA (OkCut P ops Q n w0 LB k e2) [] F L := ⟨o, ho, h⟩
theorem OkF.pas (ho : ops[i]? = some o) (hw : Wt ops n F o) (he : Ex P n F w0 LA o v) (hd : o.dst = some d) (hn : Nat.ble (d + 1) n = true) (next : OkF P ops Q n w0 LA K r ((d, v) :: F) L) : OkF P ops Q n w0 LA K ((i, true) :: r) F L := ⟨o, d, v, ho, hd, Nat.le_of_ble_eq_true hn, .inl ⟨hw, he⟩, next⟩
theorem OkF.skp (ho : ops[i]? = some o) (hw : ∀ a, Frm n a F → Region.wanted o (yielded ops a.tmps) = false) (hd : o.dst = some d) (hn : Nat.ble (d + 1) n = true) (next : OkF P ops Q n w0 LA K r ((d, undef) :: F) L) : OkF P ops Q n w0 LA K ((i, true) :: r) F L := ⟨o, d, undef, ho, hd, Nat.le_of_ble_eq_true hn, .inr ⟨hw, rfl⟩, next⟩
theorem vE (ho : ops[i]? = some ⟨some d, op, t, p, af, none⟩) (he : Ex P n F w0 LA ⟨some d, op, t, p, af, none⟩ v) (hn : Nat.ble (d + 1) n = true) (next : OkF P ops Q n w0 LA K r ((d, v) :: F) L) : OkF P ops Q n w0 LA K ((i, true) :: r) F L := OkF.pas ho (wt_none rfl) he rfl hn next
theorem vM (ho : ops[i]? = some ⟨some d, .move x, t, p, af, none⟩) (hx : evF F x = some v) (hn : Nat.ble (d + 1) n = true) (next : OkF P ops Q n w0 LA K r ((d, v) :: F) L) : OkF P ops Q n w0 LA K ((i, true) :: r) F L := vE ho (ex_move hx) hn next
end
end
section
set_option maxRecDepth 100000
theorem half_ok (g N c : Nat) (us : List Nat) (hus : W32 us) (hlu : us.length = N) (hN : N ≤ 4398046511104) (w : World) (hg : w.heap[g]? = some (.cells (u32s us).toArray 105 (0, 0))) : Calls Tryz.prog 208 #[(Value.slice (some ⟨g, 0, none⟩) N c)] w (fun e w' => e = .returned (.tuple #[]) ∧ Grw w w' (some g) ∧ w'.heap[g]? = some (.cells (u32s (rowN N (val us / 2))).toArray 105 (0, 0))) := by
 refine calls_ofM (args := [(Value.slice (some ⟨g, 0, none⟩) N c)]) (g := g) (T := 105) (cs := u32s us) Tryz.func208 rfl rfl (leB rfl) hg (OkC.subF (sL [0] rfl) (q4 (mv' rfl (st' (v := (vN N)) (ex_len_slice rfl Tryz.underlying226) rfl (mv' rfl ?_)))))
 refine OkL.nil (OkQ.subF (sL [0, 4, 5] rfl) (OkQ.then_ (OkC.block ?_)))
 refine OkC.lp2 (tg fun (i : Nat) (os : List Nat) => i ≤ N ∧ os.length = N ∧ W32 os ∧ os.drop i = us.drop i ∧ 2 * val (os.take i) + us.getD 0 0 % 2 = val (us.take i) + us.getD i 0 % 2 * 4294967296 ^ i) (tg fun (i : Nat) (os : List Nat) => [(0, (Value.slice (some ⟨g, 0, none⟩) N c)), (4, (vN N)), (5, (vN i))]) (tg fun (i : Nat) (os : List Nat) => [blk g 105 (u32s os)]) (tg fun (i : Nat) (os : List Nat) => N - i) 0 us (⟨Nat.zero_le _, hlu, hus, rfl, by simp [val]⟩) (sF rfl) sr (fun i os hJ => ?_)
 obtain ⟨hi, hl, hw32, hd, hv⟩ := hJ
 refine q4 (st' (ex_lss (c := (decide (i < N))) rfl rfl (ltN (a := i) (b := N))) rfl (OkL.nil (q1 ?_)))
 refine OkC.cond rfl (fun hc0 => ?_) (fun hc0 => ?_)
 ·replace hc0 := of_decide_eq_true hc0
  refine OkC.skip (q1 (OkC.block (q4 (mv' rfl (asg' rfl ?_)))))
  refine q3 (sL [0, 4, 5, 2] rfl) (mv' rfl (mv' rfl (st' (v := (pP g i)) (ex_indexAddr_slice (j := i) rfl rfl Tryz.underlying226 Tryz.sizeOf105 rfl (by omega) (by simp)) rfl ?_)))
  have hx1 : os.getD i 0 < 4294967296 := W32.getD hw32 i
  refine st' (ex_load_one (i := 0) (v := (vK .u32 (os.getD i 0))) rfl rfl Tryz.isAgg105 (u32s_get (xs := os) (j := i) (by omega))) rfl ?_
  have hui := hus.getD i
  have huj := hus.getD (i + 1)
  refine OkL.retell (k := 11) (u := (vK .u32 (us.getD i 0))) rfl (by rw [drop_getD hd (Nat.le_refl _)]) (st' (ex_shr (s := 1) (c := (((us.getD i 0) / 2 : Nat) : Int)) rfl rfl rfl (by decide) (shrN (a := us.getD i 0) (s := 1))) rfl (st' (v := (pP g i)) (ex_indexAddr_slice (j := i) rfl rfl Tryz.underlying226 Tryz.sizeOf105 rfl (by omega) (by simp)) rfl (OkL.store' (i := 0) (off := i) (vs := [(vK .u32 ((us.getD i 0) / 2))]) (cs' := u32s (os.set i ((us.getD i 0) / 2))) (L' := [blk g 105 (u32s (os.set i ((us.getD i 0) / 2)))]) (wt_none rfl) rfl rfl rfl rfl rfl Tryz.sizeOf105 rfl (ble_row (u32s_length _) (by omega)) (u32s_set (by omega)) rfl (q3 (sL [0, 4, 5, 2] rfl) (mv' rfl ?_)))))
  refine st' (ex_add (c := ((i + 1 : Nat) : Int)) rfl rfl (addN_i64 (a := i) (b := 1) (by omega))) rfl (mv' rfl (st' (v := (vN N)) (ex_len_slice rfl Tryz.underlying226) rfl (st' (ex_lss (c := (decide ((i + 1) < N))) rfl rfl (ltN (a := i + 1) (b := N))) rfl (OkL.nil (OkQ.subF (sL [0, 4, 5, 2, 18] rfl) ?_)))))
  refine OkQ.then_ ?_
  refine OkC.jn0 (tg True) (tg [(0, (Value.slice (some ⟨g, 0, none⟩) N c)), (4, (vN N)), (5, (vN i))]) (tg [blk g 105 (u32s (os.set i (us.getD i 0 / 2 + us.getD (i + 1) 0 % 2 * 2147483648)))]) ?_ ?_
  ·skip
   refine OkC.cond rfl (fun hc1 => ?_) (fun hc1 => ?_)
   ·replace hc1 := of_decide_eq_true hc1
    refine rC [(0, true), (1, true), (2, true), (3, true), (4, true), (5, true), (6, true), (7, true), (8, true), (9, true), (10, true), (11, true)] 12 [] sr (sl sr) (by kernel_rfl) (fun _ _ d _ _ h => by cases d <;> exact h) ?_
    have e1 : (os.set i (us.getD i 0 / 2)).getD i 0 = us.getD i 0 / 2 := set_getD_self (by omega)
    have e2 : (os.set i (us.getD i 0 / 2)).getD (i + 1) 0 = us.getD (i + 1) 0 := by rw [set_getD_ne (by omega), drop_getD hd (by omega)]
    have hll : (os.set i (us.getD i 0 / 2)).length = N := by rw [List.length_set]; exact hl
    refine vM rfl rfl rfl (vM rfl rfl rfl (vE (v := (pP g i)) rfl (ex_indexAddr_slice (j := i) rfl rfl Tryz.underlying226 Tryz.sizeOf105 rfl (by omega) (by simp)) rfl ?_))
    have hx2 : (os.set i ((us.getD i 0) / 2)).getD i 0 < 4294967296 := W32.getD (W32.set hw32 (by omega) i) i
    refine vE rfl (ex_load_one (i := 0) (v := (vK .u32 ((os.set i ((us.getD i 0) / 2)).getD i 0))) rfl rfl Tryz.isAgg105 (u32s_get (xs := os.set i ((us.getD i 0) / 2)) (j := i) (by omega))) rfl (vM rfl rfl rfl (vM rfl rfl rfl (vE rfl (ex_add (c := ((i + 1 : Nat) : Int)) rfl rfl (addN_i64 (a := i) (b := 1) (by omega))) rfl (vE (v := (pP g (i + 1))) rfl (ex_indexAddr_slice (j := i + 1) rfl rfl Tryz.underlying226 Tryz.sizeOf105 rfl (by omega) (by simp)) rfl ?_))))
    have hx3 : (os.set i ((us.getD i 0) / 2)).getD (i + 1) 0 < 4294967296 := W32.getD (W32.set hw32 (by omega) i) (i + 1)
    refine vE rfl (ex_load_one (i := 0) (v := (vK .u32 ((os.set i ((us.getD i 0) / 2)).getD (i + 1) 0))) rfl rfl Tryz.isAgg105 (u32s_get (xs := os.set i ((us.getD i 0) / 2)) (j := (i + 1)) (by omega))) rfl (vE (v := (vK .u32 ((os.set i (us.getD i 0 / 2)).getD (i + 1) 0 * 2 ^ 31 % 4294967296))) rfl (ex_shl (s := 31) rfl rfl rfl (by decide) shlN_u32m) rfl (vE rfl (ex_or (c := ((us.getD i 0 / 2 + us.getD (i + 1) 0 % 2 * 2147483648 : Nat) : Int)) rfl rfl (orN_u32 (by rw [e1]; omega) (Nat.mod_lt _ (by omega)) (by rw [e1, e2]; exact half_or (by omega)))) rfl (vE (v := (pP g i)) rfl (ex_indexAddr_slice (j := i) rfl rfl Tryz.underlying226 Tryz.sizeOf105 rfl (by omega) (by simp)) rfl (OkF.cut rfl (OkL.store' (i := 0) (off := i) (vs := [(vK .u32 (us.getD i 0 / 2 + us.getD (i + 1) 0 % 2 * 2147483648))]) (cs' := u32s ((os.set i ((us.getD i 0) / 2)).set i (us.getD i 0 / 2 + us.getD (i + 1) 0 % 2 * 2147483648))) (L' := [blk g 105 (u32s ((os.set i ((us.getD i 0) / 2)).set i (us.getD i 0 / 2 + us.getD (i + 1) 0 % 2 * 2147483648)))]) (wt_none rfl) rfl rfl rfl rfl rfl Tryz.sizeOf105 rfl (ble_row (u32s_length _) (by omega)) (u32s_set (by omega)) rfl ?_)))))
    exact OkE.back (sl sr) (OkE.nil (OkQ.subF (sL [0, 4, 5, 2] rfl) (OkQ.reblock (L' := [blk g 105 (u32s (os.set i (us.getD i 0 / 2 + us.getD (i + 1) 0 % 2 * 2147483648)))]) (by rw [List.set_set]) (OkQ.join0  (trivial) (sF rfl) sr))))
   ·replace hc1 := of_decide_eq_false hc1
    refine OkC.skip ?_
    refine OkQ.reblock (L' := [blk g 105 (u32s (os.set i (us.getD i 0 / 2 + us.getD (i + 1) 0 % 2 * 2147483648)))]) (by rw [show us.getD (i + 1) 0 = 0 by simp [List.getD_eq_getElem?_getD, show N ≤ i + 1 by omega, hlu], Nat.zero_mod, Nat.zero_mul, Nat.add_zero]) ?_
    exact OkQ.join0  (trivial) (sF rfl) sr
  ·intro hJ
   refine OkQ.in_normal (OkQ.then_ (OkC.region (st' (ex_add (c := ((i + 1 : Nat) : Int)) rfl rfl (addN_i64 (a := i) (b := 1) (by omega))) rfl (mv' rfl (OkL.nil ?_)))))
   refine OkQ.subF (sL [0, 4, 5] rfl) ?_
   have hst := half_step hlu hl hc0 hus hd hv (x := us.getD i 0 / 2 + us.getD (i + 1) 0 % 2 * 2147483648) rfl
   exact OkQ.round2 (i + 1) (os.set i (us.getD i 0 / 2 + us.getD (i + 1) 0 % 2 * 2147483648)) (⟨by omega, by rw [List.length_set]; exact hl, W32.set hw32 (by omega) _, hst.1, hst.2⟩) (by omega) (sF rfl) sr
 ·replace hc0 := of_decide_eq_false hc0
  have hiN : i = N := by omega
  have hfin := half_done hlu hl (by rw [← hiN]; exact hv) hus
  exact OkC.exit (OkQ.then_exit (OkQ.round2_exit (OkQ.in_exit (ret_none (.inr rfl) rfl  (fun w hw => ⟨rfl, hw.1, by rw [← row_eq hw32 hl hfin]; exact hw.get (i := 0) rfl⟩)))))
theorem less_ok (g q k n N c1 c3 D : Nat) (us vb : List Nat) (hus : W32 us) (hlu : us.length = N) (hvb : W32 vb) (hn : n ≤ vb.length) (hk : k + n + 1 ≤ N) (hN : N ≤ 4398046511104) (hD : D < 4294967296) (hu : val us < 4294967296 ^ (k + n + 1)) (hne : q ≠ g) (w : World) (hg : w.heap[g]? = some (.cells (u32s us).toArray 105 (0, 0))) (hq : w.heap[q]? = some (.cells (u32s vb).toArray 105 (0, 0))) : Calls Tryz.prog 207 #[(Value.slice (some ⟨g, k, none⟩) (n + 1) c1), (Value.slice (some ⟨q, 0, none⟩) n c3), (vK .u64 D)] w (fun e w' => e = .returned (.bool (decide (val us < D * val (vb.take n) * 4294967296 ^ k))) ∧ Grw w w' (some g) ∧ w'.heap[g]? = some (.cells (u32s (rowN N (val us + (if val us < D * val (vb.take n) * 4294967296 ^ k then 4294967296 ^ (k + n + 1) else 0) - D * val (vb.take n) * 4294967296 ^ k))).toArray 105 (0, 0))) := by
 refine calls_ofM (args := [(Value.slice (some ⟨g, k, none⟩) (n + 1) c1), (Value.slice (some ⟨q, 0, none⟩) n c3), (vK .u64 D)]) (g := g) (T := 105) (cs := u32s us) Tryz.func207 rfl rfl (leB rfl) hg (OkC.subF (sL [0, 1, 2] rfl) (q4 (asg' rfl (OkL.nil (q2 ?_)))))
 refine asg' rfl (asg' rfl (OkL.nil (q1 (q4 (mv' rfl ?_)))))
 refine st' (v := (vN n)) (ex_len_slice rfl Tryz.underlying226) rfl (mv' rfl (OkL.nil (OkQ.then_ (OkC.block ?_))))
 refine OkC.lp4 (tg fun (i : Nat) (os : List Nat) (c : Nat) (l : Nat) => i ≤ n ∧ os.length = N ∧ W32 os ∧ c < 4294967296 ∧ l ≤ 1 ∧ (∀ j, k + n + 1 ≤ j → os.getD j 0 = 0) ∧ val os + D * val (vb.take i) * 4294967296 ^ k = val us + (c + l) * 4294967296 ^ (k + i)) (tg fun (i : Nat) (os : List Nat) (c : Nat) (l : Nat) => [(0, (Value.slice (some ⟨g, k, none⟩) (n + 1) c1)), (1, (Value.slice (some ⟨q, 0, none⟩) n c3)), (2, (vK .u64 D)), (6, (Value.bool false)), (12, (Value.slice (some ⟨q, 0, none⟩) n c3)), (13, (vN n)), (14, (vN i)), (7, (vK .u64 c)), (8, (vK .u32 l))]) (tg fun (i : Nat) (os : List Nat) (c : Nat) (l : Nat) => [blk g 105 (u32s os)]) (tg fun (i : Nat) (os : List Nat) (c : Nat) (l : Nat) => n - i) 0 us 0 0 (⟨Nat.zero_le _, hlu, hus, by omega, by omega, zero_of_val hu, by simp [val]⟩) (sF rfl) sr (fun i os c l hJ => ?_)
 obtain ⟨hi, hl, hw32, hcb, hll, hz, hv⟩ := hJ
 refine q4 (st' (ex_lss (c := (decide (i < n))) rfl rfl (ltN (a := i) (b := n))) rfl (OkL.nil (q1 ?_)))
 refine OkC.cond rfl (fun hc0 => ?_) (fun hc0 => ?_)
 ·replace hc0 := of_decide_eq_true hc0
  refine OkC.skip (q1 (OkC.block (q4 (mv' rfl (st' (v := (pP q i)) (ex_indexAddr_slice (j := i) rfl rfl Tryz.underlying226 Tryz.sizeOf105 rfl (by omega) (by simp)) rfl ?_)))))
  have hx1 : vb.getD i 0 < 4294967296 := W32.getD hvb i
  refine st' (ex_load_one_at (v := (vK .u32 (vb.getD i 0))) rfl (fun w' hw => CA.at0 (hw.oldCA (by simpa using hne) (ca_blk hq)) (u32s_get (xs := vb) (j := i) (by omega))) Tryz.isAgg105) rfl ?_
  have hvi := hvb.getD i
  have hml := mul_w hD hvi
  refine asg' rfl (asg' rfl (q3 (sL [0, 1, 2, 6, 12, 13, 14, 7, 8, 9, 10] rfl) (mv' rfl (mv' rfl (mv' rfl ?_)))))
  refine st' (ex_conv (c := ((vb.getD i 0 : Nat) : Int)) rfl Tryz.underlying105 Tryz.underlying73 (convN_u64 (by omega))) rfl (st' (ex_mul (c := ((D * (vb.getD i 0) : Nat) : Int)) rfl rfl (mulN_u64 (a := D) (b := vb.getD i 0) (by omega))) rfl (st' (ex_add (c := ((c + (D * (vb.getD i 0)) : Nat) : Int)) rfl rfl (addN_u64 (a := c) (b := D * (vb.getD i 0)) (by omega))) rfl (asg' rfl (q3 (sL [0, 1, 2, 6, 12, 13, 14, 7, 8, 9] rfl) (mv' rfl ?_)))))
  refine mv' rfl (mv' rfl (mv' rfl (st' (v := (pP g (k + i))) (ex_indexAddr_slice (j := i) rfl rfl Tryz.underlying226 Tryz.sizeOf105 rfl (by omega) (by simp)) rfl ?_)))
  have hx2 : os.getD (k + i) 0 < 4294967296 := W32.getD hw32 (k + i)
  refine st' (ex_load_one (i := 0) (v := (vK .u32 (os.getD (k + i) 0))) rfl rfl Tryz.isAgg105 (u32s_get (xs := os) (j := k + i) (by omega))) rfl (mv' rfl (st' (ex_conv (c := (((c + (D * (vb.getD i 0))) % 4294967296 : Nat) : Int)) rfl Tryz.underlying73 Tryz.underlying105 modN_u32) rfl (mv' rfl (ck' Tryz.call178 (sub32_ok (os.getD (k + i) 0) ((c + (D * (vb.getD i 0))) % 4294967296) l _ (by omega) (by omega) (by omega) rfl) rfl (mv' rfl ?_)))))
  refine st' (ex_extract (v := (vK .u32 (((os.getD (k + i) 0) + (4294967296 - ((c + (D * (vb.getD i 0))) % 4294967296)) + (4294967296 - l)) % 4294967296))) rfl rfl) rfl (st' (ex_extract (v := (vK .u32 (bor (os.getD (k + i) 0) (((c + (D * (vb.getD i 0))) % 4294967296) + l)))) rfl rfl) rfl (st' (v := (pP g (k + i))) (ex_indexAddr_slice (j := i) rfl rfl Tryz.underlying226 Tryz.sizeOf105 rfl (by omega) (by simp)) rfl (OkL.store' (i := 0) (off := k + i) (vs := [(vK .u32 (((os.getD (k + i) 0) + (4294967296 - ((c + (D * (vb.getD i 0))) % 4294967296)) + (4294967296 - l)) % 4294967296))]) (cs' := u32s (os.set (k + i) (((os.getD (k + i) 0) + (4294967296 - ((c + (D * (vb.getD i 0))) % 4294967296)) + (4294967296 - l)) % 4294967296))) (L' := [blk g 105 (u32s (os.set (k + i) (((os.getD (k + i) 0) + (4294967296 - ((c + (D * (vb.getD i 0))) % 4294967296)) + (4294967296 - l)) % 4294967296)))]) (wt_none rfl) rfl rfl rfl rfl rfl Tryz.sizeOf105 rfl (ble_row (u32s_length _) (by omega)) (u32s_set (by omega)) rfl (asg' rfl (OkL.nil ?_)))))
  refine OkQ.subF (sL [0, 1, 2, 6, 12, 13, 14, 7, 8] rfl) (OkQ.then_ (OkC.region (mv' rfl (st' (ex_shr (s := 32) (c := (((c + (D * (vb.getD i 0))) / 4294967296 : Nat) : Int)) rfl rfl rfl (by decide) (shrN (a := c + (D * (vb.getD i 0))) (s := 32))) rfl (asg' rfl ?_)))))
  refine OkL.nil (OkQ.subF (sL [0, 1, 2, 6, 12, 13, 14, 7, 8] rfl) (OkQ.in_normal (OkQ.then_ (OkC.region (st' (ex_add (c := ((i + 1 : Nat) : Int)) rfl rfl (addN_i64 (a := i) (b := 1) (by omega))) rfl ?_)))))
  exact mv' rfl (OkL.nil (OkQ.subF (sL [0, 1, 2, 6, 12, 13, 14, 7, 8] rfl) (OkQ.round4 (i + 1) (os.set (k + i) ((os.getD (k + i) 0 + (4294967296 - (c + D * vb.getD i 0) % 4294967296) + (4294967296 - l)) % 4294967296)) ((c + D * vb.getD i 0) / 4294967296) (bor (os.getD (k + i) 0) ((c + D * vb.getD i 0) % 4294967296 + l)) (⟨by omega, by rw [List.length_set]; exact hl, W32.set hw32 (by omega) _, by omega, bor_le _ _, set_above hz (by omega), less_step (n := n) hl (by omega) hw32 hll hv rfl rfl⟩) (by omega) (sF rfl) sr)))
 ·replace hc0 := of_decide_eq_false hc0
  have hin : i = n := by omega
  have hv1 := hv
  rw [hin] at hv1
  have hll2 := less_last hl (by omega) hw32 hll hcb hv1
  have hfin := less_done (c := 0) (os := os.set (k + n) ((os.getD (k + n) 0 + (4294967296 - c) + (4294967296 - l)) % 4294967296)) (us := us) (vs := vb) (n := n) (l := bor (os.getD (k + n) 0) (c + l)) (D := D) (by rw [List.length_set]; exact hl) (W32.set hw32 (by omega) _) hk hu hll2 (bor_le _ _) (set_above hz (by omega))
  refine OkC.exit (OkQ.then_exit (OkQ.round4_exit (OkQ.in_exit (q2 (mv' rfl ?_)))))
  refine st' (v := (vN n)) (ex_len_slice rfl Tryz.underlying226) rfl (asg' rfl (q3 (sL [0, 1, 2, 6, 12, 13, 14, 7, 8, 11] rfl) (mv' rfl (mv' rfl (mv' rfl ?_)))))
  refine mv' rfl (st' (v := (pP g (k + n))) (ex_indexAddr_slice (j := n) rfl rfl Tryz.underlying226 Tryz.sizeOf105 rfl (by omega) (by simp)) rfl ?_)
  have hx3 : os.getD (k + n) 0 < 4294967296 := W32.getD hw32 (k + n)
  refine st' (ex_load_one (i := 0) (v := (vK .u32 (os.getD (k + n) 0))) rfl rfl Tryz.isAgg105 (u32s_get (xs := os) (j := k + n) (by omega))) rfl (mv' rfl (st' (ex_conv (c := ((c : Nat) : Int)) rfl Tryz.underlying73 Tryz.underlying105 (convN_u32 (by omega))) rfl (mv' rfl (ck' Tryz.call178 (sub32_ok (os.getD (k + n) 0) c l _ (by omega) (by omega) (by omega) rfl) rfl (mv' rfl ?_)))))
  refine st' (ex_extract (v := (vK .u32 (((os.getD (k + n) 0) + (4294967296 - c) + (4294967296 - l)) % 4294967296))) rfl rfl) rfl (st' (ex_extract (v := (vK .u32 (bor (os.getD (k + n) 0) (c + l)))) rfl rfl) rfl (st' (v := (pP g (k + n))) (ex_indexAddr_slice (j := n) rfl rfl Tryz.underlying226 Tryz.sizeOf105 rfl (by omega) (by simp)) rfl (OkL.store' (i := 0) (off := k + n) (vs := [(vK .u32 (((os.getD (k + n) 0) + (4294967296 - c) + (4294967296 - l)) % 4294967296))]) (cs' := u32s (os.set (k + n) (((os.getD (k + n) 0) + (4294967296 - c) + (4294967296 - l)) % 4294967296))) (L' := [blk g 105 (u32s (os.set (k + n) (((os.getD (k + n) 0) + (4294967296 - c) + (4294967296 - l)) % 4294967296)))]) (wt_none rfl) rfl rfl rfl rfl rfl Tryz.sizeOf105 rfl (ble_row (u32s_length _) (by omega)) (u32s_set (by omega)) rfl (asg' rfl (q3 (sL [0, 1, 2, 6, 12, 13, 14, 7, 8] rfl) ?_)))))
  refine mv' rfl (st' (ex_gtr (c := (decide (0 < (bor (os.getD (k + n) 0) (c + l))))) rfl rfl (ltN (a := 0) (b := bor (os.getD (k + n) 0) (c + l)))) rfl (asg' rfl (OkL.nil (OkQ.subF (sL [0, 1, 2, 6, 12, 13, 14, 7, 8] rfl) (OkQ.then_ ?_)))))
  exact OkC.ret (ret_one rfl (rd_tmp (v := (Value.bool (decide (0 < (bor (os.getD (k + n) 0) (c + l)))))) rfl) (fun w hw => ⟨by rw [hfin.1], hw.1, by rw [← hfin.2]; exact hw.get (i := 0) rfl⟩))
end
end Go.Proofs.YtgiacpkjnikjdaaGreat
