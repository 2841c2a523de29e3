/- Loops and joins with several told things. Printed by mkloop.py. -/
import Derived.Test.YtpkoldfmbebmgaaGreatDoorMore
namespace Go.Proofs.YtpkoldfmbebmgaaGreatDoor
open Go Go.RowKit
set_option linter.unusedVariables false
set_option linter.unusedSimpArgs false

section
variable {P : Program} {Q : Exit → Act → World → Prop} {n : Nat} {F : List (Nat × Value)} {w0 : Base} {L : List As} {c x y : Code}

def Jn0  (n : Nat) (w0 : Base) (J : Prop) (FI : List (Nat × Value)) (LI : List As) (Q : Exit → Act → World → Prop) : Exit → Act → World → Prop :=
  Exit.then (fun a w => J ∧ Frm n a FI ∧ Own w0 w LI) Q
theorem OkC.join0  (J : Prop) (FI : List (Nat × Value)) (LI : List As) (h1 : OkC P x (Jn0 n w0 J FI LI Q) n F w0 L) (h2 : J → OkQ Q .normal n FI w0 LI) : OkC P x Q n F w0 L := fun a w ha hw => by
  refine Code.wp_mono (fun e a' w' hq => ?_) (h1 a w ha hw)
  cases e <;> first
    | (obtain ⟨h3, h4, h5⟩ := hq; exact h2 h3 a' w' h4 h5)
    | exact hq
theorem OkQ.join0  {J : Prop} {FI : List (Nat × Value)} {LI : List As}  (hJ : J) (hs : SubF FI F) (hl : (LI).Sublist L) : OkQ (Jn0 n w0 J FI LI Q) .normal n F w0 L := fun _ _ ha hw => ⟨hJ, ha.sub hs, hw.weak hl⟩
theorem OkQ.join0_ret  {J : Prop} {FI : List (Nat × Value)} {LI : List As}  (h : OkQ Q (.ret) n F w0 L) : OkQ (Jn0 n w0 J FI LI Q) (.ret) n F w0 L := h
theorem OkQ.join0_exit  {J : Prop} {FI : List (Nat × Value)} {LI : List As} {id : Nat} (h : OkQ Q (.exit id) n F w0 L) : OkQ (Jn0 n w0 J FI LI Q) (.exit id) n F w0 L := h
def Jn1 {α : Type} (n : Nat) (w0 : Base) (J : α → Prop) (FI : α → List (Nat × Value)) (LI : α → List As) (Q : Exit → Act → World → Prop) : Exit → Act → World → Prop :=
  Exit.then (fun a w => ∃ i', J i' ∧ Frm n a (FI i') ∧ Own w0 w (LI i')) Q
theorem OkC.join1 {α : Type} (J : α → Prop) (FI : α → List (Nat × Value)) (LI : α → List As) (h1 : OkC P x (Jn1 n w0 J FI LI Q) n F w0 L) (h2 : ∀ i, J i → OkQ Q .normal n (FI i) w0 (LI i)) : OkC P x Q n F w0 L := fun a w ha hw => by
  refine Code.wp_mono (fun e a' w' hq => ?_) (h1 a w ha hw)
  cases e <;> first
    | (obtain ⟨i, h3, h4, h5⟩ := hq; exact h2 i h3 a' w' h4 h5)
    | exact hq
theorem OkQ.join1 {α : Type} {J : α → Prop} {FI : α → List (Nat × Value)} {LI : α → List As} (i : α) (hJ : J i) (hs : SubF (FI i) F) (hl : (LI i).Sublist L) : OkQ (Jn1 n w0 J FI LI Q) .normal n F w0 L := fun _ _ ha hw => ⟨i, hJ, ha.sub hs, hw.weak hl⟩
theorem OkQ.join1_ret {α : Type} {J : α → Prop} {FI : α → List (Nat × Value)} {LI : α → List As}  (h : OkQ Q (.ret) n F w0 L) : OkQ (Jn1 n w0 J FI LI Q) (.ret) n F w0 L := h
theorem OkQ.join1_exit {α : Type} {J : α → Prop} {FI : α → List (Nat × Value)} {LI : α → List As} {id : Nat} (h : OkQ Q (.exit id) n F w0 L) : OkQ (Jn1 n w0 J FI LI Q) (.exit id) n F w0 L := h
def Rnd1 {α : Type} (n : Nat) (w0 : Base) (J : α → Prop) (FI : α → List (Nat × Value)) (LI : α → List As) (m : α → Nat) (i : α) (Q : Exit → Act → World → Prop) : Exit → Act → World → Prop :=
  Exit.then (fun a w => ∃ i', J i' ∧ m i' < m i ∧ Frm n a (FI i') ∧ Own w0 w (LI i')) Q
theorem OkC.loop1 {α : Type} (J : α → Prop) (FI : α → List (Nat × Value)) (LI : α → List As) (m : α → Nat) (round : ∀ i, J i → OkC P c (Rnd1 n w0 J FI LI m i Q) n (FI i) w0 (LI i))
    (i : α) (h : J i) : OkC P (.loop c) Q n (FI i) w0 (LI i) :=
  OkC.loop (σ := α) (fun s => J s) (fun s => FI s) (fun s => LI s) (fun s => m s) (fun s hs a w ha hw => by
    refine Code.wp_mono (fun e a' w' hq => ?_) (round s hs a w ha hw)
    cases e <;> first
      | (obtain ⟨i', h1, h2, h3, h4⟩ := hq; exact ⟨i', h1, h2, h3, h4⟩)
      | exact hq) i h
theorem OkQ.round1 {α : Type} {J : α → Prop} {FI : α → List (Nat × Value)} {LI : α → List As} {m : α → Nat} {i : α} (i' : α) (hJ : J i') (hm : m i' < m i) (hs : SubF (FI i') F) (hl : (LI i').Sublist L) : OkQ (Rnd1 n w0 J FI LI m i Q) .normal n F w0 L := fun _ _ ha hw => ⟨i', hJ, hm, ha.sub hs, hw.weak hl⟩
theorem OkQ.round1_ret {α : Type} {J : α → Prop} {FI : α → List (Nat × Value)} {LI : α → List As} {m : α → Nat} {i : α}  (h : OkQ Q (.ret) n F w0 L) : OkQ (Rnd1 n w0 J FI LI m i Q) (.ret) n F w0 L := h
theorem OkQ.round1_exit {α : Type} {J : α → Prop} {FI : α → List (Nat × Value)} {LI : α → List As} {m : α → Nat} {i : α} {id : Nat} (h : OkQ Q (.exit id) n F w0 L) : OkQ (Rnd1 n w0 J FI LI m i Q) (.exit id) n F w0 L := h
def Jn2 {α β : Type} (n : Nat) (w0 : Base) (J : α → β → Prop) (FI : α → β → List (Nat × Value)) (LI : α → β → List As) (Q : Exit → Act → World → Prop) : Exit → Act → World → Prop :=
  Exit.then (fun a w => ∃ i' j', J i' j' ∧ Frm n a (FI i' j') ∧ Own w0 w (LI i' j')) Q
theorem OkC.join2 {α β : Type} (J : α → β → Prop) (FI : α → β → List (Nat × Value)) (LI : α → β → List As) (h1 : OkC P x (Jn2 n w0 J FI LI Q) n F w0 L) (h2 : ∀ i j, J i j → OkQ Q .normal n (FI i j) w0 (LI i j)) : OkC P x Q n F w0 L := fun a w ha hw => by
  refine Code.wp_mono (fun e a' w' hq => ?_) (h1 a w ha hw)
  cases e <;> first
    | (obtain ⟨i, j, h3, h4, h5⟩ := hq; exact h2 i j h3 a' w' h4 h5)
    | exact hq
theorem OkQ.join2 {α β : Type} {J : α → β → Prop} {FI : α → β → List (Nat × Value)} {LI : α → β → List As} (i : α) (j : β) (hJ : J i j) (hs : SubF (FI i j) F) (hl : (LI i j).Sublist L) : OkQ (Jn2 n w0 J FI LI Q) .normal n F w0 L := fun _ _ ha hw => ⟨i, j, hJ, ha.sub hs, hw.weak hl⟩
theorem OkQ.join2_ret {α β : Type} {J : α → β → Prop} {FI : α → β → List (Nat × Value)} {LI : α → β → List As}  (h : OkQ Q (.ret) n F w0 L) : OkQ (Jn2 n w0 J FI LI Q) (.ret) n F w0 L := h
theorem OkQ.join2_exit {α β : Type} {J : α → β → Prop} {FI : α → β → List (Nat × Value)} {LI : α → β → List As} {id : Nat} (h : OkQ Q (.exit id) n F w0 L) : OkQ (Jn2 n w0 J FI LI Q) (.exit id) n F w0 L := h
def Rnd2 {α β : Type} (n : Nat) (w0 : Base) (J : α → β → Prop) (FI : α → β → List (Nat × Value)) (LI : α → β → List As) (m : α → β → Nat) (i : α) (j : β) (Q : Exit → Act → World → Prop) : Exit → Act → World → Prop :=
  Exit.then (fun a w => ∃ i' j', J i' j' ∧ m i' j' < m i j ∧ Frm n a (FI i' j') ∧ Own w0 w (LI i' j')) Q
theorem OkC.loop2 {α β : Type} (J : α → β → Prop) (FI : α → β → List (Nat × Value)) (LI : α → β → List As) (m : α → β → Nat) (round : ∀ i j, J i j → OkC P c (Rnd2 n w0 J FI LI m i j Q) n (FI i j) w0 (LI i j))
    (i : α) (j : β) (h : J i j) : OkC P (.loop c) Q n (FI i j) w0 (LI i j) :=
  OkC.loop (σ := α × β) (fun s => J s.1 s.2) (fun s => FI s.1 s.2) (fun s => LI s.1 s.2) (fun s => m s.1 s.2) (fun s hs a w ha hw => by
    refine Code.wp_mono (fun e a' w' hq => ?_) (round s.1 s.2 hs a w ha hw)
    cases e <;> first
      | (obtain ⟨i', j', h1, h2, h3, h4⟩ := hq; exact ⟨(i', j'), h1, h2, h3, h4⟩)
      | exact hq) (i, j) h
theorem OkQ.round2 {α β : Type} {J : α → β → Prop} {FI : α → β → List (Nat × Value)} {LI : α → β → List As} {m : α → β → Nat} {i : α} {j : β} (i' : α) (j' : β) (hJ : J i' j') (hm : m i' j' < m i j) (hs : SubF (FI i' j') F) (hl : (LI i' j').Sublist L) : OkQ (Rnd2 n w0 J FI LI m i j Q) .normal n F w0 L := fun _ _ ha hw => ⟨i', j', hJ, hm, ha.sub hs, hw.weak hl⟩
theorem OkQ.round2_ret {α β : Type} {J : α → β → Prop} {FI : α → β → List (Nat × Value)} {LI : α → β → List As} {m : α → β → Nat} {i : α} {j : β}  (h : OkQ Q (.ret) n F w0 L) : OkQ (Rnd2 n w0 J FI LI m i j Q) (.ret) n F w0 L := h
theorem OkQ.round2_exit {α β : Type} {J : α → β → Prop} {FI : α → β → List (Nat × Value)} {LI : α → β → List As} {m : α → β → Nat} {i : α} {j : β} {id : Nat} (h : OkQ Q (.exit id) n F w0 L) : OkQ (Rnd2 n w0 J FI LI m i j Q) (.exit id) n F w0 L := h
def Jn3 {α β γ : Type} (n : Nat) (w0 : Base) (J : α → β → γ → Prop) (FI : α → β → γ → List (Nat × Value)) (LI : α → β → γ → List As) (Q : Exit → Act → World → Prop) : Exit → Act → World → Prop :=
  Exit.then (fun a w => ∃ i' j' k', J i' j' k' ∧ Frm n a (FI i' j' k') ∧ Own w0 w (LI i' j' k')) Q
theorem OkC.join3 {α β γ : Type} (J : α → β → γ → Prop) (FI : α → β → γ → List (Nat × Value)) (LI : α → β → γ → List As) (h1 : OkC P x (Jn3 n w0 J FI LI Q) n F w0 L) (h2 : ∀ i j k, J i j k → OkQ Q .normal n (FI i j k) w0 (LI i j k)) : OkC P x Q n F w0 L := fun a w ha hw => by
  refine Code.wp_mono (fun e a' w' hq => ?_) (h1 a w ha hw)
  cases e <;> first
    | (obtain ⟨i, j, k, h3, h4, h5⟩ := hq; exact h2 i j k h3 a' w' h4 h5)
    | exact hq
theorem OkQ.join3 {α β γ : Type} {J : α → β → γ → Prop} {FI : α → β → γ → List (Nat × Value)} {LI : α → β → γ → List As} (i : α) (j : β) (k : γ) (hJ : J i j k) (hs : SubF (FI i j k) F) (hl : (LI i j k).Sublist L) : OkQ (Jn3 n w0 J FI LI Q) .normal n F w0 L := fun _ _ ha hw => ⟨i, j, k, hJ, ha.sub hs, hw.weak hl⟩
theorem OkQ.join3_ret {α β γ : Type} {J : α → β → γ → Prop} {FI : α → β → γ → List (Nat × Value)} {LI : α → β → γ → List As}  (h : OkQ Q (.ret) n F w0 L) : OkQ (Jn3 n w0 J FI LI Q) (.ret) n F w0 L := h
theorem OkQ.join3_exit {α β γ : Type} {J : α → β → γ → Prop} {FI : α → β → γ → List (Nat × Value)} {LI : α → β → γ → List As} {id : Nat} (h : OkQ Q (.exit id) n F w0 L) : OkQ (Jn3 n w0 J FI LI Q) (.exit id) n F w0 L := h
def Rnd3 {α β γ : Type} (n : Nat) (w0 : Base) (J : α → β → γ → Prop) (FI : α → β → γ → List (Nat × Value)) (LI : α → β → γ → List As) (m : α → β → γ → Nat) (i : α) (j : β) (k : γ) (Q : Exit → Act → World → Prop) : Exit → Act → World → Prop :=
  Exit.then (fun a w => ∃ i' j' k', J i' j' k' ∧ m i' j' k' < m i j k ∧ Frm n a (FI i' j' k') ∧ Own w0 w (LI i' j' k')) Q
theorem OkC.loop3 {α β γ : Type} (J : α → β → γ → Prop) (FI : α → β → γ → List (Nat × Value)) (LI : α → β → γ → List As) (m : α → β → γ → Nat) (round : ∀ i j k, J i j k → OkC P c (Rnd3 n w0 J FI LI m i j k Q) n (FI i j k) w0 (LI i j k))
    (i : α) (j : β) (k : γ) (h : J i j k) : OkC P (.loop c) Q n (FI i j k) w0 (LI i j k) :=
  OkC.loop (σ := α × β × γ) (fun s => J s.1 s.2.1 s.2.2) (fun s => FI s.1 s.2.1 s.2.2) (fun s => LI s.1 s.2.1 s.2.2) (fun s => m s.1 s.2.1 s.2.2) (fun s hs a w ha hw => by
    refine Code.wp_mono (fun e a' w' hq => ?_) (round s.1 s.2.1 s.2.2 hs a w ha hw)
    cases e <;> first
      | (obtain ⟨i', j', k', h1, h2, h3, h4⟩ := hq; exact ⟨(i', j', k'), h1, h2, h3, h4⟩)
      | exact hq) (i, j, k) h
theorem OkQ.round3 {α β γ : Type} {J : α → β → γ → Prop} {FI : α → β → γ → List (Nat × Value)} {LI : α → β → γ → List As} {m : α → β → γ → Nat} {i : α} {j : β} {k : γ} (i' : α) (j' : β) (k' : γ) (hJ : J i' j' k') (hm : m i' j' k' < m i j k) (hs : SubF (FI i' j' k') F) (hl : (LI i' j' k').Sublist L) : OkQ (Rnd3 n w0 J FI LI m i j k Q) .normal n F w0 L := fun _ _ ha hw => ⟨i', j', k', hJ, hm, ha.sub hs, hw.weak hl⟩
theorem OkQ.round3_ret {α β γ : Type} {J : α → β → γ → Prop} {FI : α → β → γ → List (Nat × Value)} {LI : α → β → γ → List As} {m : α → β → γ → Nat} {i : α} {j : β} {k : γ}  (h : OkQ Q (.ret) n F w0 L) : OkQ (Rnd3 n w0 J FI LI m i j k Q) (.ret) n F w0 L := h
theorem OkQ.round3_exit {α β γ : Type} {J : α → β → γ → Prop} {FI : α → β → γ → List (Nat × Value)} {LI : α → β → γ → List As} {m : α → β → γ → Nat} {i : α} {j : β} {k : γ} {id : Nat} (h : OkQ Q (.exit id) n F w0 L) : OkQ (Rnd3 n w0 J FI LI m i j k Q) (.exit id) n F w0 L := h
def Jn4 {α β γ δ : Type} (n : Nat) (w0 : Base) (J : α → β → γ → δ → Prop) (FI : α → β → γ → δ → List (Nat × Value)) (LI : α → β → γ → δ → List As) (Q : Exit → Act → World → Prop) : Exit → Act → World → Prop :=
  Exit.then (fun a w => ∃ i' j' k' l', J i' j' k' l' ∧ Frm n a (FI i' j' k' l') ∧ Own w0 w (LI i' j' k' l')) Q
theorem OkC.join4 {α β γ δ : Type} (J : α → β → γ → δ → Prop) (FI : α → β → γ → δ → List (Nat × Value)) (LI : α → β → γ → δ → List As) (h1 : OkC P x (Jn4 n w0 J FI LI Q) n F w0 L) (h2 : ∀ i j k l, J i j k l → OkQ Q .normal n (FI i j k l) w0 (LI i j k l)) : OkC P x Q n F w0 L := fun a w ha hw => by
  refine Code.wp_mono (fun e a' w' hq => ?_) (h1 a w ha hw)
  cases e <;> first
    | (obtain ⟨i, j, k, l, h3, h4, h5⟩ := hq; exact h2 i j k l h3 a' w' h4 h5)
    | exact hq
theorem OkQ.join4 {α β γ δ : Type} {J : α → β → γ → δ → Prop} {FI : α → β → γ → δ → List (Nat × Value)} {LI : α → β → γ → δ → List As} (i : α) (j : β) (k : γ) (l : δ) (hJ : J i j k l) (hs : SubF (FI i j k l) F) (hl : (LI i j k l).Sublist L) : OkQ (Jn4 n w0 J FI LI Q) .normal n F w0 L := fun _ _ ha hw => ⟨i, j, k, l, hJ, ha.sub hs, hw.weak hl⟩
theorem OkQ.join4_ret {α β γ δ : Type} {J : α → β → γ → δ → Prop} {FI : α → β → γ → δ → List (Nat × Value)} {LI : α → β → γ → δ → List As}  (h : OkQ Q (.ret) n F w0 L) : OkQ (Jn4 n w0 J FI LI Q) (.ret) n F w0 L := h
theorem OkQ.join4_exit {α β γ δ : Type} {J : α → β → γ → δ → Prop} {FI : α → β → γ → δ → List (Nat × Value)} {LI : α → β → γ → δ → List As} {id : Nat} (h : OkQ Q (.exit id) n F w0 L) : OkQ (Jn4 n w0 J FI LI Q) (.exit id) n F w0 L := h
def Rnd4 {α β γ δ : Type} (n : Nat) (w0 : Base) (J : α → β → γ → δ → Prop) (FI : α → β → γ → δ → List (Nat × Value)) (LI : α → β → γ → δ → List As) (m : α → β → γ → δ → Nat) (i : α) (j : β) (k : γ) (l : δ) (Q : Exit → Act → World → Prop) : Exit → Act → World → Prop :=
  Exit.then (fun a w => ∃ i' j' k' l', J i' j' k' l' ∧ m i' j' k' l' < m i j k l ∧ Frm n a (FI i' j' k' l') ∧ Own w0 w (LI i' j' k' l')) Q
theorem OkC.loop4 {α β γ δ : Type} (J : α → β → γ → δ → Prop) (FI : α → β → γ → δ → List (Nat × Value)) (LI : α → β → γ → δ → List As) (m : α → β → γ → δ → Nat) (round : ∀ i j k l, J i j k l → OkC P c (Rnd4 n w0 J FI LI m i j k l Q) n (FI i j k l) w0 (LI i j k l))
    (i : α) (j : β) (k : γ) (l : δ) (h : J i j k l) : OkC P (.loop c) Q n (FI i j k l) w0 (LI i j k l) :=
  OkC.loop (σ := α × β × γ × δ) (fun s => J s.1 s.2.1 s.2.2.1 s.2.2.2) (fun s => FI s.1 s.2.1 s.2.2.1 s.2.2.2) (fun s => LI s.1 s.2.1 s.2.2.1 s.2.2.2) (fun s => m s.1 s.2.1 s.2.2.1 s.2.2.2) (fun s hs a w ha hw => by
    refine Code.wp_mono (fun e a' w' hq => ?_) (round s.1 s.2.1 s.2.2.1 s.2.2.2 hs a w ha hw)
    cases e <;> first
      | (obtain ⟨i', j', k', l', h1, h2, h3, h4⟩ := hq; exact ⟨(i', j', k', l'), h1, h2, h3, h4⟩)
      | exact hq) (i, j, k, l) h
theorem OkQ.round4 {α β γ δ : Type} {J : α → β → γ → δ → Prop} {FI : α → β → γ → δ → List (Nat × Value)} {LI : α → β → γ → δ → List As} {m : α → β → γ → δ → Nat} {i : α} {j : β} {k : γ} {l : δ} (i' : α) (j' : β) (k' : γ) (l' : δ) (hJ : J i' j' k' l') (hm : m i' j' k' l' < m i j k l) (hs : SubF (FI i' j' k' l') F) (hl : (LI i' j' k' l').Sublist L) : OkQ (Rnd4 n w0 J FI LI m i j k l Q) .normal n F w0 L := fun _ _ ha hw => ⟨i', j', k', l', hJ, hm, ha.sub hs, hw.weak hl⟩
theorem OkQ.round4_ret {α β γ δ : Type} {J : α → β → γ → δ → Prop} {FI : α → β → γ → δ → List (Nat × Value)} {LI : α → β → γ → δ → List As} {m : α → β → γ → δ → Nat} {i : α} {j : β} {k : γ} {l : δ}  (h : OkQ Q (.ret) n F w0 L) : OkQ (Rnd4 n w0 J FI LI m i j k l Q) (.ret) n F w0 L := h
theorem OkQ.round4_exit {α β γ δ : Type} {J : α → β → γ → δ → Prop} {FI : α → β → γ → δ → List (Nat × Value)} {LI : α → β → γ → δ → List As} {m : α → β → γ → δ → Nat} {i : α} {j : β} {k : γ} {l : δ} {id : Nat} (h : OkQ Q (.exit id) n F w0 L) : OkQ (Rnd4 n w0 J FI LI m i j k l Q) (.exit id) n F w0 L := h
def Jn5 {α β γ δ ε : Type} (n : Nat) (w0 : Base) (J : α → β → γ → δ → ε → Prop) (FI : α → β → γ → δ → ε → List (Nat × Value)) (LI : α → β → γ → δ → ε → List As) (Q : Exit → Act → World → Prop) : Exit → Act → World → Prop :=
  Exit.then (fun a w => ∃ i' j' k' l' o', J i' j' k' l' o' ∧ Frm n a (FI i' j' k' l' o') ∧ Own w0 w (LI i' j' k' l' o')) Q
theorem OkC.join5 {α β γ δ ε : Type} (J : α → β → γ → δ → ε → Prop) (FI : α → β → γ → δ → ε → List (Nat × Value)) (LI : α → β → γ → δ → ε → List As) (h1 : OkC P x (Jn5 n w0 J FI LI Q) n F w0 L) (h2 : ∀ i j k l o, J i j k l o → OkQ Q .normal n (FI i j k l o) w0 (LI i j k l o)) : OkC P x Q n F w0 L := fun a w ha hw => by
  refine Code.wp_mono (fun e a' w' hq => ?_) (h1 a w ha hw)
  cases e <;> first
    | (obtain ⟨i, j, k, l, o, h3, h4, h5⟩ := hq; exact h2 i j k l o h3 a' w' h4 h5)
    | exact hq
theorem OkQ.join5 {α β γ δ ε : Type} {J : α → β → γ → δ → ε → Prop} {FI : α → β → γ → δ → ε → List (Nat × Value)} {LI : α → β → γ → δ → ε → List As} (i : α) (j : β) (k : γ) (l : δ) (o : ε) (hJ : J i j k l o) (hs : SubF (FI i j k l o) F) (hl : (LI i j k l o).Sublist L) : OkQ (Jn5 n w0 J FI LI Q) .normal n F w0 L := fun _ _ ha hw => ⟨i, j, k, l, o, hJ, ha.sub hs, hw.weak hl⟩
theorem OkQ.join5_ret {α β γ δ ε : Type} {J : α → β → γ → δ → ε → Prop} {FI : α → β → γ → δ → ε → List (Nat × Value)} {LI : α → β → γ → δ → ε → List As}  (h : OkQ Q (.ret) n F w0 L) : OkQ (Jn5 n w0 J FI LI Q) (.ret) n F w0 L := h
theorem OkQ.join5_exit {α β γ δ ε : Type} {J : α → β → γ → δ → ε → Prop} {FI : α → β → γ → δ → ε → List (Nat × Value)} {LI : α → β → γ → δ → ε → List As} {id : Nat} (h : OkQ Q (.exit id) n F w0 L) : OkQ (Jn5 n w0 J FI LI Q) (.exit id) n F w0 L := h
def Rnd5 {α β γ δ ε : Type} (n : Nat) (w0 : Base) (J : α → β → γ → δ → ε → Prop) (FI : α → β → γ → δ → ε → List (Nat × Value)) (LI : α → β → γ → δ → ε → List As) (m : α → β → γ → δ → ε → Nat) (i : α) (j : β) (k : γ) (l : δ) (o : ε) (Q : Exit → Act → World → Prop) : Exit → Act → World → Prop :=
  Exit.then (fun a w => ∃ i' j' k' l' o', J i' j' k' l' o' ∧ m i' j' k' l' o' < m i j k l o ∧ Frm n a (FI i' j' k' l' o') ∧ Own w0 w (LI i' j' k' l' o')) Q
theorem OkC.loop5 {α β γ δ ε : Type} (J : α → β → γ → δ → ε → Prop) (FI : α → β → γ → δ → ε → List (Nat × Value)) (LI : α → β → γ → δ → ε → List As) (m : α → β → γ → δ → ε → Nat) (round : ∀ i j k l o, J i j k l o → OkC P c (Rnd5 n w0 J FI LI m i j k l o Q) n (FI i j k l o) w0 (LI i j k l o))
    (i : α) (j : β) (k : γ) (l : δ) (o : ε) (h : J i j k l o) : OkC P (.loop c) Q n (FI i j k l o) w0 (LI i j k l o) :=
  OkC.loop (σ := α × β × γ × δ × ε) (fun s => J s.1 s.2.1 s.2.2.1 s.2.2.2.1 s.2.2.2.2) (fun s => FI s.1 s.2.1 s.2.2.1 s.2.2.2.1 s.2.2.2.2) (fun s => LI s.1 s.2.1 s.2.2.1 s.2.2.2.1 s.2.2.2.2) (fun s => m s.1 s.2.1 s.2.2.1 s.2.2.2.1 s.2.2.2.2) (fun s hs a w ha hw => by
    refine Code.wp_mono (fun e a' w' hq => ?_) (round s.1 s.2.1 s.2.2.1 s.2.2.2.1 s.2.2.2.2 hs a w ha hw)
    cases e <;> first
      | (obtain ⟨i', j', k', l', o', h1, h2, h3, h4⟩ := hq; exact ⟨(i', j', k', l', o'), h1, h2, h3, h4⟩)
      | exact hq) (i, j, k, l, o) h
theorem OkQ.round5 {α β γ δ ε : Type} {J : α → β → γ → δ → ε → Prop} {FI : α → β → γ → δ → ε → List (Nat × Value)} {LI : α → β → γ → δ → ε → List As} {m : α → β → γ → δ → ε → Nat} {i : α} {j : β} {k : γ} {l : δ} {o : ε} (i' : α) (j' : β) (k' : γ) (l' : δ) (o' : ε) (hJ : J i' j' k' l' o') (hm : m i' j' k' l' o' < m i j k l o) (hs : SubF (FI i' j' k' l' o') F) (hl : (LI i' j' k' l' o').Sublist L) : OkQ (Rnd5 n w0 J FI LI m i j k l o Q) .normal n F w0 L := fun _ _ ha hw => ⟨i', j', k', l', o', hJ, hm, ha.sub hs, hw.weak hl⟩
theorem OkQ.round5_ret {α β γ δ ε : Type} {J : α → β → γ → δ → ε → Prop} {FI : α → β → γ → δ → ε → List (Nat × Value)} {LI : α → β → γ → δ → ε → List As} {m : α → β → γ → δ → ε → Nat} {i : α} {j : β} {k : γ} {l : δ} {o : ε}  (h : OkQ Q (.ret) n F w0 L) : OkQ (Rnd5 n w0 J FI LI m i j k l o Q) (.ret) n F w0 L := h
theorem OkQ.round5_exit {α β γ δ ε : Type} {J : α → β → γ → δ → ε → Prop} {FI : α → β → γ → δ → ε → List (Nat × Value)} {LI : α → β → γ → δ → ε → List As} {m : α → β → γ → δ → ε → Nat} {i : α} {j : β} {k : γ} {l : δ} {o : ε} {id : Nat} (h : OkQ Q (.exit id) n F w0 L) : OkQ (Rnd5 n w0 J FI LI m i j k l o Q) (.exit id) n F w0 L := h
end

end Go.Proofs.YtpkoldfmbebmgaaGreatDoor
