import Derived.Test.YtgiacpkjnikjdaaGreatPart04
import Derived.Test.YtgiacpkjnikjdaaGreatPart06
import Derived.Test.YtgiacpkjnikjdaaGreatPart07
namespace Go.Proofs.YtgiacpkjnikjdaaGreat
open Go Go.RowKit
set_option linter.unusedVariables false
set_option linter.unusedSimpArgs false
section
section
variable {P : Program} {Q : Exit → Act → World → Prop} {n : Nat} {F : List (Nat × Value)} {w0 : Base} {L : List As} {c x y : Code}
def Tg {α : Sort _} (_ : α) : Prop := True
theorem tg {α : Sort _} (a : α) : Tg a := trivial
def Jn0  (n : Nat) (w0 : Base) (J : Prop) (FI : List (Nat × Value)) (LI : List As) (Q : Exit → Act → World → Prop) : Exit → Act → World → Prop :=
  Exit.then (fun a w => J ∧ Frm n a FI ∧ Own w0 w LI) Q
theorem OkC.join0  (J : Prop) (FI : List (Nat × Value)) (LI : List As) (h1 : OkC P x (Jn0 n w0 J FI LI Q) n F w0 L) (h2 : J → OkQ Q .normal n FI w0 LI) : OkC P x Q n F w0 L := fun a w ha hw => by
  refine Code.wp_mono (fun e a' w' hq => ?_) (h1 a w ha hw)
  cases e <;> first
    | (obtain ⟨h3, h4, h5⟩ := hq; exact h2 h3 a' w' h4 h5)
    | exact hq
theorem OkQ.join0  {J : Prop} {FI : List (Nat × Value)} {LI : List As}  (hJ : J) (hs : SubF FI F) (hl : (LI).Sublist L) : OkQ (Jn0 n w0 J FI LI Q) .normal n F w0 L := fun _ _ ha hw => ⟨hJ, ha.sub hs, hw.weak hl⟩
theorem OkC.jn0  {J : Prop} {FI : List (Nat × Value)} {LI : List As} (_ : Tg J) (_ : Tg FI) (_ : Tg LI) (h1 : OkC P x (Jn0 n w0 J FI LI Q) n F w0 L) (h2 : J → OkQ Q .normal n FI w0 LI) : OkC P x Q n F w0 L := OkC.join0 J FI LI h1 h2
theorem OkQ.join0_ret  {J : Prop} {FI : List (Nat × Value)} {LI : List As}  (h : OkQ Q (.ret) n F w0 L) : OkQ (Jn0 n w0 J FI LI Q) (.ret) n F w0 L := h
def Jn1 {α : Type} (n : Nat) (w0 : Base) (J : α → Prop) (FI : α → List (Nat × Value)) (LI : α → List As) (Q : Exit → Act → World → Prop) : Exit → Act → World → Prop :=
  Exit.then (fun a w => ∃ i', J i' ∧ Frm n a (FI i') ∧ Own w0 w (LI i')) Q
theorem OkC.join1 {α : Type} (J : α → Prop) (FI : α → List (Nat × Value)) (LI : α → List As) (h1 : OkC P x (Jn1 n w0 J FI LI Q) n F w0 L) (h2 : ∀ i, J i → OkQ Q .normal n (FI i) w0 (LI i)) : OkC P x Q n F w0 L := fun a w ha hw => by
  refine Code.wp_mono (fun e a' w' hq => ?_) (h1 a w ha hw)
  cases e <;> first
    | (obtain ⟨i, h3, h4, h5⟩ := hq; exact h2 i h3 a' w' h4 h5)
    | exact hq
theorem OkQ.join1 {α : Type} {J : α → Prop} {FI : α → List (Nat × Value)} {LI : α → List As} (i : α) (hJ : J i) (hs : SubF (FI i) F) (hl : (LI i).Sublist L) : OkQ (Jn1 n w0 J FI LI Q) .normal n F w0 L := fun _ _ ha hw => ⟨i, hJ, ha.sub hs, hw.weak hl⟩
theorem OkC.jn1 {α : Type} {J : α → Prop} {FI : α → List (Nat × Value)} {LI : α → List As} (_ : Tg J) (_ : Tg FI) (_ : Tg LI) (h1 : OkC P x (Jn1 n w0 J FI LI Q) n F w0 L) (h2 : ∀ i, J i → OkQ Q .normal n (FI i) w0 (LI i)) : OkC P x Q n F w0 L := OkC.join1 J FI LI h1 h2
def Rnd1 {α : Type} (n : Nat) (w0 : Base) (J : α → Prop) (FI : α → List (Nat × Value)) (LI : α → List As) (m : α → Nat) (i : α) (Q : Exit → Act → World → Prop) : Exit → Act → World → Prop :=
  Exit.then (fun a w => ∃ i', J i' ∧ m i' < m i ∧ Frm n a (FI i') ∧ Own w0 w (LI i')) Q
theorem OkC.loop1 {α : Type} (J : α → Prop) (FI : α → List (Nat × Value)) (LI : α → List As) (m : α → Nat) (round : ∀ i, J i → OkC P c (Rnd1 n w0 J FI LI m i Q) n (FI i) w0 (LI i))
    (i : α) (h : J i) : OkC P (.loop c) Q n (FI i) w0 (LI i) :=
  OkC.loop (σ := α) (fun s => J s) (fun s => FI s) (fun s => LI s) (fun s => m s) (fun s hs a w ha hw => by
    refine Code.wp_mono (fun e a' w' hq => ?_) (round s hs a w ha hw)
    cases e <;> first
      | (obtain ⟨i', h1, h2, h3, h4⟩ := hq; exact ⟨i', h1, h2, h3, h4⟩)
      | exact hq) i h
theorem OkC.lp1 {α : Type} {J : α → Prop} {FI : α → List (Nat × Value)} {LI : α → List As} {m : α → Nat} (_ : Tg J) (_ : Tg FI) (_ : Tg LI) (_ : Tg m) (i : α) (h : J i) (hs : SubF (FI i) F) (hl : (LI i).Sublist L)
    (round : ∀ i, J i → OkC P c (Rnd1 n w0 J FI LI m i Q) n (FI i) w0 (LI i)) : OkC P (.loop c) Q n F w0 L := OkC.sub hs hl (OkC.loop1 J FI LI m round i h)
theorem OkQ.round1 {α : Type} {J : α → Prop} {FI : α → List (Nat × Value)} {LI : α → List As} {m : α → Nat} {i : α} (i' : α) (hJ : J i') (hm : m i' < m i) (hs : SubF (FI i') F) (hl : (LI i').Sublist L) : OkQ (Rnd1 n w0 J FI LI m i Q) .normal n F w0 L := fun _ _ ha hw => ⟨i', hJ, hm, ha.sub hs, hw.weak hl⟩
theorem OkQ.round1_ret {α : Type} {J : α → Prop} {FI : α → List (Nat × Value)} {LI : α → List As} {m : α → Nat} {i : α}  (h : OkQ Q (.ret) n F w0 L) : OkQ (Rnd1 n w0 J FI LI m i Q) (.ret) n F w0 L := h
theorem OkQ.round1_exit {α : Type} {J : α → Prop} {FI : α → List (Nat × Value)} {LI : α → List As} {m : α → Nat} {i : α} {id : Nat} (h : OkQ Q (.exit id) n F w0 L) : OkQ (Rnd1 n w0 J FI LI m i Q) (.exit id) n F w0 L := h
def Jn2 {α β : Type} (n : Nat) (w0 : Base) (J : α → β → Prop) (FI : α → β → List (Nat × Value)) (LI : α → β → List As) (Q : Exit → Act → World → Prop) : Exit → Act → World → Prop :=
  Exit.then (fun a w => ∃ i' j', J i' j' ∧ Frm n a (FI i' j') ∧ Own w0 w (LI i' j')) Q
theorem OkC.join2 {α β : Type} (J : α → β → Prop) (FI : α → β → List (Nat × Value)) (LI : α → β → List As) (h1 : OkC P x (Jn2 n w0 J FI LI Q) n F w0 L) (h2 : ∀ i j, J i j → OkQ Q .normal n (FI i j) w0 (LI i j)) : OkC P x Q n F w0 L := fun a w ha hw => by
  refine Code.wp_mono (fun e a' w' hq => ?_) (h1 a w ha hw)
  cases e <;> first
    | (obtain ⟨i, j, h3, h4, h5⟩ := hq; exact h2 i j h3 a' w' h4 h5)
    | exact hq
theorem OkQ.join2 {α β : Type} {J : α → β → Prop} {FI : α → β → List (Nat × Value)} {LI : α → β → List As} (i : α) (j : β) (hJ : J i j) (hs : SubF (FI i j) F) (hl : (LI i j).Sublist L) : OkQ (Jn2 n w0 J FI LI Q) .normal n F w0 L := fun _ _ ha hw => ⟨i, j, hJ, ha.sub hs, hw.weak hl⟩
theorem OkC.jn2 {α β : Type} {J : α → β → Prop} {FI : α → β → List (Nat × Value)} {LI : α → β → List As} (_ : Tg J) (_ : Tg FI) (_ : Tg LI) (h1 : OkC P x (Jn2 n w0 J FI LI Q) n F w0 L) (h2 : ∀ i j, J i j → OkQ Q .normal n (FI i j) w0 (LI i j)) : OkC P x Q n F w0 L := OkC.join2 J FI LI h1 h2
def Rnd2 {α β : Type} (n : Nat) (w0 : Base) (J : α → β → Prop) (FI : α → β → List (Nat × Value)) (LI : α → β → List As) (m : α → β → Nat) (i : α) (j : β) (Q : Exit → Act → World → Prop) : Exit → Act → World → Prop :=
  Exit.then (fun a w => ∃ i' j', J i' j' ∧ m i' j' < m i j ∧ Frm n a (FI i' j') ∧ Own w0 w (LI i' j')) Q
theorem OkC.loop2 {α β : Type} (J : α → β → Prop) (FI : α → β → List (Nat × Value)) (LI : α → β → List As) (m : α → β → Nat) (round : ∀ i j, J i j → OkC P c (Rnd2 n w0 J FI LI m i j Q) n (FI i j) w0 (LI i j))
    (i : α) (j : β) (h : J i j) : OkC P (.loop c) Q n (FI i j) w0 (LI i j) :=
  OkC.loop (σ := α × β) (fun s => J s.1 s.2) (fun s => FI s.1 s.2) (fun s => LI s.1 s.2) (fun s => m s.1 s.2) (fun s hs a w ha hw => by
    refine Code.wp_mono (fun e a' w' hq => ?_) (round s.1 s.2 hs a w ha hw)
    cases e <;> first
      | (obtain ⟨i', j', h1, h2, h3, h4⟩ := hq; exact ⟨(i', j'), h1, h2, h3, h4⟩)
      | exact hq) (i, j) h
theorem OkC.lp2 {α β : Type} {J : α → β → Prop} {FI : α → β → List (Nat × Value)} {LI : α → β → List As} {m : α → β → Nat} (_ : Tg J) (_ : Tg FI) (_ : Tg LI) (_ : Tg m) (i : α) (j : β) (h : J i j) (hs : SubF (FI i j) F) (hl : (LI i j).Sublist L)
    (round : ∀ i j, J i j → OkC P c (Rnd2 n w0 J FI LI m i j Q) n (FI i j) w0 (LI i j)) : OkC P (.loop c) Q n F w0 L := OkC.sub hs hl (OkC.loop2 J FI LI m round i j h)
theorem OkQ.round2 {α β : Type} {J : α → β → Prop} {FI : α → β → List (Nat × Value)} {LI : α → β → List As} {m : α → β → Nat} {i : α} {j : β} (i' : α) (j' : β) (hJ : J i' j') (hm : m i' j' < m i j) (hs : SubF (FI i' j') F) (hl : (LI i' j').Sublist L) : OkQ (Rnd2 n w0 J FI LI m i j Q) .normal n F w0 L := fun _ _ ha hw => ⟨i', j', hJ, hm, ha.sub hs, hw.weak hl⟩
theorem OkQ.round2_exit {α β : Type} {J : α → β → Prop} {FI : α → β → List (Nat × Value)} {LI : α → β → List As} {m : α → β → Nat} {i : α} {j : β} {id : Nat} (h : OkQ Q (.exit id) n F w0 L) : OkQ (Rnd2 n w0 J FI LI m i j Q) (.exit id) n F w0 L := h
def Rnd3 {α β γ : Type} (n : Nat) (w0 : Base) (J : α → β → γ → Prop) (FI : α → β → γ → List (Nat × Value)) (LI : α → β → γ → List As) (m : α → β → γ → Nat) (i : α) (j : β) (k : γ) (Q : Exit → Act → World → Prop) : Exit → Act → World → Prop :=
  Exit.then (fun a w => ∃ i' j' k', J i' j' k' ∧ m i' j' k' < m i j k ∧ Frm n a (FI i' j' k') ∧ Own w0 w (LI i' j' k')) Q
theorem OkC.loop3 {α β γ : Type} (J : α → β → γ → Prop) (FI : α → β → γ → List (Nat × Value)) (LI : α → β → γ → List As) (m : α → β → γ → Nat) (round : ∀ i j k, J i j k → OkC P c (Rnd3 n w0 J FI LI m i j k Q) n (FI i j k) w0 (LI i j k))
    (i : α) (j : β) (k : γ) (h : J i j k) : OkC P (.loop c) Q n (FI i j k) w0 (LI i j k) :=
  OkC.loop (σ := α × β × γ) (fun s => J s.1 s.2.1 s.2.2) (fun s => FI s.1 s.2.1 s.2.2) (fun s => LI s.1 s.2.1 s.2.2) (fun s => m s.1 s.2.1 s.2.2) (fun s hs a w ha hw => by
    refine Code.wp_mono (fun e a' w' hq => ?_) (round s.1 s.2.1 s.2.2 hs a w ha hw)
    cases e <;> first
      | (obtain ⟨i', j', k', h1, h2, h3, h4⟩ := hq; exact ⟨(i', j', k'), h1, h2, h3, h4⟩)
      | exact hq) (i, j, k) h
theorem OkC.lp3 {α β γ : Type} {J : α → β → γ → Prop} {FI : α → β → γ → List (Nat × Value)} {LI : α → β → γ → List As} {m : α → β → γ → Nat} (_ : Tg J) (_ : Tg FI) (_ : Tg LI) (_ : Tg m) (i : α) (j : β) (k : γ) (h : J i j k) (hs : SubF (FI i j k) F) (hl : (LI i j k).Sublist L)
    (round : ∀ i j k, J i j k → OkC P c (Rnd3 n w0 J FI LI m i j k Q) n (FI i j k) w0 (LI i j k)) : OkC P (.loop c) Q n F w0 L := OkC.sub hs hl (OkC.loop3 J FI LI m round i j k h)
theorem OkQ.round3 {α β γ : Type} {J : α → β → γ → Prop} {FI : α → β → γ → List (Nat × Value)} {LI : α → β → γ → List As} {m : α → β → γ → Nat} {i : α} {j : β} {k : γ} (i' : α) (j' : β) (k' : γ) (hJ : J i' j' k') (hm : m i' j' k' < m i j k) (hs : SubF (FI i' j' k') F) (hl : (LI i' j' k').Sublist L) : OkQ (Rnd3 n w0 J FI LI m i j k Q) .normal n F w0 L := fun _ _ ha hw => ⟨i', j', k', hJ, hm, ha.sub hs, hw.weak hl⟩
theorem OkQ.round3_exit {α β γ : Type} {J : α → β → γ → Prop} {FI : α → β → γ → List (Nat × Value)} {LI : α → β → γ → List As} {m : α → β → γ → Nat} {i : α} {j : β} {k : γ} {id : Nat} (h : OkQ Q (.exit id) n F w0 L) : OkQ (Rnd3 n w0 J FI LI m i j k Q) (.exit id) n F w0 L := h
def Rnd4 {α β γ δ : Type} (n : Nat) (w0 : Base) (J : α → β → γ → δ → Prop) (FI : α → β → γ → δ → List (Nat × Value)) (LI : α → β → γ → δ → List As) (m : α → β → γ → δ → Nat) (i : α) (j : β) (k : γ) (l : δ) (Q : Exit → Act → World → Prop) : Exit → Act → World → Prop :=
  Exit.then (fun a w => ∃ i' j' k' l', J i' j' k' l' ∧ m i' j' k' l' < m i j k l ∧ Frm n a (FI i' j' k' l') ∧ Own w0 w (LI i' j' k' l')) Q
theorem OkC.loop4 {α β γ δ : Type} (J : α → β → γ → δ → Prop) (FI : α → β → γ → δ → List (Nat × Value)) (LI : α → β → γ → δ → List As) (m : α → β → γ → δ → Nat) (round : ∀ i j k l, J i j k l → OkC P c (Rnd4 n w0 J FI LI m i j k l Q) n (FI i j k l) w0 (LI i j k l))
    (i : α) (j : β) (k : γ) (l : δ) (h : J i j k l) : OkC P (.loop c) Q n (FI i j k l) w0 (LI i j k l) :=
  OkC.loop (σ := α × β × γ × δ) (fun s => J s.1 s.2.1 s.2.2.1 s.2.2.2) (fun s => FI s.1 s.2.1 s.2.2.1 s.2.2.2) (fun s => LI s.1 s.2.1 s.2.2.1 s.2.2.2) (fun s => m s.1 s.2.1 s.2.2.1 s.2.2.2) (fun s hs a w ha hw => by
    refine Code.wp_mono (fun e a' w' hq => ?_) (round s.1 s.2.1 s.2.2.1 s.2.2.2 hs a w ha hw)
    cases e <;> first
      | (obtain ⟨i', j', k', l', h1, h2, h3, h4⟩ := hq; exact ⟨(i', j', k', l'), h1, h2, h3, h4⟩)
      | exact hq) (i, j, k, l) h
theorem OkC.lp4 {α β γ δ : Type} {J : α → β → γ → δ → Prop} {FI : α → β → γ → δ → List (Nat × Value)} {LI : α → β → γ → δ → List As} {m : α → β → γ → δ → Nat} (_ : Tg J) (_ : Tg FI) (_ : Tg LI) (_ : Tg m) (i : α) (j : β) (k : γ) (l : δ) (h : J i j k l) (hs : SubF (FI i j k l) F) (hl : (LI i j k l).Sublist L)
    (round : ∀ i j k l, J i j k l → OkC P c (Rnd4 n w0 J FI LI m i j k l Q) n (FI i j k l) w0 (LI i j k l)) : OkC P (.loop c) Q n F w0 L := OkC.sub hs hl (OkC.loop4 J FI LI m round i j k l h)
theorem OkQ.round4 {α β γ δ : Type} {J : α → β → γ → δ → Prop} {FI : α → β → γ → δ → List (Nat × Value)} {LI : α → β → γ → δ → List As} {m : α → β → γ → δ → Nat} {i : α} {j : β} {k : γ} {l : δ} (i' : α) (j' : β) (k' : γ) (l' : δ) (hJ : J i' j' k' l') (hm : m i' j' k' l' < m i j k l) (hs : SubF (FI i' j' k' l') F) (hl : (LI i' j' k' l').Sublist L) : OkQ (Rnd4 n w0 J FI LI m i j k l Q) .normal n F w0 L := fun _ _ ha hw => ⟨i', j', k', l', hJ, hm, ha.sub hs, hw.weak hl⟩
theorem OkQ.round4_exit {α β γ δ : Type} {J : α → β → γ → δ → Prop} {FI : α → β → γ → δ → List (Nat × Value)} {LI : α → β → γ → δ → List As} {m : α → β → γ → δ → Nat} {i : α} {j : β} {k : γ} {l : δ} {id : Nat} (h : OkQ Q (.exit id) n F w0 L) : OkQ (Rnd4 n w0 J FI LI m i j k l Q) (.exit id) n F w0 L := h
def Rnd5 {α β γ δ ε : Type} (n : Nat) (w0 : Base) (J : α → β → γ → δ → ε → Prop) (FI : α → β → γ → δ → ε → List (Nat × Value)) (LI : α → β → γ → δ → ε → List As) (m : α → β → γ → δ → ε → Nat) (i : α) (j : β) (k : γ) (l : δ) (o : ε) (Q : Exit → Act → World → Prop) : Exit → Act → World → Prop :=
  Exit.then (fun a w => ∃ i' j' k' l' o', J i' j' k' l' o' ∧ m i' j' k' l' o' < m i j k l o ∧ Frm n a (FI i' j' k' l' o') ∧ Own w0 w (LI i' j' k' l' o')) Q
theorem OkC.loop5 {α β γ δ ε : Type} (J : α → β → γ → δ → ε → Prop) (FI : α → β → γ → δ → ε → List (Nat × Value)) (LI : α → β → γ → δ → ε → List As) (m : α → β → γ → δ → ε → Nat) (round : ∀ i j k l o, J i j k l o → OkC P c (Rnd5 n w0 J FI LI m i j k l o Q) n (FI i j k l o) w0 (LI i j k l o))
    (i : α) (j : β) (k : γ) (l : δ) (o : ε) (h : J i j k l o) : OkC P (.loop c) Q n (FI i j k l o) w0 (LI i j k l o) :=
  OkC.loop (σ := α × β × γ × δ × ε) (fun s => J s.1 s.2.1 s.2.2.1 s.2.2.2.1 s.2.2.2.2) (fun s => FI s.1 s.2.1 s.2.2.1 s.2.2.2.1 s.2.2.2.2) (fun s => LI s.1 s.2.1 s.2.2.1 s.2.2.2.1 s.2.2.2.2) (fun s => m s.1 s.2.1 s.2.2.1 s.2.2.2.1 s.2.2.2.2) (fun s hs a w ha hw => by
    refine Code.wp_mono (fun e a' w' hq => ?_) (round s.1 s.2.1 s.2.2.1 s.2.2.2.1 s.2.2.2.2 hs a w ha hw)
    cases e <;> first
      | (obtain ⟨i', j', k', l', o', h1, h2, h3, h4⟩ := hq; exact ⟨(i', j', k', l', o'), h1, h2, h3, h4⟩)
      | exact hq) (i, j, k, l, o) h
theorem OkC.lp5 {α β γ δ ε : Type} {J : α → β → γ → δ → ε → Prop} {FI : α → β → γ → δ → ε → List (Nat × Value)} {LI : α → β → γ → δ → ε → List As} {m : α → β → γ → δ → ε → Nat} (_ : Tg J) (_ : Tg FI) (_ : Tg LI) (_ : Tg m) (i : α) (j : β) (k : γ) (l : δ) (o : ε) (h : J i j k l o) (hs : SubF (FI i j k l o) F) (hl : (LI i j k l o).Sublist L)
    (round : ∀ i j k l o, J i j k l o → OkC P c (Rnd5 n w0 J FI LI m i j k l o Q) n (FI i j k l o) w0 (LI i j k l o)) : OkC P (.loop c) Q n F w0 L := OkC.sub hs hl (OkC.loop5 J FI LI m round i j k l o h)
theorem OkQ.round5 {α β γ δ ε : Type} {J : α → β → γ → δ → ε → Prop} {FI : α → β → γ → δ → ε → List (Nat × Value)} {LI : α → β → γ → δ → ε → List As} {m : α → β → γ → δ → ε → Nat} {i : α} {j : β} {k : γ} {l : δ} {o : ε} (i' : α) (j' : β) (k' : γ) (l' : δ) (o' : ε) (hJ : J i' j' k' l' o') (hm : m i' j' k' l' o' < m i j k l o) (hs : SubF (FI i' j' k' l' o') F) (hl : (LI i' j' k' l' o').Sublist L) : OkQ (Rnd5 n w0 J FI LI m i j k l o Q) .normal n F w0 L := fun _ _ ha hw => ⟨i', j', k', l', o', hJ, hm, ha.sub hs, hw.weak hl⟩
theorem OkQ.round5_exit {α β γ δ ε : Type} {J : α → β → γ → δ → ε → Prop} {FI : α → β → γ → δ → ε → List (Nat × Value)} {LI : α → β → γ → δ → ε → List As} {m : α → β → γ → δ → ε → Nat} {i : α} {j : β} {k : γ} {l : δ} {o : ε} {id : Nat} (h : OkQ Q (.exit id) n F w0 L) : OkQ (Rnd5 n w0 J FI LI m i j k l o Q) (.exit id) n F w0 L := h
end
end
section
section
variable {w0 : Base} {L : List As}
theorem Own.addRo {w w' : World} {a : As} (h : Own w0 w L) (hb : Bel w.heap.size w w') (hr : a.ro = true) (hh : Holds w' a) (hs : ∀ b, a.foot = some b → w.heap.size ≤ b ∨ ∃ y ∈ L, y.ro = true ∧ y.foot = some b) : Own w0 w' (a :: L) := by
  have h1 := h.below hb
  refine ⟨h1.1, fun z hz b e => ?_, List.pairwise_cons.2 ⟨fun z hz => ?_, h1.2.2⟩⟩
  · rcases List.mem_cons.1 hz with rfl | hz
    · exact ⟨.inl hr, hh b e⟩
    · exact h1.2.1 z hz b e
  · cases hf : a.foot with
    | none => exact .inr fun b e => by cases e
    | some b =>
      rcases hs b hf with h2 | ⟨y, hy, hyr, hyf⟩
      · refine .inr fun b' e e2 => ?_
        injection e with e; subst e
        exact absurd (h.lt hz e2) (by omega)
      · have h3 := alias_apart hr hyr hf hyf (pairwise_mem h.2.2 y hy z hz)
        rw [← hf]; exact h3
end
class Ref (α : Type) where
  val : α → Value
  rows : α → List As
  ro : ∀ a, ∀ y ∈ rows a, y.ro = true
def Ro (S : Nat → Prop) (w : World) {α : Type} [Ref α] (a : α) : Prop := ∀ y ∈ Ref.rows a, Holds w y ∧ ∀ b, y.foot = some b → S b
def GivesR (α : Type) [Ref α] (S : Nat → Prop) (W : World) (e : Ending) (w : World) : Prop :=
  ∃ a : α, e = .returned (Ref.val a) ∧ Bel W.heap.size W w ∧ Ro (fun b => W.heap.size ≤ b ∨ S b) w a
def Nw (w0 : Base) (S : Nat → Prop) (b : Nat) : Prop := w0.w.heap.size ≤ b ∨ S b
def SL (w0 : Base) (S : Nat → Prop) (L : List As) (b : Nat) : Prop := (∃ y ∈ L, y.ro = true ∧ y.foot = some b) ∧ Nw w0 S b
def At (w0 : Base) (S : Nat → Prop) {α : Type} [Ref α] (a : α) : Prop := ∀ y ∈ Ref.rows a, ∀ b, y.foot = some b → Nw w0 S b
section
variable {w0 : Base} {S : Nat → Prop} {w W : World} {L : List As} {α : Type} [Ref α]
theorem inS (hw : Own w0 w L) (i : Nat) {a : α} (hi : (L.drop i).take (Ref.rows a).length = Ref.rows a) (ha : At w0 S a) : Ro (SL w0 S L) w a := fun y hy => by
  have hm : y ∈ L := List.mem_of_mem_drop (i := i) (List.mem_of_mem_take (i := (Ref.rows a).length) (by rw [hi]; exact hy))
  exact ⟨fun b e => (hw.2.1 y hm b e).2, fun b e => ⟨⟨y, hm, Ref.ro a y hy, e⟩, ha y hy b e⟩⟩
theorem Ro.mono {S' : Nat → Prop} {a : α} (h : Ro S w a) (hs : ∀ b, S b → S' b) : Ro S' w a := fun y hy => ⟨(h y hy).1, fun b e => hs b ((h y hy).2 b e)⟩
theorem atA {a : α} (h : Ro S w a) : At ⟨W, none⟩ S a := fun y hy b e => .inr ((h y hy).2 b e)
theorem retR {a : α} {v : Value} (hw : Own ⟨W, none⟩ w L) (h : Ro (SL ⟨W, none⟩ S L) w a) (hv : v = Ref.val a) : GivesR α S W (.returned v) w := ⟨a, by rw [hv], hw.out, h.mono fun b h => h.2⟩
theorem sxA {a : α} (h : Ro S w a) (t : ∀ y ∈ L, y.ro = true ∧ Holds w y) : ∀ y ∈ Ref.rows a ++ L, y.ro = true ∧ Holds w y := fun y hy => (List.mem_append.1 hy).elim (fun k => ⟨Ref.ro a y k, (h y k).1⟩) (t y)
end
theorem Own.addRos {w0 : Base} {w w' : World} {L : List As} (h : Own w0 w L) (hb : Bel w.heap.size w w') : ∀ (xs : List As), (∀ x ∈ xs, x.ro = true ∧ Holds w' x ∧ ∀ b, x.foot = some b → w.heap.size ≤ b ∨ ∃ y ∈ L, y.ro = true ∧ y.foot = some b) → Own w0 w' (xs ++ L)
  | [], _ => h.below hb
  | x :: xs, hx => by
    have h1 := Own.addRos h hb xs fun y hy => hx y (List.mem_cons_of_mem _ hy)
    obtain ⟨hr, hh, hs⟩ := hx x List.mem_cons_self
    have h2 := h.addRo hb hr hh hs
    refine ⟨h1.1, fun y hy => (List.mem_cons.1 hy).elim (fun e => h2.2.1 y (e ▸ List.mem_cons_self)) (fun e => h1.2.1 y e), List.pairwise_cons.2 ⟨fun y hy => ?_, h1.2.2⟩⟩
    rcases List.mem_append.1 hy with hy | hy
    · exact .inl ⟨hr, (hx y (List.mem_cons_of_mem _ hy)).1⟩
    · exact (List.pairwise_cons.1 h2.2.2).1 y hy
section
variable {P : Program} {ops : Array Oper} {rest : List Oper} {Q : Exit → Act → World → Prop} {n d : Nat} {F : List (Nat × Value)} {w0 : Base} {S : Nat → Prop} {L : List As} {t : TypeId} {p : String} {af : Array Edge} {y : Operand} {f : FuncId} {xs : List Operand} {args : List Value} {ts : Array TypeId}
theorem OkL.callRg {α : Type} [Ref α] {g : Option (Nat × Bool)} (hw : Wt ops n F ⟨some d, .call { callee := .value y, args := xs.toArray, argTypes := ts }, t, p, af, g⟩) (hc : ∀ args w, (callFunc f args).run P w = .ok (.enter f args) w) (h : ∀ w, Own w0 w L → Calls P f args.toArray w (GivesR α (SL w0 S L) w))
    (hf : evF F y = some (.func (.func f) #[] #[])) (hargs : xs.map (evF F) = args.map some) (hd : Nat.ble (d + 1) n = true) (next : ∀ a : α, At w0 S a → OkL P ops rest Q n ((d, Ref.val a) :: F) w0 (Ref.rows a ++ L)) :
    OkL P ops (⟨some d, .call { callee := .value y, args := xs.toArray, argTypes := ts }, t, p, af, g⟩ :: rest) Q n F w0 L := fun a w ha hW => by
  unfold wpList
  rw [if_pos (hw a ha)]
  left
  unfold Oper.wp
  rw [op_call0 hf hargs hc a w ha hW, Oper.upon_enter]
  refine (h w hW).mono ?_
  rintro e w' ⟨v, rfl, hb, hr⟩
  exact next v (fun y hy b e => ((hr y hy).2 b e).elim (fun h => .inl (Nat.le_trans hW.1.size h)) fun h => h.2) _ _ (ha.put (blt_lt' hd)) (hW.addRos hb _ fun x hx => ⟨Ref.ro v x hx, (hr x hx).1, fun b e => ((hr x hx).2 b e).imp_right fun h => h.1⟩)
theorem OkL.callR {α : Type} [Ref α] (hc : ∀ args w, (callFunc f args).run P w = .ok (.enter f args) w) (h : ∀ w, Own w0 w L → Calls P f args.toArray w (GivesR α (SL w0 S L) w))
    (hf : evF F y = some (.func (.func f) #[] #[])) (hargs : xs.map (evF F) = args.map some) (hd : Nat.ble (d + 1) n = true) (next : ∀ a : α, At w0 S a → OkL P ops rest Q n ((d, Ref.val a) :: F) w0 (Ref.rows a ++ L)) :
    OkL P ops (⟨some d, .call { callee := .value y, args := xs.toArray, argTypes := ts }, t, p, af, none⟩ :: rest) Q n F w0 L := OkL.callRg (wt_none rfl) hc h hf hargs hd next
theorem wt_undef {ops : Array Oper} {o : Oper} {j t : Nat} {b : Bool} (h : o.guard = some (j, b)) (hj : (ops[j]?).bind (·.dst) = some t) (ht : F.lookup t = some undef) : ∀ a, Frm n a F → Region.wanted o (yielded ops a.tmps) = false := fun a ha => by
  have h1 := ha.2.2 t _ ht
  simp [Region.wanted, h, yielded, hj, h1, undef]
end
end
section
def cmpI (a b : Nat) : Int := if a < b then -1 else if b < a then 1 else 0
theorem cmpI_lt {a b : Nat} (h : a < b) : cmpI a b = -1 := if_pos h
theorem cmpI_gt {a b : Nat} (h : ¬ a < b) (h2 : b < a) : cmpI a b = 1 := by rw [cmpI, if_neg h, if_pos h2]
theorem cmpI_eq {a b : Nat} (h : ¬ a < b) (h2 : ¬ b < a) : cmpI a b = 0 := by rw [cmpI, if_neg h, if_neg h2]
def orI (a b : Int) : Int := if a ≠ 0 then a else if b ≠ 0 then b else 0
section
variable {P : Program} {n : Nat} {F : List (Nat × Value)} {w0 : Base} {L : List As} {d : Option Tmp} {x : Operand} {t : TypeId} {p : String} {af : Array Edge} {g : Option (Nat × Bool)}
theorem ex_slice_clip {tx e : TypeId} {a : Option Addr} {len cap k : Nat} {hi mx : Operand} {ki kj : IntKind} {m : Nat} (hx : evF F x = some (.slice a len cap)) (hh : evF F hi = some (.int ki (m : Nat))) (hj : evF F mx = some (.int kj (m : Nat))) (hu : P.underlying tx = some (.slice e)) (hs : ∀ w, (sizeOf e).run P w = .ok k w) (hm : m ≤ cap) :
    Ex P n F w0 L ⟨d, .slice tx x none (some hi) (some mx), t, p, af, g⟩ (.slice a m m) := fun A w ha _ => by
  simp only [execOp, ha.ev hx, Instr.sliceAt, run_underlying hu, Instr.slice, Option.map_some, Option.map_none, ha.ev hh, ha.ev hj, Instr.sliceBounds, Instr.sliceBound, asIntOf, Sem.run_bind, Result.andThen_ok, Sem.run_pure]
  have h1 : (0 : Int) ≤ (m : Int) ∧ (m : Int) ≤ (cap : Int) := ⟨by omega, by omega⟩
  simp [h1.2, hs]
  cases a <;> simp [Addr.add]
end
section
variable {P : Program} {ops : Array Oper} {rest : List Oper} {Q : Exit → Act → World → Prop} {n : Nat} {F : List (Nat × Value)} {w0 : Base} {L L' : List As}
end
end
def cutN (bs : List Nat) : Nat → Nat
  | 0 => 0
  | m + 1 => if bs.getD m 0 = 0 then cutN bs m else m + 1
theorem cutN_step {bs : List Nat} {k : Nat} (h : 0 < k) (h0 : bs.getD (k - 1) 0 = 0) : cutN bs k = cutN bs (k - 1) := by
  obtain ⟨j, rfl⟩ : ∃ j, k = j + 1 := ⟨k - 1, by omega⟩
  simp only [cutN]; rw [if_pos (by simpa using h0)]; simp
theorem cutN_stop {bs : List Nat} {k : Nat} (h : ¬(0 < k ∧ bs.getD (k - 1) 0 = 0)) : cutN bs k = k := by
  cases k with
  | zero => rfl
  | succ j => simp only [cutN]; rw [if_neg (by simpa using h)]
theorem cutN_le (bs : List Nat) : ∀ m, cutN bs m ≤ m
  | 0 => Nat.le_refl _
  | m + 1 => by
    simp only [cutN]
    split
    · have := cutN_le bs m; omega
    · exact Nat.le_refl _
theorem cutN_last (bs : List Nat) : ∀ m, cutN bs m ≠ 0 → bs.getD (cutN bs m - 1) 0 ≠ 0
  | 0, h => absurd rfl h
  | m + 1, h => by
    simp only [cutN] at h ⊢
    split
    · rename_i h0; rw [if_pos h0] at h; exact cutN_last bs m h
    · rename_i h0; simpa using h0
theorem val_cutN (bs : List Nat) : ∀ m, val (bs.take (cutN bs m)) = val (bs.take m)
  | 0 => rfl
  | m + 1 => by
    simp only [cutN]
    split
    · rename_i h0; rw [val_cutN bs m, val_take_succ, h0]; omega
    · rfl
theorem words_cut {bs : List Nat} (hb : W32 bs) {m : Nat} (hm : m ≤ bs.length) : wordsOf (val (bs.take m)) = bs.take (cutN bs m) := by
  rw [← val_cutN]
  refine words_of_row (hb.take _) fun x hx => ?_
  have hle := cutN_le bs m
  have hne : cutN bs m ≠ 0 := fun h0 => by rw [h0] at hx; simp at hx
  have hl : (bs.take (cutN bs m)).getLast? = some (bs.getD (cutN bs m - 1) 0) := by
    rw [List.getLast?_eq_getElem?]
    have h1 : (bs.take (cutN bs m)).length - 1 = cutN bs m - 1 := by simp; omega
    rw [h1, List.getElem?_take, if_pos (by omega)]
    have h2 : cutN bs m - 1 < bs.length := by omega
    simp [h2]
  rw [hl] at hx
  injection hx with hx
  rw [← hx]
  exact cutN_last bs m hne
theorem nw_cut {bs : List Nat} (hb : W32 bs) {m : Nat} (hm : m ≤ bs.length) : nw (val (bs.take m)) = cutN bs m := by
  unfold nw
  rw [words_cut hb hm, List.length_take]
  have := cutN_le bs m
  omega
theorem small_true {v : Nat} (h : v < 18446744073709551616) : small v = true := by simp [small, h]
theorem small_false {v : Nat} (h : ¬ v < 18446744073709551616) : small v = false := by simp [small, h]
theorem natL_small {v : Nat} (h : v < 18446744073709551616) : natL v = [.int .u64 (v : Nat), .string ByteArray.empty] := by
  simp [natL, lowN, bigB, small_true h]
theorem lowN_small {v : Nat} (h : v < 18446744073709551616) : lowN v = v := by simp [lowN, small_true h]
def bytesN (xs : List Nat) : List Nat := xs.flatMap fun x => [x % 256, x / 256 % 256, x / 65536 % 256, x / 16777216 % 256]
theorem bytesN_length (xs : List Nat) : (bytesN xs).length = 4 * xs.length := by
  induction xs with
  | nil => rfl
  | cons x xs ih => simp [bytesN] at ih ⊢; omega
theorem bytesN_append (xs ys : List Nat) : bytesN (xs ++ ys) = bytesN xs ++ bytesN ys := by simp [bytesN]
theorem bytes_str (xs : List Nat) : strOf (bytesN xs) = ⟨(xs.flatMap bytes4).toArray⟩ := by
  unfold strOf
  congr 2
  induction xs with
  | nil => rfl
  | cons x xs ih =>
    simp only [bytesN, List.flatMap_cons, List.map_append] at ih ⊢
    rw [ih]
    rfl
theorem natL_big {v : Nat} (h : ¬ v < 18446744073709551616) : natL v = [.int .u64 (0 : Nat), .string (strOf (bytesN (wordsOf v)))] := by
  simp [natL, lowN, bigB, small_false h, bytes_str]
theorem bigB_small {v : Nat} (h : v < 18446744073709551616) : bigB v = ByteArray.empty := by simp [bigB, small_true h]
theorem bigB_big {v : Nat} (h : ¬ v < 18446744073709551616) : bigB v = strOf (bytesN (wordsOf v)) := by simp [bigB, small_false h, bytes_str]
theorem strOf_size (xs : List Nat) : (strOf xs).size = xs.length := by simp [strOf, ByteArray.size]
theorem strOf_get {xs : List Nat} {j : Nat} (h : j < xs.length) : (strOf xs)[j]? = some (UInt8.ofNat (xs.getD j 0)) := by
  have h1 : j < (strOf xs).size := by rw [strOf_size]; exact h
  rw [getElem?_pos (strOf xs) j h1]
  congr 1
  show (strOf xs).data[j]'h1 = _
  simp [strOf, h]
theorem bytesN_get : ∀ (xs : List Nat) (i k : Nat), i < xs.length → k < 4 → (bytesN xs).getD (4 * i + k) 0 = xs.getD i 0 / 256 ^ k % 256
  | [], i, k, h, _ => by simp at h
  | x :: xs, 0, k, _, hk => by
    rcases k with _ | _ | _ | _ | k
    · simp [bytesN]
    · simp [bytesN]
    · simp [bytesN]
    · simp [bytesN]
    · omega
  | x :: xs, i + 1, k, h, hk => by
    have ih := bytesN_get xs i k (by simpa using h) hk
    have e : 4 * (i + 1) + k = (4 * i + k) + 4 := by omega
    rw [e, List.getD_cons_succ, ← ih]
    simp [bytesN]
theorem nw_big {v : Nat} (h : ¬ v < 18446744073709551616) : 2 < nw v := by
  rcases Nat.lt_or_ge 2 (nw v) with h1 | h1
  · exact h1
  · exact absurd (nw_le_iff.1 h1) (by omega)
theorem bigB_empty {v : Nat} : ((bigB v).toList == (ByteArray.mk #[]).toList) = decide (v < 18446744073709551616) := by
  by_cases h : v < 18446744073709551616
  · rw [bigB_small h]; simp [h]
  · have h1 := nw_big h
    rw [ByteArray.toList_eq, ByteArray.toList_eq]
    have h2 : (bigB v).data.toList ≠ [] := fun e => by
      have h3 : (bigB v).data.toList.length = 0 := by rw [e]; rfl
      rw [bigB_big h] at h3
      simp [strOf, bytesN_length] at h3
      unfold nw at h1
      omega
    have h4 : ((bigB v).data.toList == []) = false := by
      cases hl : (bigB v).data.toList with
      | nil => exact absurd hl h2
      | cons => rfl
    rw [show (ByteArray.mk #[]).data.toList = [] from rfl, h4]
    simp [h]
def padW (v : Nat) : List Nat := if v < 18446744073709551616 then [v % 4294967296, v / 4294967296] else wordsOf v
theorem padW_w32 (v : Nat) : W32 (padW v) := by
  unfold padW
  split
  · exact W32.cons (by omega) (W32.cons (by omega) W32.nil)
  · exact words_w32 v
theorem padW_of {v : Nat} (h : v < 18446744073709551616) : W32 [v % 4294967296, v / 4294967296] := W32.cons (by omega) (W32.cons (by omega) W32.nil)
theorem nw_le_pad (v : Nat) : nw v ≤ (padW v).length := by
  unfold padW
  split
  · rename_i h; exact nw_small h
  · exact Nat.le_refl _
theorem pad_take (v : Nat) : (padW v).take (nw v) = wordsOf v := by
  unfold padW
  split
  · rename_i h
    have e : v = val ([v % 4294967296, v / 4294967296].take 2) := by simp [val]; omega
    have hw : W32 [v % 4294967296, v / 4294967296] := W32.cons (by omega) (W32.cons (by omega) W32.nil)
    have h1 := words_cut hw (m := 2) (by simp)
    have h2 := nw_cut hw (m := 2) (by simp)
    rw [← e] at h1 h2
    rw [h2, ← h1]
  · exact List.take_of_length_le (Nat.le_refl _)
theorem val_pad (v : Nat) : val (padW v) = v := by
  unfold padW
  split
  · simp [val]; omega
  · exact val_words v
theorem or_add {a b s : Nat} (ha : a < 2 ^ s) : a ||| b * 2 ^ s = a + b * 2 ^ s := by
  rw [Nat.or_comm, Nat.mul_comm, ← Nat.two_pow_add_eq_or_of_lt ha]; omega
theorem orN_u64 {a b : Nat} (ha : a < 18446744073709551616) (hb : b < 18446744073709551616) {c : Nat} (hc : a ||| b = c) : IntKind.u64.wrap ((BitVec.ofInt IntKind.u64.bits (a : Int) ||| BitVec.ofInt IntKind.u64.bits (b : Int)).toNat : Int) = (c : Int) := by
  have e : (BitVec.ofInt IntKind.u64.bits (a : Int) ||| BitVec.ofInt IntKind.u64.bits (b : Int)).toNat = a ||| b := by
    show (BitVec.ofInt 64 (a : Int) ||| BitVec.ofInt 64 (b : Int)).toNat = _
    rw [BitVec.toNat_or, BitVec.ofInt_natCast, BitVec.ofInt_natCast, BitVec.toNat_ofNat, BitVec.toNat_ofNat, Nat.mod_eq_of_lt (show a < 2 ^ 64 by omega), Nat.mod_eq_of_lt (show b < 2 ^ 64 by omega)]
  rw [e, hc]
  have h2 : a ||| b < 2 ^ 64 := Nat.or_lt_two_pow ha hb
  exact wrap_u64 (by omega) (by omega)
theorem orN_u32 {a b : Nat} (ha : a < 4294967296) (hb : b < 4294967296) {c : Nat} (hc : a ||| b = c) : IntKind.u32.wrap ((BitVec.ofInt IntKind.u32.bits (a : Int) ||| BitVec.ofInt IntKind.u32.bits (b : Int)).toNat : Int) = (c : Int) := by
  have e : (BitVec.ofInt IntKind.u32.bits (a : Int) ||| BitVec.ofInt IntKind.u32.bits (b : Int)).toNat = a ||| b := by
    show (BitVec.ofInt 32 (a : Int) ||| BitVec.ofInt 32 (b : Int)).toNat = _
    rw [BitVec.toNat_or, BitVec.ofInt_natCast, BitVec.ofInt_natCast, BitVec.toNat_ofNat, BitVec.toNat_ofNat, Nat.mod_eq_of_lt (show a < 2 ^ 32 by omega), Nat.mod_eq_of_lt (show b < 2 ^ 32 by omega)]
  rw [e, hc]
  have h2 : a ||| b < 2 ^ 32 := Nat.or_lt_two_pow ha hb
  exact wrap_u32 (by omega) (by omega)
theorem shlN_u64 {a s : Nat} (h : a * 2 ^ s < 18446744073709551616) : IntKind.u64.wrap ((a : Int) * 2 ^ s) = ((a * 2 ^ s : Nat) : Int) := by
  have e : (a : Int) * 2 ^ s = ((a * 2 ^ s : Nat) : Int) := by simp
  rw [e, wrap_u64 (by omega) (by omega)]
theorem shlN_u32 {a s : Nat} (h : a * 2 ^ s < 4294967296) : IntKind.u32.wrap ((a : Int) * 2 ^ s) = ((a * 2 ^ s : Nat) : Int) := by
  have e : (a : Int) * 2 ^ s = ((a * 2 ^ s : Nat) : Int) := by simp
  rw [e, wrap_u32 (by omega) (by omega)]
theorem shlN_u32m {a s : Nat} : IntKind.u32.wrap ((a : Int) * 2 ^ s) = ((a * 2 ^ s % 4294967296 : Nat) : Int) := by
  have e : (a : Int) * 2 ^ s = ((a * 2 ^ s : Nat) : Int) := by simp
  rw [e]; exact modN_u32
theorem pow256 (k : Nat) : (256 : Nat) ^ k = 2 ^ (8 * k) := by rw [show (256 : Nat) = 2 ^ 8 from rfl, ← Nat.pow_mul]
theorem byte_lt {w k : Nat} (hk : k < 4) : w / 256 ^ k % 256 * 2 ^ (8 * k) < 4294967296 := by
  rcases k with _ | _ | _ | _ | k
  · simp; omega
  · simp; omega
  · simp; omega
  · simp; omega
  · omega
theorem byte_step {w k x : Nat} (hx : x = w % 256 ^ k) : x ||| w / 256 ^ k % 256 * 2 ^ (8 * k) = w % 256 ^ (k + 1) := by
  subst hx
  rw [or_add (by rw [← pow256]; exact Nat.mod_lt _ (Nat.pow_pos (by omega))), ← pow256, Nat.mod_pow_succ, Nat.mul_comm]
theorem words_step {os ws xs : List Nat} {n i : Nat} (hl : os.length = n) (hn : ws.length = n) (hi : i < n) (ht : os.take i = ws.take i) (h0 : ∀ j, i ≤ j → os.getD j 0 = 0) (hx : xs = os.set i (ws.getD i 0)) :
    xs.length = n ∧ xs.take (i + 1) = ws.take (i + 1) ∧ ∀ j, i + 1 ≤ j → xs.getD j 0 = 0 := by
  subst hx
  refine ⟨by simp [hl], ?_, fun j hj => ?_⟩
  · have e1 : i < os.length := by omega
    have e2 : i < ws.length := by omega
    rw [List.take_add_one, List.take_add_one, List.take_set_of_le (Nat.le_refl _), ht]
    simp [e1, e2]
  · have := h0 j (by omega)
    rw [List.getD_eq_getElem?_getD, List.getElem?_set_ne (by omega), ← List.getD_eq_getElem?_getD]
    exact this
theorem set_self {os : List Nat} {i : Nat} (h : os.getD i 0 = 0) : os = os.set i 0 := by
  apply List.ext_getElem (by simp)
  intro j h1 h2
  by_cases e : i = j
  · subst e; simpa [h1] using h
  · simp [e]
theorem pow32 (k : Nat) : (4294967296 : Nat) ^ k = 2 ^ (32 * k) := by rw [show (4294967296 : Nat) = 2 ^ 32 from rfl, ← Nat.pow_mul]
theorem shift_lt {x i : Nat} (hx : x < 4294967296) (hi : i < 2) : x * 2 ^ (32 * i) < 18446744073709551616 := by
  rcases i with _ | _ | i
  · simp; omega
  · simp; omega
  · omega
theorem small_pow {n i : Nat} (h : n < 4294967296 ^ i) (hi : i < 2) : n < 18446744073709551616 := by
  rcases i with _ | _ | i
  · simp at h; omega
  · simp at h; omega
  · omega
theorem bytes_step {bs : List Nat} {i K : Nat} (hi : i < K) (hK : K ≤ bs.length) :
    lay (u8s (bytesN (bs.take i) ++ List.replicate (4 * (K - i)) 0)) (4 * i) (u8s [bs.getD i 0 % 256, bs.getD i 0 / 256 % 256, bs.getD i 0 / 65536 % 256, bs.getD i 0 / 16777216 % 256]) = u8s (bytesN (bs.take (i + 1)) ++ List.replicate (4 * (K - (i + 1))) 0) := by
  have hib : i < bs.length := by omega
  have e1 : bs.take (i + 1) = bs.take i ++ [bs.getD i 0] := by rw [List.take_add_one]; simp [hib]
  have hl : (bytesN (bs.take i)).length = 4 * i := by rw [bytesN_length, List.length_take]; omega
  have e2 : List.replicate (4 * (K - i)) 0 = List.replicate 4 0 ++ List.replicate (4 * (K - (i + 1))) 0 := by rw [List.replicate_append_replicate]; congr 1; omega
  have e3 : bytesN [bs.getD i 0] = [bs.getD i 0 % 256, bs.getD i 0 / 256 % 256, bs.getD i 0 / 65536 % 256, bs.getD i 0 / 16777216 % 256] := by simp [bytesN]
  rw [e1, bytesN_append, e3, e2]
  unfold lay u8s
  simp only [List.map_append]
  rw [List.take_append_of_le_length (by simp [hl]), List.take_of_length_le (by simp [hl])]
  rw [show 4 * i + (List.map (fun x => Value.int IntKind.u8 (x : Nat)) [bs.getD i 0 % 256, bs.getD i 0 / 256 % 256, bs.getD i 0 / 65536 % 256, bs.getD i 0 / 16777216 % 256]).length = 4 * i + 4 from rfl]
  rw [List.drop_append, List.drop_of_length_le (by simp [hl])]
  simp [hl]
theorem row_done {os ws : List Nat} {n i : Nat} (hl : os.length = n) (hn : ws.length = n) (hi : ¬ i < n) (ht : os.take i = ws.take i) : os = ws := by
  rwa [List.take_of_length_le (by omega), List.take_of_length_le (by omega)] at ht
end Go.Proofs.YtgiacpkjnikjdaaGreat
