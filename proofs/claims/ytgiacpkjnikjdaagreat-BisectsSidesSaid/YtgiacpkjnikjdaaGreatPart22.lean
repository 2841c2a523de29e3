import Derived.Test.YtgiacpkjnikjdaaGreatPart08
import Derived.Test.YtgiacpkjnikjdaaGreatPart21
namespace Go.Proofs.YtgiacpkjnikjdaaGreat
open Go Go.RowKit
set_option linter.unusedVariables false
set_option linter.unusedSimpArgs false
section
def rowsL {α : Type} (enc : α → List Value) (xs : List α) : List Value := xs.flatMap enc
section
variable {α : Type} {enc : α → List Value} {z : Nat}
theorem rowsL_append (xs ys : List α) : rowsL enc (xs ++ ys) = rowsL enc xs ++ rowsL enc ys := by simp [rowsL]
theorem rowsL_length (h : ∀ x, (enc x).length = z) (xs : List α) : (rowsL enc xs).length = xs.length * z := by
  induction xs with
  | nil => simp [rowsL]
  | cons x r ih =>
    have e : rowsL enc (x :: r) = enc x ++ rowsL enc r := rfl
    rw [e, List.length_append, ih, h, List.length_cons, Nat.add_mul]; omega
theorem rowsL_get (h : ∀ x, (enc x).length = z) (d : α) : ∀ (xs : List α) (j : Nat), j < xs.length → ((rowsL enc xs).drop (j * z)).take z = enc (xs.getD j d)
  | x :: r, 0, _ => by
    have e : rowsL enc (x :: r) = enc x ++ rowsL enc r := rfl
    rw [e, Nat.zero_mul, List.drop_zero, List.take_append_of_le_length (by rw [h]; exact Nat.le_refl _), List.take_of_length_le (by rw [h]; exact Nat.le_refl _)]; rfl
  | x :: r, j + 1, hj => by
    have e : rowsL enc (x :: r) = enc x ++ rowsL enc r := rfl
    rw [e, show (j + 1) * z = (enc x).length + j * z by rw [h, Nat.add_mul]; omega, List.drop_append, List.drop_of_length_le (by omega), Nat.add_sub_cancel_left, List.nil_append, rowsL_get h d r j (by simpa using hj)]; rfl
end
structure RX (cs : List Value) (n : Nat) where
  p : Option Addr
  c : Nat
  ok : RowOk p n c
@[reducible] def RX.val {cs : List Value} {n : Nat} (a : RX cs n) : Value := .slice a.p n a.c
@[reducible] def RX.row {cs : List Value} {n : Nat} (a : RX cs n) : As := rowR a.p cs
instance {cs : List Value} {n : Nat} : Ref (RX cs n) := ⟨fun a => .slice a.p n a.c, fun a => [rowR a.p cs], fun a y hy => by rcases List.mem_singleton.1 hy with rfl; rfl⟩
theorem retX {S : Nat → Prop} {W w : World} {L : List As} (hw : Own ⟨W, none⟩ w L) (i : Nat) {p : Option Addr} {T : TypeId} {z n c : Nat} {cs : List Value} (hi : L[i]? = some (rowW p T z n c cs)) (ho : OwnOk p n c) (hl : cs.length = n * z) {v : Value} (hv : v = .slice p n c) : GivesR (RX cs n) S W (.returned v) w := by
  have hb := hw.newRow hi
  refine ⟨⟨p, c, ho.row⟩, by rw [hv]; rfl, hw.out, fun y hy => ?_⟩
  rcases List.mem_singleton.1 hy with rfl
  refine ⟨fun d e => ?_, fun d e => .inl (hb d e)⟩
  obtain ⟨_, o, ho2, hp⟩ := hw.2.1 _ (List.mem_of_getElem? hi) d e
  exact ⟨o, ho2, lies_of_rowW ho hl hp⟩
def bytL (xs : List Nat) : List Value := xs.map fun x => Value.int .u8 (x : Nat)
theorem bytL_get {xs : List Nat} {j : Nat} (h : j < xs.length) : (bytL xs)[j * 1]? = some (.int .u8 ((xs.getD j 0 : Nat) : Int)) := by rw [Nat.mul_one]; simp [bytL, h]
structure MQ where
  nx : Nat
  ny : Nat
  cs : List Nat
  p : Option Addr
  cap : Nat
  a : Int
  b : Int
  c : Int
  d : Int
  den : Nat
  fst : Nat
  hx : nx < 256
  hy : ny < 256
  ha : -128 ≤ a ∧ a ≤ 127
  hb : -128 ≤ b ∧ b ≤ 127
  hc : -128 ≤ c ∧ c ≤ 127
  hd : -128 ≤ d ∧ d ≤ 127
  hden : den < 256
  hfst : fst < 256
  hcs : ∀ x ∈ cs, x < 256
  ok : RowOk p cs.length cap
def mqL (m : MQ) : List Value := [.int .u8 m.nx, .int .u8 m.ny, .slice m.p m.cs.length m.cap, .int .i8 m.a, .int .i8 m.b, .int .i8 m.c, .int .i8 m.d, .int .u8 m.den, .int .u8 m.fst]
instance : Ref MQ := ⟨fun m => aG (mqL m), fun m => [rowR m.p (bytL m.cs)], fun a y hy => by rcases List.mem_singleton.1 hy with rfl; rfl⟩
theorem quoN_u8 {a b : Nat} (h : a < 256) : IntKind.u8.wrap ((a : Int).tdiv (b : Int)) = ((a / b : Nat) : Int) := by
  have : a / b ≤ a := Nat.div_le_self _ _
  rw [← Int.ofNat_tdiv]
  generalize a / b = q at *
  exact wrap_u8 (by omega) (by omega)
theorem addN_u8 {a b : Nat} (h : a + b < 256) : IntKind.u8.wrap ((a : Int) + (b : Int)) = ((a + b : Nat) : Int) := by rw [wrap_u8 (by omega) (by omega)]; omega
abbrev P2 := Nat × Nat
def cellT (nx way i : Nat) : List (P2 × P2 × P2) :=
  let x := 2 * (i % nx); let y := 2 * (i / nx)
  if way < 3 ∨ (way = 7 ∧ i = 0) then [((x, y), (x + 2, y), (x + 2, y + 2)), ((x, y), (x + 2, y + 2), (x, y + 2))]
  else if way < 5 then [((x, y), (x + 2, y), (x, y + 2)), ((x + 2, y), (x + 2, y + 2), (x, y + 2))]
  else if way < 7 then [((x, y), (x + 2, y), (x + 1, y + 1)), ((x + 2, y), (x + 2, y + 2), (x + 1, y + 1)), ((x + 2, y + 2), (x, y + 2), (x + 1, y + 1)), ((x, y + 2), (x, y), (x + 1, y + 1))] else []
def turn2 (p q r : P2) : Int := ((q.1 : Int) - p.1) * ((r.2 : Int) - p.2) - ((q.2 : Int) - p.2) * ((r.1 : Int) - p.1)
def TriOk (t : P2 × P2 × P2) : Prop := 0 < turn2 t.1 t.2.1 t.2.2 ∧ (t.1.1 ≤ 6 ∧ t.1.2 ≤ 6) ∧ (t.2.1.1 ≤ 6 ∧ t.2.1.2 ≤ 6) ∧ (t.2.2.1 ≤ 6 ∧ t.2.2.2 ≤ 6)
theorem cellT_ok {nx ny way i : Nat} (hx : nx ≤ 3) (hy : ny ≤ 3) (hi : i < nx * ny) : ∀ t ∈ cellT nx way i, TriOk t := by
  have h1 : i % nx ≤ 2 := by
    have : nx ≠ 0 := fun e => by subst e; omega
    have := Nat.mod_lt i (show 0 < nx by omega)
    omega
  have h2 : i / nx ≤ 2 := by
    have : i / nx < ny := Nat.div_lt_of_lt_mul (by rwa [Nat.mul_comm] at hi ⊢)
    omega
  intro t ht
  unfold cellT at ht
  generalize i % nx = u at *
  generalize i / nx = v at *
  have key : ∀ t : P2 × P2 × P2, t ∈ [((2*u, 2*v), (2*u + 2, 2*v), (2*u + 2, 2*v + 2)), ((2*u, 2*v), (2*u + 2, 2*v + 2), (2*u, 2*v + 2)), ((2*u, 2*v), (2*u + 2, 2*v), (2*u, 2*v + 2)), ((2*u + 2, 2*v), (2*u + 2, 2*v + 2), (2*u, 2*v + 2)),
      ((2*u, 2*v), (2*u + 2, 2*v), (2*u + 1, 2*v + 1)), ((2*u + 2, 2*v), (2*u + 2, 2*v + 2), (2*u + 1, 2*v + 1)), ((2*u + 2, 2*v + 2), (2*u, 2*v + 2), (2*u + 1, 2*v + 1)), ((2*u, 2*v + 2), (2*u, 2*v), (2*u + 1, 2*v + 1))] → TriOk t := by
    intro t ht
    simp only [List.mem_cons, List.not_mem_nil, or_false] at ht
    rcases ht with rfl | rfl | rfl | rfl | rfl | rfl | rfl | rfl <;> refine ⟨?_, ⟨?_, ?_⟩, ⟨?_, ?_⟩, ?_, ?_⟩ <;> dsimp only [turn2] <;> first | omega | grind
  refine key t ?_
  simp only at ht
  split at ht
  · simp only [List.mem_cons, List.not_mem_nil, or_false] at ht ⊢; rcases ht with h | h <;> simp [h]
  · split at ht
    · simp only [List.mem_cons, List.not_mem_nil, or_false] at ht ⊢; rcases ht with h | h <;> simp [h]
    · split at ht
      · simp only [List.mem_cons, List.not_mem_nil, or_false] at ht ⊢; rcases ht with h | h | h | h <;> simp [h]
      · cases ht
theorem cellT_len (nx way i : Nat) : (cellT nx way i).length ≤ 4 := by
  unfold cellT; simp only; split
  · simp
  · split
    · simp
    · split <;> simp
theorem cellT_first (nx way : Nat) (h : way < 8) : cellT nx way 0 ≠ [] := by
  unfold cellT; simp only; split
  · simp
  · split
    · simp
    · split
      · simp
      · rename_i h1 h2 h3; simp only [and_true, not_or] at h1; omega
section
variable {nx way i u v : Nat}
theorem cellT_0 (hu : u = i % nx) (hv : v = i / nx) (h : way < 3 ∨ (way = 7 ∧ i = 0)) : cellT nx way i = [((2 * u, 2 * v), (2 * u + 2, 2 * v), (2 * u + 2, 2 * v + 2)), ((2 * u, 2 * v), (2 * u + 2, 2 * v + 2), (2 * u, 2 * v + 2))] := by
  subst hu; subst hv; exact if_pos h
theorem cellT_1 (hu : u = i % nx) (hv : v = i / nx) (h0 : ¬ (way < 3 ∨ (way = 7 ∧ i = 0))) (h : way < 5) : cellT nx way i = [((2 * u, 2 * v), (2 * u + 2, 2 * v), (2 * u, 2 * v + 2)), ((2 * u + 2, 2 * v), (2 * u + 2, 2 * v + 2), (2 * u, 2 * v + 2))] := by
  subst hu; subst hv; exact (if_neg h0).trans (if_pos h)
theorem cellT_2 (hu : u = i % nx) (hv : v = i / nx) (h0 : ¬ (way < 3 ∨ (way = 7 ∧ i = 0))) (h1 : ¬ way < 5) (h : way < 7) : cellT nx way i = [((2 * u, 2 * v), (2 * u + 2, 2 * v), (2 * u + 1, 2 * v + 1)), ((2 * u + 2, 2 * v), (2 * u + 2, 2 * v + 2), (2 * u + 1, 2 * v + 1)), ((2 * u + 2, 2 * v + 2), (2 * u, 2 * v + 2), (2 * u + 1, 2 * v + 1)), ((2 * u, 2 * v + 2), (2 * u, 2 * v), (2 * u + 1, 2 * v + 1))] := by
  subst hu; subst hv; exact (if_neg h0).trans ((if_neg h1).trans (if_pos h))
theorem cellT_3 (h0 : ¬ (way < 3 ∨ (way = 7 ∧ i = 0))) (h1 : ¬ way < 5) (h : ¬ way < 7) : cellT nx way i = [] := (if_neg h0).trans ((if_neg h1).trans (if_neg h))
end
def posL (p : P2) : List Value := [vN p.1, vN p.2]
theorem posL_len (p : P2) : (posL p).length = 2 := rfl
def triPL (t : P2 × P2 × P2) : List Value := posL t.1 ++ posL t.2.1 ++ posL t.2.2
theorem triPL_len (t : P2 × P2 × P2) : (triPL t).length = 6 := rfl
def t3L (t : Nat × Nat × Nat) : List Value := [vN t.1, vN t.2.1, vN t.2.2]
theorem t3L_len (t : Nat × Nat × Nat) : (t3L t).length = 3 := rfl
def movL (z : Int × Int) : List Value := [.int .i64 z.1, .int .i64 z.2]
theorem movL_len (z : Int × Int) : (movL z).length = 2 := rfl
def wayM (m : MQ) (i : Nat) : Nat := if 0 < m.cs.length then m.cs.getD (i % m.cs.length) 0 % 8 else 0
theorem wayM_lt (m : MQ) (i : Nat) : wayM m i < 8 := by unfold wayM; split <;> omega
def nxM (m : MQ) : Nat := 1 + m.nx % 3
def nyM (m : MQ) : Nat := 1 + m.ny % 3
def cellsN (m : MQ) : Nat → List (P2 × P2 × P2)
  | 0 => []
  | i + 1 => cellsN m i ++ cellT (nxM m) (wayM m i) i
def cellsM (m : MQ) : List (P2 × P2 × P2) := cellsN m (nxM m * nyM m)
theorem nxM_le (m : MQ) : 1 ≤ nxM m ∧ nxM m ≤ 3 := by unfold nxM; omega
theorem nyM_le (m : MQ) : 1 ≤ nyM m ∧ nyM m ≤ 3 := by unfold nyM; omega
theorem cellsN_len (m : MQ) : ∀ i, (cellsN m i).length ≤ 4 * i
  | 0 => Nat.le_refl _
  | i + 1 => by
    have h1 := cellsN_len m i
    have h2 := cellT_len (nxM m) (wayM m i) i
    show (cellsN m i ++ cellT (nxM m) (wayM m i) i).length ≤ _
    rw [List.length_append]; omega
theorem cellsN_ok (m : MQ) : ∀ i, i ≤ nxM m * nyM m → ∀ t ∈ cellsN m i, TriOk t
  | 0, _, t, ht => by cases ht
  | i + 1, hi, t, ht => by
    rcases List.mem_append.1 ht with h | h
    · exact cellsN_ok m i (by omega) t h
    · exact cellT_ok (nxM_le m).2 (nyM_le m).2 (by omega) t h
theorem cellsN_ne (m : MQ) : ∀ i, 1 ≤ i → cellsN m i ≠ []
  | 1, _ => by
    show [] ++ cellT (nxM m) (wayM m 0) 0 ≠ []
    rw [List.nil_append]; exact cellT_first _ _ (wayM_lt m 0)
  | i + 2, _ => fun e => cellsN_ne m (i + 1) (by omega) (List.append_eq_nil_iff.1 e).1
theorem cellsM_ne (m : MQ) : cellsM m ≠ [] := cellsN_ne m _ (Nat.mul_pos (nxM_le m).1 (nyM_le m).1)
theorem cellsM_ok (m : MQ) : ∀ t ∈ cellsM m, TriOk t := cellsN_ok m _ (Nat.le_refl _)
theorem cells_bound (m : MQ) : nxM m * nyM m ≤ 9 := Nat.mul_le_mul (nxM_le m).2 (nyM_le m).2
theorem cellsM_len (m : MQ) : (cellsM m).length ≤ 36 := by
  have h1 := cellsN_len m (nxM m * nyM m)
  have h2 := cells_bound m
  unfold cellsM; omega
theorem mul_small {a b : Int} {k : Int} (ha : -3 ≤ a ∧ a ≤ 3) (hb : -k ≤ b ∧ b ≤ k) : -(3 * k) ≤ a * b ∧ a * b ≤ 3 * k := by
  obtain ⟨h3, h4⟩ := ha
  have e : a = -3 ∨ a = -2 ∨ a = -1 ∨ a = 0 ∨ a = 1 ∨ a = 2 ∨ a = 3 := by omega
  rcases e with rfl | rfl | rfl | rfl | rfl | rfl | rfl <;> omega
def i4L (k : Int × Int × Int × Int) : List Value := [.int .i64 k.1, .int .i64 k.2.1, .int .i64 k.2.2.1, .int .i64 k.2.2.2]
structure Map4 where
  a : Int
  b : Int
  c : Int
  d : Int
def Map4.det (k : Map4) : Int := k.a * k.d - k.b * k.c
structure Map4.Ok (k : Map4) : Prop where
  a : -3 ≤ k.a ∧ k.a ≤ 3
  b : -3 ≤ k.b ∧ k.b ≤ 3
  c : -3 ≤ k.c ∧ k.c ≤ 3
  d : -3 ≤ k.d ∧ k.d ≤ 3
  pos : 0 < k.det
def Map4.at_ (k : Map4) (p : P2) : Int × Int := (k.a * p.1 + k.b * p.2, k.c * p.1 + k.d * p.2)
def map4 (a b c d : Int) : Map4 :=
  let k : Map4 := ⟨a.tmod 4, b.tmod 4, c.tmod 4, d.tmod 4⟩
  if k.det = 0 then ⟨1, 0, 0, 1⟩ else if k.det < 0 then ⟨k.a, k.b, -k.c, -k.d⟩ else k
theorem tmod4 (a : Int) : -3 ≤ a.tmod 4 ∧ a.tmod 4 ≤ 3 := by
  have h := Int.tmod_eq_emod (a := a) (b := 4)
  have h1 := Int.emod_nonneg a (show (4 : Int) ≠ 0 by decide)
  have h2 := Int.emod_lt_of_pos a (show (0 : Int) < 4 by decide)
  rw [h]
  split <;> omega
theorem map4_z {a b c d A B C D : Int} (hA : A = a.tmod 4) (hB : B = b.tmod 4) (hC : C = c.tmod 4) (hD : D = d.tmod 4) (h : A * D - B * C = 0) : map4 a b c d = ⟨1, 0, 0, 1⟩ := by
  subst hA; subst hB; subst hC; subst hD; exact if_pos h
theorem map4_n {a b c d A B C D : Int} (hA : A = a.tmod 4) (hB : B = b.tmod 4) (hC : C = c.tmod 4) (hD : D = d.tmod 4) (h : A * D - B * C < 0) : map4 a b c d = ⟨A, B, -C, -D⟩ := by
  subst hA; subst hB; subst hC; subst hD; exact (if_neg (fun e : a.tmod 4 * d.tmod 4 - b.tmod 4 * c.tmod 4 = 0 => by rw [e] at h; omega)).trans (if_pos h)
theorem map4_p {a b c d A B C D : Int} (hA : A = a.tmod 4) (hB : B = b.tmod 4) (hC : C = c.tmod 4) (hD : D = d.tmod 4) (h0 : ¬ A * D - B * C = 0) (h : ¬ A * D - B * C < 0) : map4 a b c d = ⟨A, B, C, D⟩ := by
  subst hA; subst hB; subst hC; subst hD; exact (if_neg h0).trans (if_neg h)
theorem map4_ok (a b c d : Int) : (map4 a b c d).Ok := by
  have ha := tmod4 a; have hb := tmod4 b; have hc := tmod4 c; have hd := tmod4 d
  unfold map4
  generalize a.tmod 4 = a' at *
  generalize b.tmod 4 = b' at *
  generalize c.tmod 4 = c' at *
  generalize d.tmod 4 = d' at *
  show (if a' * d' - b' * c' = 0 then (⟨1, 0, 0, 1⟩ : Map4) else if a' * d' - b' * c' < 0 then ⟨a', b', -c', -d'⟩ else ⟨a', b', c', d'⟩).Ok
  by_cases h0 : a' * d' - b' * c' = 0
  · rw [if_pos h0]; exact ⟨by decide, by decide, by decide, by decide, by decide⟩
  · rw [if_neg h0]
    by_cases h : a' * d' - b' * c' < 0
    · rw [if_pos h]; exact ⟨ha, hb, by dsimp only; omega, by dsimp only; omega, by show 0 < a' * -d' - b' * -c'; rw [Int.mul_neg, Int.mul_neg]; omega⟩
    · rw [if_neg h]; exact ⟨ha, hb, hc, hd, by show 0 < a' * d' - b' * c'; omega⟩
theorem at_small {k : Map4} (h : k.Ok) {p : P2} (hp : p.1 ≤ 6 ∧ p.2 ≤ 6) : (-36 ≤ (k.at_ p).1 ∧ (k.at_ p).1 ≤ 36) ∧ -36 ≤ (k.at_ p).2 ∧ (k.at_ p).2 ≤ 36 := by
  obtain ⟨x, y⟩ := p
  have key : ∀ (z : Int) (n : Nat), -3 ≤ z ∧ z ≤ 3 → n ≤ 6 → -18 ≤ z * n ∧ z * n ≤ 18 := fun z n h1 h2 => by
    obtain ⟨h3, h4⟩ := h1
    have e : z = -3 ∨ z = -2 ∨ z = -1 ∨ z = 0 ∨ z = 1 ∨ z = 2 ∨ z = 3 := by omega
    rcases e with rfl | rfl | rfl | rfl | rfl | rfl | rfl <;> omega
  have h1 := key k.a x h.a hp.1; have h2 := key k.b y h.b hp.2; have h3 := key k.c x h.c hp.1; have h4 := key k.d y h.d hp.2
  simp only [Map4.at_]
  exact ⟨⟨by omega, by omega⟩, by omega, by omega⟩
def pdM (k : Map4) (den : Nat) (p : P2) : PD := ⟨⟨(k.at_ p).1, den⟩, ⟨(k.at_ p).2, den⟩⟩
theorem turn_pt {k : Map4} (h : k.Ok) (den : Nat) {p q r : P2} (ht : 0 < turn2 p q r) : 0 < turnP (ptOf (pdM k den p)) (ptOf (pdM k den q)) (ptOf (pdM k den r)) := by
  have hD : 0 < (((max den 1 : Nat) : Int) : Rat) := by exact_mod_cast (show (0 : Int) < ((max den 1 : Nat) : Int) by omega)
  have e : turnP (ptOf (pdM k den p)) (ptOf (pdM k den q)) (ptOf (pdM k den r)) = ((k.det * turn2 p q r : Int) : Rat) * ((((max den 1 : Nat) : Int) : Rat)⁻¹ * (((max den 1 : Nat) : Int) : Rat)⁻¹) := by
    simp only [turn_def, ptOf, pdM, qOf, Map4.at_, Map4.det, turn2, Rat.div_def, Rat.intCast_add, Rat.intCast_mul, Rat.intCast_sub]
    generalize (((max den 1 : Nat) : Int) : Rat)⁻¹ = D
    grind
  rw [e]
  have h1 : 0 < k.det * turn2 p q r := Int.mul_pos h.pos ht
  have h2 : (0 : Rat) < ((k.det * turn2 p q r : Int) : Rat) := by exact_mod_cast h1
  have h3 := Rat.inv_pos.2 hD
  exact Rat.mul_pos h2 (Rat.mul_pos h3 h3)
end
end Go.Proofs.YtgiacpkjnikjdaaGreat
