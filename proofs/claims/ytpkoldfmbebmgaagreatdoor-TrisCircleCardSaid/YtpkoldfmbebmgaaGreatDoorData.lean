/- Plain data of the statements as cells: fractions and points given by integers; what the arguments look like. -/
import Derived.Test.YtpkoldfmbebmgaaGreatDoorCmp
import Derived.Test.YtpkoldfmbebmgaaGreatDoorRows
namespace Go.Proofs.YtpkoldfmbebmgaaGreatDoor
open Go Go.RowKit
set_option linter.unusedVariables false
set_option linter.unusedSimpArgs false

/-- A fraction as plain data: n over d, or over 1 if d is 0. -/
structure QD where
  n : Int
  d : Nat
structure PD where
  x : QD
  y : QD
def qdL (q : QD) : List Value := [.int .i64 q.n, .int .u32 (q.d : Nat)]
def pdL (p : PD) : List Value := qdL p.x ++ qdL p.y
def QD.ok (q : QD) : Prop := -9223372036854775808 ≤ q.n ∧ q.n < 9223372036854775808 ∧ q.d < 4294967296
def PD.ok (p : PD) : Prop := p.x.ok ∧ p.y.ok
def qOf (q : QD) : Rat := ((q.n : Int) : Rat) / (((max q.d 1 : Nat) : Int) : Rat)
def ptOf (p : PD) : Pt := ⟨qOf p.x, qOf p.y⟩
theorem Sz_qOf {q : QD} (h : q.ok) : Sz (qOf q) ≤ 4 := by
  obtain ⟨h1, h2, h3⟩ := h
  have s1 := Sz_int h1 h2
  have s2 := Sz_int (z := ((max q.d 1 : Nat) : Int)) (by omega) (by omega)
  have hb : (((max q.d 1 : Nat) : Int) : Rat) ≠ 0 := fun e => by
    have : ((max q.d 1 : Nat) : Int) = 0 := by exact_mod_cast e
    omega
  have := Sz_div (a := ((q.n : Int) : Rat)) hb
  unfold qOf
  omega
theorem SzP_ptOf {p : PD} (h : p.ok) : SzP (ptOf p) ≤ 4 := SzP_le (Sz_qOf h.1) (Sz_qOf h.2)

/-! ### What an argument looks like: a row of integers -/
section
variable {P : Program} {w : World} {r : Reach} {base : Nat}
def zipV : List IntKind → List Int → List Value
  | k :: ks, n :: ns => .int k n :: zipV ks ns
  | _, _ => []
def AllHas : List IntKind → List Int → Prop
  | [], [] => True
  | k :: ks, n :: ns => k.has n ∧ AllHas ks ns
  | _, _ => False
theorem cells_ints : ∀ (ts : List TypeId) (ks : List IntKind) (cs : List Value), ts.map P.underlying = ks.map (fun k => some (.int k)) → cs.length = ts.length →
    (∀ (i : Nat) v, cs[i]? = some v → ∃ u, ts[i]? = some u ∧ Cell.okWide P w r base u v) → ∃ ns, cs = zipV ks ns ∧ AllHas ks ns
  | [], [], [], _, _, _ => ⟨[], rfl, trivial⟩
  | t :: ts, k :: ks, c :: cs, hk, hl, hc => by
    simp only [List.map_cons, List.cons.injEq] at hk
    obtain ⟨ns, hns, hh⟩ := cells_ints ts ks cs hk.2 (by simpa using hl) (fun i v hv => by simpa using hc (i + 1) v (by simpa using hv))
    obtain ⟨u, hu, ho⟩ := hc 0 c (by simp)
    simp only [List.getElem?_cons_zero, Option.some.injEq] at hu
    subst hu
    simp only [Cell.okWide, hk.1] at ho
    have ho' : ∃ n, c = .int k n ∧ k.has n := by
      unfold Cell.ok at ho
      rw [hk.1] at ho
      cases c <;> simp at ho
      exact ⟨_, by rw [ho.1], ho.2⟩
    obtain ⟨n, rfl, hn⟩ := ho'
    exact ⟨n :: ns, by rw [hns]; rfl, hn, hh⟩
  | [], _ :: _, _, hk, _, _ => by simp at hk
  | _ :: _, [], _, hk, _, _ => by simp at hk
  | _ :: _, _ :: _, [], _, hl, _ => by simp at hl
  | [], [], _ :: _, _, hl, _ => by simp at hl
/-- An argument of a struct's or an array's type that holds integers alone. -/
theorem arg_ints {t : TypeId} {v : Value} {ts : List TypeId} (ks : List IntKind) (hag : (match P.underlying t with | some (.struct _) => true | some (.array _ _) => true | _ => false) = true) (hts : P.cellTypes P.depth t = some ts) (hsz : P.cellsOf t = ts.length)
    (hk : ts.map P.underlying = ks.map (fun k => some (.int k))) (hv : Value.okWide P w r base t v) : ∃ ns, v = .agg (zipV ks ns).toArray ∧ AllHas ks ns := by
  have h1 : ∃ cs, v = .agg cs ∧ cs.size = P.cellsOf t ∧ Row.okWide P w r base t cs := by
    unfold Value.okWide at hv
    split at hv
    · exact hv
    · exact hv
    · rename_i h2 h3
      split at hag
      · rename_i e; exact absurd e (h2 _)
      · rename_i e; exact absurd e (h3 _ _)
      · cases hag
  obtain ⟨cs, rfl, hs, ts', hts', ⟨n, hn⟩, hc⟩ := h1
  obtain rfl := Option.some.inj (hts.symm.trans hts')
  obtain ⟨ns, h2, h3⟩ := cells_ints (P := P) (w := w) (r := r) (base := base) ts ks cs.toList hk (by simp [hs, hsz]) (fun i v hv => by
    have hlt : i < ts.length := by
      rcases Nat.lt_or_ge i cs.toList.length with h | h
      · simpa [hs, hsz] using h
      · rw [List.getElem?_eq_none h] at hv; cases hv
    have := hc i v (by simpa using hv)
    rwa [Nat.mod_eq_of_lt hlt] at this)
  exact ⟨ns, by rw [← h2], h3⟩
end
theorem i64_has {n : Int} (h : IntKind.i64.has n) : -9223372036854775808 ≤ n ∧ n < 9223372036854775808 := by
  simp only [IntKind.has, IntKind.min, IntKind.max, IntKind.bits, IntKind.signed] at h; simp at h; omega
theorem u32_has {n : Int} (h : IntKind.u32.has n) : 0 ≤ n ∧ n < 4294967296 := by
  simp only [IntKind.has, IntKind.min, IntKind.max, IntKind.bits, IntKind.signed] at h; simp at h; omega

theorem qd_of {ks : List IntKind} : ∀ {ns : List Int}, AllHas (.i64 :: .u32 :: ks) ns → ∃ (q : QD) (ms : List Int), q.ok ∧ zipV (.i64 :: .u32 :: ks) ns = qdL q ++ zipV ks ms ∧ AllHas ks ms
  | [], h => h.elim
  | [_], h => h.2.elim
  | a :: b :: ms, h => by
    have h1 := i64_has h.1
    have h2 := u32_has h.2.1
    refine ⟨⟨a, b.toNat⟩, ms, ⟨h1.1, h1.2, by show b.toNat < _; omega⟩, ?_, h.2.2⟩
    simp only [zipV, qdL, List.cons_append, List.nil_append]
    rw [Int.toNat_of_nonneg h2.1]
theorem pd_of {ks : List IntKind} {ns : List Int} (h : AllHas (.i64 :: .u32 :: .i64 :: .u32 :: ks) ns) : ∃ (p : PD) (ms : List Int), p.ok ∧ zipV (.i64 :: .u32 :: .i64 :: .u32 :: ks) ns = pdL p ++ zipV ks ms ∧ AllHas ks ms := by
  obtain ⟨q, ms, hq, e, h1⟩ := qd_of h
  obtain ⟨q', ms', hq', e', h2⟩ := qd_of h1
  exact ⟨⟨q, q'⟩, ms', ⟨hq, hq'⟩, by rw [e, e', pdL, List.append_assoc], h2⟩
def kQ : List IntKind := [.i64, .u32]
theorem zipV_nil (ms : List Int) : zipV [] ms = [] := by cases ms <;> rfl
section
variable {P : Program} {w : World} {r : Reach} {base : Nat} {t : TypeId} {v : Value} {ts : List TypeId}
theorem arg_q1 (hag : (match P.underlying t with | some (.struct _) => true | some (.array _ _) => true | _ => false) = true) (hts : P.cellTypes P.depth t = some ts) (hsz : P.cellsOf t = ts.length)
    (hk : ts.map P.underlying = (kQ).map (fun k => some (.int k))) (hv : Value.okWide P w r base t v) : ∃ q : QD, q.ok ∧ v = .agg (qdL q).toArray := by
  obtain ⟨ns, rfl, h⟩ := arg_ints _ hag hts hsz hk hv
  obtain ⟨q, ms, hq, e, _⟩ := qd_of (ks := []) h
  exact ⟨q, hq, by rw [show kQ = [.i64, .u32] from rfl, e, zipV_nil, List.append_nil]⟩
theorem arg_q3 (hag : (match P.underlying t with | some (.struct _) => true | some (.array _ _) => true | _ => false) = true) (hts : P.cellTypes P.depth t = some ts) (hsz : P.cellsOf t = ts.length)
    (hk : ts.map P.underlying = (kQ ++ kQ ++ kQ).map (fun k => some (.int k))) (hv : Value.okWide P w r base t v) : ∃ q0 q1 q2 : QD, q0.ok ∧ q1.ok ∧ q2.ok ∧ v = .agg (qdL q0 ++ qdL q1 ++ qdL q2).toArray := by
  obtain ⟨ns, rfl, h⟩ := arg_ints _ hag hts hsz hk hv
  obtain ⟨q0, m0, h0, e0, h⟩ := qd_of (ks := [.i64, .u32, .i64, .u32]) h
  obtain ⟨q1, m1, h1, e1, h⟩ := qd_of h
  obtain ⟨q2, m2, h2, e2, h⟩ := qd_of h
  exact ⟨q0, q1, q2, h0, h1, h2, by rw [show kQ ++ kQ ++ kQ = [.i64, .u32, .i64, .u32, .i64, .u32] from rfl, e0, e1, e2, zipV_nil]; simp⟩
theorem arg_p2 (hag : (match P.underlying t with | some (.struct _) => true | some (.array _ _) => true | _ => false) = true) (hts : P.cellTypes P.depth t = some ts) (hsz : P.cellsOf t = ts.length)
    (hk : ts.map P.underlying = (kQ ++ kQ ++ kQ ++ kQ).map (fun k => some (.int k))) (hv : Value.okWide P w r base t v) : ∃ p0 p1 : PD, p0.ok ∧ p1.ok ∧ v = .agg (pdL p0 ++ pdL p1).toArray := by
  obtain ⟨ns, rfl, h⟩ := arg_ints _ hag hts hsz hk hv
  obtain ⟨p0, m0, h0, e0, h⟩ := pd_of (ks := kQ ++ kQ) h
  obtain ⟨p1, m1, h1, e1, h⟩ := pd_of (ks := []) h
  exact ⟨p0, p1, h0, h1, by rw [show kQ ++ kQ ++ kQ ++ kQ = .i64 :: .u32 :: .i64 :: .u32 :: (kQ ++ kQ) from rfl, e0, show kQ ++ kQ = [.i64, .u32, .i64, .u32] from rfl, e1, zipV_nil]; simp⟩
theorem arg_p3 (hag : (match P.underlying t with | some (.struct _) => true | some (.array _ _) => true | _ => false) = true) (hts : P.cellTypes P.depth t = some ts) (hsz : P.cellsOf t = ts.length)
    (hk : ts.map P.underlying = (kQ ++ kQ ++ kQ ++ kQ ++ kQ ++ kQ).map (fun k => some (.int k))) (hv : Value.okWide P w r base t v) : ∃ p0 p1 p2 : PD, p0.ok ∧ p1.ok ∧ p2.ok ∧ v = .agg (pdL p0 ++ pdL p1 ++ pdL p2).toArray := by
  obtain ⟨ns, rfl, h⟩ := arg_ints _ hag hts hsz hk hv
  obtain ⟨p0, m0, h0, e0, h⟩ := pd_of (ks := kQ ++ kQ ++ kQ ++ kQ) h
  obtain ⟨p1, m1, h1, e1, h⟩ := pd_of (ks := kQ ++ kQ) h
  obtain ⟨p2, m2, h2, e2, h⟩ := pd_of (ks := []) h
  exact ⟨p0, p1, p2, h0, h1, h2, by rw [show kQ ++ kQ ++ kQ ++ kQ ++ kQ ++ kQ = .i64 :: .u32 :: .i64 :: .u32 :: (kQ ++ kQ ++ kQ ++ kQ) from rfl, e0, show kQ ++ kQ ++ kQ ++ kQ = .i64 :: .u32 :: .i64 :: .u32 :: (kQ ++ kQ) from rfl, e1, show kQ ++ kQ = [.i64, .u32, .i64, .u32] from rfl, e2, zipV_nil]; simp⟩
theorem arg_p4 (hag : (match P.underlying t with | some (.struct _) => true | some (.array _ _) => true | _ => false) = true) (hts : P.cellTypes P.depth t = some ts) (hsz : P.cellsOf t = ts.length)
    (hk : ts.map P.underlying = (kQ ++ kQ ++ kQ ++ kQ ++ kQ ++ kQ ++ kQ ++ kQ).map (fun k => some (.int k))) (hv : Value.okWide P w r base t v) : ∃ p0 p1 p2 p3 : PD, p0.ok ∧ p1.ok ∧ p2.ok ∧ p3.ok ∧ v = .agg (pdL p0 ++ pdL p1 ++ pdL p2 ++ pdL p3).toArray := by
  obtain ⟨ns, rfl, h⟩ := arg_ints _ hag hts hsz hk hv
  obtain ⟨p0, m0, h0, e0, h⟩ := pd_of (ks := kQ ++ kQ ++ kQ ++ kQ ++ kQ ++ kQ) h
  obtain ⟨p1, m1, h1, e1, h⟩ := pd_of (ks := kQ ++ kQ ++ kQ ++ kQ) h
  obtain ⟨p2, m2, h2, e2, h⟩ := pd_of (ks := kQ ++ kQ) h
  obtain ⟨p3, m3, h3, e3, h⟩ := pd_of (ks := []) h
  exact ⟨p0, p1, p2, p3, h0, h1, h2, h3, by rw [show kQ ++ kQ ++ kQ ++ kQ ++ kQ ++ kQ ++ kQ ++ kQ = .i64 :: .u32 :: .i64 :: .u32 :: (kQ ++ kQ ++ kQ ++ kQ ++ kQ ++ kQ) from rfl, e0, show kQ ++ kQ ++ kQ ++ kQ ++ kQ ++ kQ = .i64 :: .u32 :: .i64 :: .u32 :: (kQ ++ kQ ++ kQ ++ kQ) from rfl, e1, show kQ ++ kQ ++ kQ ++ kQ = .i64 :: .u32 :: .i64 :: .u32 :: (kQ ++ kQ) from rfl, e2, show kQ ++ kQ = [.i64, .u32, .i64, .u32] from rfl, e3, zipV_nil]; simp⟩
end

end Go.Proofs.YtpkoldfmbebmgaaGreatDoor
