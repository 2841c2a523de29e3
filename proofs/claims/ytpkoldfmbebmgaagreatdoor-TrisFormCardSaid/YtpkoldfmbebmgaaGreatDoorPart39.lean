import Derived.ChangeKeysEq
import Derived.Test.YtpkoldfmbebmgaaGreatDoorRows
import Derived.Test.YtpkoldfmbebmgaaGreatDoorPart07
import Derived.Test.YtpkoldfmbebmgaaGreatDoorPart23
import Derived.Test.YtpkoldfmbebmgaaGreatDoorPart28
import Derived.Test.YtpkoldfmbebmgaaGreatDoorPart37
import Derived.Test.YtpkoldfmbebmgaaGreatDoorPart38
namespace Go.Proofs.YtpkoldfmbebmgaaGreatDoor
open Go Go.RowKit
set_option linter.unusedVariables false
set_option linter.unusedSimpArgs false
section
theorem eq_intL (a b : Int) : (decide (a.natAbs = b.natAbs) && ((decide (a < 0) == decide (b < 0)) && true)) = decide (a = b) := by
  by_cases e : a = b
  · subst e; simp
  · rw [decide_eq_false e]
    by_cases h1 : a < 0 <;> by_cases h2 : b < 0 <;> simp [h1, h2] <;> omega
theorem eqB_int (D : Nat) (a b : Int) : EqB Tryz.prog (D + 4) 34 (.agg (intL a).toArray) (.agg (intL b).toArray) (decide (a = b)) := by
  rw [← eq_intL]
  exact EqB.struct Tryz.underlying34 Tryz.stoodInHeld34 (EqF.agg (us := natL a.natAbs) (bs := natL b.natAbs) (by decide) Tryz.isAgg32 Tryz.sizeOf32 rfl rfl (eqB_size D _ _) (EqF.one (by decide) Tryz.isAgg4 rfl rfl (EqB.bool Tryz.underlying4) EqF.nil))
theorem eq_fracL (a b : Rat) : (decide (a.num = b.num) && (decide (a.den - 1 = b.den - 1) && true)) = decide (a = b) := by
  by_cases e : a = b
  · subst e; simp
  · rw [decide_eq_false e]
    have h1 := a.den_pos
    have h2 := b.den_pos
    simp only [Bool.and_true, Bool.and_eq_false_iff, decide_eq_false_iff_not]
    apply Classical.byContradiction
    intro h
    refine e (Rat.ext ?_ ?_)
    · exact Classical.byContradiction fun k => h (.inl k)
    · exact Classical.byContradiction fun k => h (.inr (by omega))
theorem eqB_frac (D : Nat) (a b : Rat) : EqB Tryz.prog (D + 5) 36 (.agg (fracL a).toArray) (.agg (fracL b).toArray) (decide (a = b)) := by
  rw [← eq_fracL]
  exact EqB.struct Tryz.underlying36 Tryz.stoodInHeld36 (EqF.agg (us := intL a.num) (bs := intL b.num) (by decide) Tryz.isAgg34 Tryz.sizeOf34 rfl rfl (eqB_int D _ _) (EqF.agg (us := natL (a.den - 1)) (bs := natL (b.den - 1)) (by decide) Tryz.isAgg30 Tryz.sizeOf30 rfl rfl (eqB_nat (D + 2) _ _) EqF.nil))
instance : DecidableEq Pt := fun a b => decidable_of_iff (a.x = b.x ∧ a.y = b.y) ⟨fun h => Pt.ext h.1 h.2, fun h => h ▸ ⟨rfl, rfl⟩⟩
theorem eq_ptL (a b : Pt) : (decide (a.x = b.x) && (decide (a.y = b.y) && true)) = decide (a = b) := by
  by_cases e : a = b
  · subst e; simp
  · rw [decide_eq_false e]
    simp only [Bool.and_true, Bool.and_eq_false_iff, decide_eq_false_iff_not]
    apply Classical.byContradiction
    intro h
    refine e (Pt.ext ?_ ?_)
    · exact Classical.byContradiction fun k => h (.inl k)
    · exact Classical.byContradiction fun k => h (.inr k)
theorem eqB_pt (D : Nat) (a b : Pt) : EqB Tryz.prog (D + 6) 38 (.agg (ptL a).toArray) (.agg (ptL b).toArray) (decide (a = b)) := by
  rw [← eq_ptL]
  exact EqB.struct Tryz.underlying38 Tryz.stoodInHeld38 (EqF.agg (us := fracL a.x) (bs := fracL b.x) (by decide) Tryz.isAgg36 Tryz.sizeOf36 rfl rfl (eqB_frac D _ _) (EqF.agg (us := fracL a.y) (bs := fracL b.y) (by decide) Tryz.isAgg36 Tryz.sizeOf36 rfl rfl (eqB_frac D _ _) EqF.nil))
section
variable {P : Program}
def EqI (P : Program) (D : Nat) (e : TypeId) (c : Nat) (xs ys : List Value) (is : List Nat) (b : Bool) : Prop := ∀ w, (Go.Op.eqItems D e c xs.toArray ys.toArray is).run P w = .ok b w
theorem EqI.nil {D c : Nat} {e : TypeId} {xs ys : List Value} : EqI P D e c xs ys [] true := fun w => rfl
theorem EqI.cons {D c i : Nat} {e : TypeId} {is : List Nat} {xs ys us bs : List Value} {r s : Bool} (hg : ∀ w, (isAgg e).run P w = .ok true w) (hs : ∀ w, (sizeOf e).run P w = .ok c w)
    (ha : (xs.drop (i * c)).take c = us) (hb : (ys.drop (i * c)).take c = bs) (h : EqB P D e (.agg us.toArray) (.agg bs.toArray) r) (h2 : EqI P D e c xs ys is s) : EqI P D e c xs ys (i :: is) (r && s) := fun w => by
  have ex : ∀ l : List Value, l.toArray.extract (i * c) (i * c + c) = ((l.drop (i * c)).take c).toArray := fun l => by simp [List.extract_eq_take_drop]
  have e1 : (part e xs.toArray (i * c)).run P w = .ok (.agg us.toArray) w := by simp [part, hg, hs, ex, ha]
  have e2 : (part e ys.toArray (i * c)).run P w = .ok (.agg bs.toArray) w := by simp [part, hg, hs, ex, hb]
  simp only [Go.Op.eqItems, Sem.run_bind, e1, e2, Result.andThen_ok, h w]
  cases r
  · simp
  · simp [h2 w]
theorem EqB.array {D n c : Nat} {T e : TypeId} {xs ys : List Value} {b : Bool} (hu : P.underlying T = some (.array n e)) (hi : ∃ i, P.info? e = some i) (hc : P.cellsOf e = c) (h : EqI P D e c xs ys (List.range n) b) :
    EqB P (D + 1) T (.agg xs.toArray) (.agg ys.toArray) b := fun w => by
  obtain ⟨i, hi⟩ := hi
  rw [Go.run_equalIn_array w D xs.toArray ys.toArray hu hi, hc]
  exact h w
end
theorem info_frac : ∃ i, Tryz.prog.info? 36 = some i := Option.isSome_iff_exists.1 (by kernel_rfl)
theorem cells_frac : Tryz.prog.cellsOf 36 = 5 := by kernel_rfl
theorem eqB_frac3 (D : Nat) (a b c a' b' c' : Rat) : EqB Tryz.prog (D + 6) 56 (.agg (fracL a ++ fracL b ++ fracL c).toArray) (.agg (fracL a' ++ fracL b' ++ fracL c').toArray) (decide (a = a') && (decide (b = b') && (decide (c = c') && true))) :=
  EqB.array Tryz.underlying56 info_frac cells_frac (EqI.cons Tryz.isAgg36 Tryz.sizeOf36 rfl rfl (eqB_frac D _ _) (EqI.cons Tryz.isAgg36 Tryz.sizeOf36 rfl rfl (eqB_frac D _ _) (EqI.cons Tryz.isAgg36 Tryz.sizeOf36 rfl rfl (eqB_frac D _ _) EqI.nil)))
theorem eqB_frac2 (D : Nat) (a b a' b' : Rat) : EqB Tryz.prog (D + 6) 62 (.agg (fracL a ++ fracL b).toArray) (.agg (fracL a' ++ fracL b').toArray) (decide (a = a') && (decide (b = b') && true)) :=
  EqB.array Tryz.underlying62 info_frac cells_frac (EqI.cons Tryz.isAgg36 Tryz.sizeOf36 rfl rfl (eqB_frac D _ _) (EqI.cons Tryz.isAgg36 Tryz.sizeOf36 rfl rfl (eqB_frac D _ _) EqI.nil))
theorem eqB_pt_t (D : Nat) {a b : Pt} (h : a = b) : EqB Tryz.prog (D + 6) 38 (.agg (ptL a).toArray) (.agg (ptL b).toArray) true := by
  have := eqB_pt D a b; rwa [decide_eq_true h] at this
theorem eqB_frac3_t (D : Nat) {a b c a' b' c' : Rat} (h : a = a' ∧ b = b' ∧ c = c') : EqB Tryz.prog (D + 6) 56 (.agg (fracL a ++ fracL b ++ fracL c).toArray) (.agg (fracL a' ++ fracL b' ++ fracL c').toArray) true := by
  have := eqB_frac3 D a b c a' b' c'; rwa [decide_eq_true h.1, decide_eq_true h.2.1, decide_eq_true h.2.2] at this
theorem eqB_frac2_t (D : Nat) {a b a' b' : Rat} (h : a = a' ∧ b = b') : EqB Tryz.prog (D + 6) 62 (.agg (fracL a ++ fracL b).toArray) (.agg (fracL a' ++ fracL b').toArray) true := by
  have := eqB_frac2 D a b a' b'; rwa [decide_eq_true h.1, decide_eq_true h.2] at this
section
variable {P : Program} {n : Nat} {F : List (Nat × Value)} {w0 : Base} {L : List As} {x y : Operand} {d : Option Tmp} {t : TypeId} {p : String} {af : Array Edge} {g : Option (Nat × Bool)}
end
end
section
structure QD where
  n : Int
  d : Nat
structure PD where
  x : QD
  y : QD
def qdL (q : QD) : List Value := [.int .i64 q.n, .int .u32 (q.d : Nat)]
def pdL (p : PD) : List Value := qdL p.x ++ qdL p.y
def QD.ok (q : QD) : Prop := -9223372036854775808 ≤ q.n ∧ q.n < 9223372036854775808 ∧ q.d < 4294967296
def PD.ok (p : PD) : Prop := p.x.ok ∧ p.y.ok
def qOf (q : QD) : Rat := ((q.n : Int) : Rat) / (((max q.d 1 : Nat) : Int) : Rat)
def ptOf (p : PD) : Pt := ⟨qOf p.x, qOf p.y⟩
theorem Sz_qOf {q : QD} (h : q.ok) : Sz (qOf q) ≤ 4 := by
  obtain ⟨h1, h2, h3⟩ := h
  have s1 := Sz_int h1 h2
  have s2 := Sz_int (z := ((max q.d 1 : Nat) : Int)) (by omega) (by omega)
  have hb : (((max q.d 1 : Nat) : Int) : Rat) ≠ 0 := fun e => by
    have : ((max q.d 1 : Nat) : Int) = 0 := by exact_mod_cast e
    omega
  have := Sz_div (a := ((q.n : Int) : Rat)) hb
  unfold qOf
  omega
theorem SzP_ptOf {p : PD} (h : p.ok) : SzP (ptOf p) ≤ 4 := SzP_le (Sz_qOf h.1) (Sz_qOf h.2)
section
variable {P : Program} {w : World} {r : Reach} {base : Nat}
def zipV : List IntKind → List Int → List Value
  | k :: ks, n :: ns => .int k n :: zipV ks ns
  | _, _ => []
def AllHas : List IntKind → List Int → Prop
  | [], [] => True
  | k :: ks, n :: ns => k.has n ∧ AllHas ks ns
  | _, _ => False
theorem cells_ints : ∀ (ts : List TypeId) (ks : List IntKind) (cs : List Value), ts.map P.underlying = ks.map (fun k => some (.int k)) → cs.length = ts.length →
    (∀ (i : Nat) v, cs[i]? = some v → ∃ u, ts[i]? = some u ∧ Cell.okWide P w r base u v) → ∃ ns, cs = zipV ks ns ∧ AllHas ks ns
  | [], [], [], _, _, _ => ⟨[], rfl, trivial⟩
  | t :: ts, k :: ks, c :: cs, hk, hl, hc => by
    simp only [List.map_cons, List.cons.injEq] at hk
    obtain ⟨ns, hns, hh⟩ := cells_ints ts ks cs hk.2 (by simpa using hl) (fun i v hv => by simpa using hc (i + 1) v (by simpa using hv))
    obtain ⟨u, hu, ho⟩ := hc 0 c (by simp)
    simp only [List.getElem?_cons_zero, Option.some.injEq] at hu
    subst hu
    simp only [Cell.okWide, hk.1] at ho
    have ho' : ∃ n, c = .int k n ∧ k.has n := by
      unfold Cell.ok at ho
      rw [hk.1] at ho
      cases c <;> simp at ho
      exact ⟨_, by rw [ho.1], ho.2⟩
    obtain ⟨n, rfl, hn⟩ := ho'
    exact ⟨n :: ns, by rw [hns]; rfl, hn, hh⟩
  | [], _ :: _, _, hk, _, _ => by simp at hk
  | _ :: _, [], _, hk, _, _ => by simp at hk
  | _ :: _, _ :: _, [], _, hl, _ => by simp at hl
  | [], [], _ :: _, _, hl, _ => by simp at hl
theorem arg_ints {t : TypeId} {v : Value} {ts : List TypeId} (ks : List IntKind) (hag : (match P.underlying t with | some (.struct _) => true | some (.array _ _) => true | _ => false) = true) (hts : P.cellTypes P.depth t = some ts) (hsz : P.cellsOf t = ts.length)
    (hk : ts.map P.underlying = ks.map (fun k => some (.int k))) (hv : Value.okWide P w r base t v) : ∃ ns, v = .agg (zipV ks ns).toArray ∧ AllHas ks ns := by
  have h1 : ∃ cs, v = .agg cs ∧ cs.size = P.cellsOf t ∧ Row.okWide P w r base t cs := by
    unfold Value.okWide at hv
    split at hv
    · exact hv
    · exact hv
    · rename_i h2 h3
      split at hag
      · rename_i e; exact absurd e (h2 _)
      · rename_i e; exact absurd e (h3 _ _)
      · cases hag
  obtain ⟨cs, rfl, hs, ts', hts', ⟨n, hn⟩, hc⟩ := h1
  obtain rfl := Option.some.inj (hts.symm.trans hts')
  obtain ⟨ns, h2, h3⟩ := cells_ints (P := P) (w := w) (r := r) (base := base) ts ks cs.toList hk (by simp [hs, hsz]) (fun i v hv => by
    have hlt : i < ts.length := by
      rcases Nat.lt_or_ge i cs.toList.length with h | h
      · simpa [hs, hsz] using h
      · rw [List.getElem?_eq_none h] at hv; cases hv
    have := hc i v (by simpa using hv)
    rwa [Nat.mod_eq_of_lt hlt] at this)
  exact ⟨ns, by rw [← h2], h3⟩
end
theorem i64_has {n : Int} (h : IntKind.i64.has n) : -9223372036854775808 ≤ n ∧ n < 9223372036854775808 := by
  simp only [IntKind.has, IntKind.min, IntKind.max, IntKind.bits, IntKind.signed] at h; simp at h; omega
theorem u32_has {n : Int} (h : IntKind.u32.has n) : 0 ≤ n ∧ n < 4294967296 := by
  simp only [IntKind.has, IntKind.min, IntKind.max, IntKind.bits, IntKind.signed] at h; simp at h; omega
theorem qd_of {ks : List IntKind} : ∀ {ns : List Int}, AllHas (.i64 :: .u32 :: ks) ns → ∃ (q : QD) (ms : List Int), q.ok ∧ zipV (.i64 :: .u32 :: ks) ns = qdL q ++ zipV ks ms ∧ AllHas ks ms
  | [], h => h.elim
  | [_], h => h.2.elim
  | a :: b :: ms, h => by
    have h1 := i64_has h.1
    have h2 := u32_has h.2.1
    refine ⟨⟨a, b.toNat⟩, ms, ⟨h1.1, h1.2, by show b.toNat < _; omega⟩, ?_, h.2.2⟩
    simp only [zipV, qdL, List.cons_append, List.nil_append]
    rw [Int.toNat_of_nonneg h2.1]
theorem pd_of {ks : List IntKind} {ns : List Int} (h : AllHas (.i64 :: .u32 :: .i64 :: .u32 :: ks) ns) : ∃ (p : PD) (ms : List Int), p.ok ∧ zipV (.i64 :: .u32 :: .i64 :: .u32 :: ks) ns = pdL p ++ zipV ks ms ∧ AllHas ks ms := by
  obtain ⟨q, ms, hq, e, h1⟩ := qd_of h
  obtain ⟨q', ms', hq', e', h2⟩ := qd_of h1
  exact ⟨⟨q, q'⟩, ms', ⟨hq, hq'⟩, by rw [e, e', pdL, List.append_assoc], h2⟩
def kQ : List IntKind := [.i64, .u32]
theorem zipV_nil (ms : List Int) : zipV [] ms = [] := by cases ms <;> rfl
section
variable {P : Program} {w : World} {r : Reach} {base : Nat} {t : TypeId} {v : Value} {ts : List TypeId}
theorem arg_p3 (hag : (match P.underlying t with | some (.struct _) => true | some (.array _ _) => true | _ => false) = true) (hts : P.cellTypes P.depth t = some ts) (hsz : P.cellsOf t = ts.length)
    (hk : ts.map P.underlying = (kQ ++ kQ ++ kQ ++ kQ ++ kQ ++ kQ).map (fun k => some (.int k))) (hv : Value.okWide P w r base t v) : ∃ p0 p1 p2 : PD, p0.ok ∧ p1.ok ∧ p2.ok ∧ v = .agg (pdL p0 ++ pdL p1 ++ pdL p2).toArray := by
  obtain ⟨ns, rfl, h⟩ := arg_ints _ hag hts hsz hk hv
  obtain ⟨p0, m0, h0, e0, h⟩ := pd_of (ks := kQ ++ kQ ++ kQ ++ kQ) h
  obtain ⟨p1, m1, h1, e1, h⟩ := pd_of (ks := kQ ++ kQ) h
  obtain ⟨p2, m2, h2, e2, h⟩ := pd_of (ks := []) h
  exact ⟨p0, p1, p2, h0, h1, h2, by rw [show kQ ++ kQ ++ kQ ++ kQ ++ kQ ++ kQ = .i64 :: .u32 :: .i64 :: .u32 :: (kQ ++ kQ ++ kQ ++ kQ) from rfl, e0, show kQ ++ kQ ++ kQ ++ kQ = .i64 :: .u32 :: .i64 :: .u32 :: (kQ ++ kQ) from rfl, e1, show kQ ++ kQ = [.i64, .u32, .i64, .u32] from rfl, e2, zipV_nil]; simp⟩
end
end
section
set_option maxRecDepth 100000
theorem QOf_ok (q : QD) (h : q.ok) (w : World)  : Calls Tryz.prog 29 #[(aG (qdL q))] w (Gives w (aG (fracL (qOf q)))) := by
 obtain ⟨h1, h2, h3⟩ := h
 refine calls_of (args := [(aG (qdL q))]) Tryz.func29 rfl rfl (leB rfl) (OkC.subF (sC 0 rfl (sN)) (q4 (bx (cs := qdL q) rfl rfl rfl fun b1 => al tZ36 rfl fun b2 => q3 (sC 1 rfl (sC 2 rfl (sN))) ?_)))
 refine st (v := (pP b1 0)) (ex_fieldAddr rfl Tryz.underlying24 rfl Tryz.sizeOf2 rfl) (leB rfl) (ldO 1 (vI q.n) tO2 rfl rfl rfl rfl (st (v := (pP b1 1)) (ex_fieldAddr rfl Tryz.underlying24 rfl Tryz.sizeOf22 rfl) (leB rfl) (ldO 1 (vK .u32 q.d) tO22 rfl rfl rfl rfl (st (ex_max (c := ((max q.d 1 : Nat) : Int)) rfl rfl (by split <;> omega)) (leB rfl) (st (ex_conv (c := ((max q.d 1 : Nat) : Int)) rfl Tryz.underlying22 Tryz.underlying2 (convN_i64 (by omega))) (leB rfl) ?_)))))
 refine cl Tryz.call46 (fun w hw => fOf_ok (q.n : Int) ((max q.d 1 : Nat) : Int) (by omega) (by omega) (by omega) (by omega) (by omega) w) rfl rfl rfl (mv rfl rfl (st (ex_extract (v := (aG (fracL (((q.n : Int) : Rat) / (((max q.d 1 : Nat) : Int) : Rat))))) rfl rfl) (leB rfl) (st (ex_extract (v := (vI 0)) rfl rfl) (leB rfl) (al tZ36 rfl fun b3 => stW0 rfl rfl rfl Tryz.sizeOf36 rfl rfl ?_))))
 refine asg rfl rfl (q3 (sC 2 rfl (sC 3 rfl (sN))) (ldW 0 tA36 rfl rfl rfl rfl (stW1 rfl rfl rfl Tryz.sizeOf36 rfl rfl (OkL.nil (OkQ.subF (sC 2 rfl (sC 3 rfl (sN))) ?_)))))
 exact OkQ.then_ (OkC.ret (ret_one rfl (rd_agg (i := 1) (cs := fracL (((q.n : Int) : Rat) / (((max q.d 1 : Nat) : Int) : Rat))) rfl rfl Tryz.isAgg36 Tryz.sizeOf36 rfl) (fun w hw => ⟨rfl, hw.out⟩)))
theorem fill_numzb_38_0fracL_1fracL (x0 : Rat) (x1 : Rat) : Instr.fill ([(0, 5), (5, 5)].toArray[·]?) (ptL (⟨0, 0⟩ : Pt)).toArray [(0, .agg (fracL x0).toArray), (1, .agg (fracL x1).toArray)] = some (fracL x0 ++ fracL x1).toArray := by kernel_rfl
theorem POf_ok (p : PD) (h : p.ok) (w : World)  : Calls Tryz.prog 10 #[(aG (pdL p))] w (Gives w (aG (ptL (ptOf p)))) := by
 have h1 := h.1
 have h2 := h.2
 refine calls_of (args := [(aG (pdL p))]) Tryz.func10 rfl rfl (leB rfl) (OkC.subF (sC 0 rfl (sN)) (q4 (bx (cs := pdL p) rfl rfl rfl fun b1 => al tZ38 rfl fun b2 => q6 (sC 1 rfl (sC 2 rfl (sN))) ?_)))
 refine rG [(0, true), (1, true), (3, true), (4, true), (2, false), (5, false), (6, true), (7, false)] (sl sr) (by kernel_rfl) (fun _ _ d _ _ h => by cases d <;> exact h) (pE (v := (pP b1 0)) rfl (ex_fieldAddr rfl Tryz.underlying26 rfl Tryz.sizeOf24 rfl) rfl (pA 0 (qdL p.x) tA24 rfl rfl rfl rfl rfl rfl (pE (v := (pP b1 2)) rfl (ex_fieldAddr rfl Tryz.underlying26 rfl Tryz.sizeOf24 rfl) rfl (pA 0 (qdL p.y) tA24 rfl rfl rfl rfl rfl rfl (OkE.imp rfl ?_)))))
 refine cl Tryz.call29 (fun w hw => QOf_ok p.x (by assumption) w) rfl rfl rfl (OkE.back (sl sr) (OkE.imp rfl (cl Tryz.call29 (fun w hw => QOf_ok p.y (by assumption) w) rfl rfl rfl (OkE.back (sl sr) (pE (v := (aG (fracL (qOf p.x) ++ fracL (qOf p.y)))) rfl (ex_build_struct (zs := ptL (⟨0, 0⟩ : Pt)) (vs := fracL (qOf p.x) ++ fracL (qOf p.y)) (pv := [(0, (aG (fracL (qOf p.x)))), (1, (aG (fracL (qOf p.y))))]) (places := [(0, 5), (5, 5)]) Tryz.zeroValue38 Tryz.underlying38 (fun w => by simp [Tryz.sizeOf36]) rfl (fill_numzb_38_0fracL_1fracL (qOf p.x) (qOf p.y))) rfl ?_)))))
 refine OkE.imp rfl (stW0 rfl rfl rfl Tryz.sizeOf38 rfl rfl (OkE.back (sl sr) (OkE.nil (OkQ.subF (sC 2 rfl (sN)) (OkQ.then_ ?_)))))
 exact OkC.ret (ret_one rfl (rd_agg (i := 0) (cs := fracL (qOf p.x) ++ fracL (qOf p.y)) rfl rfl Tryz.isAgg38 Tryz.sizeOf38 rfl) (fun w hw => ⟨rfl, hw.out⟩))
end
section
set_option maxRecDepth 100000
theorem iTextF_ok (z : Int) (hz : nw z.natAbs ≤ 1073741824) (w : World) (hT : Tab w) : Calls Tryz.prog 106 #[(aG (intL z))] w (Gives w (Value.string (txB (txI z)))) := by
 have hl := dec_nw z.natAbs
 refine calls_of (args := [(aG (intL z))]) Tryz.func106 rfl rfl (leB rfl) (OkC.subF (sC 0 rfl (sN)) (q4 (bx (cs := intL z) rfl rfl rfl fun b1 => asg rfl rfl (q6 (sC 1 rfl (sC 2 rfl (sN))) ?_))))
 refine q4 (st (v := (pP b1 2)) (ex_fieldAddr rfl Tryz.underlying34 rfl Tryz.sizeOf4 rfl) (leB rfl) (ldO 0 (Value.bool (decide (z < 0))) tO4 rfl rfl rfl rfl (OkL.nil (OkQ.subF (sC 1 rfl (sC 2 rfl (sC 4 rfl (sN)))) (OkQ.then_ ?_)))))
 refine OkC.cond rfl (fun hc0 => ?_) (fun hc0 => ?_)
 ·replace hc0 := of_decide_eq_true hc0
  have he : txI z = 45 :: Lib.decDigits z.natAbs := by unfold txI; rw [if_pos hc0]
  refine q4 (st (v := (pP b1 0)) (ex_fieldAddr rfl Tryz.underlying34 rfl Tryz.sizeOf32 rfl) (leB rfl) (st (v := (pP b1 0)) (ex_fieldAddr rfl Tryz.underlying32 rfl Tryz.sizeOf30 rfl) (leB rfl) (ldA 0 (natL z.natAbs) tA30 rfl rfl rfl rfl rfl (cl Tryz.call107 (fun w hw => nTextF_ok z.natAbs (by omega) w (hT.below hw.out)) rfl rfl rfl (st (v := (Value.string (txB (45 :: Lib.decDigits z.natAbs)))) (ex_add_string (r := (txB (45 :: Lib.decDigits z.natAbs))) rfl rfl (by rw [txB_size]; show 1 + _ ≤ _; omega) (txB_append [45] _)) (leB rfl) ?_)))))
  exact asg rfl rfl (OkL.nil (OkQ.subF (sC 1 rfl (sC 2 rfl (sN))) (OkQ.then_ (OkC.ret (OkQ.then_ret (ret_one rfl (rd_tmp (v := (Value.string (txB (45 :: Lib.decDigits z.natAbs)))) rfl) (fun w hw => ⟨by rw [he], hw.out⟩)))))))
 ·replace hc0 := of_decide_eq_false hc0
  have he : txI z = Lib.decDigits z.natAbs := by unfold txI; rw [if_neg hc0]
  refine OkC.skip (q2 (st (v := (pP b1 0)) (ex_fieldAddr rfl Tryz.underlying34 rfl Tryz.sizeOf32 rfl) (leB rfl) (st (v := (pP b1 0)) (ex_fieldAddr rfl Tryz.underlying32 rfl Tryz.sizeOf30 rfl) (leB rfl) (ldA 0 (natL z.natAbs) tA30 rfl rfl rfl rfl rfl (cl Tryz.call107 (fun w hw => nTextF_ok z.natAbs (by omega) w (hT.below hw.out)) rfl rfl rfl ?_)))))
  exact asg rfl rfl (OkL.nil (OkQ.subF (sC 1 rfl (sC 2 rfl (sN))) (OkQ.then_ (OkC.ret (ret_one rfl (rd_tmp (v := (Value.string (txB (Lib.decDigits z.natAbs)))) rfl) (fun w hw => ⟨by rw [he], hw.out⟩))))))
theorem fTextF_ok (q : Rat) (hs : Sz q ≤ 16777216) (w : World) (hT : Tab w) : Calls Tryz.prog 66 #[(aG (fracL q))] w (Gives w (Value.string (txB (txQ q)))) := by
 have hl1 := txI_len q.num
 have hl2 := dec_nw q.den
 have s1 := Sz_num q
 have s2 := Sz_den q
 refine calls_of (args := [(aG (fracL q))]) Tryz.func66 rfl rfl (leB rfl) (OkC.subF (sC 0 rfl (sN)) (q4 (bx (cs := fracL q) rfl rfl rfl fun b1 => asg rfl rfl (q6 (sC 1 rfl (sC 2 rfl (sN))) ?_))))
 refine q4 (ldW 0 tA36 rfl rfl rfl rfl (cl Tryz.call80 (fun w hw => Whole_ok q w) rfl rfl rfl (OkL.nil (OkQ.subF (sC 1 rfl (sC 2 rfl (sC 4 rfl (sN)))) (OkQ.then_ ?_)))))
 refine OkC.cond rfl (fun hc0 => ?_) (fun hc0 => ?_)
 ·replace hc0 := of_decide_eq_true hc0
  have he : txQ q = txI q.num := by unfold txQ; rw [if_pos hc0]
  refine q4 (st (v := (pP b1 0)) (ex_fieldAddr rfl Tryz.underlying36 rfl Tryz.sizeOf34 rfl) (leB rfl) (ldA 0 (intL q.num) tA34 rfl rfl rfl rfl rfl (cl Tryz.call106 (fun w hw => iTextF_ok q.num (by omega) w (hT.below hw.out)) rfl rfl rfl (asg rfl rfl (OkL.nil ?_)))))
  exact OkQ.subF (sC 1 rfl (sC 2 rfl (sN))) (OkQ.then_ (OkC.ret (OkQ.then_ret (ret_one rfl (rd_tmp (v := (Value.string (txB (txI q.num)))) rfl) (fun w hw => ⟨by rw [he], hw.out⟩)))))
 ·replace hc0 := of_decide_eq_false hc0
  have he : txQ q = txI q.num ++ [47] ++ Lib.decDigits q.den := by unfold txQ; rw [if_neg hc0, List.append_assoc]; rfl
  refine OkC.skip (q1 (rG [(0, true), (1, true), (4, true), (2, false), (3, true), (5, false), (6, false), (7, true), (8, true)] sr (by kernel_rfl) (fun _ _ d _ _ h => by cases d <;> exact h) (pE (v := (pP b1 0)) rfl (ex_fieldAddr rfl Tryz.underlying36 rfl Tryz.sizeOf34 rfl) rfl (pA 0 (intL q.num) tA34 rfl rfl rfl rfl rfl rfl (pW 0 tA36 rfl rfl rfl rfl rfl ?_)))))
  refine OkE.imp rfl (cl Tryz.call106 (fun w hw => iTextF_ok q.num (by omega) w (hT.below hw.out)) rfl rfl rfl (OkE.back sr (pE (v := (Value.string (txB (txI q.num ++ [47])))) rfl (ex_add_string (r := (txB (txI q.num ++ [47]))) rfl rfl (by rw [txB_size]; show _ + 1 ≤ _; omega) (txB_append _ [47])) rfl (OkE.imp rfl (cl Tryz.call85 (fun w hw => den_ok q (by omega) w) rfl rfl rfl ?_)))))
  refine OkE.back sr (OkE.imp rfl (cl Tryz.call107 (fun w hw => nTextF_ok q.den (by omega) w (hT.below hw.out)) rfl rfl rfl (OkE.back sr (pE (v := (Value.string (txB (txI q.num ++ [47] ++ Lib.decDigits q.den)))) rfl (ex_add_string (r := (txB (txI q.num ++ [47] ++ Lib.decDigits q.den))) rfl rfl (by rw [txB_size, txB_size, List.length_append, List.length_singleton]; omega) (txB_append _ _)) rfl (pS rfl rfl rfl ?_)))))
  exact OkE.nil (OkQ.subF (sC 1 rfl (sC 2 rfl (sN))) (OkQ.then_ (OkC.ret (ret_one rfl (rd_tmp (v := (Value.string (txB (txI q.num ++ [47] ++ Lib.decDigits q.den)))) rfl) (fun w hw => ⟨by rw [he], hw.out⟩)))))
theorem Num_ok (q : Rat) (b : FX q) (hs : Sz q ≤ 16777216) (w : World) {S : Nat → Prop} (hb : Ro S w b) (hT : Tab w) : Calls Tryz.prog 24 #[(aG (fracL q)), (aG (fxL b))] w (Gives w (Value.bool true)) := by
 have lb := atA (W := w) hb
 refine calls_ofR (args := [(aG (fracL q)), (aG (fxL b))]) (L := [nxR b.z.n, nxR b.m]) Tryz.func24 rfl rfl (leB rfl) (sxF hb roL_nil) (OkC.subF (sC 0 rfl (sC 1 rfl (sN))) (q4 (bx (cs := fracL q) rfl rfl rfl fun b1 => bx (cs := fxL b) rfl rfl rfl fun b2 => asg rfl rfl ?_)))
 refine q6 (sC 2 rfl (sC 3 rfl (sC 4 rfl (sN)))) (rG [(0, true), (2, true), (1, false), (3, false), (4, true), (5, true)] sr (by kernel_rfl) (fun _ _ d _ _ h => by cases d <;> exact h) (pW 1 tA36 rfl rfl rfl rfl rfl (pW 0 tA45 rfl rfl rfl rfl rfl (OkE.imp rfl (cl Tryz.call66 (fun w hw => fTextF_ok q (by omega) w (hT.below hw.out)) rfl rfl rfl ?_)))))
 refine OkE.back sr (OkE.imp rfl (cl Tryz.call71 (fun w hw => qText_ok b (by omega) w (inS hw 2 rfl lb)) rfl rfl rfl (OkE.back sr (pE rfl (ex_eql_string (c := true) rfl rfl (by simp)) rfl (pS rfl rfl rfl ?_)))))
 exact OkE.nil (OkQ.subF (sC 4 rfl (sN)) (OkQ.then_ (OkC.ret (ret_one rfl (rd_tmp (v := (Value.bool true)) rfl) (fun w hw => ⟨rfl, hw.out⟩)))))
theorem Same_ok (p : Pt) (b : PX p) (hs : SzP p ≤ 16777216) (w : World) {S : Nat → Prop} (hb : Ro S w b) (hT : Tab w) : Calls Tryz.prog 23 #[(aG (ptL p)), (aG (pxL b))] w (Gives w (Value.bool true)) := by
 have hx := SzP_x p
 have hy := SzP_y p
 have lb := atA (W := w) hb
 refine calls_ofR (args := [(aG (ptL p)), (aG (pxL b))]) (L := [nxR b.x.z.n, nxR b.x.m, nxR b.y.z.n, nxR b.y.m]) Tryz.func23 rfl rfl (leB rfl) (sxP hb roL_nil) (OkC.subF (sC 0 rfl (sC 1 rfl (sN))) (q4 (bx (cs := ptL p) rfl rfl rfl fun b1 => bx (cs := pxL b) rfl rfl rfl fun b2 => asg rfl rfl ?_)))
 refine q3 (sC 2 rfl (sC 3 rfl (sC 4 rfl (sN)))) (st (v := (pP b1 0)) (ex_fieldAddr rfl Tryz.underlying38 rfl Tryz.sizeOf36 rfl) (leB rfl) (ldA 1 (fracL p.x) tA36 rfl rfl rfl rfl rfl (st (v := (pP b2 0)) (ex_fieldAddr rfl Tryz.underlying47 rfl Tryz.sizeOf45 rfl) (leB rfl) (ldA 0 (fxL b.x) tA45 rfl rfl rfl rfl rfl (cl Tryz.call24 (fun w hw => Num_ok p.x b.x (by omega) w (roX (inS hw 2 rfl lb)) (hT.below hw.out)) rfl rfl rfl ?_)))))
 refine mv rfl rfl (OkL.step (v := (pP b1 5)) (wt_some rfl rfl rfl) (ex_fieldAddr rfl Tryz.underlying38 rfl Tryz.sizeOf36 rfl) rfl (leB rfl) (OkL.step (v := (aG (fracL p.y))) (wt_some rfl rfl rfl) (ex_load_agg (i := 1) (vs := fracL p.y) rfl rfl tA36.a tA36.s rfl rfl) rfl (leB rfl) (OkL.step (v := (pP b2 3)) (wt_some rfl rfl rfl) (ex_fieldAddr rfl Tryz.underlying47 rfl Tryz.sizeOf45 rfl) rfl (leB rfl) (OkL.step (v := (aG (fxL b.y))) (wt_some rfl rfl rfl) (ex_load_agg (i := 0) (vs := fxL b.y) rfl rfl tA45.a tA45.s rfl rfl) rfl (leB rfl) (OkL.call (v := (Value.bool true)) (wt_some rfl rfl rfl) (op_call0 (args := [(aG (fracL p.y)), (aG (fxL b.y))]) rfl rfl Tryz.call24) (fun w hw => Num_ok p.y b.y (by omega) w (roY (inS hw 2 rfl lb)) (hT.below hw.out)) rfl (leB rfl) ?_)))))
 exact st (v := (Value.bool true)) (ex_pick_true rfl rfl) (leB rfl) (asg rfl rfl (OkL.nil (OkQ.subF (sC 4 rfl (sN)) (OkQ.then_ (OkC.ret (ret_one rfl (rd_tmp (v := (Value.bool true)) rfl) (fun w hw => ⟨rfl, hw.out⟩)))))))
theorem three_ok (u v q : Rat) (s : S3 u v q) (hs : Sz u + Sz v + Sz q ≤ 16777216) (w : World) {S : Nat → Prop} (hs : Ro S w s) (hT : Tab w) : Calls Tryz.prog 19 #[(aG (fracL u ++ fracL v ++ fracL q)), (Value.slice s.p 3 3), (vI 0)] w (Gives w (Value.bool true)) := by
 have ls := atA (W := w) hs
 refine calls_ofR (args := [(aG (fracL u ++ fracL v ++ fracL q)), (Value.slice s.p 3 3), (vI 0)]) (L := [rowR s.p (s3L s), nxR s.f.z.n, nxR s.f.m, nxR s.g.z.n, nxR s.g.m, nxR s.h.z.n, nxR s.h.m]) Tryz.func19 rfl rfl (leB rfl) (sxS hs roL_nil) (OkC.subF (sC 0 rfl (sC 1 rfl (sC 2 rfl (sN)))) (q4 (bx (cs := fracL u ++ fracL v ++ fracL q) rfl rfl rfl fun b1 => asg rfl rfl (q6 (sC 1 rfl (sC 2 rfl (sC 3 rfl (sC 6 rfl (sN))))) ?_))))
 refine q4 (mv rfl rfl (st (ex_neq (c := false) rfl rfl (by decide)) (leB rfl) (OkL.nil (OkQ.subF (sC 1 rfl (sC 3 rfl (sC 6 rfl (sC 8 rfl (sN))))) (OkQ.then_ ?_)))))
 refine OkC.cond_false rfl (OkC.skip (q1 (rG [(0, true), (1, true), (2, true), (3, true), (4, true), (5, false), (6, true), (7, true), (8, true), (9, true), (10, true), (11, true), (12, false), (13, true), (14, true), (15, true), (16, true), (17, true), (18, true), (19, true), (20, false), (21, true), (22, true)] sr (by kernel_rfl) (fun _ _ d _ _ h => by cases d <;> exact h) (pE (v := (pP b1 0)) rfl (ex_indexAddr_array (j := 0) rfl rfl Tryz.underlying56 Tryz.sizeOf36 rfl (by decide) rfl) rfl (pA 0 (fracL u) tA36 rfl rfl rfl rfl rfl rfl ?_)))))
 refine pM rfl rfl rfl (pE (v := (pP (pB s.p) (pO s.p + 0 * 3))) rfl (ex_index_row (j := 0) rfl rfl s.ok Tryz.underlying59 Tryz.sizeOf45 rfl (by omega)) rfl (pE (v := (aG (fxL s.f))) rfl (ex_load_rowR_agg (vs := fxL s.f) (i := 1) rfl rfl (RowOk.ne s.ok (by omega)) tA45 rfl rfl) rfl (OkE.imp rfl (cl Tryz.call24 (fun w hw => Num_ok u s.f (by omega) w (roSf (inS hw 1 rfl ls)) (hT.below hw.out)) rfl rfl rfl (OkE.back sr ?_)))))
 refine pM rfl rfl rfl (OkE.pas (v := (pP b1 5)) rfl (wt_some rfl rfl rfl) (ex_indexAddr_array (j := 1) rfl rfl Tryz.underlying56 Tryz.sizeOf36 rfl (by decide) rfl) rfl rfl (OkE.pas (v := (aG (fracL v))) rfl (wt_some rfl rfl rfl) (ex_load_agg (i := 0) (vs := fracL v) rfl rfl tA36.a tA36.s rfl rfl) rfl rfl (OkE.pas (v := (Value.slice s.p 3 3)) rfl (wt_some rfl rfl rfl) (ex_move rfl) rfl rfl (OkE.pas (v := (pP (pB s.p) (pO s.p + 1 * 3))) rfl (wt_some rfl rfl rfl) (ex_index_row (j := 1) rfl rfl s.ok Tryz.underlying59 Tryz.sizeOf45 rfl (by omega)) rfl rfl (OkE.pas (v := (aG (fxL s.g))) rfl (wt_some rfl rfl rfl) (ex_load_rowR_agg (vs := fxL s.g) (i := 1) rfl rfl (RowOk.ne s.ok (by omega)) tA45 rfl rfl) rfl rfl ?_)))))
 refine OkE.imp rfl (OkL.call (v := (Value.bool true)) (wt_some rfl rfl rfl) (op_call0 (args := [(aG (fracL v)), (aG (fxL s.g))]) rfl rfl Tryz.call24) (fun w hw => Num_ok v s.g (by omega) w (roSg (inS hw 1 rfl ls)) (hT.below hw.out)) rfl (leB rfl) (OkE.back sr (pE (v := (Value.bool true)) rfl (ex_pick_true rfl rfl) rfl (pM rfl rfl rfl (OkE.pas (v := (pP b1 10)) rfl (wt_some rfl rfl rfl) (ex_indexAddr_array (j := 2) rfl rfl Tryz.underlying56 Tryz.sizeOf36 rfl (by decide) rfl) rfl rfl ?_)))))
 refine OkE.pas (v := (aG (fracL q))) rfl (wt_some rfl rfl rfl) (ex_load_agg (i := 0) (vs := fracL q) rfl rfl tA36.a tA36.s rfl rfl) rfl rfl (OkE.pas (v := (Value.slice s.p 3 3)) rfl (wt_some rfl rfl rfl) (ex_move rfl) rfl rfl (OkE.pas (v := (pP (pB s.p) (pO s.p + 2 * 3))) rfl (wt_some rfl rfl rfl) (ex_index_row (j := 2) rfl rfl s.ok Tryz.underlying59 Tryz.sizeOf45 rfl (by omega)) rfl rfl (OkE.pas (v := (aG (fxL s.h))) rfl (wt_some rfl rfl rfl) (ex_load_rowR_agg (vs := fxL s.h) (i := 1) rfl rfl (RowOk.ne s.ok (by omega)) tA45 rfl rfl) rfl rfl (OkE.imp rfl (OkL.call (v := (Value.bool true)) (wt_some rfl rfl rfl) (op_call0 (args := [(aG (fracL q)), (aG (fxL s.h))]) rfl rfl Tryz.call24) (fun w hw => Num_ok q s.h (by omega) w (roSh (inS hw 1 rfl ls)) (hT.below hw.out)) rfl (leB rfl) ?_)))))
 refine OkE.back sr (pE (v := (Value.bool true)) rfl (ex_pick_true rfl rfl) rfl (pS rfl rfl rfl (OkE.nil (OkQ.subF (sC 3 rfl (sC 6 rfl (sC 8 rfl (sN)))) (OkQ.then_ ?_)))))
 exact OkC.ret (ret_one rfl (rd_tmp (v := (Value.bool true)) rfl) (fun w hw => ⟨rfl, hw.out⟩))
theorem QRef_ok (z : QD) (h : z.ok) (w : World) {S : Nat → Prop}  : Calls Tryz.prog 31 #[(aG (qdL z))] w (GivesR (FX (qOf z)) S w) := by
 obtain ⟨h1, h2, h3⟩ := h
 refine calls_of (args := [(aG (qdL z))]) Tryz.func31 rfl rfl (leB rfl) (OkC.subF (sC 0 rfl (sN)) (q4 (bx (cs := qdL z) rfl rfl rfl fun b1 => al tZ45 rfl fun b2 => q3 (sC 1 rfl (sC 2 rfl (sN))) ?_)))
 refine st (v := (pP b1 0)) (ex_fieldAddr rfl Tryz.underlying24 rfl Tryz.sizeOf2 rfl) (leB rfl) (ldO 1 (vI z.n) tO2 rfl rfl rfl rfl (st (v := (pP b1 1)) (ex_fieldAddr rfl Tryz.underlying24 rfl Tryz.sizeOf22 rfl) (leB rfl) (ldO 1 (vK .u32 z.d) tO22 rfl rfl rfl rfl (st (ex_max (c := ((max z.d 1 : Nat) : Int)) rfl rfl (by split <;> omega)) (leB rfl) (st (ex_conv (c := ((max z.d 1 : Nat) : Int)) rfl Tryz.underlying22 Tryz.underlying2 (convN_i64 (by omega))) (leB rfl) ?_)))))
 exact cF (S := S) (x := (qOf z)) (args := [(vI z.n), (vN (max z.d 1))]) Tryz.call73 (fun w hw => (GivesR.cast (T := fun i => FX i) rfl (qOf_ok z.n ((max z.d 1 : Nat) : Int) (by omega) (by omega) (by omega) (by omega) w))) rfl rfl rfl fun g1 lg1 => stW2 rfl rfl rfl Tryz.sizeOf45 rfl rfl (OkL.nil (OkQ.subF (sC 2 rfl (sN)) (OkQ.then_ (OkC.ret (ret_one rfl (rd_agg (i := 2) (cs := fxL g1) rfl rfl Tryz.isAgg45 Tryz.sizeOf45 rfl) (fun w hw => retR (a := (g1 : FX (qOf z))) hw (inS hw 0 rfl lg1) rfl))))))
theorem fill_numse_47_0fxL_1fxL {r0 : Rat} (x0 : FX r0) {r1 : Rat} (x1 : FX r1) : Instr.fill ([(0, 3), (3, 3)].toArray[·]?) ([(Value.bool false), (Value.slice none 0 0), (Value.slice none 0 0), (Value.bool false), (Value.slice none 0 0), (Value.slice none 0 0)]).toArray [(0, .agg (fxL x0).toArray), (1, .agg (fxL x1).toArray)] = some (fxL x0 ++ fxL x1).toArray := by kernel_rfl
theorem PRef_ok (p : PD) (h : p.ok) (w : World) {S : Nat → Prop}  : Calls Tryz.prog 11 #[(aG (pdL p))] w (GivesR (PX (ptOf p)) S w) := by
 have h1 := h.1
 have h2 := h.2
 refine calls_of (args := [(aG (pdL p))]) Tryz.func11 rfl rfl (leB rfl) (OkC.subF (sC 0 rfl (sN)) (q4 (bx (cs := pdL p) rfl rfl rfl fun b1 => al tZ47 rfl fun b2 => q6 (sC 1 rfl (sC 2 rfl (sN))) ?_)))
 refine rG [(0, true), (1, true), (3, true), (4, true), (2, false), (5, false), (6, true), (7, false)] (sl sr) (by kernel_rfl) (fun _ _ d _ _ h => by cases d <;> exact h) (pE (v := (pP b1 0)) rfl (ex_fieldAddr rfl Tryz.underlying26 rfl Tryz.sizeOf24 rfl) rfl (pA 0 (qdL p.x) tA24 rfl rfl rfl rfl rfl rfl (pE (v := (pP b1 2)) rfl (ex_fieldAddr rfl Tryz.underlying26 rfl Tryz.sizeOf24 rfl) rfl (pA 0 (qdL p.y) tA24 rfl rfl rfl rfl rfl rfl (OkE.imp rfl ?_)))))
 refine cF (S := S) (x := (qOf p.x)) (args := [(aG (qdL p.x))]) Tryz.call31 (fun w hw => QRef_ok p.x (by assumption) w) rfl rfl rfl fun g1 lg1 => OkE.back (sl (sl (sl sr))) (OkE.imp rfl (cF (S := S) (x := (qOf p.y)) (args := [(aG (qdL p.y))]) Tryz.call31 (fun w hw => QRef_ok p.y (by assumption) w) rfl rfl rfl fun g2 lg2 => OkE.back (sl (sl (sl (sl (sl sr))))) (pE (v := (aG (fxL g1 ++ fxL g2))) rfl (ex_build_struct (zs := [(Value.bool false), (Value.slice none 0 0), (Value.slice none 0 0), (Value.bool false), (Value.slice none 0 0), (Value.slice none 0 0)]) (vs := fxL g1 ++ fxL g2) (pv := [(0, (aG (fxL g1))), (1, (aG (fxL g2)))]) (places := [(0, 3), (3, 3)]) Tryz.zeroValue47 Tryz.underlying47 (fun w => by simp [Tryz.sizeOf45]) rfl (fill_numse_47_0fxL_1fxL g1 g2)) rfl ?_)))
 refine OkE.imp rfl (OkL.store' (i := 4) (off := 0) (vs := fxL g1 ++ fxL g2) (cs' := fxL g1 ++ fxL g2) (L' := [nxR g2.z.n, nxR g2.m, nxR g1.z.n, nxR g1.m, blk b2 47 (fxL g1 ++ fxL g2), blk b1 26 (pdL p)]) (wt_none rfl) rfl rfl rfl rfl rfl Tryz.sizeOf47 rfl rfl rfl rfl (OkE.back (sl (sl (sl (sl (sl sr))))) (OkE.nil (OkQ.subF (sC 2 rfl (sN)) (OkQ.then_ ?_)))))
 exact OkC.ret (ret_one rfl (rd_agg (i := 4) (cs := fxL g1 ++ fxL g2) rfl rfl Tryz.isAgg47 Tryz.sizeOf47 rfl) (fun w hw => retR (a := ((PX.mk g1 g2) : PX (ptOf p))) hw (mkP (inS hw 2 rfl lg1) (inS hw 0 rfl lg2)) rfl))
end
end Go.Proofs.YtpkoldfmbebmgaaGreatDoor
