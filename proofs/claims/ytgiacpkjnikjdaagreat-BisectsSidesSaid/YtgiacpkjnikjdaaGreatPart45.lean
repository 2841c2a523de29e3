import Derived.Test.YtgiacpkjnikjdaaGreatPart44
namespace Go.Proofs.YtgiacpkjnikjdaaGreat
open Go Go.RowKit
set_option linter.unusedVariables false
set_option linter.unusedSimpArgs false
section
abbrev fsB (ps : List Pt) (ts ss : List T3) (l : List E4) : List T3 := halX ps.length ss l (hvA (midS ps.length l l.length) ts)
abbrev pfG (g : MG) (l : List E4) : List Pt := halP g.ps l
abbrev kdG (g : MG) (k : Nat) : T3 := g.ss.getD k (0, 0, 0)
abbrev fsG (g : MG) (l : List E4) : List T3 := fsB g.ps g.ts g.ss l
def wysN (ps pf : List Pt) (fs : List T3) (k : T3) (i : Nat) : List Rat := ((fs.take i).filter (onK ps pf k)).map (sqD2 pf)
def smK (ps pf : List Pt) (fs ss : List T3) (j : Nat) : Nat := (wysN ps pf fs (ss.getD j (0, 0, 0)) fs.length).length
section
variable {f g : Nat → Nat} {K : Nat}
theorem smN_zero : ∀ K, smN (fun _ => 0) K = 0
  | 0 => rfl
  | K + 1 => by rw [smN, smN_zero K]
theorem smN_add : ∀ K, smN (fun j => f j + g j) K = smN f K + smN g K
  | 0 => rfl
  | K + 1 => by
    rw [smN, smN, smN, smN_add K]
    omega
theorem smN_le {M : Nat} (h : ∀ j, f j ≤ M) : ∀ K, smN f K ≤ K * M
  | 0 => Nat.zero_le _
  | K + 1 => by
    rw [smN, Nat.succ_mul]
    have := smN_le h K
    have := h K
    omega
theorem smN_ind {q : Nat → Bool} {j : Nat} : ∀ K, (∀ i, i < K → q i = true → i = j) → smN (fun i => if q i then 1 else 0) K = if j < K ∧ q j = true then 1 else 0
  | 0, _ => by rw [if_neg (fun h => absurd h.1 (Nat.not_lt_zero _))]; rfl
  | K + 1, h => by
    rw [smN, smN_ind K fun i hi => h i (by omega)]
    by_cases hq : q K = true
    · have e := h K (by omega) hq
      subst e
      rw [if_pos hq, if_neg (fun h => absurd h.1 (Nat.lt_irrefl _)), if_pos ⟨by omega, hq⟩]
    · rw [if_neg hq]
      by_cases hj : j < K ∧ q j = true
      · rw [if_pos hj, if_pos ⟨by omega, hj.2⟩]
      · rw [if_neg hj, if_neg (fun h2 => hj ⟨by
          rcases Nat.lt_or_ge j K with h3 | h3
          · exact h3
          · exact absurd (show q K = true by rw [show K = j by omega]; exact h2.2) hq, h2.2⟩)]
theorem smN_one {α : Type} {q : Nat → α → Bool} {xs : List α} (h : ∀ x ∈ xs, ∃ j, j < K ∧ q j x = true ∧ ∀ i, i < K → q i x = true → i = j) : smN (fun j => (xs.filter (q j)).length) K = xs.length := by
  induction xs with
  | nil => exact smN_zero K
  | cons x r ih =>
    have e : (fun j => ((x :: r).filter (q j)).length) = fun j => (if q j x then 1 else 0) + (r.filter (q j)).length := by
      funext j
      rw [List.filter_cons]
      split
      · rw [List.length_cons, Nat.add_comm]
      · rw [Nat.zero_add]
    obtain ⟨j, h1, h2, h3⟩ := h x List.mem_cons_self
    rw [e, smN_add, ih fun y hy => h y (List.mem_cons_of_mem _ hy), smN_ind K h3, if_pos ⟨h1, h2⟩, List.length_cons, Nat.add_comm]
end
section
variable {ps pf : List Pt} {fs : List T3} {k : T3} {i : Nat}
theorem wysN_yes (hi : i < fs.length) (h : onK ps pf k (fs.getD i (0, 0, 0)) = true) : wysN ps pf fs k (i + 1) = wysN ps pf fs k i ++ [sqD2 pf (fs.getD i (0, 0, 0))] := by
  unfold wysN
  rw [take_snoc hi, List.filter_append, List.map_append, List.filter_cons, if_pos h]; rfl
theorem wysN_no (hi : i < fs.length) (h : ¬ onK ps pf k (fs.getD i (0, 0, 0)) = true) : wysN ps pf fs k (i + 1) = wysN ps pf fs k i := by
  unfold wysN
  rw [take_snoc hi, List.filter_append, List.map_append, List.filter_cons, if_neg h]; simp
theorem wysN_len (i : Nat) : (wysN ps pf fs k i).length ≤ i ∧ (wysN ps pf fs k i).length ≤ fs.length := by
  unfold wysN
  rw [List.length_map]
  have h1 := List.length_filter_le (onK ps pf k) (fs.take i)
  rw [List.length_take] at h1
  omega
end
section
variable {ps : List Pt} {ts ss : List T3} {l : List E4} {ms : List Int}
theorem CutD.fs_mem (D : CutD ps ts ss l ms) {s : T3} (hs : s ∈ (fsB ps ts ss l)) : (∃ k ∈ ss, (s.1, s.2.1) ∈ dvK (mdC ps l) (k.1, k.2.1) ∧ s.2.2 = k.2.2) ∧ s.1 < ps.length + l.length ∧ s.2.1 < ps.length + l.length := by
  obtain ⟨r, hr, rfl⟩ := List.mem_map.1 hs
  obtain ⟨⟨k, hk, hm⟩, _⟩ := D.rim.1 hr
  obtain ⟨q, hq, rfl⟩ := D.side_of hk
  have h9 := rimL_lt D.num (by have := D.hN; have := D.llen; omega) hr
  exact ⟨⟨q, hq, hm, D.mark hq hm⟩, h9⟩
theorem CutD.fs_of (D : CutD ps ts ss l ms) {k : T3} (hk : k ∈ ss) {κ : P2} (hκ : κ ∈ dvK (mdC ps l) (k.1, k.2.1)) : ∃ s ∈ (fsB ps ts ss l), (s.1, s.2.1) = κ :=
  ⟨(κ.1, κ.2, mrkV ps.length ss l κ.1 κ.2), List.mem_map.2 ⟨(κ.1, κ.2, 0), D.rim.2 ⟨⟨_, (D.side hk).1, hκ⟩, rfl⟩, rfl⟩, rfl⟩
theorem CutD.fs_nodup (D : CutD ps ts ss l ms) : ((fsB ps ts ss l).map fun s => ((s.1, s.2.1) : P2)).Nodup := by
  unfold fsB halX
  rw [List.map_map]
  refine List.pairwise_map.2 ((rimL_sorted D.num (by have := D.hN; have := D.llen; omega)).imp fun {a b} h e => ?_)
  have e1 := congrArg Prod.fst e
  have e2 := congrArg Prod.snd e
  simp only [Function.comp_apply] at e1 e2
  unfold LtS at h
  omega
theorem CutD.on_iff (D : CutD ps ts ss l ms) {k s : T3} (hk : k ∈ ss) (hs : s ∈ (fsB ps ts ss l)) : onK ps (halP ps l) k s = true ↔ (s.1, s.2.1) ∈ dvK (mdC ps l) (k.1, k.2.1) := by
  unfold onK
  rw [Bool.and_eq_true, decide_eq_true_eq, decide_eq_true_eq]
  constructor
  · rintro ⟨h1, h2⟩
    obtain ⟨⟨k', hk', hm, _⟩, _⟩ := D.fs_mem hs
    rw [← D.on_fwd (k := (k.1, k.2.1)) (D.side hk).1 (D.side hk').1 hm h1 h2]
    exact hm
  · intro h
    exact D.on_bwd (D.side hk).1 h
theorem CutD.same (D : CutD ps ts ss l ms) {k s : T3} (hk : k ∈ ss) (hs : s ∈ (fsB ps ts ss l)) (h : onK ps (halP ps l) k s = true) : s.2.2 = k.2.2 := by
  obtain ⟨⟨k', hk', hm, he⟩, _⟩ := D.fs_mem hs
  have h2 := (D.on_iff hk hs).1 h
  rw [he, D.side_eq hk' hk (dv_inj D.mid (D.side hk').2.2 (D.side hk).2.2 hm h2)]
theorem CutD.wys (D : CutD ps ts ss l ms) {k : T3} (hk : k ∈ ss) : ∃ v : Rat, (∀ w ∈ wysN ps (halP ps l) (fsB ps ts ss l) k (fsB ps ts ss l).length, w = v) ∧ (((wysN ps (halP ps l) (fsB ps ts ss l) k (fsB ps ts ss l).length).length = 1 ∧ v = dotP (ps.getD k.2.1 ⟨0, 0⟩ - ps.getD k.1 ⟨0, 0⟩) (ps.getD k.2.1 ⟨0, 0⟩ - ps.getD k.1 ⟨0, 0⟩)) ∨ ((wysN ps (halP ps l) (fsB ps ts ss l) k (fsB ps ts ss l).length).length = 2 ∧ v * 4 = dotP (ps.getD k.2.1 ⟨0, 0⟩ - ps.getD k.1 ⟨0, 0⟩) (ps.getD k.2.1 ⟨0, 0⟩ - ps.getD k.1 ⟨0, 0⟩))) := by
  obtain ⟨hc, hlt, hlN⟩ := D.side hk
  obtain ⟨v, h1, h2⟩ := D.sq hc
  have hp : (((fsB ps ts ss l).filter (onK ps (halP ps l) k)).map fun s => ((s.1, s.2.1) : P2)).Perm (dvK (mdC ps l) (k.1, k.2.1)) :=
    (List.perm_ext_iff_of_nodup (List.Nodup.sublist (List.Sublist.map _ List.filter_sublist) D.fs_nodup) (dv_nodup (k := (k.1, k.2.1)) hlt)).2 fun κ => by
      rw [List.mem_map]
      constructor
      · rintro ⟨s, hs, rfl⟩
        obtain ⟨h3, h4⟩ := List.mem_filter.1 hs
        exact (D.on_iff hk h3).1 h4
      · intro hκ
        obtain ⟨s, hs, rfl⟩ := D.fs_of hk hκ
        exact ⟨s, List.mem_filter.2 ⟨hs, (D.on_iff hk hs).2 hκ⟩, rfl⟩
  have hlen : (wysN ps (halP ps l) (fsB ps ts ss l) k (fsB ps ts ss l).length).length = (dvK (mdC ps l) (k.1, k.2.1)).length := by
    have := hp.length_eq
    rw [List.length_map] at this
    unfold wysN
    rw [List.length_map, List.take_length, this]
  refine ⟨v, fun w hw => ?_, by rw [hlen]; exact h2⟩
  unfold wysN at hw
  rw [List.take_length] at hw
  obtain ⟨s, hs, rfl⟩ := List.mem_map.1 hw
  obtain ⟨h3, h4⟩ := List.mem_filter.1 hs
  exact h1 _ ((D.on_iff hk h3).1 h4) s.2.2
theorem CutD.total (D : CutD ps ts ss l ms) : smN (smK ps (halP ps l) (fsB ps ts ss l) ss) ss.length = (fsB ps ts ss l).length := by
  have e : smK ps (halP ps l) (fsB ps ts ss l) ss = fun j => ((fsB ps ts ss l).filter (onK ps (halP ps l) (ss.getD j (0, 0, 0)))).length := by
    funext j
    unfold smK wysN
    rw [List.length_map, List.take_length]
  have mem : ∀ i, i < ss.length → ss.getD i (0, 0, 0) ∈ ss := fun i hi => by rw [List.getD, List.getElem?_eq_getElem hi]; exact List.getElem_mem _
  rw [e]
  refine smN_one fun s hs => ?_
  obtain ⟨⟨k, hk, hm, _⟩, _⟩ := D.fs_mem hs
  obtain ⟨j, hj, rfl⟩ := List.getElem_of_mem hk
  have ej : ss.getD j (0, 0, 0) = ss[j] := by rw [List.getD, List.getElem?_eq_getElem hj]; rfl
  refine ⟨j, hj, by rw [ej]; exact (D.on_iff hk hs).2 hm, fun i hi h => ?_⟩
  have h2 := (D.on_iff (mem i hi) hs).1 h
  have h3 := D.side_eq (mem i hi) hk (dv_inj D.mid (D.side (mem i hi)).2.2 (D.side hk).2.2 h2 hm)
  obtain ⟨mm, hsd⟩ := D.sd
  have hp : ss.Pairwise LtS := by rw [hsd]; exact sidesW_sorted _
  have hp := List.pairwise_iff_getElem.1 hp
  have h4 : ss[i] = ss[j] := by rw [← h3, List.getD, List.getElem?_eq_getElem hi]; rfl
  rcases Nat.lt_trichotomy i j with h | h | h
  · have := hp i j hi hj h; rw [h4] at this; unfold LtS at this; omega
  · exact h
  · have := hp j i hj hi h; rw [h4] at this; unfold LtS at this; omega
theorem CutD.fs_len (D : CutD ps ts ss l ms) : (fsB ps ts ss l).length ≤ 432 := by
  have h1 : (rimL (hvA (mdC ps l) ts)).length ≤ 3 * (hvA (mdC ps l) ts).length := rimL_le
  have h2 : (hvA (mdC ps l) ts).length ≤ 4 * ts.length := hvA_le
  have h3 := D.g.tl
  have h4 : (fsB ps ts ss l).length = (rimL (hvA (mdC ps l) ts)).length := List.length_map _
  omega
theorem CutD.sz (D : CutD ps ts ss l ms) (i : Nat) : SzP ((halP ps l).getD i ⟨0, 0⟩) ≤ 100 := by
  rcases Nat.lt_or_ge i ps.length with h | h
  · rw [pf_old h]; exact Nat.le_trans (D.g.sz i) (by decide)
  · rcases Nat.lt_or_ge (i - ps.length) l.length with h2 | h2
    · rw [show i = ps.length + (i - ps.length) by omega, pf_new h2]
      unfold mdE
      have k1 := SzP_scale (cor ps (l.getD (i - ps.length) E0).a + cor ps (l.getD (i - ps.length) E0).b) (1 / 2)
      have k2 := SzP_add (cor ps (l.getD (i - ps.length) E0).a) (cor ps (l.getD (i - ps.length) E0).b)
      have k3 : SzP (cor ps (l.getD (i - ps.length) E0).a) ≤ 4 := D.g.sz _
      have k4 : SzP (cor ps (l.getD (i - ps.length) E0).b) ≤ 4 := D.g.sz _
      have k5 : Sz (1 / 2) ≤ 4 := by decide +kernel
      omega
    · rw [List.getD, List.getElem?_eq_none (by rw [halP_len]; omega)]
      have : SzP (⟨0, 0⟩ : Pt) ≤ 100 := by decide +kernel
      exact this
theorem inr3 {n x y z : Nat} (h : x < n ∧ y < n ∧ z < n) : ∀ j, j < [((x : Nat) : Int), ((y : Nat) : Int), ((z : Nat) : Int)].length → 0 ≤ [((x : Nat) : Int), ((y : Nat) : Int), ((z : Nat) : Int)].getD j 0 ∧ [((x : Nat) : Int), ((y : Nat) : Int), ((z : Nat) : Int)].getD j 0 < (n : Int)
  | 0, _ => by show (0 : Int) ≤ (x : Int) ∧ (x : Int) < (n : Int); omega
  | 1, _ => by show (0 : Int) ≤ (y : Int) ∧ (y : Int) < (n : Int); omega
  | 2, _ => by show (0 : Int) ≤ (z : Int) ∧ (z : Int) < (n : Int); omega
  | j + 3, hj => absurd hj (by simp)
theorem CutD.smK_le (D : CutD ps ts ss l ms) {k : Nat} (hk : k ≤ 11664) : smN (smK ps (halP ps l) (fsB ps ts ss l) ss) k ≤ 5038848 := by
  have h1 := D.fs_len
  have h2 : smN (smK ps (halP ps l) (fsB ps ts ss l) ss) k ≤ k * 432 := smN_le (fun j => Nat.le_trans (wysN_len (fsB ps ts ss l).length).2 h1) k
  exact Nat.le_trans h2 (by omega)
end
end
end Go.Proofs.YtgiacpkjnikjdaaGreat
