import Derived.Test.YtndjhnbnegfijaaGreatDoorPart33
import Derived.Test.YtndjhnbnegfijaaGreatDoorPart35
import Derived.Test.YtndjhnbnegfijaaGreatDoorPart37
import Derived.Test.YtndjhnbnegfijaaGreatDoorPart38
namespace Go.Proofs.YtndjhnbnegfijaaGreatDoor
open Go Go.RowKit
set_option linter.unusedVariables false
set_option linter.unusedSimpArgs false
section
theorem grow_of {w w' : World} (h : Bel w.heap.size w w') : ∃ (q : Nat) (os : Array Obj), w' = Go.Sort.grow (w.drewN q) os := by
  refine ⟨w'.drawn - w.drawn, w'.heap.extract w.heap.size w'.heap.size, ?_⟩
  have h1 := h.os; have h2 := h.tape; have h3 := h.output; have h4 := h.size; have h5 := h.block; have h6 := h.drawn
  have hh : w'.heap = w.heap ++ w'.heap.extract w.heap.size w'.heap.size := by
    apply Array.ext_getElem?
    intro i
    rw [Array.getElem?_append]
    split
    · rename_i hi; exact h5 i hi
    · rename_i hi
      rw [Array.getElem?_extract]
      split
      · congr 1; omega
      · rename_i hj; rw [Array.getElem?_eq_none (by omega)]
  obtain ⟨hp, tp, dr, os, out⟩ := w'
  obtain ⟨hp0, tp0, dr0, os0, out0⟩ := w
  simp only at h1 h2 h3 h4 h6 hh
  subst h1; subst h2; subst h3
  show World.mk hp tp dr os out = World.mk (hp0 ++ hp.extract hp0.size hp.size) tp (dr0 + (dr - dr0)) os out
  rw [← hh, show dr0 + (dr - dr0) = dr by omega]
def PcB (p : Pc) : Prop := Sz p.lo ≤ 400 ∧ Sz p.hi ≤ 400
abbrev PcS := {p : Pc // PcB p}
instance : Inhabited PcS := ⟨⟨⟨0, 0, 0⟩, by show Sz (0 : Rat) ≤ 400; decide +kernel, by show Sz (0 : Rat) ≤ 400; decide +kernel⟩⟩
theorem exS : ∀ xs : List Pc, (∀ x ∈ xs, PcB x) → ∃ ds : List PcS, ds.map (·.1) = xs
  | [], _ => ⟨[], rfl⟩
  | x :: r, h => by
    obtain ⟨ds, e⟩ := exS r fun y hy => h y (List.mem_cons_of_mem _ hy)
    exact ⟨⟨x, h x List.mem_cons_self⟩ :: ds, by rw [List.map_cons, e]⟩
def encS (x : PcS) : List Value := pcL x.1
def cfS (x y : PcS) : Int := cmpP x.1 y.1
theorem swoS : Go.Sort.SWO (ltOf cfS) where
  irrefl x := decide_eq_false (by
    unfold cfS
    rw [cmpP_neg]
    rintro (h | ⟨_, h⟩)
    · grind
    · omega)
  trans x y z h1 h2 := by
    have h1 := cmpP_neg.1 (of_decide_eq_true h1)
    have h2 := cmpP_neg.1 (of_decide_eq_true h2)
    refine decide_eq_true (cmpP_neg.2 ?_)
    rcases h1 with h1 | ⟨e1, h1⟩ <;> rcases h2 with h2 | ⟨e2, h2⟩
    · exact .inl (by grind)
    · exact .inl (by grind)
    · exact .inl (by grind)
    · exact .inr ⟨by grind, by omega⟩
  ntrans x y z h1 h2 := by
    have h1 : LeP y.1 x.1 := of_decide_eq_false h1
    have h2 : LeP z.1 y.1 := of_decide_eq_false h2
    exact decide_eq_false (h2.trans h1)
theorem cmpLS (blk off size : Nat) (w : World) : CmpLays Tryz.prog 24 #[] encS 11 cfS blk off size w := fun m os dk _ x y => by
  have hs : Sz x.1.lo + Sz y.1.lo ≤ 1000000 := by have h1 := x.2.1; have h2 := y.2.1; omega
  rw [Array.append_empty]
  exact (ray1_ok x.1 y.1 hs _).mono fun e w' h => ⟨h.1, grow_of h.2⟩
theorem flat_get {d : Array PcS} {t : Nat} (h : t < d.size * 11) : (rowsL pcL (d.toList.map (·.1)))[t]? = some (Go.Sort.flatK encS 11 d)[t]! := by
  rw [Go.Sort.get_flatK _ _ _ _ h]
  have h1 : t / 11 < d.size := by omega
  have h2 := rowsL_at pcL_len (⟨0, 0, 0⟩ : Pc) (d.toList.map (·.1)) (t / 11) (t % 11) (by simpa using h1) (Nat.mod_lt _ (by decide)) (v := (encS d[t / 11]!)[t % 11]!) (by
    rw [List.getD, List.getElem?_map, show d.toList[t / 11]? = some d[t / 11] from by simp [h1], getElem!_pos d (t / 11) h1]
    show (pcL (d[t / 11]).1)[t % 11]? = some (pcL (d[t / 11]).1)[t % 11]!
    have hl : t % 11 < (pcL (d[t / 11]).1).length := by rw [pcL_len]; exact Nat.mod_lt _ (by decide)
    rw [List.getElem?_eq_getElem hl, getElem!_pos (pcL (d[t / 11]).1) (t % 11) hl])
  rw [show t / 11 * 11 + t % 11 = t by omega] at h2
  exact h2
theorem one_pcL (x : PcS) : ∀ v ∈ encS x, v.oneCell' = true := fun v hv => by
  unfold encS pcL fracL at hv
  simp only [List.mem_cons, List.mem_append, List.not_mem_nil, or_false] at hv
  rcases hv with rfl | (rfl | rfl | rfl | rfl | rfl) | (rfl | rfl | rfl | rfl | rfl) <;> rfl
theorem sortP_ok (xs : List Pc) (p : Option Addr) (n c : Nat) (T : TypeId) (ho : OwnOk p n c) (hn : n = xs.length) (hN : n < 4611686018427387904) (hb : ∀ x ∈ xs, PcB x) (ht : xs.Pairwise (fun x y => x.tri ≠ y.tri)) (w : World) (hrow : ∀ b, p.map (·.block) = some b → ∃ o, w.heap[b]? = some o ∧ (rowW p T 11 n c (rowsL pcL xs)).P o) :
    Calls Tryz.prog 23 #[.slice p n c, .func (.func 24) #[] #[]] w fun e w' => e = .returned (.tuple #[]) ∧ Grw w w' (p.map (·.block)) ∧ ∀ b, p.map (·.block) = some b → ∃ o, w'.heap[b]? = some o ∧ (rowW p T 11 n c (rowsL pcL (srtP xs))).P o := by
  cases hp : p with
  | none =>
    subst hp
    obtain ⟨rfl, rfl⟩ := ho.nil rfl
    exact (sort0_ok w).mono fun e w' h => ⟨h.1, grown_of_below h.2 _, fun b e => by cases e⟩
  | some a =>
    subst hp
    obtain ⟨o, hob, cur, rfl, hsz, hcur⟩ := hrow a.block rfl
    have hat := ho.at0 a rfl
    have hle := ho.le
    have hmax := ho.max
    obtain ⟨ds, hds⟩ := exS xs hb
    have hdl : ds.length = n := by rw [hn, ← hds, List.length_map]
    obtain ⟨d, hd⟩ : ∃ d, d = ds.toArray := ⟨_, rfl⟩
    have hdz : d.size = n := by rw [hd]; simpa using hdl
    have hdx : d.toList.map (·.1) = xs := by rw [hd]; exact hds
    have hH : Go.Sort.HoldsK encS 11 w a.block 0 d := fun j hj => by
      have hj' : j < d.size * 11 := by simpa using hj
      refine ⟨?_, by simp [World.frozen?, hob]⟩
      have h1 : (cur.toList.take (n * 11))[j]? = (rowsL pcL xs)[j]? := by rw [hcur]
      rw [List.getElem?_take_of_lt (by omega), Array.getElem?_toList, ← hdx, flat_get hj'] at h1
      show w.cell? ⟨a.block, 0 + j, none⟩ = some (id (Go.Sort.flatK encS 11 d)[j]!)
      unfold World.cell?
      simp only [hob, Nat.zero_add]
      exact h1
    have hlt : a.block < w.heap.size := by
      rcases Nat.lt_or_ge a.block w.heap.size with h | h
      · exact h
      · rw [Array.getElem?_eq_none h] at hob; cases hob
    have h := Tryz.slices_SortFunc 11 Tryz.isAgg59 Tryz.sizeOf59 encS (fun x => pcL_len x.1) one_pcL cfS swoS 24 #[] a.block 0 c d w Tryz.call24 (cmpLS a.block 0 d.size w) hH hlt (by omega)
    rw [hdz] at h
    rw [hat]
    refine h.mono ?_
    rintro e w' ⟨rfl, d', m, os, ⟨hz', _, hperm⟩, hsort, rfl⟩
    have hz2 : d'.size = n := by rw [hz', hdz]
    have hperm' : d'.toList.Perm d.toList := by
      have e1 : d'.extract 0 n = d' := by rw [← hz2]; exact Array.extract_size
      have e2 : d.extract 0 n = d := by rw [← hdz]; exact Array.extract_size
      rw [e1, e2] at hperm
      exact hperm
    have hres : d'.toList.map (·.1) = srtP xs := by
      refine srtP_uniq (by rw [← hdx]; exact hperm'.map _) ?_ ht
      rw [List.pairwise_map]
      refine List.pairwise_iff_getElem.2 fun i j hi hj hij => ?_
      have hi' : i < d'.size := by simpa using hi
      have hj' : j < d'.size := by simpa using hj
      have h9 := of_decide_eq_false (hsort i j (Nat.zero_le _) hij (by omega))
      rw [getElem!_pos d' j hj', getElem!_pos d' i hi'] at h9
      simpa [LeP, cfS] using h9
    have hF : (Go.Sort.flatK encS 11 d').size = n * 11 := by rw [Go.Sort.size_flatK, hz2]
    refine ⟨rfl, ⟨⟨rfl, rfl, rfl, by simp [sortWorldK, Go.Sort.grow, Go.Sort.putRowK, Go.Sort.putRow, Go.Sort.mapBlock, Go.Sort.ahead], fun j hj hne => ?_⟩, by show w.drawn ≤ w.drawn + m; omega⟩, fun b e => ?_⟩
    · have hne' : a.block ≠ j := fun e => hne (by rw [e]; rfl)
      unfold sortWorldK
      rw [Go.Sort.heap_grow_old _ _ (by simpa [Go.Sort.putRowK, Go.Sort.putRow, Go.Sort.mapBlock, Go.Sort.ahead] using hj)]
      simp [Go.Sort.putRowK, Go.Sort.putRow, Go.Sort.mapBlock, Go.Sort.ahead, Array.getElem?_modify, hne']
    · injection e with e
      subst e
      refine ⟨.cells (Go.Sort.putCells id 0 (Go.Sort.flatK encS 11 d') cur) T (0, 0), ?_, _, rfl, by simp [Go.Sort.putCells, hsz], ?_⟩
      · unfold sortWorldK
        rw [Go.Sort.heap_grow_old _ _ (by simpa [Go.Sort.putRowK, Go.Sort.putRow, Go.Sort.mapBlock, Go.Sort.ahead] using hlt)]
        simp [Go.Sort.putRowK, Go.Sort.putRow, Go.Sort.mapBlock, Go.Sort.ahead, Array.getElem?_modify, hob, Go.Sort.onCells]
      · apply List.ext_getElem?
        intro j
        have hlen : (rowsL pcL (srtP xs)).length = n * 11 := by rw [← hres, rowsL_length pcL_len, List.length_map, Array.length_toList, hz2]
        by_cases hj : j < n * 11
        · have hcs : n * 11 ≤ c * 11 := Nat.mul_le_mul_right _ hle
          rw [List.getElem?_take_of_lt hj, Array.getElem?_toList, ← hres, flat_get (by rw [hz2]; exact hj)]
          unfold Go.Sort.putCells
          rw [Array.getElem?_mapIdx, Array.getElem?_eq_getElem (by omega), Option.map_some, if_pos ⟨Nat.zero_le _, by omega⟩]
          rfl
        · rw [List.getElem?_take_eq_none (by omega), List.getElem?_eq_none (by omega)]
section
variable {ps : List Pt} {ts : List (Nat × Nat × Nat)} {a b : Pt}
theorem pcAt_tri {t : Nat} {T : Nat × Nat × Nat} {x : Pc} (h : x ∈ pcAt ps a b t T) : x.tri = t := by
  unfold pcAt at h
  split at h
  · split at h
    · rcases List.mem_singleton.1 h with rfl; rfl
    · cases h
  · cases h
theorem rayL_lt : ∀ n, ∀ x ∈ rayL ps ts a b n, x.tri < n
  | 0, x, h => by cases h
  | n + 1, x, h => by
    rcases List.mem_append.1 h with h | h
    · have := rayL_lt n x h; omega
    · have := pcAt_tri h; omega
theorem rayL_dif : ∀ n, (rayL ps ts a b n).Pairwise (fun x y => x.tri ≠ y.tri)
  | 0 => List.Pairwise.nil
  | n + 1 => List.pairwise_append.2 ⟨rayL_dif n, by
      have h := pcAt_len (ps := ps) (a := a) (b := b) (t := n) (ts.getD n (0, 0, 0))
      match pcAt ps a b n (ts.getD n (0, 0, 0)), h with
      | [], _ => exact List.Pairwise.nil
      | [x], _ => exact List.pairwise_singleton _ _, fun x hx y hy e => by
      have h1 := rayL_lt n x hx
      have h2 := pcAt_tri hy
      omega⟩
theorem rayL_sz (hz : ∀ i, SzP (cor ps i) ≤ 4) (sa : SzP a ≤ 6) (sb : SzP b ≤ 6) (hne : ∀ j, j < ts.length → turnP (cor ps (ts.getD j (0, 0, 0)).1) (cor ps (ts.getD j (0, 0, 0)).2.1) (cor ps (ts.getD j (0, 0, 0)).2.2) ≠ 0) : ∀ n, n ≤ ts.length → ∀ x ∈ rayL ps ts a b n, PcB x
  | 0, _, x, h => by cases h
  | n + 1, hn, x, h => by
    rcases List.mem_append.1 h with h | h
    · exact rayL_sz hz sa sb hne n (by omega) x h
    · unfold pcAt at h
      split at h
      · split at h
        · rcases List.mem_singleton.1 h with rfl
          exact spanV_sz (c := corT ps (ts.getD n (0, 0, 0))) (hne n (by omega)) (Nat.le_trans (hz _) (by decide)) (Nat.le_trans (hz _) (by decide)) (Nat.le_trans (hz _) (by decide)) sa sb
        · cases h
      · cases h
theorem nB_le (n : Nat) (ts : List (Nat × Nat × Nat)) : nB n ts ≤ ts.length := by unfold nB; split <;> omega
theorem srtP_len (l : List Pc) : (srtP l).length = l.length := (srtP_perm l).length_eq
end
theorem retC {S : Nat → Prop} {W w : World} {L : List As} (hw : Own ⟨W, none⟩ w L) (i : Nat) {p : Option Addr} {T : TypeId} {z n c : Nat} {cs : List Value} (hi : L[i]? = some (rowW p T z n c cs)) (ho : OwnOk p n c) (hl : cs.length = n * z) {v : Value} (hv : v = .slice p n n) : GivesR (RX cs n) S W (.returned v) w := by
  have hb := hw.newRow hi
  refine ⟨⟨p, n, ⟨fun e => ⟨(ho.nil e).1, (ho.nil e).1⟩, fun a e => by rw [ho.at0 a e], Nat.le_refl _⟩⟩, by rw [hv]; rfl, hw.out, fun y hy => ?_⟩
  rcases List.mem_singleton.1 hy with rfl
  refine ⟨fun d e => ?_, fun d e => .inl (hb d e)⟩
  obtain ⟨_, o, ho2, hp⟩ := hw.2.1 _ (List.mem_of_getElem? hi) d e
  exact ⟨o, ho2, lies_of_rowW ho hl hp⟩
end
section
set_option maxRecDepth 100000
theorem filx_numtl_59_0N_1fracL_2fracL (x0 : Nat) (x1 : Rat) (x2 : Rat) : Instr.fill ([(0, 1), (1, 5), (6, 5)].toArray[·]?) ([(vI 0)] ++ fracL (0 : Rat) ++ fracL (0 : Rat)).toArray [(0, vN x0), (1, .agg (fracL x1).toArray), (2, .agg (fracL x2).toArray)] = some ([(vN x0)] ++ fracL x1 ++ fracL x2).toArray := by kernel_rfl
theorem tfs_numtl_59_1 (x0 : Pc) : Instr.fill (fun i => some (i * 11, 11)) ((Array.range (1 * 11)).map ((Value.agg ([(vI 0)] ++ fracL (0 : Rat) ++ fracL (0 : Rat)).toArray).cells[· % (Value.agg ([(vI 0)] ++ fracL (0 : Rat) ++ fracL (0 : Rat)).toArray).cells.size]!)) [(0, .agg (pcL x0).toArray)] = some (pcL x0).toArray := by kernel_rfl
set_option maxHeartbeats 2000000 in
theorem Ray_ok {ps : List Pt} {ts ss : List (Nat × Nat × Nat)} (x : MX ps ts ss) (hl : ts.length ≤ 1000) (a b : Pt) (hz : ∀ i, SzP (cor ps i) ≤ 4) (sa : SzP a ≤ 6) (sb : SzP b ≤ 6) (hab : ¬ a = b) (hne : ∀ j, j < ts.length → turnP (cor ps (ts.getD j (0, 0, 0)).1) (cor ps (ts.getD j (0, 0, 0)).2.1) (cor ps (ts.getD j (0, 0, 0)).2.2) ≠ 0)  (w : World) {S : Nat → Prop} (hx : Ro S w x) : Calls Tryz.prog 6 #[(aG (mxL x)), (aG (ptL a)), (aG (ptL b))] w (GivesR (RX (rowsL pcL (rayS ps ts a b (nB ps.length ts))) (rayS ps ts a b (nB ps.length ts)).length) S w) := by
 have lx := atA (W := w) hx
 refine calls_ofM' (args := [(aG (mxL x)), (aG (ptL a)), (aG (ptL b))]) (L := [rowR x.a.p (rowsL ptL ps), rowR x.b.p (rowsL t3L ts), rowR x.c.p (rowsL t3L ss)]) Tryz.func6 rfl rfl (leB rfl) (sxA hx roL_nil) (OkI.subF (sC 0 rfl (sC 1 rfl (sC 2 rfl (sN)))) (OkI.seq (OkI.region (fun _ _ h => by obtain ⟨_, h, _⟩ := h; cases h) rfl (bx (cs := mxL x) rfl rfl rfl fun b1 => bx (cs := ptL a) rfl rfl rfl fun b2 => ?_))))
 refine bx (cs := ptL b) rfl rfl rfl fun b3 => asg rfl rfl (OkL.nil (OkQ.subF (sC 3 rfl (sC 4 rfl (sC 5 rfl (sC 6 rfl (sN))))) (OkQ.then_I (OkI.seq ?_))))
 refine OkI.region (fun _ _ h => by obtain ⟨_, h, _⟩ := h; cases h) rfl (al tZ51 rfl fun b4 => OkL.nilRow 59 11 (OkL.nil (OkQ.then_I (OkI.seq ?_))))
 refine OkI.seq (OkI.region (fun _ _ h => by obtain ⟨_, h, _⟩ := h; cases h) rfl (ldW 3 tA49 rfl rfl rfl rfl (ldW 2 tA49 rfl rfl rfl rfl (st (ex_eql_agg (c := decide (a = b)) rfl rfl Tryz.eqGuardType49 (eqB_pt 9994 a b)) (leB rfl) (OkL.nil ?_)))))
 refine OkQ.subF (sC 3 rfl (sC 4 rfl (sC 5 rfl (sC 6 rfl (sC 7 rfl (sC 18 rfl (sN))))))) (OkQ.then_I ?_)
 refine OkI.cond rfl (fun hc0 => ?_) (fun hc0 => ?_)
 ·replace hc0 := of_decide_eq_true hc0
  exact absurd hc0 hab
 ·replace hc0 := of_decide_eq_false hc0
  refine OkI.skip (OkQ.then_I (OkI.seq (OkI.region (fun _ _ h => by obtain ⟨_, h, _⟩ := h; cases h) rfl (cl Tryz.call8 (fun w hw => fOf_ok (1 : Int) (2 : Int) (by omega) (by omega) (by omega) (by omega) (by omega) w) rfl rfl rfl (mv rfl rfl ?_)))))
  refine st (ex_extract (v := (aG (fracL (((1 : Int) : Rat) / ((2 : Int) : Rat))))) rfl rfl) (leB rfl) (st (ex_extract (v := (vI 0)) rfl rfl) (leB rfl) (al tZ47 rfl fun b5 => stW0 rfl rfl rfl Tryz.sizeOf47 rfl rfl (asg rfl rfl (OkL.nil ?_))))
  refine OkQ.subF (sC 3 rfl (sC 4 rfl (sC 5 rfl (sC 6 rfl (sC 7 rfl (sC 8 rfl (sN))))))) (OkQ.then_I (OkI.seq (OkI.seq (OkI.region (fun _ _ h => by obtain ⟨_, h, _⟩ := h; cases h) rfl (ldW 5 tA37 rfl rfl rfl rfl ?_)))))
  refine OkL.callR (S := S) (α := CX 48 (mxL x)) (args := [(aG (mxL x))]) Tryz.call20 (fun w hw => all_ok x w (inS hw 6 rfl lx)) rfl rfl rfl fun fa lfa => OkL.nil (OkQ.subF (sC 4 rfl (sC 5 rfl (sC 6 rfl (sC 7 rfl (sC 8 rfl (sC 24 rfl (sN))))))) (OkQ.then_I (OkI.block (OkI.subF (F' := [(24, (Value.func (.func 48) #[] #[(pP fa.b 0)])), (4, (pP b2 0)), (5, (pP b3 0)), (6, (Value.slice none 0 0)), (7, (pP b4 0)), (8, (pP b5 0))]) (sF rfl) ?_))))
  refine OkI.rangeFunc (σ := Option Addr × Nat) rfl Tryz.call48 rfl rfl ((nB ps.length ts)) (fun t => (vN t)) (fun t => (aG (cnL (corT ps (ts.getD t (0, 0, 0)))))) (fun t s => RayI (rayL ps ts a b t) s) (fun t s => False) (fun t s => [rowR (some ⟨fa.b, 0, none⟩) (mxL x), blk b5 47 (fracL (((1 : Int) : Rat) / ((2 : Int) : Rat))), rowW s.1 59 11 ((rayL ps ts a b t).length) s.2 (rowsL pcL (rayL ps ts a b t)), blk b4 51 ([(Value.slice s.1 ((rayL ps ts a b t).length) s.2)]), blk b3 49 (ptL b), blk b2 49 (ptL a), blk b1 37 (mxL x), rowR x.a.p (rowsL ptL ps), rowR x.b.p (rowsL t3L ts), rowR x.c.p (rowsL t3L ss)]) (fun t s => []) (none, 0) sr ⟨OwnOk.none, fun _ => rfl⟩ (fun l J X W hJ hL h0 => all1_ok x (by omega) fa.bx l J X hL (fun t W h => by obtain ⟨s, _, hw⟩ := hJ t W h; exact ⟨Ro.top (inS hw 0 rfl lfa : Ro _ _ fa), Ro.top (inS hw 7 rfl lx)⟩) W h0) (fun l la1 la2 da t s ht hP K hK => ?_) (fun la D s hP => ?_) (fun la D t s hP => ?_)
  ·skip
   obtain ⟨hnb, hti⟩ := nB_lt ht
   have hrl := rayL_len (ps := ps) (ts := ts) (a := a) (b := b) t
   obtain ⟨sv, hsv⟩ : ∃ s, s = spanV (corT ps (ts.getD t (0, 0, 0))) a b := ⟨_, rfl⟩
   have hsz : Sz sv.1 ≤ 400 ∧ Sz sv.2.1 ≤ 400 := by rw [hsv]; exact spanV_sz (c := corT ps (ts.getD t (0, 0, 0))) (hne t hti) (Nat.le_trans (hz _) (by decide)) (Nat.le_trans (hz _) (by decide)) (Nat.le_trans (hz _) (by decide)) sa sb
   have hhf : Sz (((1 : Int) : Rat) / ((2 : Int) : Rat)) ≤ 2 := by decide +kernel
   obtain ⟨z1, z2⟩ := hsz
   refine OkI.subF (F' := [(26, (aG (cnL (corT ps (ts.getD t (0, 0, 0)))))), (25, (vN t)), (24, (Value.func (.func 48) #[] #[(pP fa.b 0)])), (4, (pP b2 0)), (5, (pP b3 0)), (6, (Value.slice none 0 0)), (7, (pP b4 0)), (8, (pP b5 0))]) (sF rfl) (OkI.subL (L' := [la1, da, rowR (some ⟨fa.b, 0, none⟩) (mxL x), blk b5 47 (fracL (((1 : Int) : Rat) / ((2 : Int) : Rat))), rowW s.1 59 11 ((rayL ps ts a b t).length) s.2 (rowsL pcL (rayL ps ts a b t)), blk b4 51 ([(Value.slice s.1 ((rayL ps ts a b t).length) s.2)]), blk b3 49 (ptL b), blk b2 49 (ptL a), blk b1 37 (mxL x), rowR x.a.p (rowsL ptL ps), rowR x.b.p (rowsL t3L ts), rowR x.c.p (rowsL t3L ss)]) (List.Sublist.refl _) (OkI.seq (OkI.region (fun _ _ h => h) rfl (asg rfl rfl (OkL.nil ?_)))))
   refine OkQ.then_I (OkI.region (fun _ _ h => h) rfl (al tZ81 rfl fun b6 => stW0 rfl rfl rfl Tryz.sizeOf81 rfl rfl (OkL.nil ?_)))
   refine OkQ.thenI (hK 1 _ _ rfl ?_)
   refine OkI.subL (L' := [blk b6 81 (cnL (corT ps (ts.getD t (0, 0, 0)))), la2, da, rowR (some ⟨fa.b, 0, none⟩) (mxL x), blk b5 47 (fracL (((1 : Int) : Rat) / ((2 : Int) : Rat))), rowW s.1 59 11 ((rayL ps ts a b t).length) s.2 (rowsL pcL (rayL ps ts a b t)), blk b4 51 ([(Value.slice s.1 ((rayL ps ts a b t).length) s.2)]), blk b3 49 (ptL b), blk b2 49 (ptL a), blk b1 37 (mxL x), rowR x.a.p (rowsL ptL ps), rowR x.b.p (rowsL t3L ts), rowR x.c.p (rowsL t3L ss)]) (List.Sublist.refl _) (OkI.block (OkI.seq (OkI.region (fun _ _ h => h) rfl (ldW 0 tA81 rfl rfl rfl rfl (ldW 8 tA49 rfl rfl rfl rfl ?_)))))
   refine ldW 7 tA49 rfl rfl rfl rfl (cl (args := [(aG (cnL (corT ps (ts.getD t (0, 0, 0))))), (aG (ptL a)), (aG (ptL b))]) (v := (Value.tuple #[(aG (fracL sv.1)), (aG (fracL sv.2.1)), (Value.bool sv.2.2)])) Tryz.call21 (fun w hw => (by rw [hsv]; exact (spanU_ok (cor ps (ts.getD t (0, 0, 0)).1) (cor ps (ts.getD t (0, 0, 0)).2.1) (cor ps (ts.getD t (0, 0, 0)).2.2) a b (by have := hz (ts.getD t (0, 0, 0)).1; omega) (by have := hz (ts.getD t (0, 0, 0)).2.1; omega) (by have := hz (ts.getD t (0, 0, 0)).2.2; omega) sa sb (hne t hti) w))) rfl rfl rfl (mv rfl rfl (st (ex_extract (v := (aG (fracL sv.1))) rfl rfl) (leB rfl) (st (ex_extract (v := (aG (fracL sv.2.1))) rfl rfl) (leB rfl) (st (ex_extract (v := (Value.bool sv.2.2)) rfl rfl) (leB rfl) ?_)))))
   refine al tZ47 rfl fun b7 => al tZ47 rfl fun b8 => stW1 rfl rfl rfl Tryz.sizeOf47 rfl rfl (stW0 rfl rfl rfl Tryz.sizeOf47 rfl rfl (asg rfl rfl (OkL.nil ?_)))
   refine OkQ.then_I (OkI.seq (OkI.seq (OkI.region (fun _ _ h => h) rfl (mv rfl rfl (st (ex_not (c := (!sv.2.2)) rfl rfl) (leB rfl) ?_)))))
   refine OkL.nil (OkQ.then_I ?_)
   refine OkI.cond rfl (fun hc1 => ?_) (fun hc1 => ?_)
   ·simp only [Bool.and_eq_true, Bool.or_eq_true, Bool.and_eq_false_iff, Bool.or_eq_false_iff, Bool.not_eq_true', Bool.not_eq_false', decide_eq_true_eq, decide_eq_false_iff_not] at hc1
    replace hc1 : sv.2.2 = false := by simpa using hc1
    have e := rayL_out hsv hc1
    refine OkI.exit (OkQ.then_exit (OkQ.in_exit ?_))
    rw [← e]
    exact OkQ.rdN s (by show RayI (rayL ps ts a b (t + 1)) s; rw [e]; exact hP) (sl (sl (sl sr)))
   ·simp only [Bool.and_eq_true, Bool.or_eq_true, Bool.and_eq_false_iff, Bool.or_eq_false_iff, Bool.not_eq_true', Bool.not_eq_false', decide_eq_true_eq, decide_eq_false_iff_not] at hc1
    replace hc1 : sv.2.2 = true := by simpa using hc1
    refine OkI.skip (OkQ.then_I (OkI.seq (iN [(0, true), (1, true), (2, true), (4, true), (5, true), (6, true), (3, false), (7, false), (8, false), (9, false), (10, false)] [⟨11, 15, 49, ptL (⟨0, 0⟩ : Pt)⟩] [(12, false)] sr (by kernel_rfl) (fun _ _ d _ _ h => by cases d <;> exact h) (newC rfl rfl tZ49 rfl (newN)) rfl (fun _ _ h => h) rfl (uW 10 tA49 rfl rfl rfl rfl rfl rfl (uW 9 tA49 rfl rfl rfl rfl rfl rfl ?_)))))
    refine uW 10 tA49 rfl rfl rfl rfl rfl rfl (uW 6 tA47 rfl rfl rfl rfl rfl rfl (uW 1 tA47 rfl rfl rfl rfl rfl rfl (uW 0 tA47 rfl rfl rfl rfl rfl rfl (OkN.imp rfl fun EF EL => ?_))))
    have hz1 := SzP_sub b a
    refine cl Tryz.call13 (fun w hw => pSub_ok b a (by omega) w) rfl rfl rfl (OkN.back0 sr rfl (OkN.imp rfl fun EF EL => ?_))
    have hz2 := Sz_add sv.1 sv.2.1
    refine cl Tryz.call15 (fun w hw => fAdd_ok sv.1 sv.2.1 (by (try simp only [Sz_neg]); omega) w) rfl rfl rfl (OkN.back0 sr rfl (OkN.imp rfl fun EF EL => ?_))
    have hz3 := Sz_mul (((1 : Int) : Rat) / ((2 : Int) : Rat)) (sv.1 + sv.2.1)
    refine cl Tryz.call14 (fun w hw => fMul_ok (((1 : Int) : Rat) / ((2 : Int) : Rat)) (sv.1 + sv.2.1) (by (try simp only [Sz_neg]); omega) w) rfl rfl rfl (OkN.back0 sr rfl (OkN.imp rfl fun EF EL => ?_))
    have hz4 := SzP_scale (b - a) ((((1 : Int) : Rat) / ((2 : Int) : Rat)) * (sv.1 + sv.2.1))
    refine cl Tryz.call12 (fun w hw => pScale_ok (b - a) ((((1 : Int) : Rat) / ((2 : Int) : Rat)) * (sv.1 + sv.2.1)) (by omega) w) rfl rfl rfl (OkN.back0 sr rfl (OkN.imp rfl fun EF EL => ?_))
    have hz5 := SzP_add a (scaleP (b - a) ((((1 : Int) : Rat) / ((2 : Int) : Rat)) * (sv.1 + sv.2.1)))
    refine cl Tryz.call11 (fun w hw => pAdd_ok a (scaleP (b - a) ((((1 : Int) : Rat) / ((2 : Int) : Rat)) * (sv.1 + sv.2.1))) (by omega) w) rfl rfl rfl (OkN.back0 sr rfl (OkN.news1 fun b9 => OkE.imp rfl (stW0 rfl rfl rfl Tryz.sizeOf49 rfl rfl (OkE.back (sl sr) ?_))))
    refine OkE.nil (OkQ.then_I (OkI.seq (OkI.region (fun _ _ h => h) rfl (st (v := (pP b6 0)) (ex_indexAddr_array (j := 0) rfl rfl Tryz.underlying81 Tryz.sizeOf49 rfl (by decide) rfl) (leB rfl) (ldA 3 (ptL ((corT ps (ts.getD t (0, 0, 0))).1)) tA49 rfl rfl rfl rfl rfl ?_)))))
    refine st (v := (pP b6 10)) (ex_indexAddr_array (j := 1) rfl rfl Tryz.underlying81 Tryz.sizeOf49 rfl (by decide) rfl) (leB rfl) (ldA 3 (ptL ((corT ps (ts.getD t (0, 0, 0))).2.1)) tA49 rfl rfl rfl rfl rfl (st (v := (pP b6 20)) (ex_indexAddr_array (j := 2) rfl rfl Tryz.underlying81 Tryz.sizeOf49 rfl (by decide) rfl) (leB rfl) (ldA 3 (ptL ((corT ps (ts.getD t (0, 0, 0))).2.2)) tA49 rfl rfl rfl rfl rfl (ldW 0 tA49 rfl rfl rfl rfl (cl Tryz.call22 (fun w hw => WhereV_ok (cor ps (ts.getD t (0, 0, 0)).1) (cor ps (ts.getD t (0, 0, 0)).2.1) (cor ps (ts.getD t (0, 0, 0)).2.2) (midR a b sv.1 sv.2.1) (by have z1 := hz (ts.getD t (0, 0, 0)).1; have z2 := hz (ts.getD t (0, 0, 0)).2.1; have z3 := hz (ts.getD t (0, 0, 0)).2.2; unfold midR; omega) w) rfl rfl rfl ?_)))))
    refine st (ex_eql (c := (decide ((whereT ps (midR a b sv.1 sv.2.1) (ts.getD t (0, 0, 0))) = 1))) rfl rfl (eqN (a := whereT ps (midR a b sv.1 sv.2.1) (ts.getD t (0, 0, 0))) (b := 1))) (leB rfl) (OkL.nil (OkQ.then_I ?_))
    refine OkI.cond rfl (fun hc2 => ?_) (fun hc2 => ?_)
    ·replace hc2 := of_decide_eq_true hc2
     have e := rayL_in hsv hc1 hc2
     refine OkI.region (fun _ _ h => h) rfl (ldO 9 (Value.slice s.1 ((rayL ps ts a b t).length) s.2) tO51 rfl rfl rfl rfl (mv rfl rfl (ldW 2 tA47 rfl rfl rfl rfl (ldW 1 tA47 rfl rfl rfl rfl (st (v := (aG ([(vN t)] ++ fracL sv.1 ++ fracL sv.2.1))) (ex_build_struct (zs := [(vI 0)] ++ fracL (0 : Rat) ++ fracL (0 : Rat)) (vs := [(vN t)] ++ fracL sv.1 ++ fracL sv.2.1) (pv := [(0, (vN t)), (1, (aG (fracL sv.1))), (2, (aG (fracL sv.2.1)))]) (places := [(0, 1), (1, 5), (6, 5)]) Tryz.zeroValue59 Tryz.underlying59 (fun w => by simp [Tryz.sizeOf3, Tryz.sizeOf47]) rfl (filx_numtl_59_0N_1fracL_2fracL t sv.1 sv.2.1)) (leB rfl) ?_)))))
     refine OkL.openV (V := fun b10 => (Value.slice (some ⟨b10, 0, none⟩) 1 1)) (T := 59) (cs := pcL (⟨t, sv.1, sv.2.1⟩ : Pc)) (wt_none rfl) (op_buildSlice (z := .agg ([(vI 0)] ++ fracL (0 : Rat) ++ fracL (0 : Rat)).toArray) (cs := pcL (⟨t, sv.1, sv.2.1⟩ : Pc)) (pv := [(0, (aG ([(vN t)] ++ fracL sv.1 ++ fracL sv.2.1)))]) Tryz.underlying51 Tryz.sizeOf59 Tryz.zeroValue59 (by decide) (by decide) rfl (tfs_numtl_59_1 (⟨t, sv.1, sv.2.1⟩ : Pc))) rfl (leB rfl) fun b10 => OkL.appendAt 9 (j := 0) (cs2 := rowsL pcL ((rayL ps ts a b t) ++ [(⟨t, sv.1, sv.2.1⟩ : Pc)])) tE51 rfl hP.1 (rowsL_length pcL_len _) rfl rfl rfl rfl rfl (by decide) (mxl (by omega)) (by omega) (by rw [rowsL_append]; rfl) rfl fun p_1 c_1 ho_1 hne_1 => OkL.store' (i := 10) (off := 0) (vs := [(Value.slice p_1 (((rayL ps ts a b t).length) + 1) c_1)]) (cs' := [(Value.slice p_1 (((rayL ps ts a b t).length) + 1) c_1)]) (L' := [blk b10 59 (pcL (⟨t, sv.1, sv.2.1⟩ : Pc)), blk b9 49 (ptL (a + (scaleP (b - a) ((((1 : Int) : Rat) / ((2 : Int) : Rat)) * (sv.1 + sv.2.1))))), blk b8 47 (fracL sv.2.1), blk b7 47 (fracL sv.1), blk b6 81 (cnL (corT ps (ts.getD t (0, 0, 0)))), la2, da, rowR (some ⟨fa.b, 0, none⟩) (mxL x), blk b5 47 (fracL (((1 : Int) : Rat) / ((2 : Int) : Rat))), rowW p_1 59 11 (((rayL ps ts a b t).length) + 1) c_1 (rowsL pcL ((rayL ps ts a b t) ++ [(⟨t, sv.1, sv.2.1⟩ : Pc)])), blk b4 51 ([(Value.slice p_1 (((rayL ps ts a b t).length) + 1) c_1)]), blk b3 49 (ptL b), blk b2 49 (ptL a), blk b1 37 (mxL x), rowR x.a.p (rowsL ptL ps), rowR x.b.p (rowsL t3L ts), rowR x.c.p (rowsL t3L ss)]) (wt_none rfl) rfl rfl rfl rfl rfl Tryz.sizeOf51 rfl rfl rfl rfl (OkL.nil (OkQ.in_normal ?_))
     rw [show (rayL ps ts a b t).length + 1 = (rayL ps ts a b t ++ [(⟨t, sv.1, sv.2.1⟩ : Pc)]).length by simp, ← e]
     exact OkQ.rdN (p_1, c_1) (RayI.more e ho_1) (sl (sl (sl (sl (sl sr)))))
    ·replace hc2 := of_decide_eq_false hc2
     have e := rayL_off hsv hc1 hc2
     refine OkI.skip (OkQ.in_normal ?_)
     rw [← e]
     exact OkQ.rdN s (by show RayI (rayL ps ts a b (t + 1)) s; rw [e]; exact hP) (sl (sl (sl (sl sr))))
  ·skip
   refine OkD.behind ?_
   have hnl := nB_le ps.length ts
   have hrl := rayL_len (ps := ps) (ts := ts) (a := a) (b := b) (nB ps.length ts)
   have hpb := rayL_sz (ts := ts) hz sa sb hne (nB ps.length ts) hnl
   refine OkD.subF (F' := [(24, (Value.func (.func 48) #[] #[(pP fa.b 0)])), (4, (pP b2 0)), (5, (pP b3 0)), (6, (Value.slice none 0 0)), (7, (pP b4 0)), (8, (pP b5 0))]) (sF rfl) (OkD.seq (OkD.region (fun _ _ h => by obtain ⟨_, h, _⟩ := h; cases h) rfl (ldO 5 (Value.slice s.1 ((rayL ps ts a b (nB ps.length ts)).length) s.2) tO51 rfl rfl rfl rfl (OkL.callW 4 (cs' := rowsL pcL (srtP (rayL ps ts a b (nB ps.length ts)))) (v := (Value.tuple #[])) (wt_none rfl) (op_call0 (args := [(Value.slice s.1 ((rayL ps ts a b (nB ps.length ts)).length) s.2), (Value.func (.func 24) #[] #[])]) rfl rfl Tryz.call23) rfl (fun w hw => sortP_ok _ _ _ _ 59 hP.1 rfl (by omega) hpb (rayL_dif _) w (hw.holds (i := 4) rfl)) (fun d hd => by cases hd <;> exact (leB rfl)) (OkL.nil ?_)))))
   refine OkQ.subF (sC 24 rfl (sC 4 rfl (sC 5 rfl (sC 6 rfl (sC 7 rfl (sC 8 rfl (sN))))))) (OkQ.then_D (OkD.seq (OkD.region (fun _ _ h => by obtain ⟨_, h, _⟩ := h; cases h) rfl (ldO 5 (Value.slice s.1 ((rayL ps ts a b (nB ps.length ts)).length) s.2) tO51 rfl rfl rfl rfl (cl Tryz.call27 (fun w hw => clip_ok s.1 _ s.2 hP.1.le w) rfl rfl rfl ?_)))))
   exact asg rfl rfl (OkL.nil (OkQ.subF (sC 24 rfl (sC 4 rfl (sC 5 rfl (sC 6 rfl (sC 7 rfl (sC 8 rfl (sN))))))) (OkQ.then_D (OkD.ret (retD 1 rfl (ret_one rfl (rd_tmp (v := (Value.slice s.1 ((rayL ps ts a b (nB ps.length ts)).length) ((rayL ps ts a b (nB ps.length ts)).length))) rfl) (fun w hw => (by rw [show (rayS ps ts a b (nB ps.length ts)).length = (rayL ps ts a b (nB ps.length ts)).length from srtP_len _]; exact retC hw 4 rfl hP.1 (by rw [rowsL_length pcL_len, srtP_len]) rfl))))))))
  ·exact hP.elim
theorem RayP_ok {ps : List Pt} {ts ss : List (Nat × Nat × Nat)} (x : MX ps ts ss) (a : Pt) (w : World) {S : Nat → Prop} (hx : Ro S w x) : Calls Tryz.prog 6 #[(aG (mxL x)), (aG (ptL a)), (aG (ptL a))] w (Gives w (Value.slice none 0 0)) := by
 have lx := atA (W := w) hx
 refine calls_ofR (args := [(aG (mxL x)), (aG (ptL a)), (aG (ptL a))]) (L := [rowR x.a.p (rowsL ptL ps), rowR x.b.p (rowsL t3L ts), rowR x.c.p (rowsL t3L ss)]) Tryz.func6 rfl rfl (leB rfl) (sxA hx roL_nil) (OkC.subF (sC 0 rfl (sC 1 rfl (sC 2 rfl (sN)))) (q4 (bx (cs := mxL x) rfl rfl rfl fun b1 => bx (cs := ptL a) rfl rfl rfl fun b2 => bx (cs := ptL a) rfl rfl rfl fun b3 => ?_)))
 refine asg rfl rfl (q3 (sC 3 rfl (sC 4 rfl (sC 5 rfl (sC 6 rfl (sN))))) (al tZ51 rfl fun b4 => OkL.nil (q1 (q4 ?_))))
 refine ldW 2 tA49 rfl rfl rfl rfl (ldW 1 tA49 rfl rfl rfl rfl (st (ex_eql_agg (c := decide (a = a)) rfl rfl Tryz.eqGuardType49 (eqB_pt 9994 a a)) (leB rfl) (OkL.nil (OkQ.subF (sC 3 rfl (sC 4 rfl (sC 5 rfl (sC 6 rfl (sC 7 rfl (sC 18 rfl (sN))))))) (OkQ.then_ ?_)))))
 refine OkC.cond rfl (fun hc0 => ?_) (fun hc0 => ?_)
 ·replace hc0 := of_decide_eq_true hc0
  exact q4 (asg rfl rfl (OkL.nil (OkQ.then_ (OkC.ret (OkQ.then_ret (ret_one rfl (rd_tmp (v := (Value.slice none 0 0)) rfl) (fun w hw => ⟨rfl, hw.out⟩)))))))
 ·replace hc0 := of_decide_eq_false hc0
  exact absurd rfl hc0
end
section
theorem nnS {q : Rat} (h : 0 ≤ q) : ¬ q.num.sign < 0 := fun k => by
  have e : q.num.sign = -1 := by rcases sgn_three q.num with e | e | e <;> omega
  rw [sgn_neg1] at e
  grind
theorem at_ok {k : Nat} (h : k < 256) : 0 ≤ (((k : Nat) : Int) : Rat) / (((255 : Int)) : Rat) ∧ (((k : Nat) : Int) : Rat) / (((255 : Int)) : Rat) ≤ 1 := by
  have h0 : (0 : Rat) ≤ (((k : Nat) : Int) : Rat) := by exact_mod_cast (show (0 : Int) ≤ ((k : Nat) : Int) by omega)
  have h1 : (((k : Nat) : Int) : Rat) ≤ ((255 : Int) : Rat) := Rat.intCast_le_intCast.2 (by omega)
  have e255 : ((255 : Int) : Rat) = 255 := rfl
  rw [e255] at h1 ⊢
  have e : (((k : Nat) : Int) : Rat) / 255 * 255 = (((k : Nat) : Int) : Rat) := Rat.div_mul_cancel (by decide)
  generalize (((k : Nat) : Int) : Rat) / 255 = q at *
  rw [← e] at h0 h1
  constructor <;> grind
theorem revP_sz {p : Pc} (h : PcB p) : Sz (revP p).lo ≤ 410 ∧ Sz (revP p).hi ≤ 410 := by
  have h1 : Sz (1 : Rat) ≤ 2 := by decide +kernel
  have h2 := Sz_sub 1 p.hi
  have h3 := Sz_sub 1 p.lo
  have h4 := h.1
  have h5 := h.2
  exact ⟨by show Sz (1 - p.hi) ≤ 410; omega, by show Sz (1 - p.lo) ≤ 410; omega⟩
theorem ptS_half (a b : Pt) (f t : Rat) : a + scaleP (b - a) ((1 / 2 : Rat) * (f + t)) = ptS a b ((f + t) * (1 / 2)) := by
  unfold ptS
  rw [show (1 / 2 : Rat) * (f + t) = (f + t) * (1 / 2) by grind]
def tstB (p : Pc) (t : Int) (s : Rat) : Bool := decide ((p.tri : Int) = t) && (decide (cmpQ p.lo s ≤ 0) && decide (cmpQ s p.hi ≤ 0))
def fndB (l : List Pc) (t : Int) (s : Rat) (i : Nat) : Bool := (l.take i).any fun p => tstB p t s
section
variable {l : List Pc} {t : Int} {s : Rat} {i : Nat}
theorem fnd_succ (h : i < l.length) : fndB l t s (i + 1) = (fndB l t s i || tstB (l.getD i (⟨0, 0, 0⟩ : Pc)) t s) := by
  unfold fndB
  rw [List.take_add_one, List.getElem?_eq_getElem h, List.any_append, List.getD, List.getElem?_eq_getElem h]
  simp
theorem fnd_t (h : i < l.length) (k : true = fndB l t s i) : true = fndB l t s (i + 1) := by rw [fnd_succ h, ← k]; rfl
theorem fnd_f (h : i < l.length) (k : false = fndB l t s i) {c : Bool} (hc : tstB (l.getD i (⟨0, 0, 0⟩ : Pc)) t s = c) : c = fndB l t s (i + 1) := by rw [fnd_succ h, ← k, hc]; rfl
theorem tst_1 {p : Pc} (h : ¬ (p.tri : Int) = t) : tstB p t s = false := by rw [tstB, decide_eq_false h]; rfl
theorem tst_2 {p : Pc} (h : ¬ cmpQ p.lo s ≤ 0) : tstB p t s = false := by rw [tstB, decide_eq_false h, Bool.false_and, Bool.and_false]
theorem tst_3 {p : Pc} (h1 : (p.tri : Int) = t) (h2 : cmpQ p.lo s ≤ 0) {c : Bool} (h3 : decide (cmpQ s p.hi ≤ 0) = c) : tstB p t s = c := by rw [tstB, decide_eq_true h1, decide_eq_true h2, h3]; rfl
theorem fnd_all (h : ∃ p ∈ l, (p.tri : Int) = t ∧ p.lo ≤ s ∧ s ≤ p.hi) : fndB l t s l.length = true := by
  obtain ⟨p, hp, h1, h2, h3⟩ := h
  unfold fndB
  rw [List.take_length]
  exact List.any_eq_true.2 ⟨p, hp, tst_3 h1 (cmpQ_le h2) (decide_eq_true (cmpQ_le h3))⟩
end
section
variable {ps : List Pt} {ts : List (Nat × Nat × Nat)} {a b : Pt}
theorem rayS_sz (g : GoodM ps ts) (sa : SzP a ≤ 4) (sb : SzP b ≤ 4) {i : Nat} (hi : i < (rayS ps ts a b ts.length).length) (d : Pc) : PcB ((rayS ps ts a b ts.length).getD i d) := by
  rw [List.getD, List.getElem?_eq_getElem hi]
  exact rayL_sz (ts := ts) g.sz (Nat.le_trans sa (by decide)) (Nat.le_trans sb (by decide)) (fun j hj => pos_ne (g.tri j hj).pos) ts.length (Nat.le_refl _) _ ((srtP_perm _).mem_iff.1 (List.getElem_mem hi))
end
end
end Go.Proofs.YtndjhnbnegfijaaGreatDoor
