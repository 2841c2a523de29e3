import Derived.Shelf.SlSortCmp.Whole1
import Derived.Test.YtgiacpkjnikjdaaGreatPart29
import Derived.Test.YtgiacpkjnikjdaaGreatPart31
import Derived.Test.YtgiacpkjnikjdaaGreatPart32
import Derived.Test.YtgiacpkjnikjdaaGreatPart33
import Derived.Test.YtgiacpkjnikjdaaGreatPart35
import Derived.Test.YtgiacpkjnikjdaaGreatPart36
import Derived.Test.YtgiacpkjnikjdaaGreatPart38
namespace Go.Proofs.YtgiacpkjnikjdaaGreat
open Go Go.RowKit
set_option linter.unusedVariables false
set_option linter.unusedSimpArgs false
section
structure RI where
  l : List Nat
  p : Option Addr
  c : Nat
  ok : RowOk p l.length c
  sm : l.length ≤ 10000000
instance : Inhabited RI := ⟨⟨[], none, 0, OwnOk.none.row, by decide⟩⟩
def riV (x : RI) : Value := .slice x.p x.l.length x.c
def riR (x : RI) : As := rowR x.p (inL x.l)
def riT (rs : List RI) : List As := rs.map riR
def rvL (rs : List RI) : List Value := rs.map riV
def riX (x : RI) : RX (inL x.l) x.l.length := ⟨x.p, x.c, x.ok⟩
theorem rvL_length (rs : List RI) : (rvL rs).length = rs.length := by simp [rvL]
theorem rvL_append (a b : List RI) : rvL (a ++ b) = rvL a ++ rvL b := by simp [rvL]
theorem permIn (a : RI) (A : List As) (rs : List RI) : (riR a :: (A ++ riT rs)).Perm (A ++ riT (rs ++ [a])) := by
  have e : A ++ riT (rs ++ [a]) = (A ++ riT rs) ++ [riR a] := by unfold riT; rw [List.map_append, List.append_assoc]; rfl
  rw [e]
  exact (List.perm_append_singleton (riR a) (A ++ riT rs)).symm
theorem permT {A : List As} {rs ys : List RI} (h : ys.Perm rs) : (A ++ riT rs).Perm (A ++ riT ys) := (List.Perm.refl A).append (h.map riR).symm
section
variable {P : Program} {ops : Array Oper} {rest : List Oper} {Q : Exit → Act → World → Prop} {n : Nat} {F : List (Nat × Value)} {w0 : Base} {L L2 : List As}
theorem OkL.permL (hp : L.Perm L2) (next : OkL P ops rest Q n F w0 L2) : OkL P ops rest Q n F w0 L := fun a w ha hW => next a w ha (hW.perm hp)
theorem OkL.callWE {o : Oper} {f : FuncId} {args : Array Value} {v : Value} {α : Type} {K : α → Prop} {cs' : α → List Value} (i : Nat) {q : Option Addr} {T : TypeId} {z m c : Nat} {cs : List Value} (hw : Wt ops n F o)
    (he : ∀ a w, Frm n a F → Own w0 w L → (execOp a.eval o).run P w = .ok (.enter f args) w) (hi : L[i]? = some (rowW q T z m c cs))
    (hc : ∀ w, Own w0 w L → Calls P f args w fun e w' => e = .returned v ∧ Grw w w' (q.map (·.block)) ∧ ∃ y, K y ∧ ∀ b, q.map (·.block) = some b → ∃ o, w'.heap[b]? = some o ∧ (rowW q T z m c (cs' y)).P o)
    (hd : ∀ d, o.dst = some d → d < n) (next : ∀ y, K y → OkL P ops rest Q n (match o.dst with | some d => (d, v) :: F | none => F) w0 (L.set i (rowW q T z m c (cs' y)))) : OkL P ops (o :: rest) Q n F w0 L := fun a w ha hW => by
  unfold wpList
  rw [if_pos (hw a ha)]
  left
  unfold Oper.wp
  rw [he a w ha hW, Oper.upon_enter]
  refine (hc w hW).mono ?_
  rintro e w' ⟨rfl, hg, y, hk, hr⟩
  have hW' := hW.renew hi rfl hg (y := rowW q T z m c (cs' y)) fun b e => ⟨.inl e, hr b e⟩
  have next := next y hk
  cases hdd : o.dst with
  | none => rw [hdd] at next; exact next _ _ ha.put_none hW'
  | some d => rw [hdd] at next; exact next _ _ (ha.put (hd d hdd)) hW'
end
def LeI (x y : RI) : Prop := ¬ cmpL y.l x.l < 0
theorem swoI {α : Type} (f : α → RI) : Go.Sort.SWO (ltOf fun x y : α => cmpL (f x).l (f y).l) where
  irrefl x := decide_eq_false (by show ¬ cmpL (f x).l (f x).l < 0; rw [cmpL_self]; decide)
  trans x y z h1 h2 := decide_eq_true (cmpL_trans _ _ _ (of_decide_eq_true h1) (of_decide_eq_true h2))
  ntrans x y z h1 h2 := by
    have h1 : ¬ cmpL (f x).l (f y).l < 0 := of_decide_eq_false h1
    have h2 : ¬ cmpL (f y).l (f z).l < 0 := of_decide_eq_false h2
    refine decide_eq_false fun (h3 : cmpL (f x).l (f z).l < 0) => ?_
    rcases Int.lt_trichotomy (cmpL (f x).l (f y).l) 0 with h4 | h4 | h4
    · exact h1 h4
    · rw [← cmpL_zero _ _ h4] at h2; exact h2 h3
    · rcases Int.lt_trichotomy (cmpL (f y).l (f z).l) 0 with h5 | h5 | h5
      · exact h2 h5
      · rw [cmpL_zero _ _ h5] at h1; exact h1 h3
      · have e1 := cmpL_swap (f x).l (f y).l
        have e2 := cmpL_swap (f y).l (f z).l
        have e3 := cmpL_swap (f x).l (f z).l
        have := cmpL_trans (f z).l (f y).l (f x).l (by omega) (by omega)
        omega
def GoodI (w : World) (blk : Nat) (x : RI) : Prop := Go.Proofs.YtgiacpkjnikjdaaGreat.Holds w (riR x) ∧ ∀ b, (riR x).foot = some b → blk ≠ b
instance goodInh (w : World) (blk : Nat) : Inhabited {x : RI // GoodI w blk x} := ⟨⟨default, (fun b e => by cases e), (fun b e => by cases e)⟩⟩
theorem sortWorld_old {α : Type} [Inhabited α] {enc : α → Value} {w : World} {blk off m b : Nat} {dk : Array α} {os : Array Obj} {o : Obj} (hb : w.heap[b]? = some o) (hne : blk ≠ b) : (sortWorld enc w blk off m dk os).heap[b]? = some o := by
  have hlt : b < w.heap.size := by
    rcases Nat.lt_or_ge b w.heap.size with h | h
    · exact h
    · rw [Array.getElem?_eq_none h] at hb; cases hb
  unfold sortWorld
  rw [Go.Sort.heap_grow_old _ _ (by simpa [Go.Sort.putRow, Go.Sort.mapBlock, Go.Sort.ahead] using hlt)]
  simp [Go.Sort.putRow, Go.Sort.mapBlock, Go.Sort.ahead, Array.getElem?_modify, hne, hb]
theorem cmpLI (blk off size : Nat) (w : World) : CmpLays1 Tryz.prog 77 #[] (fun x : {x : RI // GoodI w blk x} => riV x.1) (fun x y => cmpL x.1.l y.1.l) blk off size w := fun m os dk _ x y => by
  rw [Array.append_empty]
  have ro : ∀ x : {x : RI // GoodI w blk x}, Ro (fun _ => True) (sortWorld (fun x : {x : RI // GoodI w blk x} => riV x.1) w blk off m dk os) (riX x.1) := fun x y hy => by
    rcases List.mem_singleton.1 hy with rfl
    refine ⟨fun b e => ?_, fun _ _ => trivial⟩
    obtain ⟨o, ho, hp⟩ := x.2.1 b e
    exact ⟨o, sortWorld_old ho (x.2.2 b e), hp⟩
  exact (compare_ok x.1.l y.1.l (riX x.1) (riX y.1) x.1.sm _ (ro x) (ro y)).mono fun e w' h => ⟨h.1, grow_of h.2⟩
theorem pmap_val {α : Type} {p : α → Prop} : ∀ (l : List α) (h : ∀ x ∈ l, p x), (l.pmap Subtype.mk h).map Subtype.val = l
  | [], _ => rfl
  | x :: r, h => by rw [List.pmap_cons, List.map_cons, pmap_val r]
theorem sortL_ok (rs : List RI) (p : Option Addr) (n c : Nat) (T : TypeId) (ho : OwnOk p n c) (hp0 : p ≠ none) (hn : n = rs.length) (hN : n < 4611686018427387904) (w : World) (hrow : ∀ b, p.map (·.block) = some b → ∃ o, w.heap[b]? = some o ∧ (rowW p T 1 n c (rvL rs)).P o)
    (hg : ∀ r ∈ rs, Go.Proofs.YtgiacpkjnikjdaaGreat.Holds w (riR r) ∧ ∀ b, (riR r).foot = some b → p.map (·.block) ≠ some b) :
    Calls Tryz.prog 76 #[.slice p n c, .func (.func 77) #[] #[]] w fun e w' => e = .returned (.tuple #[]) ∧ Grw w w' (p.map (·.block)) ∧ ∃ ys : List RI, (ys.Perm rs ∧ ys.Pairwise LeI) ∧ ∀ b, p.map (·.block) = some b → ∃ o, w'.heap[b]? = some o ∧ (rowW p T 1 n c (rvL ys)).P o := by
  cases hp : p with
  | none => exact absurd hp hp0
  | some a =>
    subst hp
    obtain ⟨o, hob, cur, rfl, hsz, hcur⟩ := hrow a.block rfl
    have hat := ho.at0 a rfl
    have hle := ho.le
    rw [Nat.mul_one] at hsz hcur
    have hg' : ∀ r ∈ rs, GoodI w a.block r := fun r hr => ⟨(hg r hr).1, fun b e h => (hg r hr).2 b e (by rw [← h]; rfl)⟩
    obtain ⟨d, hd⟩ : ∃ d, d = (rs.pmap (Subtype.mk (p := GoodI w a.block)) hg').toArray := ⟨_, rfl⟩
    have hdz : d.size = n := by rw [hd, hn]; simp
    have hdx : d.toList.map Subtype.val = rs := by rw [hd]; exact pmap_val _ _
    have flat : ∀ (d : Array {x : RI // GoodI w a.block x}) j, j < d.size → (rvL (d.toList.map Subtype.val))[j]? = some (riV (d[j]!).1) := fun d j hj => by
      unfold rvL
      rw [List.map_map, List.getElem?_map, Array.getElem?_toList, Array.getElem?_eq_getElem hj, getElem!_pos d j hj]; rfl
    have hH : Go.Sort.Holds (fun x : {x : RI // GoodI w a.block x} => riV x.1) w a.block 0 d := fun j hj => by
      refine ⟨?_, by simp [World.frozen?, hob]⟩
      have h1 : (cur.toList.take n)[j]? = (rvL rs)[j]? := by rw [hcur]
      rw [List.getElem?_take_of_lt (by omega), Array.getElem?_toList, ← hdx, flat d j hj] at h1
      unfold World.cell?
      simp only [hob, Nat.zero_add]
      exact h1
    have hlt : a.block < w.heap.size := by
      rcases Nat.lt_or_ge a.block w.heap.size with h | h
      · exact h
      · rw [Array.getElem?_eq_none h] at hob; cases hob
    have h := Tryz.slices_SortFunc_int (fun x : {x : RI // GoodI w a.block x} => riV x.1) (fun x => rfl) (fun x y => cmpL x.1.l y.1.l) (swoI fun x : {x : RI // GoodI w a.block x} => x.1) 77 #[] a.block 0 c d w Tryz.call77 (cmpLI a.block 0 d.size w) hH hlt (by omega)
    rw [hdz] at h
    rw [hat]
    refine h.mono ?_
    rintro e w' ⟨rfl, d', m, os, ⟨hz', _, hperm⟩, hsort, rfl⟩
    have hz2 : d'.size = n := by rw [hz', hdz]
    have hperm' : d'.toList.Perm d.toList := by
      have e1 : d'.extract 0 n = d' := by rw [← hz2]; exact Array.extract_size
      have e2 : d.extract 0 n = d := by rw [← hdz]; exact Array.extract_size
      rw [e1, e2] at hperm
      exact hperm
    refine ⟨rfl, ⟨⟨rfl, rfl, rfl, by simp [sortWorld, Go.Sort.grow, Go.Sort.putRow, Go.Sort.mapBlock, Go.Sort.ahead], fun j hj hne => ?_⟩, by show w.drawn ≤ w.drawn + m; omega⟩, d'.toList.map Subtype.val, ⟨by rw [← hdx]; exact hperm'.map _, List.pairwise_map.2 (List.pairwise_iff_getElem.2 fun i j hi hj hij => ?_)⟩, fun b e => ?_⟩
    · have hne' : a.block ≠ j := fun e => hne (by rw [e]; rfl)
      rw [Array.getElem?_eq_getElem hj]
      exact sortWorld_old (Array.getElem?_eq_getElem hj) hne'
    · have hi' : i < d'.size := by simpa using hi
      have hj' : j < d'.size := by simpa using hj
      have h9 := of_decide_eq_false (hsort i j (Nat.zero_le _) hij (by omega))
      rw [getElem!_pos d' j hj', getElem!_pos d' i hi'] at h9
      simpa [LeI] using h9
    · injection e with e
      subst e
      refine ⟨.cells (Go.Sort.putCells (fun x : {x : RI // GoodI w a.block x} => riV x.1) 0 d' cur) T (0, 0), ?_, _, rfl, by simp [Go.Sort.putCells, hsz], ?_⟩
      · unfold sortWorld
        rw [Go.Sort.heap_grow_old _ _ (by simpa [Go.Sort.putRow, Go.Sort.mapBlock, Go.Sort.ahead] using hlt)]
        simp [Go.Sort.putRow, Go.Sort.mapBlock, Go.Sort.ahead, Array.getElem?_modify, hob, Go.Sort.onCells]
      · rw [Nat.mul_one]
        apply List.ext_getElem?
        intro j
        have hlen : (rvL (d'.toList.map Subtype.val)).length = n := by rw [rvL_length, List.length_map, Array.length_toList, hz2]
        by_cases hj : j < n
        · rw [List.getElem?_take_of_lt hj, Array.getElem?_toList, flat d' j (by rw [hz2]; exact hj)]
          unfold Go.Sort.putCells
          rw [Array.getElem?_mapIdx, Array.getElem?_eq_getElem (by omega), Option.map_some, if_pos ⟨Nat.zero_le _, by omega⟩]
          rfl
        · rw [List.getElem?_take_eq_none (by omega), List.getElem?_eq_none (by omega)]
theorem tail_good {w0 : Base} {w : World} {A : List As} {rs : List RI} {i : Nat} {p : Option Addr} {T n c : Nat} {cs : List Value} (hw : Own w0 w (A ++ riT rs)) (hi : A[i]? = some (rowW p T 1 n c cs)) : ∀ r ∈ rs, Go.Proofs.YtgiacpkjnikjdaaGreat.Holds w (riR r) ∧ ∀ b, (riR r).foot = some b → p.map (·.block) ≠ some b := fun r hr => by
  have hm : riR r ∈ riT rs := List.mem_map.2 ⟨r, hr, rfl⟩
  have hm2 : riR r ∈ A ++ riT rs := List.mem_append_right _ hm
  refine ⟨fun b e => (hw.2.1 _ hm2 b e).2, fun b e h => ?_⟩
  have h1 := (List.pairwise_append.1 hw.2.2).2.2 _ (List.mem_of_getElem? hi) _ hm
  rcases h1 with ⟨h2, _⟩ | h2
  · cases h2
  · exact h2 b h e
structure LPX (ls : List (List Nat)) where
  rs : List RI
  e : rs.map (·.l) = ls
  q : RX (rvL rs) rs.length
instance {ls : List (List Nat)} : Ref (LPX ls) := ⟨fun x => x.q.val, fun x => x.q.row :: riT x.rs, fun x y hy => by
  rcases List.mem_cons.1 hy with rfl | hy
  · rfl
  · obtain ⟨r, _, rfl⟩ := List.mem_map.1 hy; rfl⟩
theorem retLPX {S : Nat → Prop} {W w : World} {A : List As} {rs : List RI} {ls : List (List Nat)} (hw : Own ⟨W, none⟩ w (A ++ riT rs)) (i : Nat) {p : Option Addr} {T n c : Nat} (hi : A[i]? = some (rowW p T 1 n c (rvL rs))) (ho : OwnOk p n c) (hn : n = rs.length) (he : rs.map (·.l) = ls) (hat : ∀ r ∈ rs, ∀ b, (riR r).foot = some b → Nw ⟨W, none⟩ S b) {v : Value} (hv : v = .slice p n n) : GivesR (LPX ls) S W (.returned v) w := by
  subst hn
  have hi' : (A ++ riT rs)[i]? = some (rowW p T 1 rs.length c (rvL rs)) := by
    rw [List.getElem?_append_left (List.getElem?_eq_some_iff.1 hi).1]; exact hi
  refine ⟨⟨rs, he, ⟨p, rs.length, ho.clip⟩⟩, by rw [hv]; rfl, hw.out, fun y hy => ?_⟩
  have hy : y ∈ rowR p (rvL rs) :: riT rs := hy
  rcases List.mem_cons.1 hy with rfl | hy
  · exact own_row hw i hi' ho (by rw [rvL_length, Nat.mul_one])
  · obtain ⟨r, hr, rfl⟩ := List.mem_map.1 hy
    exact ⟨fun b e => (hw.2.1 _ (List.mem_append_right _ hy) b e).2, hat r hr⟩
def LeL (a b : List Nat) : Prop := ¬ cmpL b a < 0
theorem leL_anti {a b : List Nat} (h1 : LeL a b) (h2 : LeL b a) : a = b := by
  unfold LeL at h1 h2
  have := cmpL_swap a b
  exact cmpL_zero _ _ (by omega)
theorem leL_trans {a b c : List Nat} (h1 : LeL a b) (h2 : LeL b c) : LeL a c := by
  unfold LeL at *
  intro h3
  rcases Int.lt_trichotomy (cmpL a b) 0 with h | h | h
  · exact h2 (cmpL_trans _ _ _ h3 h)
  · rw [cmpL_zero _ _ h] at h3; exact h2 h3
  · have := cmpL_swap a b; omega
def insL (x : List Nat) : List (List Nat) → List (List Nat)
  | [] => [x]
  | y :: r => if cmpL x y < 0 then x :: y :: r else y :: insL x r
def srtL : List (List Nat) → List (List Nat)
  | [] => []
  | x :: r => insL x (srtL r)
theorem insL_perm (x : List Nat) : ∀ l, (insL x l).Perm (x :: l)
  | [] => List.Perm.refl _
  | y :: r => by
    unfold insL
    split
    · exact List.Perm.refl _
    · exact (List.Perm.cons y (insL_perm x r)).trans (List.Perm.swap x y r)
theorem srtL_perm : ∀ l, (srtL l).Perm l
  | [] => List.Perm.refl _
  | x :: r => (insL_perm x (srtL r)).trans (List.Perm.cons x (srtL_perm r))
theorem insL_sorted (x : List Nat) : ∀ l, l.Pairwise LeL → (insL x l).Pairwise LeL
  | [], _ => List.pairwise_singleton _ _
  | y :: r, h => by
    obtain ⟨h1, h2⟩ := List.pairwise_cons.1 h
    unfold insL
    split
    · rename_i k
      have hxy : LeL x y := by unfold LeL; have := cmpL_swap x y; omega
      refine List.pairwise_cons.2 ⟨fun z hz => ?_, h⟩
      rcases List.mem_cons.1 hz with rfl | hz
      · exact hxy
      · exact leL_trans hxy (h1 z hz)
    · rename_i k
      refine List.pairwise_cons.2 ⟨fun z hz => ?_, insL_sorted x r h2⟩
      rcases List.mem_cons.1 ((insL_perm x r).mem_iff.1 hz) with rfl | hz
      · exact k
      · exact h1 z hz
theorem srtL_sorted : ∀ l, (srtL l).Pairwise LeL
  | [] => List.Pairwise.nil
  | x :: r => insL_sorted x _ (srtL_sorted r)
theorem srtL_uniq {l l' : List (List Nat)} (hp : l'.Perm l) (hs : l'.Pairwise LeL) : l' = srtL l :=
  List.Perm.eq_of_pairwise (le := LeL) (fun x y _ _ h1 h2 => leL_anti h1 h2) hs (srtL_sorted l) (hp.trans (srtL_perm l).symm)
theorem ri_sorted {rs ys : List RI} (hp : ys.Perm rs) (hs : ys.Pairwise LeI) : ys.map (·.l) = srtL (rs.map (·.l)) := srtL_uniq (hp.map _) (List.pairwise_map.2 hs)
def lopL (ts : List T3) : List (List Nat) := srtL (lpsN ts (wayL ts).length).2
end
section
set_option maxRecDepth 100000
theorem tE69 : ElemT Tryz.prog 69 34 1 24 := ⟨Tryz.underlying69, elemT_of (by kernel_rfl)⟩
theorem clipL_ok (p : Option Addr) (n cp : Nat) (h : n ≤ cp) (w : World)  : Calls Tryz.prog 78 #[(Value.slice p n cp)] w (Gives w (Value.slice p n n)) := by
 refine calls_of (args := [(Value.slice p n cp)]) Tryz.func78 rfl rfl (leB rfl) (OkC.subF (sL [0] rfl) (q4 (asg' rfl (OkL.nil (q2 ?_)))))
 refine mv' rfl (mv' rfl (st' (v := (vN n)) (ex_len_slice rfl Tryz.underlying69) rfl (mv' rfl (st' (v := (vN n)) (ex_len_slice rfl Tryz.underlying69) rfl (st' (v := (Value.slice p n n)) (ex_slice_clip (m := n) rfl rfl rfl Tryz.underlying69 Tryz.sizeOf34 (by omega)) rfl ?_)))))
 exact asg' rfl (OkL.nil (OkQ.subF (sL [2] rfl) (OkQ.then_ (OkC.ret (ret_one rfl (rd_tmp (v := (Value.slice p n n)) rfl) (fun w hw => ⟨rfl, hw.out⟩))))))
theorem tfill_numuz_156 (x0 x1 : Nat) : Instr.fill (fun i => some (i * 1, 1)) (posL ((0, 0) : P2)).toArray [(0, vN x0), (1, vN x1)] = some (posL (x0, x1)).toArray := by kernel_rfl
set_option maxHeartbeats 4000000 in
theorem Loops_ok {ps : List Pt} {ts ss : List T3} (x : MX ps ts ss) (hor : (numB ps.length ts && ornB ts (3 * ts.length)) = true) (hwn : 0 < (wayL ts).length) (hp : ps.length ≤ 1000000) (htl : ts.length ≤ 1000000) (w : World) {S : Nat → Prop} (hx : Ro S w x) : Calls Tryz.prog 30 #[(aG (mxL x))] w (GivesR (LPX (lopL ts)) S w) := by
 have hnb : numB ps.length ts = true := (Bool.and_eq_true _ _ ▸ hor).1
 have ho : ornB ts (3 * ts.length) = true := (Bool.and_eq_true _ _ ▸ hor).2
 have hwl := wayL_len (ts := ts)
 have hrl0 := rimL_le (ts := ts)
 have lx := atA (W := w) hx
 refine calls_ofR (args := [(aG (mxL x))]) (L := [rowR x.a.p (rowsL ptL ps), rowR x.b.p (rowsL t3L ts), rowR x.c.p (rowsL t3L ss)]) Tryz.func30 rfl rfl (leB rfl) (sxA hx roL_nil) (OkC.subF (sL [0] rfl) (q4 (bx' (cs := mxL x) rfl fun b1 => asg' rfl (q3 (sL [1, 2] rfl) ?_))))
 refine ldW' 0 tA31 rfl (OkL.callR (S := S) (α := SX ts true) (args := [(aG (mxL x))]) Tryz.call72 (fun w hw => (by have h9 := steps_ok x hp htl w (inS hw 1 rfl lx); rw [hor] at h9; exact h9)) rfl rfl rfl fun sx lsx => mv' rfl (st' (ex_extract (v := (Value.map (some sx.b))) rfl rfl) rfl (st' (ex_extract (v := (Value.bool true)) rfl rfl) rfl (asg' rfl ?_))))
 refine asg' rfl (q6 (sL [1, 2, 3, 4] rfl) (q4 (mv' rfl (st' (ex_not (c := false) rfl rfl) rfl (OkL.nil ?_)))))
 refine OkQ.subF (sL [1, 2, 3, 18] rfl) (OkQ.then_ (OkC.cond_false rfl (OkC.skip (q2 (asg' rfl ?_)))))
 refine OkL.nilRow 34 1 (q3 (sL [1, 2, 3, 5] rfl) (OkL.makeMap kEd vN (wt_none rfl) rfl fun b2 => asg' rfl (q6 (sL [1, 2, 3, 5, 6] rfl) (q4 ?_))))
 refine ldW' 3 tA31 rfl (mv' rfl (cX (S := S) (cs := rowsL t3L (wayL ts)) (k := (wayL ts).length) (args := [(aG (mxL x)), (Value.map (some sx.b))]) Tryz.call73 (fun w hw => ways_ok x sx hnb hp htl w (inS hw 4 rfl lx) (inS hw 2 rfl lsx)) rfl rfl rfl fun wy lwy => st' (v := (vN ((wayL ts).length))) (ex_len_slice rfl Tryz.underlying63) rfl (mv' rfl (OkL.nil ?_))))
 refine OkQ.subF (sL [1, 2, 3, 5, 6, 22, 23, 24] rfl) (OkQ.then_ (OkC.block ?_))
 refine OkC.lp5 (tg fun (i : Nat) (rs : List RI) (p1 : Option Addr) (c1 : Nat) (dn : List (P2 × Nat)) => i ≤ (wayL ts).length ∧ OwnOk p1 rs.length c1 ∧ dn = (lpsN ts i).1 ∧ rs.map (·.l) = (lpsN ts i).2 ∧ DnI ts dn ∧ (∀ r ∈ rs, ∀ b, (riR r).foot = some b → Nw ⟨w, none⟩ S b) ∧ rs.length ≤ i) (tg fun (i : Nat) (rs : List RI) (p1 : Option Addr) (c1 : Nat) (dn : List (P2 × Nat)) => [(1, (pP b1 0)), (2, (Value.slice none 0 0)), (3, (Value.map (some sx.b))), (6, (Value.map (some b2))), (22, (Value.slice wy.p ((wayL ts).length) wy.c)), (23, (vN ((wayL ts).length))), (24, (vN i)), (5, (Value.slice p1 rs.length c1))]) (tg fun (i : Nat) (rs : List RI) (p1 : Option Addr) (c1 : Nat) (dn : List (P2 × Nat)) => (rowR wy.p (rowsL t3L (wayL ts)) :: mapA b2 kEd vN dn :: rowW p1 34 1 rs.length c1 (rvL rs) :: mapR sx.b kEd vN sx.kvs :: blk b1 31 (mxL x) :: rowR x.a.p (rowsL ptL ps) :: rowR x.b.p (rowsL t3L ts) :: rowR x.c.p (rowsL t3L ss) :: riT rs)) (tg fun (i : Nat) (rs : List RI) (p1 : Option Addr) (c1 : Nat) (dn : List (P2 × Nat)) => (wayL ts).length - i) 0 ([] : List RI) none 0 ([] : List (P2 × Nat)) (⟨Nat.zero_le _, OwnOk.none, rfl, rfl, DnI.nil, (fun r hr => by cases hr), Nat.le_refl _⟩) (sF rfl) sr (fun i rs p1 c1 dn hJ => ?_)
 obtain ⟨hi, ho1, hdn, hrl, hdi, hat, hrn⟩ := hJ
 refine q4 (st' (ex_lss (c := (decide (i < ((wayL ts).length)))) rfl rfl (ltN (a := i) (b := (wayL ts).length))) rfl (OkL.nil (q1 ?_)))
 refine OkC.cond rfl (fun hc1 => ?_) (fun hc1 => ?_)
 ·replace hc1 := of_decide_eq_true hc1
  obtain ⟨wq, hwq⟩ : ∃ q, q = (wayL ts).getD i (0, 0, 0) := ⟨_, rfl⟩
  have hbd := way_at hnb (by omega) hc1 hwq
  refine OkC.skip (q1 (OkC.block (q4 (st' (v := (pP (pB wy.p) (pO wy.p + i * 3))) (ex_index_row (j := i) rfl rfl wy.ok Tryz.underlying63 Tryz.sizeOf68 rfl (by omega)) rfl (st' (v := (aG (t3L ((wayL ts).getD i ((0, 0, 0) : Nat × Nat × Nat))))) (ex_load_rowR_agg (vs := t3L ((wayL ts).getD i ((0, 0, 0) : Nat × Nat × Nat))) (i := 0) rfl rfl (RowOk.ne wy.ok (by omega)) tA68 (rowsL_get t3L_len _ _ _ (by omega)) (t3L_len _)) rfl ?_)))))
  refine OkL.retell (k := 27) (u := (aG (t3L wq))) rfl (by rw [hwq]) (al tZ68 rfl fun b3 => stW0' rfl Tryz.sizeOf68 rfl (q3 (sL [1, 2, 3, 6, 22, 23, 24, 5, 8] rfl) (st' (v := (pP b3 0)) (ex_fieldAddr rfl Tryz.underlying68 rfl Tryz.sizeOf3 rfl) rfl (ldO' 0 (vN wq.1) tO3 rfl ?_))))
  refine st' (v := (pP b3 1)) (ex_fieldAddr rfl Tryz.underlying68 rfl Tryz.sizeOf3 rfl) rfl (ldO' 0 (vN wq.2.1) tO3 rfl (st' (v := (aG (posL (wq.1, wq.2.1)))) (ex_build_array (zs := posL ((0, 0) : P2)) (vs := posL (wq.1, wq.2.1)) (pv := [(0, (vN wq.1)), (1, (vN wq.2.1))]) Tryz.zeroValue156 Tryz.underlying156 Tryz.sizeOf3 rfl (tfill_numuz_156 wq.1 wq.2.1)) rfl (al tZ156 rfl fun b4 => stW0' rfl Tryz.sizeOf156 rfl (q6 (sL [1, 2, 3, 6, 22, 23, 24, 5, 8, 9] rfl) ?_))))
  refine q4 (mv' rfl (ldW' 0 tA156 rfl (st' (v := (vN ((getM dn (wq.1, wq.2.1)).getD 0))) (ex_lookup keySt 3 (eV := vN) (kvs := dn) (x := (wq.1, wq.2.1)) (z0 := 0) (co := false) rfl rfl Tryz.underlying152 Tryz.zeroValue3 rfl (hdi.ok) (isS_ok hnb (by omega) hbd.1)) rfl (st' (ex_gtr (c := (decide (0 < ((getM dn (wq.1, wq.2.1)).getD 0)))) rfl rfl (ltN (a := 0) (b := (getM dn (wq.1, wq.2.1)).getD 0))) rfl (OkL.nil ?_)))))
  refine OkQ.subF (sL [1, 2, 3, 6, 22, 23, 24, 5, 8, 9, 36] rfl) (OkQ.then_ ?_)
  refine OkC.cond rfl (fun hc2 => ?_) (fun hc2 => ?_)
  ·replace hc2 := of_decide_eq_true hc2
   have hcS := hc2
   refine OkC.exit (OkQ.then_exit (OkQ.in_exit (OkQ.then_ (OkC.region (st' (ex_add (c := ((i + 1 : Nat) : Int)) rfl rfl (addN_i64 (a := i) (b := 1) (by omega))) rfl ?_)))))
   exact mv' rfl (OkL.nil (OkQ.subF (sL [1, 2, 3, 6, 22, 23, 24, 5, 8, 9] rfl) (OkQ.round5 (i + 1) rs p1 c1 dn (⟨by omega, ho1, by rw [hdn, lps_skip hwq hdn hcS], by rw [hrl, lps_skip hwq hdn hcS], hdi, hat, by omega⟩) (by omega) (sF rfl) (sl (sl sr)))))
  ·replace hc2 := of_decide_eq_false hc2
   have hcN := hc2
   refine OkC.skip (q2 (asg' rfl (OkL.nilRow 3 1 (OkL.nil (q1 ?_)))))
   refine q4 (ldW' 1 tA156 rfl (al tZ156 rfl fun b5 => stW0' rfl Tryz.sizeOf156 rfl (OkL.nil (OkQ.subF (sL [1, 2, 3, 6, 22, 23, 24, 5, 8, 9, 10, 11] rfl) ?_))))
   refine OkQ.then_ (OkC.block ?_)
   refine OkC.lp7 (tg fun (j : Nat) (k : P2) (dn2 : List (P2 × Nat)) (l : List Nat) (p2 : Option Addr) (c2 : Nat) (bk : Nat) => GoI ts dn (wq.1, wq.2.1) j dn2 k l ∧ OwnOk p2 l.length c2) (tg fun (j : Nat) (k : P2) (dn2 : List (P2 × Nat)) (l : List Nat) (p2 : Option Addr) (c2 : Nat) (bk : Nat) => [(1, (pP b1 0)), (2, (Value.slice none 0 0)), (3, (Value.map (some sx.b))), (6, (Value.map (some b2))), (22, (Value.slice wy.p ((wayL ts).length) wy.c)), (23, (vN ((wayL ts).length))), (24, (vN i)), (5, (Value.slice p1 rs.length c1)), (11, (pP bk 0)), (10, (Value.slice p2 l.length c2))]) (tg fun (j : Nat) (k : P2) (dn2 : List (P2 × Nat)) (l : List Nat) (p2 : Option Addr) (c2 : Nat) (bk : Nat) => (blk bk 156 (posL k) :: rowW p2 3 1 l.length c2 (inL l) :: blk b4 156 (posL (wq.1, wq.2.1)) :: blk b3 68 (t3L wq) :: rowR wy.p (rowsL t3L (wayL ts)) :: mapA b2 kEd vN dn2 :: rowW p1 34 1 rs.length c1 (rvL rs) :: mapR sx.b kEd vN sx.kvs :: blk b1 31 (mxL x) :: rowR x.a.p (rowsL ptL ps) :: rowR x.b.p (rowsL t3L ts) :: rowR x.c.p (rowsL t3L ss) :: riT rs)) (tg fun (j : Nat) (k : P2) (dn2 : List (P2 × Nat)) (l : List Nat) (p2 : Option Addr) (c2 : Nat) (bk : Nat) => 3 * ts.length - j) 0 (wq.1, wq.2.1) dn ([] : List Nat) none 0 b5 (⟨GoI.zero hdi hbd, OwnOk.none⟩) (sF rfl) sr (fun j k dn2 l p2 c2 bk hJ => ?_)
   obtain ⟨hgo, ho2⟩ := hJ
   have hll := hgo.ll
   have hjl := hgo.le
   have hkok : okE k := isS_ok hnb (by omega) hgo.bd.1
   refine OkC.seq (q4 (mv' rfl (ldW' 0 tA156 rfl (st' (v := (vN ((getM dn2 k).getD 0))) (ex_lookup keySt 5 (eV := vN) (kvs := dn2) (x := k) (z0 := 0) (co := false) rfl rfl Tryz.underlying152 Tryz.zeroValue3 rfl (hgo.di.ok) (hkok)) rfl (st' (ex_eql (c := (decide (((getM dn2 k).getD 0) = 0))) rfl rfl (eqN (a := (getM dn2 k).getD 0) (b := 0))) rfl ?_)))))
   refine OkL.nil (OkQ.subF (sL [1, 2, 3, 6, 22, 23, 24, 5, 11, 10, 41] rfl) (OkQ.then_ ?_))
   refine OkC.cond rfl (fun hc3 => ?_) (fun hc3 => ?_)
   ·replace hc3 := of_decide_eq_true hc3
    have hcU := hc3
    have hjt := hgo.lt hnb (by omega) ho hc3
    refine OkC.skip (q1 (OkC.block (q4 (mv' rfl (ldW' 0 tA156 rfl ?_)))))
    refine OkL.mapUpdate keySt 5 (kvs := dn2) (x := k) (y := 1) (wt_none rfl) rfl rfl rfl Tryz.underlying152 rfl (hgo.di.ok) (hkok) (OkL.nil (OkQ.subF (sL [1, 2, 3, 6, 22, 23, 24, 5, 11, 10] rfl) (OkQ.then_ (OkC.region (mv' rfl ?_)))))
    refine st' (v := (pP bk 0)) (ex_indexAddr_array (j := 0) rfl rfl Tryz.underlying156 Tryz.sizeOf3 rfl (by decide) rfl) rfl (ldO' 0 (vN k.1) tO3 rfl (OkL.openV (V := fun b6 => (Value.slice (some ⟨b6, 0, none⟩) 1 1)) (T := 3) (cs := [(vN k.1)]) (wt_none rfl) (op_buildSlice (cs := [(vN k.1)]) (pv := [(0, (vN k.1))]) Tryz.underlying34 Tryz.sizeOf3 Tryz.zeroValue3 (by decide) (by decide) rfl (by kernel_rfl)) rfl (leB rfl) fun b6 => OkL.append2 (j := 0) (cs2 := inL (l ++ [k.1])) tE34 rfl ho2 (by rw [inL_length, Nat.mul_one]) rfl rfl rfl rfl (by decide) (mxl (by omega)) (by omega) (by rw [inL_append]; rfl) rfl fun p_1 c_1 ho_1 hne_1 => asg' rfl (OkL.nil ?_)))
    refine OkQ.subF (sL [1, 2, 3, 6, 22, 23, 24, 5, 11, 10] rfl) (OkQ.in_normal (q1 (q4 (ldW' 1 tA156 rfl (OkL.nil ?_)))))
    refine OkQ.then_ (OkC.region (al tZ156 rfl fun b7 => stW0' rfl Tryz.sizeOf156 rfl (OkL.nil (OkQ.subF (sL [1, 2, 3, 6, 22, 23, 24, 5, 11, 10] rfl) ?_))))
    refine OkQ.then_ (OkC.region (ldW' 10 tA31 rfl (mv' rfl (ldW' 0 tA156 rfl (cl' Tryz.call74 (fun w hw => behind_ok x sx k hnb ho hgo.bd hp htl w (inS hw 11 rfl lx) (inS hw 9 rfl lsx)) rfl ?_)))))
    refine stW0' rfl Tryz.sizeOf156 rfl (OkL.nil (OkQ.subF (sL [1, 2, 3, 6, 22, 23, 24, 5, 11, 10] rfl) ?_))
    rw [show l.length + 1 = (l ++ [k.1]).length by simp]
    exact OkQ.round7 (j + 1) (behK ts k) (putM dn2 k 1) (l ++ [k.1]) p_1 c_1 b7 (⟨hgo.succ hnb (by omega) ho hcU, by simpa using ho_1⟩) (by omega) (sF rfl) (sk (sl (sl sr)))
   ·replace hc3 := of_decide_eq_false hc3
    have hgv := hgo.stop hc3
    have hl0 : 0 < l.length := by rcases Nat.eq_zero_or_pos l.length with e | e; exfalso; obtain ⟨e1, e2⟩ := hgo.at0 (by omega); rw [e1, e2] at hc3; omega; exact e
    refine OkC.exit (OkQ.then_exit (OkQ.round7_exit (OkQ.in_exit (OkQ.then_ (OkC.region ?_)))))
    refine mv' rfl (mv' rfl (OkL.frzRow 1 rfl ho2 (by rw [inL_length, Nat.mul_one]) rfl rfl fun hn_LO => OkL.callR (S := S) (α := RX (inL (turF l)) (turF l).length) (args := [(Value.slice p2 l.length c2)]) Tryz.call75 (fun w hw => turned_ok l ⟨p2, c2, ho2.row⟩ hl0 (by omega) w (inS hw 1 rfl (At.new hn_LO))) rfl rfl rfl fun tu ltu => ?_))
    have hsm : (turF l).length ≤ 10000000 := by rw [turF_len]; omega
    refine OkL.permL (show List.Perm _ (blk bk 156 (posL k) :: rowR p2 (inL l) :: blk b4 156 (posL (wq.1, wq.2.1)) :: blk b3 68 (t3L wq) :: rowR wy.p (rowsL t3L (wayL ts)) :: mapA b2 kEd vN dn2 :: rowW p1 34 1 rs.length c1 (rvL rs) :: mapR sx.b kEd vN sx.kvs :: blk b1 31 (mxL x) :: rowR x.a.p (rowsL ptL ps) :: rowR x.b.p (rowsL t3L ts) :: rowR x.c.p (rowsL t3L ss) :: riT (rs ++ [(⟨turF l, tu.p, tu.c, tu.ok, hsm⟩ : RI)])) from permIn (⟨turF l, tu.p, tu.c, tu.ok, hsm⟩ : RI) [blk bk 156 (posL k), rowR p2 (inL l), blk b4 156 (posL (wq.1, wq.2.1)), blk b3 68 (t3L wq), rowR wy.p (rowsL t3L (wayL ts)), mapA b2 kEd vN dn2, rowW p1 34 1 rs.length c1 (rvL rs), mapR sx.b kEd vN sx.kvs, blk b1 31 (mxL x), rowR x.a.p (rowsL ptL ps), rowR x.b.p (rowsL t3L ts), rowR x.c.p (rowsL t3L ss)] rs) (OkL.openV (V := fun b6 => (Value.slice (some ⟨b6, 0, none⟩) 1 1)) (T := 34) (cs := [(Value.slice tu.p ((turF l).length) tu.c)]) (wt_none rfl) (op_buildSlice (cs := [(Value.slice tu.p ((turF l).length) tu.c)]) (pv := [(0, (Value.slice tu.p ((turF l).length) tu.c))]) Tryz.underlying69 Tryz.sizeOf34 Tryz.zeroValue34 (by decide) (by decide) rfl (by kernel_rfl)) rfl (leB rfl) fun b6 => OkL.appendAt 7 (j := 0) (cs2 := rvL (rs ++ [(⟨turF l, tu.p, tu.c, tu.ok, hsm⟩ : RI)])) tE69 rfl ho1 (by rw [rvL_length, Nat.mul_one]) rfl rfl rfl rfl rfl (by decide) (mxl (by omega)) (by omega) (by rw [rvL_append]; rfl) rfl fun pu cu hou hnu => asg' rfl (OkL.nil (OkQ.subF (sL [1, 2, 3, 6, 22, 23, 24, 5, 11, 10] rfl) ?_)))
    refine OkQ.in_normal (OkQ.then_ (OkC.region (st' (ex_add (c := ((i + 1 : Nat) : Int)) rfl rfl (addN_i64 (a := i) (b := 1) (by omega))) rfl (mv' rfl (OkL.nil ?_)))))
    refine OkQ.subF (sL [1, 2, 3, 6, 22, 23, 24, 5, 11, 10] rfl) ?_
    rw [show rs.length + 1 = (rs ++ [(⟨turF l, tu.p, tu.c, tu.ok, hsm⟩ : RI)]).length by simp]
    exact OkQ.round5 (i + 1) (rs ++ [(⟨turF l, tu.p, tu.c, tu.ok, hsm⟩ : RI)]) pu cu dn2 (⟨by omega, by simpa using hou, by rw [lps_new hwq hdn hcN hgv], by rw [lps_new hwq hdn hcN hgv, List.map_append, hrl]; rfl, hgo.di, fun r hr => by rcases List.mem_append.1 hr with h9 | h9; exact hat r h9; rw [List.mem_singleton.1 h9]; exact fun b e => ltu _ (List.mem_singleton.2 rfl) b e, by rw [List.length_append]; show _ + 1 ≤ _; omega⟩) (by omega) (sF rfl) (sl (sl (sl (sl (sl sr)))))
 ·replace hc1 := of_decide_eq_false hc1
  have hie : i = (wayL ts).length := by omega
  have hlp := lps_pos (ts := ts) i (by omega)
  rw [← hrl, List.length_map] at hlp
  have hpn : p1 ≠ none := fun e => by have := (ho1.nil e).1; omega
  refine OkC.exit (OkQ.then_exit (OkQ.round5_exit (OkQ.in_exit (q2 (mv' rfl ?_)))))
  refine OkL.callWE 2 (α := List RI) (K := fun ys => ys.Perm rs ∧ ys.Pairwise LeI) (cs' := rvL) (v := .tuple #[]) (wt_none rfl) (op_call0 (args := [(Value.slice p1 rs.length c1), (Value.func (.func 77) #[] #[])]) rfl rfl Tryz.call76) rfl (fun w hw => sortL_ok rs p1 rs.length c1 34 ho1 hpn rfl (by omega) w (hw.holds (i := 2) rfl) (tail_good (A := [rowR wy.p (rowsL t3L (wayL ts)), mapA b2 kEd vN dn, rowW p1 34 1 rs.length c1 (rvL rs), mapR sx.b kEd vN sx.kvs, blk b1 31 (mxL x), rowR x.a.p (rowsL ptL ps), rowR x.b.p (rowsL t3L ts), rowR x.c.p (rowsL t3L ss)]) (rs := rs) (i := 2) hw rfl)) (fun d hd => by cases hd <;> exact (leB rfl)) ?_; intro ys ⟨hy1, hy2⟩
  refine q3 (sL [1, 2, 3, 6, 22, 23, 24, 5] rfl) (mv' rfl (ck' Tryz.call78 (clipL_ok p1 rs.length c1 ho1.row.le) rfl (asg' rfl (OkL.nil (OkQ.subF (sL [1, 2, 3, 6, 22, 23, 24, 5] rfl) ?_)))))
  exact OkQ.then_ (OkC.ret (ret_one rfl (rd_tmp (v := (Value.slice p1 rs.length rs.length)) rfl) (fun w hw => (retLPX (A := [rowR wy.p (rowsL t3L (wayL ts)), mapA b2 kEd vN dn, rowW p1 34 1 rs.length c1 (rvL ys), mapR sx.b kEd vN sx.kvs, blk b1 31 (mxL x), rowR x.a.p (rowsL ptL ps), rowR x.b.p (rowsL t3L ts), rowR x.c.p (rowsL t3L ss)]) (rs := ys) ((show Own _ w ([rowR wy.p (rowsL t3L (wayL ts)), mapA b2 kEd vN dn, rowW p1 34 1 rs.length c1 (rvL ys), mapR sx.b kEd vN sx.kvs, blk b1 31 (mxL x), rowR x.a.p (rowsL ptL ps), rowR x.b.p (rowsL t3L ts), rowR x.c.p (rowsL t3L ss)] ++ riT rs) from hw).perm (permT hy1)) 2 rfl ho1 hy1.length_eq.symm (by rw [ri_sorted hy1 hy2, hrl, hie]; rfl) (fun r hr => hat r (hy1.mem_iff.1 hr)) rfl))))
end
def hvT (md : List (P2 × Nat)) : Nat → T3 → List T3
  | 0, c => [c]
  | d + 1, c => match getM md (baseK c) with
    | none => [c]
    | some n => hvT md d (n, c.1, c.2.1) ++ hvT md d (n, c.2.2, c.1)
def rpN (n p : Nat) : List Nat := List.replicate n p
section
section
variable {N : Nat} {es : List E4} {T : T3}
end
end
section
section
variable {m : MQ} {ts : List T3} {a b N : Nat}
theorem rowS_mem {s : T3} : ∀ j, s ∈ rowS m ts a j ↔ s.1 = a ∧ a < s.2.1 ∧ s.2.1 < a + 1 + j ∧ cntW ts s.1 s.2.1 ts.length = 1 ∧ s = sidW m s.1 s.2.1
  | 0 => ⟨fun h => (by cases h), fun h => (by omega)⟩
  | j + 1 => by
    show s ∈ rowS m ts a j ++ (if _ then _ else _) ↔ _
    rw [List.mem_append, rowS_mem j]
    constructor
    · rintro (h | h)
      · exact ⟨h.1, h.2.1, by omega, h.2.2.2⟩
      · split at h
        · rename_i hc
          rw [List.mem_singleton] at h
          subst h
          exact ⟨rfl, (by show a < a + 1 + j; omega), (by show a + 1 + j < a + 1 + (j + 1); omega), hc, rfl⟩
        · cases h
    · rintro ⟨h1, h2, h3, h4, h5⟩
      rcases Nat.lt_or_ge s.2.1 (a + 1 + j) with h6 | h6
      · exact .inl ⟨h1, h2, h6, h4, h5⟩
      · have e : s.2.1 = a + 1 + j := by omega
        rw [h1, e] at h4 h5
        rw [if_pos h4]
        exact .inr (List.mem_singleton.2 h5)
theorem sidesW_mem {s : T3} : ∀ A, s ∈ sidesW m ts N A ↔ s.1 < A ∧ s.1 < s.2.1 ∧ s.2.1 < N ∧ cntW ts s.1 s.2.1 ts.length = 1 ∧ s = sidW m s.1 s.2.1
  | 0 => ⟨fun h => (by cases h), fun h => (by omega)⟩
  | A + 1 => by
    show s ∈ sidesW m ts N A ++ rowS m ts A (N - (A + 1)) ↔ _
    rw [List.mem_append, sidesW_mem A, rowS_mem]
    constructor
    · rintro (h | h)
      · exact ⟨by omega, h.2⟩
      · exact ⟨by omega, by omega, by omega, h.2.2.2⟩
    · rintro ⟨h1, h2, h3, h4⟩
      rcases Nat.lt_or_ge s.1 A with h5 | h5
      · exact .inl ⟨h5, h2, h3, h4⟩
      · exact .inr ⟨by omega, by omega, by omega, h4⟩
theorem rowS_sorted : ∀ j, (rowS m ts a j).Pairwise LtS
  | 0 => List.Pairwise.nil
  | j + 1 => by
    show (rowS m ts a j ++ (if _ then _ else _)).Pairwise LtS
    split
    · refine List.pairwise_append.2 ⟨rowS_sorted j, List.pairwise_singleton _ _, fun x hx y hy => ?_⟩
      rw [List.mem_singleton] at hy
      subst hy
      have h := (rowS_mem j).1 hx
      exact .inr ⟨h.1, (by show x.2.1 < a + 1 + j; exact h.2.2.1)⟩
    · rw [List.append_nil]; exact rowS_sorted j
theorem sidesW_sorted : ∀ A, (sidesW m ts N A).Pairwise LtS
  | 0 => List.Pairwise.nil
  | A + 1 => List.pairwise_append.2 ⟨sidesW_sorted A, rowS_sorted _, fun x hx y hy => .inl (by
      have h1 := (sidesW_mem A).1 hx
      have h2 := (rowS_mem _).1 hy
      omega)⟩
theorem kyE_iff {x y : Nat} (hab : a < b) (hxy : x ≠ y) : kyE x y = (a, b) ↔ (x = a ∧ y = b) ∨ (x = b ∧ y = a) := by
  unfold kyE
  rw [Prod.mk.injEq]
  omega
theorem cnt_tri {t : T3} (hab : a < b) (h : t.1 ≠ t.2.1 ∧ t.2.1 ≠ t.2.2 ∧ t.2.2 ≠ t.1) : [kyE t.1 t.2.1, kyE t.2.1 t.2.2, kyE t.2.2 t.1].count (a, b) = if hasT t a = true ∧ hasT t b = true then 1 else 0 := by
  obtain ⟨h1, h2, h3⟩ := h
  simp only [List.count_cons, List.count_nil, beq_iff_eq, kyE_iff hab h1, kyE_iff hab h2, kyE_iff hab h3, hasT, Bool.or_eq_true, decide_eq_true_eq]
  split <;> split <;> split <;> split <;> omega
theorem cntW_eq (hn : numB N ts = true) (hab : a < b) : ∀ i, i ≤ ts.length → cntW ts a b i = ((ts.take i).flatMap fun t => [kyE t.1 t.2.1, kyE t.2.1 t.2.2, kyE t.2.2 t.1]).count (a, b)
  | 0, _ => rfl
  | i + 1, hi => by
    rw [take_snoc (by omega), List.flatMap_append, List.count_append, ← cntW_eq hn hab i (by omega)]
    have h := okT_ne (numB_at hn (show i < ts.length by omega))
    have e := cnt_tri hab h
    show cntW ts a b i + (if _ then 1 else 0) = _
    rw [← e]
    simp [List.flatMap]
theorem cntW_all (hn : numB N ts = true) (hab : a < b) : cntW ts a b ts.length = (allK ts).count (a, b) := by
  rw [cntW_eq hn hab _ (Nat.le_refl _), List.take_length]; rfl
theorem key_ends (hn : numB N ts = true) (hN : N ≤ 4611686018427387904) (h : (a, b) ∈ allK ts) : a < b ∧ b < N := by
  obtain ⟨e, he, rfl, rfl⟩ := (mem_keys hn hN).1 h
  exact edge_ends hn hN he
theorem sides_rim (hn : numB N ts = true) (hN : N ≤ 4611686018427387904) : sidesW m ts N N = (rimL ts).map fun s => sidW m s.1 s.2.1 := by
  refine sorted_ext LtS.asymm (sidesW_sorted N) ?_ fun s => ?_
  · exact List.pairwise_map.2 ((rimL_sorted hn hN).imp fun {x y} h => h)
  · rw [sidesW_mem, List.mem_map]
    constructor
    · rintro ⟨h1, h2, h3, h4, h5⟩
      refine ⟨(s.1, s.2.1, 0), (mem_rimL hn hN).2 ⟨?_, rfl⟩, h5.symm⟩
      rw [← cntW_all hn h2]; exact h4
    · rintro ⟨r, hr, rfl⟩
      have h := (mem_rimL hn hN).1 hr
      have hk := key_ends hn hN (List.count_pos_iff.1 (by rw [h.1]; decide))
      exact ⟨by show r.1 < N; omega, hk.1, hk.2, by show cntW ts r.1 r.2.1 ts.length = 1; rw [cntW_all hn hk.1]; exact h.1, rfl⟩
end
end
end Go.Proofs.YtgiacpkjnikjdaaGreat
