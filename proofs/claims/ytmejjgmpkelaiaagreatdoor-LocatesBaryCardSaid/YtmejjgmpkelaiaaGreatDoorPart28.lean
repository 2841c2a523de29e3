import Derived.Test.YtmejjgmpkelaiaaGreatDoorPart05
import Derived.Test.YtmejjgmpkelaiaaGreatDoorPart15
import Derived.Test.YtmejjgmpkelaiaaGreatDoorPart22
import Derived.Test.YtmejjgmpkelaiaaGreatDoorPart23
import Derived.Test.YtmejjgmpkelaiaaGreatDoorPart24
import Derived.Test.YtmejjgmpkelaiaaGreatDoorPart26
import Derived.Test.YtmejjgmpkelaiaaGreatDoorPart27
namespace Go.Proofs.YtmejjgmpkelaiaaGreatDoor
open Go Go.RowKit
set_option linter.unusedVariables false
set_option linter.unusedSimpArgs false
theorem rowsL_at {α : Type} {enc : α → List Value} {z : Nat} (h : ∀ x, (enc x).length = z) (d : α) (xs : List α) (j r : Nat) (hj : j < xs.length) (hr : r < z) {v : Value} (hv : (enc (xs.getD j d))[r]? = some v) : (rowsL enc xs)[j * z + r]? = some v := by
  have h1 := rowsL_get h d xs j hj
  rw [← h1, List.getElem?_take_of_lt hr, List.getElem?_drop] at hv
  exact hv
theorem ptL_len (p : Pt) : (ptL p).length = 10 := rfl
structure TriP (ps : List Pt) (t : Nat × Nat × Nat) : Prop where
  a : t.1 < ps.length
  b : t.2.1 < ps.length
  c : t.2.2 < ps.length
  ab : t.1 ≠ t.2.1
  bc : t.2.1 ≠ t.2.2
  ca : t.2.2 ≠ t.1
  pos : 0 < turnP (ps.getD t.1 ⟨0, 0⟩) (ps.getD t.2.1 ⟨0, 0⟩) (ps.getD t.2.2 ⟨0, 0⟩)
structure GoodM (ps : List Pt) (ts : List (Nat × Nat × Nat)) : Prop where
  ne : ts ≠ []
  tl : ts.length ≤ 36
  pl : ps.length ≤ 108
  sz : ∀ i, SzP (ps.getD i ⟨0, 0⟩) ≤ 4
  tri : ∀ j, j < ts.length → TriP ps (ts.getD j (0, 0, 0))
structure MG where
  ps : List Pt
  ts : List (Nat × Nat × Nat)
  ss : List (Nat × Nat × Nat)
  good : GoodM ps ts
  a : RX (rowsL ptL ps) ps.length
  b : RX (rowsL t3L ts) ts.length
  c : RX (rowsL t3L ss) ss.length
def mgL (x : MG) : List Value := [x.a.val, x.b.val, x.c.val]
theorem mg_ro {x : MG} {y : As} (hy : y ∈ [x.a.row, x.b.row, x.c.row]) : y.ro = true := by
  simp only [List.mem_cons, List.not_mem_nil, or_false] at hy
  rcases hy with rfl | rfl | rfl <;> rfl
instance : Ref MG := ⟨fun x => aG (mgL x), fun x => [x.a.row, x.b.row, x.c.row], fun x y hy => mg_ro hy⟩
theorem retM {S : Nat → Prop} {W w : World} {L : List As} (hw : Own ⟨W, none⟩ w L) (x : MG) (h1 : Holds w x.a.row ∧ ∀ b, x.a.row.foot = some b → W.heap.size ≤ b ∨ S b) (h2 : Holds w x.b.row ∧ ∀ b, x.b.row.foot = some b → W.heap.size ≤ b ∨ S b) (h3 : Holds w x.c.row ∧ ∀ b, x.c.row.foot = some b → W.heap.size ≤ b ∨ S b) {v : Value} (hv : v = aG (mgL x)) : GivesR MG S W (.returned v) w := by
  refine ⟨x, by rw [hv]; rfl, hw.out, fun y hy => ?_⟩
  have hy : y ∈ [x.a.row, x.b.row, x.c.row] := hy
  simp only [List.mem_cons, List.not_mem_nil, or_false] at hy
  rcases hy with rfl | rfl | rfl
  · exact h1
  · exact h2
  · exact h3
theorem roWb {S : Nat → Prop} {W w : World} {L : List As} {m : MQ} {x : WM m} (h : Ro (SL ⟨W, none⟩ S L) w x) : Holds w x.b.row ∧ ∀ b, x.b.row.foot = some b → W.heap.size ≤ b ∨ S b := by
  have h1 := h x.b.row (List.mem_cons_of_mem _ List.mem_cons_self)
  exact ⟨h1.1, fun b e => (h1.2 b e).2⟩
def denM (m : MQ) : Nat := 1 + m.den % 6
def gpt (m : MQ) (z : Int × Int) : PD := ⟨⟨z.1, denM m⟩, ⟨z.2, denM m⟩⟩
def psN (m : MQ) (zs : List (Int × Int)) (i : Nat) : List Pt := (zs.take i).map fun z => ptOf (gpt m z)
theorem psN_len {m : MQ} {zs : List (Int × Int)} {i : Nat} (h : i ≤ zs.length) : (psN m zs i).length = i := by simp [psN]; omega
theorem psN_succ {m : MQ} {zs : List (Int × Int)} {i : Nat} (h : i < zs.length) : psN m zs (i + 1) = psN m zs i ++ [ptOf (gpt m (zs.getD i (0, 0)))] := by
  unfold psN
  rw [List.take_add_one, List.getElem?_eq_getElem h, List.map_append, List.getD, List.getElem?_eq_getElem h]
  rfl
theorem psN_get {m : MQ} {zs : List (Int × Int)} {i : Nat} (h : i < zs.length) : (psN m zs zs.length).getD i ⟨0, 0⟩ = ptOf (gpt m (zs.getD i (0, 0))) := by
  unfold psN
  rw [List.take_length, List.getD, List.getElem?_map, List.getElem?_eq_getElem h, List.getD, List.getElem?_eq_getElem h]
  rfl
def zsM (m : MQ) (pl : List P2) : List (Int × Int) := pl.map fun p => (mapM m).at_ p
theorem zsM_get {m : MQ} {pl : List P2} {i : Nat} (h : i < pl.length) : (zsM m pl).getD i (0, 0) = (mapM m).at_ (pl.getD i (0, 0)) := by
  simp [zsM, List.getD, h]
theorem zs_ok {m : MQ} {pl : List P2} (hs : ∀ p ∈ pl, p.1 ≤ 6 ∧ p.2 ≤ 6) {i : Nat} (h : i < pl.length) : (gpt m ((zsM m pl).getD i (0, 0))).ok := by
  rw [zsM_get h]
  have hp := hs (pl.getD i (0, 0)) (by rw [List.getD, List.getElem?_eq_getElem h]; exact List.getElem_mem h)
  obtain ⟨⟨h1, h2⟩, h3, h4⟩ := at_small (map4_ok m.a m.b m.c m.d) hp
  have hd : denM m < 4294967296 := by unfold denM; omega
  have e : mapM m = map4 m.a m.b m.c m.d := rfl
  rw [← e] at h1 h2 h3 h4
  exact ⟨⟨by show -9223372036854775808 ≤ ((mapM m).at_ _).1; omega, by show ((mapM m).at_ _).1 < _; omega, hd⟩, ⟨by show -9223372036854775808 ≤ ((mapM m).at_ _).2; omega, by show ((mapM m).at_ _).2 < _; omega, hd⟩⟩
theorem turn2_cyc (a b c : P2) : turn2 b c a = turn2 a b c := by unfold turn2; grind
theorem turn2_same (a b : P2) : turn2 a a b = 0 ∧ turn2 a b b = 0 ∧ turn2 b a b = 0 := by unfold turn2; exact ⟨by grind, by grind, by grind⟩
theorem corn_turn {m : MQ} {t : Nat} (h : t < (cellsM m).length) : 0 < turn2 (cornM m t 0) (cornM m t 1) (cornM m t 2) := by
  have h1 := cellsM_ok m ((cellsM m).getD t ((0, 0), (0, 0), (0, 0))) (by rw [List.getD, List.getElem?_eq_getElem h]; exact List.getElem_mem h)
  unfold cornM rotM
  generalize (cellsM m).getD t ((0, 0), (0, 0), (0, 0)) = c at *
  generalize t * (m.fst / 3) = q at *
  have h0 := h1.1
  have e : (m.fst + q) % 3 = 0 ∨ (m.fst + q) % 3 = 1 ∨ (m.fst + q) % 3 = 2 := by omega
  rcases e with e | e | e
  · rw [show (0 + m.fst + q) % 3 = 0 by omega, show (1 + m.fst + q) % 3 = 1 by omega, show (2 + m.fst + q) % 3 = 2 by omega]
    exact h0
  · rw [show (0 + m.fst + q) % 3 = 1 by omega, show (1 + m.fst + q) % 3 = 2 by omega, show (2 + m.fst + q) % 3 = 0 by omega]
    show 0 < turn2 c.2.1 c.2.2 c.1
    rw [turn2_cyc]; exact h0
  · rw [show (0 + m.fst + q) % 3 = 2 by omega, show (1 + m.fst + q) % 3 = 0 by omega, show (2 + m.fst + q) % 3 = 1 by omega]
    show 0 < turn2 c.2.2 c.1 c.2.1
    rw [turn2_cyc c.2.1, turn2_cyc]; exact h0
theorem good_of {m : MQ} (x : WM m) {ps : List Pt} (h : ps = psN m (zsM m x.pl) x.pl.length) : GoodM ps x.ts := by
  have hz : (zsM m x.pl).length = x.pl.length := by simp [zsM]
  rw [← hz] at h
  have hl : ps.length = x.pl.length := by rw [h, psN_len (Nat.le_refl _), hz]
  have hg : ∀ i, i < x.pl.length → ps.getD i ⟨0, 0⟩ = ptOf (pdM (mapM m) (denM m) (x.pl.getD i (0, 0))) := fun i hi => by
    rw [h, psN_get (by rw [hz]; exact hi), zsM_get hi]; rfl
  have hi := x.inv
  have hcl := cellsM_len m
  refine ⟨fun e => cellsM_ne m (List.eq_nil_of_length_eq_zero (by rw [← hi.tl, e]; rfl)), by rw [hi.tl]; exact hcl, by rw [hl]; have := hi.pll; omega, fun i => ?_, fun j hj => ?_⟩
  · rcases Nat.lt_or_ge i x.pl.length with h1 | h1
    · have hok := zs_ok (m := m) hi.small h1
      rw [hg i h1]
      have := SzP_ptOf hok
      rw [zsM_get h1] at this
      exact this
    · rw [List.getD, List.getElem?_eq_none (by rw [hl]; exact h1)]; decide +kernel
  · rw [hi.tl] at hj
    have ht := hi.at_ j hj
    have hc := corn_turn hj
    have hp := turn_pt (map4_ok m.a m.b m.c m.d) (denM m) hc
    obtain ⟨⟨a1, a2⟩, ⟨b1, b2⟩, ⟨c1, c2⟩⟩ := ht
    refine ⟨by rw [hl]; exact a1, by rw [hl]; exact b1, by rw [hl]; exact c1, fun e => ?_, fun e => ?_, fun e => ?_, ?_⟩
    · rw [e, b2] at a2; rw [← a2, (turn2_same _ _).1] at hc; omega
    · rw [e, c2] at b2; rw [← b2, (turn2_same _ _).2.1] at hc; omega
    · rw [e, a2] at c2; rw [← c2, (turn2_same _ _).2.2] at hc; omega
    · rw [hg _ a1, hg _ b1, hg _ c1, a2, b2, c2]; exact hp
section
set_option maxRecDepth 100000
theorem QOf_ok (q : QD) (h : q.ok) (w : World)  : Calls Tryz.prog 7 #[(aG (qdL q))] w (Gives w (aG (fracL (qOf q)))) := by
 obtain ⟨h1, h2, h3⟩ := h
 refine calls_of (args := [(aG (qdL q))]) Tryz.func7 rfl rfl (leB rfl) (OkC.subF (sC 0 rfl (sN)) (q4 (bx (cs := qdL q) rfl rfl rfl fun b1 => al tZ47 rfl fun b2 => q3 (sC 1 rfl (sC 2 rfl (sN))) ?_)))
 refine st (v := (pP b1 0)) (ex_fieldAddr rfl Tryz.underlying29 rfl Tryz.sizeOf2 rfl) (leB rfl) (ldO 1 (vI q.n) tO2 rfl rfl rfl rfl (st (v := (pP b1 1)) (ex_fieldAddr rfl Tryz.underlying29 rfl Tryz.sizeOf27 rfl) (leB rfl) (ldO 1 (vK .u32 q.d) tO27 rfl rfl rfl rfl (st (ex_max (c := ((max q.d 1 : Nat) : Int)) rfl rfl (by split <;> omega)) (leB rfl) (st (ex_conv (c := ((max q.d 1 : Nat) : Int)) rfl Tryz.underlying27 Tryz.underlying2 (convN_i64 (by omega))) (leB rfl) ?_)))))
 refine cl Tryz.call23 (fun w hw => fOf_ok (q.n : Int) ((max q.d 1 : Nat) : Int) (by omega) (by omega) (by omega) (by omega) (by omega) w) rfl rfl rfl (mv rfl rfl (st (ex_extract (v := (aG (fracL (((q.n : Int) : Rat) / (((max q.d 1 : Nat) : Int) : Rat))))) rfl rfl) (leB rfl) (st (ex_extract (v := (vI 0)) rfl rfl) (leB rfl) (al tZ47 rfl fun b3 => stW0 rfl rfl rfl Tryz.sizeOf47 rfl rfl ?_))))
 refine asg rfl rfl (q3 (sC 2 rfl (sC 3 rfl (sN))) (ldW 0 tA47 rfl rfl rfl rfl (stW1 rfl rfl rfl Tryz.sizeOf47 rfl rfl (OkL.nil (OkQ.subF (sC 2 rfl (sC 3 rfl (sN))) ?_)))))
 exact OkQ.then_ (OkC.ret (ret_one rfl (rd_agg (i := 1) (cs := fracL (((q.n : Int) : Rat) / (((max q.d 1 : Nat) : Int) : Rat))) rfl rfl Tryz.isAgg47 Tryz.sizeOf47 rfl) (fun w hw => ⟨rfl, hw.out⟩)))
theorem fill_numzb_49_0fracL_1fracL (x0 : Rat) (x1 : Rat) : Instr.fill ([(0, 5), (5, 5)].toArray[·]?) (ptL (⟨0, 0⟩ : Pt)).toArray [(0, .agg (fracL x0).toArray), (1, .agg (fracL x1).toArray)] = some (fracL x0 ++ fracL x1).toArray := by kernel_rfl
theorem POf_ok (p : PD) (h : p.ok) (w : World)  : Calls Tryz.prog 13 #[(aG (pdL p))] w (Gives w (aG (ptL (ptOf p)))) := by
 have h1 := h.1
 have h2 := h.2
 refine calls_of (args := [(aG (pdL p))]) Tryz.func13 rfl rfl (leB rfl) (OkC.subF (sC 0 rfl (sN)) (q4 (bx (cs := pdL p) rfl rfl rfl fun b1 => al tZ49 rfl fun b2 => q6 (sC 1 rfl (sC 2 rfl (sN))) ?_)))
 refine rG [(0, true), (1, true), (3, true), (4, true), (2, false), (5, false), (6, true), (7, false)] (sl sr) (by kernel_rfl) (fun _ _ d _ _ h => by cases d <;> exact h) (pE (v := (pP b1 0)) rfl (ex_fieldAddr rfl Tryz.underlying31 rfl Tryz.sizeOf29 rfl) rfl (pA 0 (qdL p.x) tA29 rfl rfl rfl rfl rfl rfl (pE (v := (pP b1 2)) rfl (ex_fieldAddr rfl Tryz.underlying31 rfl Tryz.sizeOf29 rfl) rfl (pA 0 (qdL p.y) tA29 rfl rfl rfl rfl rfl rfl (OkE.imp rfl ?_)))))
 refine cl Tryz.call7 (fun w hw => QOf_ok p.x (by assumption) w) rfl rfl rfl (OkE.back (sl sr) (OkE.imp rfl (cl Tryz.call7 (fun w hw => QOf_ok p.y (by assumption) w) rfl rfl rfl (OkE.back (sl sr) (pE (v := (aG (fracL (qOf p.x) ++ fracL (qOf p.y)))) rfl (ex_build_struct (zs := ptL (⟨0, 0⟩ : Pt)) (vs := fracL (qOf p.x) ++ fracL (qOf p.y)) (pv := [(0, (aG (fracL (qOf p.x)))), (1, (aG (fracL (qOf p.y))))]) (places := [(0, 5), (5, 5)]) Tryz.zeroValue49 Tryz.underlying49 (fun w => by simp [Tryz.sizeOf47]) rfl (fill_numzb_49_0fracL_1fracL (qOf p.x) (qOf p.y))) rfl ?_)))))
 refine OkE.imp rfl (stW0 rfl rfl rfl Tryz.sizeOf49 rfl rfl (OkE.back (sl sr) (OkE.nil (OkQ.subF (sC 2 rfl (sN)) (OkQ.then_ ?_)))))
 exact OkC.ret (ret_one rfl (rd_agg (i := 0) (cs := fracL (qOf p.x) ++ fracL (qOf p.y)) rfl rfl Tryz.isAgg49 Tryz.sizeOf49 rfl) (fun w hw => ⟨rfl, hw.out⟩))
end
section
set_option maxRecDepth 100000
theorem tE35 : ElemT Tryz.prog 35 78 3 24 := ⟨Tryz.underlying35, elemT_of (by kernel_rfl)⟩
theorem tE33 : ElemT Tryz.prog 33 49 10 112 := ⟨Tryz.underlying33, elemT_of (by kernel_rfl)⟩
theorem tfs_numtc_49_1 (x0 : Pt) : Instr.fill (fun i => some (i * 10, 10)) ((Array.range (1 * 10)).map ((Value.agg (ptL (⟨0, 0⟩ : Pt)).toArray).cells[· % (Value.agg (ptL (⟨0, 0⟩ : Pt)).toArray).cells.size]!)) [(0, .agg (ptL x0).toArray)] = some (ptL x0).toArray := by kernel_rfl
theorem tfs_numtc_78_1 (x0 : Nat × Nat × Nat) : Instr.fill (fun i => some (i * 3, 3)) ((Array.range (1 * 3)).map ((Value.agg (t3L ((0, 0, 0) : Nat × Nat × Nat)).toArray).cells[· % (Value.agg (t3L ((0, 0, 0) : Nat × Nat × Nat)).toArray).cells.size]!)) [(0, .agg (t3L x0).toArray)] = some (t3L x0).toArray := by kernel_rfl
set_option maxHeartbeats 2000000 in
theorem mMesh_ok (m : MQ) (w : World) {S : Nat → Prop} (hm : Ro S w m) : Calls Tryz.prog 4 #[(aG (mqL m))] w (GivesR MG S w) := by
 have hd := m.hden
 have hdm : denM m < 256 := by unfold denM; omega
 have lm := atA (W := w) hm
 refine calls_ofR (args := [(aG (mqL m))]) (L := [rowR m.p (bytL m.cs)]) Tryz.func4 rfl rfl (leB rfl) (sxA hm roL_nil) (OkC.subF (sC 0 rfl (sN)) (q4 (bx (cs := mqL m) rfl rfl rfl fun b1 => al tZ37 rfl fun b2 => q3 (sC 1 rfl (sC 2 rfl (sN))) ?_)))
 refine ldW 1 tA26 rfl rfl rfl rfl (cW (S := S) (m := m) (args := [(aG (mqL m))]) Tryz.call19 (fun w hw => mwhole_ok m w (inS hw 2 rfl lm)) rfl rfl rfl fun gw lgw => al tZ74 rfl fun b3 => stW0 rfl rfl rfl Tryz.sizeOf74 rfl rfl (q3 (sC 1 rfl (sC 2 rfl (sC 3 rfl (sN)))) (al tZ37 rfl fun b4 => ?_)))
 refine OkL.nilRow 49 10 (OkL.nilRow 78 3 (OkL.nil (q2 (st (v := (pP b1 7)) (ex_fieldAddr rfl Tryz.underlying26 rfl Tryz.sizeOf5 rfl) (leB rfl) (ldO 8 (vK .u8 m.den) tO5 rfl rfl rfl rfl ?_)))))
 refine st (ex_rem (c := ((m.den % 6 : Nat) : Int)) rfl rfl (by omega) (remN (a := m.den) (b := 6))) (leB rfl) (st (ex_add (c := ((denM m : Nat) : Int)) rfl rfl (addN_u8 (a := 1) (b := m.den % 6) (by omega))) (leB rfl) (st (ex_conv (c := ((denM m : Nat) : Int)) rfl Tryz.underlying5 Tryz.underlying27 (convN_u32 (by omega))) (leB rfl) (asg rfl rfl (q6 (sC 1 rfl (sC 2 rfl (sC 3 rfl (sC 4 rfl (sC 5 rfl (sN)))))) (q4 ?_)))))
 refine asg rfl rfl (OkL.nil (OkQ.then_ (OkC.block (OkC.sub (F' := [(2, (pP b2 0)), (3, (pP b3 0)), (4, (pP b4 0)), (5, (vK .u32 (denM m))), (6, (vI 0))]) (L' := [rowW none 78 3 0 0 (rowsL t3L ([])), rowW none 49 10 (([] : List Pt).length) 0 (rowsL ptL ([] : List Pt)), blk b4 37 ([(Value.slice none (([] : List Pt).length) 0), (Value.slice none 0 0), (Value.slice none 0 0)]), blk b3 74 ([(Value.slice gw.a.p gw.pl.length gw.a.c), (Value.slice gw.b.p gw.ts.length gw.b.c), (Value.slice gw.c.p gw.ss.length gw.c.c)]), rowR gw.a.p (rowsL movL (zsM m gw.pl)), rowR gw.b.p (rowsL t3L gw.ts), rowR gw.c.p (rowsL t3L gw.ss), blk b2 37 ([(Value.slice none 0 0), (Value.slice none 0 0), (Value.slice none 0 0)]), blk b1 26 (mqL m), rowR m.p (bytL m.cs)]) (sF rfl) (List.Sublist.refl _) ?_))))
 refine OkC.loop4 (J := fun (i : Nat) (p1 : Option Addr) (c1 : Nat) (ps : List Pt) => i ≤ gw.pl.length ∧ OwnOk p1 ps.length c1 ∧ ps = psN m (zsM m gw.pl) i) (FI := fun (i : Nat) (p1 : Option Addr) (c1 : Nat) (ps : List Pt) => [(2, (pP b2 0)), (3, (pP b3 0)), (4, (pP b4 0)), (5, (vK .u32 (denM m))), (6, (vN i))]) (LI := fun (i : Nat) (p1 : Option Addr) (c1 : Nat) (ps : List Pt) => [rowW none 78 3 0 0 (rowsL t3L ([])), rowW p1 49 10 ps.length c1 (rowsL ptL ps), blk b4 37 ([(Value.slice p1 ps.length c1), (Value.slice none 0 0), (Value.slice none 0 0)]), blk b3 74 ([(Value.slice gw.a.p gw.pl.length gw.a.c), (Value.slice gw.b.p gw.ts.length gw.b.c), (Value.slice gw.c.p gw.ss.length gw.c.c)]), rowR gw.a.p (rowsL movL (zsM m gw.pl)), rowR gw.b.p (rowsL t3L gw.ts), rowR gw.c.p (rowsL t3L gw.ss), blk b2 37 ([(Value.slice none 0 0), (Value.slice none 0 0), (Value.slice none 0 0)]), blk b1 26 (mqL m), rowR m.p (bytL m.cs)]) (m := fun (i : Nat) (p1 : Option Addr) (c1 : Nat) (ps : List Pt) => gw.pl.length - i) (fun i p1 c1 ps hJ => ?_) 0 none 0 ([] : List Pt) (⟨Nat.zero_le _, OwnOk.none, rfl⟩)
 replace hJ : i ≤ gw.pl.length ∧ OwnOk p1 ps.length c1 ∧ ps = psN m (zsM m gw.pl) i := hJ
 obtain ⟨hi, h1, hps⟩ := hJ
 refine OkC.sub (F' := [(2, (pP b2 0)), (3, (pP b3 0)), (4, (pP b4 0)), (5, (vK .u32 (denM m))), (6, (vN i))]) (L' := [rowW none 78 3 0 0 (rowsL t3L ([])), rowW p1 49 10 ps.length c1 (rowsL ptL ps), blk b4 37 ([(Value.slice p1 ps.length c1), (Value.slice none 0 0), (Value.slice none 0 0)]), blk b3 74 ([(Value.slice gw.a.p gw.pl.length gw.a.c), (Value.slice gw.b.p gw.ts.length gw.b.c), (Value.slice gw.c.p gw.ss.length gw.c.c)]), rowR gw.a.p (rowsL movL (zsM m gw.pl)), rowR gw.b.p (rowsL t3L gw.ts), rowR gw.c.p (rowsL t3L gw.ss), blk b2 37 ([(Value.slice none 0 0), (Value.slice none 0 0), (Value.slice none 0 0)]), blk b1 26 (mqL m), rowR m.p (bytL m.cs)]) (sF rfl) (List.Sublist.refl _) ?_
 have hzl : (zsM m gw.pl).length = gw.pl.length := by simp [zsM]
 have hll := gw.inv.pll
 have hcl := cellsM_len m
 have hpl : ps.length ≤ 108 := by rw [hps, psN_len (by rw [hzl]; omega)]; omega
 refine OkC.seq (q4 (mv rfl rfl (st (v := (pP b3 0)) (ex_fieldAddr rfl Tryz.underlying74 rfl Tryz.sizeOf72 rfl) (leB rfl) (ldO 3 (Value.slice gw.a.p gw.pl.length gw.a.c) tO72 rfl rfl rfl rfl (st (v := (vN gw.pl.length)) (ex_len_slice rfl Tryz.underlying72) (leB rfl) ?_)))))
 refine st (ex_lss (c := (decide (i < gw.pl.length))) rfl rfl (ltN (a := i) (b := gw.pl.length))) (leB rfl) (OkL.nil (OkQ.subF (sC 2 rfl (sC 3 rfl (sC 4 rfl (sC 5 rfl (sC 6 rfl (sC 20 rfl (sN))))))) (OkQ.then_ ?_)))
 refine OkC.cond rfl (fun hc0 => ?_) (fun hc0 => ?_)
 ·replace hc0 := of_decide_eq_true hc0
  refine OkC.skip (q1 (OkC.block (OkC.seq (rG [(0, true), (1, true), (2, true), (3, true), (4, true), (5, true), (6, true), (7, true), (8, true), (9, true), (10, true), (11, true), (12, true), (13, true), (14, true), (15, true), (16, true), (17, false), (18, false)] sr (by kernel_rfl) (fun _ _ d _ _ h => by cases d <;> exact h) (pE (v := (pP b3 0)) rfl (ex_fieldAddr rfl Tryz.underlying74 rfl Tryz.sizeOf72 rfl) rfl ?_)))))
  refine pO' 3 (Value.slice gw.a.p gw.pl.length gw.a.c) tO72 rfl rfl rfl rfl rfl (pM rfl rfl rfl (pE (v := (pP (pB gw.a.p) (pO gw.a.p + i * 2))) rfl (ex_index_row (j := i) rfl rfl gw.a.ok Tryz.underlying72 Tryz.sizeOf76 rfl (by omega)) rfl (pE (v := (pP (pB gw.a.p) (pO gw.a.p + (i * 2 + 0)))) rfl (ex_indexAddr_array (j := 0) rfl rfl Tryz.underlying76 Tryz.sizeOf2 rfl (by decide) (Nat.add_assoc _ _ _)) rfl (pE rfl (ex_load_rowR_one (v := (vI (((zsM m gw.pl).getD i ((0, 0) : Int × Int)).1))) (i := 4) rfl rfl (RowOk.ne gw.a.ok (by omega)) tO2 (rowsL_at movL_len ((0, 0) : Int × Int) _ _ 0 (by omega) (by decide) rfl)) rfl (pM rfl rfl rfl ?_)))))
  refine pE (v := (aG ([(vI (((zsM m gw.pl).getD i ((0, 0) : Int × Int)).1)), (vK .u32 (denM m))]))) rfl (ex_build_struct (zs := [(vI 0), (Value.int .u32 (0 : Int))]) (vs := [(vI (((zsM m gw.pl).getD i ((0, 0) : Int × Int)).1)), (vK .u32 (denM m))]) (pv := [(0, (vI (((zsM m gw.pl).getD i ((0, 0) : Int × Int)).1))), (1, (vK .u32 (denM m)))]) (places := [(0, 1), (1, 1)]) Tryz.zeroValue29 Tryz.underlying29 (fun w => by simp [Tryz.sizeOf2, Tryz.sizeOf27]) rfl rfl) rfl (pE (v := (pP b3 0)) rfl (ex_fieldAddr rfl Tryz.underlying74 rfl Tryz.sizeOf72 rfl) rfl (pO' 3 (Value.slice gw.a.p gw.pl.length gw.a.c) tO72 rfl rfl rfl rfl rfl (pM rfl rfl rfl (pE (v := (pP (pB gw.a.p) (pO gw.a.p + i * 2))) rfl (ex_index_row (j := i) rfl rfl gw.a.ok Tryz.underlying72 Tryz.sizeOf76 rfl (by omega)) rfl (pE (v := (pP (pB gw.a.p) (pO gw.a.p + (i * 2 + 1)))) rfl (ex_indexAddr_array (j := 1) rfl rfl Tryz.underlying76 Tryz.sizeOf2 rfl (by decide) (Nat.add_assoc _ _ _)) rfl ?_)))))
  refine pE rfl (ex_load_rowR_one (v := (vI (((zsM m gw.pl).getD i ((0, 0) : Int × Int)).2))) (i := 4) rfl rfl (RowOk.ne gw.a.ok (by omega)) tO2 (rowsL_at movL_len ((0, 0) : Int × Int) _ _ 1 (by omega) (by decide) rfl)) rfl (pM rfl rfl rfl (pE (v := (aG ([(vI (((zsM m gw.pl).getD i ((0, 0) : Int × Int)).2)), (vK .u32 (denM m))]))) rfl (ex_build_struct (zs := [(vI 0), (Value.int .u32 (0 : Int))]) (vs := [(vI (((zsM m gw.pl).getD i ((0, 0) : Int × Int)).2)), (vK .u32 (denM m))]) (pv := [(0, (vI (((zsM m gw.pl).getD i ((0, 0) : Int × Int)).2))), (1, (vK .u32 (denM m)))]) (places := [(0, 1), (1, 1)]) Tryz.zeroValue29 Tryz.underlying29 (fun w => by simp [Tryz.sizeOf2, Tryz.sizeOf27]) rfl rfl) rfl (pE (v := (aG ([(vI (((zsM m gw.pl).getD i ((0, 0) : Int × Int)).1)), (vK .u32 (denM m)), (vI (((zsM m gw.pl).getD i ((0, 0) : Int × Int)).2)), (vK .u32 (denM m))]))) rfl (ex_build_struct (zs := [(vI 0), (Value.int .u32 (0 : Int)), (vI 0), (Value.int .u32 (0 : Int))]) (vs := [(vI (((zsM m gw.pl).getD i ((0, 0) : Int × Int)).1)), (vK .u32 (denM m)), (vI (((zsM m gw.pl).getD i ((0, 0) : Int × Int)).2)), (vK .u32 (denM m))]) (pv := [(0, (aG ([(vI (((zsM m gw.pl).getD i ((0, 0) : Int × Int)).1)), (vK .u32 (denM m))]))), (1, (aG ([(vI (((zsM m gw.pl).getD i ((0, 0) : Int × Int)).2)), (vK .u32 (denM m))])))]) (places := [(0, 2), (2, 2)]) Tryz.zeroValue31 Tryz.underlying31 (fun w => by simp [Tryz.sizeOf29]) rfl rfl) rfl (OkE.imp rfl (al tZ31 rfl fun b5 => ?_)))))
  refine OkE.back (sl sr) (OkE.imp rfl (stW0 rfl rfl rfl Tryz.sizeOf31 rfl rfl (OkE.back (sl sr) (OkE.nil (OkQ.subF (sC 2 rfl (sC 3 rfl (sC 4 rfl (sC 5 rfl (sC 6 rfl (sC 7 rfl (sN))))))) ?_)))))
  refine OkQ.then_ (rC [(0, true), (1, true), (2, true), (3, false), (4, false), (5, false), (6, true)] 7 [] (sk (sk (sl sr))) (sk (sk (sl sr))) (by kernel_rfl) (fun _ _ d _ _ h => by cases d <;> exact h) (vE (v := (pP b4 0)) rfl (ex_fieldAddr rfl Tryz.underlying37 rfl Tryz.sizeOf33 rfl) rfl (vE rfl (ex_load_one (i := 2) (v := (Value.slice p1 ps.length c1)) rfl rfl tO33.a rfl) rfl (vE (v := (aG ([(vI (((zsM m gw.pl).getD i ((0, 0) : Int × Int)).1)), (vK .u32 (denM m)), (vI (((zsM m gw.pl).getD i ((0, 0) : Int × Int)).2)), (vK .u32 (denM m))]))) rfl (ex_load_agg (i := 0) (vs := [(vI (((zsM m gw.pl).getD i ((0, 0) : Int × Int)).1)), (vK .u32 (denM m)), (vI (((zsM m gw.pl).getD i ((0, 0) : Int × Int)).2)), (vK .u32 (denM m))]) rfl rfl tA31.a tA31.s rfl rfl) rfl (OkF.imp rfl ?_)))))
  refine cl Tryz.call13 (fun w hw => POf_ok (gpt m ((zsM m gw.pl).getD i (0, 0))) (zs_ok gw.inv.small (by omega)) w) rfl rfl rfl (OkF.back (sk (sk (sl sr))) (OkF.imp rfl (OkL.openV (V := fun b6 => (Value.slice (some ⟨b6, 0, none⟩) 1 1)) (T := 49) (cs := ptL (ptOf (gpt m ((zsM m gw.pl).getD i (0, 0))))) (wt_none rfl) (op_buildSlice (z := .agg (ptL (⟨0, 0⟩ : Pt)).toArray) (cs := ptL (ptOf (gpt m ((zsM m gw.pl).getD i (0, 0))))) (pv := [(0, (aG (ptL (ptOf (gpt m ((zsM m gw.pl).getD i (0, 0)))))))]) Tryz.underlying33 Tryz.sizeOf49 Tryz.zeroValue49 (by decide) (by decide) rfl (tfs_numtc_49_1 (ptOf (gpt m ((zsM m gw.pl).getD i (0, 0)))))) rfl (leB rfl) fun b6 => OkF.back (sl (sk (sk (sl sr)))) (OkF.imp rfl ?_))))
  refine OkL.appendAt 3 (j := 0) (cs2 := rowsL ptL (ps ++ [ptOf (gpt m ((zsM m gw.pl).getD i (0, 0)))])) tE33 rfl h1 (rowsL_length ptL_len _) rfl rfl rfl rfl rfl (by decide) (mxl (by omega)) (by omega) (by rw [rowsL_append]; rfl) rfl fun p_1 c_1 ho_1 hne_1 => OkF.back (sl (sk (sk (sl sr)))) (vE (v := (pP b4 0)) rfl (ex_fieldAddr rfl Tryz.underlying37 rfl Tryz.sizeOf33 rfl) rfl (OkF.cut rfl (OkL.store' (i := 4) (off := 0) (vs := [(Value.slice p_1 (ps.length + 1) c_1)]) (cs' := [(Value.slice p_1 (ps.length + 1) c_1), (Value.slice none 0 0), (Value.slice none 0 0)]) (L' := [blk b6 49 (ptL (ptOf (gpt m ((zsM m gw.pl).getD i (0, 0))))), blk b5 31 ([(vI (((zsM m gw.pl).getD i ((0, 0) : Int × Int)).1)), (vK .u32 (denM m)), (vI (((zsM m gw.pl).getD i ((0, 0) : Int × Int)).2)), (vK .u32 (denM m))]), rowW none 78 3 0 0 (rowsL t3L ([])), rowW p_1 49 10 (ps.length + 1) c_1 (rowsL ptL (ps ++ [ptOf (gpt m ((zsM m gw.pl).getD i (0, 0)))])), blk b4 37 ([(Value.slice p_1 (ps.length + 1) c_1), (Value.slice none 0 0), (Value.slice none 0 0)]), blk b3 74 ([(Value.slice gw.a.p gw.pl.length gw.a.c), (Value.slice gw.b.p gw.ts.length gw.b.c), (Value.slice gw.c.p gw.ss.length gw.c.c)]), rowR gw.a.p (rowsL movL (zsM m gw.pl)), rowR gw.b.p (rowsL t3L gw.ts), rowR gw.c.p (rowsL t3L gw.ss), blk b2 37 ([(Value.slice none 0 0), (Value.slice none 0 0), (Value.slice none 0 0)]), blk b1 26 (mqL m), rowR m.p (bytL m.cs)]) (wt_none rfl) rfl rfl rfl rfl rfl Tryz.sizeOf33 rfl rfl rfl rfl (OkE.back (sl (sk (sk (sl (sl sr))))) ?_))))
  refine OkE.nil (OkQ.subF (sC 2 rfl (sC 3 rfl (sC 4 rfl (sC 5 rfl (sC 6 rfl (sC 7 rfl (sN))))))) (OkQ.in_normal (OkQ.then_ (OkC.region (mv rfl rfl ?_)))))
  refine st (ex_add (c := ((i + 1 : Nat) : Int)) rfl rfl (addN_i64 (a := i) (b := 1) (by omega))) (leB rfl) (asg rfl rfl (OkL.nil (OkQ.subF (sC 2 rfl (sC 3 rfl (sC 4 rfl (sC 5 rfl (sC 6 rfl (sC 7 rfl (sN))))))) ?_)))
  rw [show ps.length + 1 = (ps ++ [ptOf (gpt m ((zsM m gw.pl).getD i (0, 0)))]).length by simp]
  exact OkQ.round4 (i + 1) p_1 c_1 (ps ++ [ptOf (gpt m ((zsM m gw.pl).getD i (0, 0)))]) (⟨by omega, (by simpa using ho_1), by rw [hps, psN_succ (by rw [hzl]; omega)]⟩) (by omega) (sS rfl (sS rfl (sS rfl (sS rfl (sS rfl (sN)))))) (sl (sl sr))
 ·replace hc0 := of_decide_eq_false hc0
  have hfin : ps = psN m (zsM m gw.pl) gw.pl.length := by rw [hps, show i = gw.pl.length by omega]
  refine OkC.exit (OkQ.then_exit (OkQ.round4_exit (OkQ.in_exit (q2 (st (v := (pP b3 1)) (ex_fieldAddr rfl Tryz.underlying74 rfl Tryz.sizeOf34 rfl) (leB rfl) ?_)))))
  refine ldO 3 (Value.slice gw.b.p gw.ts.length gw.b.c) tO34 rfl rfl rfl rfl (st (v := (pP b4 1)) (ex_fieldAddr rfl Tryz.underlying37 rfl Tryz.sizeOf34 rfl) (leB rfl) (OkL.store' (i := 2) (off := 1) (vs := [(Value.slice gw.b.p gw.ts.length gw.b.c)]) (cs' := [(Value.slice p1 ps.length c1), (Value.slice gw.b.p gw.ts.length gw.b.c), (Value.slice none 0 0)]) (L' := [rowW none 78 3 0 0 (rowsL t3L ([])), rowW p1 49 10 ps.length c1 (rowsL ptL ps), blk b4 37 ([(Value.slice p1 ps.length c1), (Value.slice gw.b.p gw.ts.length gw.b.c), (Value.slice none 0 0)]), blk b3 74 ([(Value.slice gw.a.p gw.pl.length gw.a.c), (Value.slice gw.b.p gw.ts.length gw.b.c), (Value.slice gw.c.p gw.ss.length gw.c.c)]), rowR gw.a.p (rowsL movL (zsM m gw.pl)), rowR gw.b.p (rowsL t3L gw.ts), rowR gw.c.p (rowsL t3L gw.ss), blk b2 37 ([(Value.slice none 0 0), (Value.slice none 0 0), (Value.slice none 0 0)]), blk b1 26 (mqL m), rowR m.p (bytL m.cs)]) (wt_none rfl) rfl rfl rfl rfl rfl Tryz.sizeOf34 rfl rfl rfl rfl (q6 (sC 2 rfl (sC 3 rfl (sC 4 rfl (sC 5 rfl (sC 6 rfl (sN)))))) (q4 (asg rfl rfl ?_)))))
  refine OkL.nil (OkQ.then_ (OkC.block (OkC.sub (F' := [(2, (pP b2 0)), (3, (pP b3 0)), (4, (pP b4 0)), (8, (vI 0))]) (L' := [rowW none 78 3 (([] : List (Nat × Nat × Nat)).length) 0 (rowsL t3L ([] : List (Nat × Nat × Nat))), rowW p1 49 10 ps.length c1 (rowsL ptL ps), blk b4 37 ([(Value.slice p1 ps.length c1), (Value.slice gw.b.p gw.ts.length gw.b.c), (Value.slice none (([] : List (Nat × Nat × Nat)).length) 0)]), blk b3 74 ([(Value.slice gw.a.p gw.pl.length gw.a.c), (Value.slice gw.b.p gw.ts.length gw.b.c), (Value.slice gw.c.p gw.ss.length gw.c.c)]), rowR gw.a.p (rowsL movL (zsM m gw.pl)), rowR gw.b.p (rowsL t3L gw.ts), rowR gw.c.p (rowsL t3L gw.ss), blk b2 37 ([(Value.slice none 0 0), (Value.slice none 0 0), (Value.slice none 0 0)]), blk b1 26 (mqL m), rowR m.p (bytL m.cs)]) (sF rfl) (List.Sublist.refl _) ?_)))
  refine OkC.loop4 (J := fun (j : Nat) (p2 : Option Addr) (c2 : Nat) (ss : List (Nat × Nat × Nat)) => j ≤ gw.ss.length ∧ OwnOk p2 ss.length c2 ∧ ss.length = j) (FI := fun (j : Nat) (p2 : Option Addr) (c2 : Nat) (ss : List (Nat × Nat × Nat)) => [(2, (pP b2 0)), (3, (pP b3 0)), (4, (pP b4 0)), (8, (vN j))]) (LI := fun (j : Nat) (p2 : Option Addr) (c2 : Nat) (ss : List (Nat × Nat × Nat)) => [rowW p2 78 3 ss.length c2 (rowsL t3L ss), rowW p1 49 10 ps.length c1 (rowsL ptL ps), blk b4 37 ([(Value.slice p1 ps.length c1), (Value.slice gw.b.p gw.ts.length gw.b.c), (Value.slice p2 ss.length c2)]), blk b3 74 ([(Value.slice gw.a.p gw.pl.length gw.a.c), (Value.slice gw.b.p gw.ts.length gw.b.c), (Value.slice gw.c.p gw.ss.length gw.c.c)]), rowR gw.a.p (rowsL movL (zsM m gw.pl)), rowR gw.b.p (rowsL t3L gw.ts), rowR gw.c.p (rowsL t3L gw.ss), blk b2 37 ([(Value.slice none 0 0), (Value.slice none 0 0), (Value.slice none 0 0)]), blk b1 26 (mqL m), rowR m.p (bytL m.cs)]) (m := fun (j : Nat) (p2 : Option Addr) (c2 : Nat) (ss : List (Nat × Nat × Nat)) => gw.ss.length - j) (fun j p2 c2 ss hJ => ?_) 0 none 0 ([] : List (Nat × Nat × Nat)) (⟨Nat.zero_le _, OwnOk.none, rfl⟩)
  replace hJ : j ≤ gw.ss.length ∧ OwnOk p2 ss.length c2 ∧ ss.length = j := hJ
  obtain ⟨hj, h2, hsl⟩ := hJ
  refine OkC.sub (F' := [(2, (pP b2 0)), (3, (pP b3 0)), (4, (pP b4 0)), (8, (vN j))]) (L' := [rowW p2 78 3 ss.length c2 (rowsL t3L ss), rowW p1 49 10 ps.length c1 (rowsL ptL ps), blk b4 37 ([(Value.slice p1 ps.length c1), (Value.slice gw.b.p gw.ts.length gw.b.c), (Value.slice p2 ss.length c2)]), blk b3 74 ([(Value.slice gw.a.p gw.pl.length gw.a.c), (Value.slice gw.b.p gw.ts.length gw.b.c), (Value.slice gw.c.p gw.ss.length gw.c.c)]), rowR gw.a.p (rowsL movL (zsM m gw.pl)), rowR gw.b.p (rowsL t3L gw.ts), rowR gw.c.p (rowsL t3L gw.ss), blk b2 37 ([(Value.slice none 0 0), (Value.slice none 0 0), (Value.slice none 0 0)]), blk b1 26 (mqL m), rowR m.p (bytL m.cs)]) (sF rfl) (List.Sublist.refl _) ?_
  have hgs := gw.sl
  refine OkC.seq (q4 (mv rfl rfl (st (v := (pP b3 2)) (ex_fieldAddr rfl Tryz.underlying74 rfl Tryz.sizeOf34 rfl) (leB rfl) (ldO 3 (Value.slice gw.c.p gw.ss.length gw.c.c) tO34 rfl rfl rfl rfl (st (v := (vN gw.ss.length)) (ex_len_slice rfl Tryz.underlying34) (leB rfl) ?_)))))
  refine st (ex_lss (c := (decide (j < gw.ss.length))) rfl rfl (ltN (a := j) (b := gw.ss.length))) (leB rfl) (OkL.nil (OkQ.subF (sC 2 rfl (sC 3 rfl (sC 4 rfl (sC 8 rfl (sC 54 rfl (sN)))))) (OkQ.then_ ?_)))
  refine OkC.cond rfl (fun hc1 => ?_) (fun hc1 => ?_)
  ·replace hc1 := of_decide_eq_true hc1
   refine OkC.skip (q1 (OkC.block (rC [(0, true), (1, true), (2, true), (3, true), (4, true), (5, true), (6, true), (7, true), (8, true), (9, true), (10, true), (11, true), (12, true), (13, true), (14, true), (15, true), (16, true), (17, true), (18, true), (19, true), (20, true), (21, false), (22, false), (23, true)] 24 [] (sl sr) (sk (sl sr)) (by kernel_rfl) (fun _ _ d _ _ h => by cases d <;> exact h) (vE (v := (pP b4 2)) rfl (ex_fieldAddr rfl Tryz.underlying37 rfl Tryz.sizeOf35 rfl) rfl (vE rfl (ex_load_one (i := 1) (v := (Value.slice p2 ss.length c2)) rfl rfl tO35.a rfl) rfl ?_)))))
   refine vE (v := (pP b3 2)) rfl (ex_fieldAddr rfl Tryz.underlying74 rfl Tryz.sizeOf34 rfl) rfl (vE rfl (ex_load_one (i := 2) (v := (Value.slice gw.c.p gw.ss.length gw.c.c)) rfl rfl tO34.a rfl) rfl (vM rfl rfl rfl (vE (v := (pP (pB gw.c.p) (pO gw.c.p + j * 3))) rfl (ex_index_row (j := j) rfl rfl gw.c.ok Tryz.underlying34 Tryz.sizeOf69 rfl (by omega)) rfl (vE (v := (pP (pB gw.c.p) (pO gw.c.p + (j * 3 + 0)))) rfl (ex_indexAddr_array (j := 0) rfl rfl Tryz.underlying69 Tryz.sizeOf3 rfl (by decide) (Nat.add_assoc _ _ _)) rfl (vE rfl (ex_load_rowR_one (v := (vN ((gw.ss.getD j ((0, 0, 0) : Nat × Nat × Nat)).1))) (i := 5) rfl rfl (RowOk.ne gw.c.ok (by omega)) tO3 (rowsL_at t3L_len ((0, 0, 0) : Nat × Nat × Nat) _ _ 0 (by omega) (by decide) rfl)) rfl ?_)))))
   refine vE (v := (pP b3 2)) rfl (ex_fieldAddr rfl Tryz.underlying74 rfl Tryz.sizeOf34 rfl) rfl (vE rfl (ex_load_one (i := 2) (v := (Value.slice gw.c.p gw.ss.length gw.c.c)) rfl rfl tO34.a rfl) rfl (vM rfl rfl rfl (vE (v := (pP (pB gw.c.p) (pO gw.c.p + j * 3))) rfl (ex_index_row (j := j) rfl rfl gw.c.ok Tryz.underlying34 Tryz.sizeOf69 rfl (by omega)) rfl (vE (v := (pP (pB gw.c.p) (pO gw.c.p + (j * 3 + 1)))) rfl (ex_indexAddr_array (j := 1) rfl rfl Tryz.underlying69 Tryz.sizeOf3 rfl (by decide) (Nat.add_assoc _ _ _)) rfl (vE rfl (ex_load_rowR_one (v := (vN ((gw.ss.getD j ((0, 0, 0) : Nat × Nat × Nat)).2.1))) (i := 5) rfl rfl (RowOk.ne gw.c.ok (by omega)) tO3 (rowsL_at t3L_len ((0, 0, 0) : Nat × Nat × Nat) _ _ 1 (by omega) (by decide) rfl)) rfl ?_)))))
   refine vE (v := (pP b3 2)) rfl (ex_fieldAddr rfl Tryz.underlying74 rfl Tryz.sizeOf34 rfl) rfl (vE rfl (ex_load_one (i := 2) (v := (Value.slice gw.c.p gw.ss.length gw.c.c)) rfl rfl tO34.a rfl) rfl (vM rfl rfl rfl (vE (v := (pP (pB gw.c.p) (pO gw.c.p + j * 3))) rfl (ex_index_row (j := j) rfl rfl gw.c.ok Tryz.underlying34 Tryz.sizeOf69 rfl (by omega)) rfl (vE (v := (pP (pB gw.c.p) (pO gw.c.p + (j * 3 + 2)))) rfl (ex_indexAddr_array (j := 2) rfl rfl Tryz.underlying69 Tryz.sizeOf3 rfl (by decide) (Nat.add_assoc _ _ _)) rfl (vE rfl (ex_load_rowR_one (v := (vN ((gw.ss.getD j ((0, 0, 0) : Nat × Nat × Nat)).2.2))) (i := 5) rfl rfl (RowOk.ne gw.c.ok (by omega)) tO3 (rowsL_at t3L_len ((0, 0, 0) : Nat × Nat × Nat) _ _ 2 (by omega) (by decide) rfl)) rfl ?_)))))
   refine vE (v := (aG ([(vN ((gw.ss.getD j ((0, 0, 0) : Nat × Nat × Nat)).1)), (vN ((gw.ss.getD j ((0, 0, 0) : Nat × Nat × Nat)).2.1)), (vN ((gw.ss.getD j ((0, 0, 0) : Nat × Nat × Nat)).2.2))]))) rfl (ex_build_struct (zs := t3L ((0, 0, 0) : Nat × Nat × Nat)) (vs := [(vN ((gw.ss.getD j ((0, 0, 0) : Nat × Nat × Nat)).1)), (vN ((gw.ss.getD j ((0, 0, 0) : Nat × Nat × Nat)).2.1)), (vN ((gw.ss.getD j ((0, 0, 0) : Nat × Nat × Nat)).2.2))]) (pv := [(0, (vN ((gw.ss.getD j ((0, 0, 0) : Nat × Nat × Nat)).1))), (1, (vN ((gw.ss.getD j ((0, 0, 0) : Nat × Nat × Nat)).2.1))), (2, (vN ((gw.ss.getD j ((0, 0, 0) : Nat × Nat × Nat)).2.2)))]) (places := [(0, 1), (1, 1), (2, 1)]) Tryz.zeroValue78 Tryz.underlying78 (fun w => by simp [Tryz.sizeOf3]) rfl rfl) rfl (OkF.imp rfl (OkL.openV (V := fun b5 => (Value.slice (some ⟨b5, 0, none⟩) 1 1)) (T := 78) (cs := t3L ((gw.ss.getD j ((0, 0, 0) : Nat × Nat × Nat)).1, (gw.ss.getD j ((0, 0, 0) : Nat × Nat × Nat)).2.1, (gw.ss.getD j ((0, 0, 0) : Nat × Nat × Nat)).2.2)) (wt_none rfl) (op_buildSlice (z := .agg (t3L ((0, 0, 0) : Nat × Nat × Nat)).toArray) (cs := t3L ((gw.ss.getD j ((0, 0, 0) : Nat × Nat × Nat)).1, (gw.ss.getD j ((0, 0, 0) : Nat × Nat × Nat)).2.1, (gw.ss.getD j ((0, 0, 0) : Nat × Nat × Nat)).2.2)) (pv := [(0, (aG ([(vN ((gw.ss.getD j ((0, 0, 0) : Nat × Nat × Nat)).1)), (vN ((gw.ss.getD j ((0, 0, 0) : Nat × Nat × Nat)).2.1)), (vN ((gw.ss.getD j ((0, 0, 0) : Nat × Nat × Nat)).2.2))])))]) Tryz.underlying35 Tryz.sizeOf78 Tryz.zeroValue78 (by decide) (by decide) rfl (tfs_numtc_78_1 ((gw.ss.getD j ((0, 0, 0) : Nat × Nat × Nat)).1, (gw.ss.getD j ((0, 0, 0) : Nat × Nat × Nat)).2.1, (gw.ss.getD j ((0, 0, 0) : Nat × Nat × Nat)).2.2))) rfl (leB rfl) fun b5 => OkF.back (sl (sl sr)) (OkF.imp rfl (OkL.append1 (j := 0) (cs2 := rowsL t3L (ss ++ [((gw.ss.getD j ((0, 0, 0) : Nat × Nat × Nat)).1, (gw.ss.getD j ((0, 0, 0) : Nat × Nat × Nat)).2.1, (gw.ss.getD j ((0, 0, 0) : Nat × Nat × Nat)).2.2)])) tE35 rfl h2 (rowsL_length t3L_len _) rfl rfl rfl rfl (by decide) (mxl (by omega)) (by omega) (by rw [rowsL_append]; rfl) rfl fun p_2 c_2 ho_2 hne_2 => ?_))))
   refine OkF.back (sl (sl sr)) (vE (v := (pP b4 2)) rfl (ex_fieldAddr rfl Tryz.underlying37 rfl Tryz.sizeOf35 rfl) rfl (OkF.cut rfl (OkL.store' (i := 3) (off := 2) (vs := [(Value.slice p_2 (ss.length + 1) c_2)]) (cs' := [(Value.slice p1 ps.length c1), (Value.slice gw.b.p gw.ts.length gw.b.c), (Value.slice p_2 (ss.length + 1) c_2)]) (L' := [blk b5 78 (t3L ((gw.ss.getD j ((0, 0, 0) : Nat × Nat × Nat)).1, (gw.ss.getD j ((0, 0, 0) : Nat × Nat × Nat)).2.1, (gw.ss.getD j ((0, 0, 0) : Nat × Nat × Nat)).2.2)), rowW p_2 78 3 (ss.length + 1) c_2 (rowsL t3L (ss ++ [((gw.ss.getD j ((0, 0, 0) : Nat × Nat × Nat)).1, (gw.ss.getD j ((0, 0, 0) : Nat × Nat × Nat)).2.1, (gw.ss.getD j ((0, 0, 0) : Nat × Nat × Nat)).2.2)])), rowW p1 49 10 ps.length c1 (rowsL ptL ps), blk b4 37 ([(Value.slice p1 ps.length c1), (Value.slice gw.b.p gw.ts.length gw.b.c), (Value.slice p_2 (ss.length + 1) c_2)]), blk b3 74 ([(Value.slice gw.a.p gw.pl.length gw.a.c), (Value.slice gw.b.p gw.ts.length gw.b.c), (Value.slice gw.c.p gw.ss.length gw.c.c)]), rowR gw.a.p (rowsL movL (zsM m gw.pl)), rowR gw.b.p (rowsL t3L gw.ts), rowR gw.c.p (rowsL t3L gw.ss), blk b2 37 ([(Value.slice none 0 0), (Value.slice none 0 0), (Value.slice none 0 0)]), blk b1 26 (mqL m), rowR m.p (bytL m.cs)]) (wt_none rfl) rfl rfl rfl rfl rfl Tryz.sizeOf35 rfl rfl rfl rfl (OkE.back (sl (sl (sk (sl sr)))) (OkE.nil ?_)))))
   refine OkQ.subF (sC 2 rfl (sC 3 rfl (sC 4 rfl (sC 8 rfl (sN))))) (OkQ.in_normal (OkQ.then_ (OkC.region (mv rfl rfl (st (ex_add (c := ((j + 1 : Nat) : Int)) rfl rfl (addN_i64 (a := j) (b := 1) (by omega))) (leB rfl) ?_)))))
   refine asg rfl rfl (OkL.nil (OkQ.subF (sC 2 rfl (sC 3 rfl (sC 4 rfl (sC 8 rfl (sN))))) ?_))
   rw [show ss.length + 1 = (ss ++ [((gw.ss.getD j ((0, 0, 0) : Nat × Nat × Nat)).1, (gw.ss.getD j ((0, 0, 0) : Nat × Nat × Nat)).2.1, (gw.ss.getD j ((0, 0, 0) : Nat × Nat × Nat)).2.2)]).length by simp]
   exact OkQ.round4 (j + 1) p_2 c_2 (ss ++ [((gw.ss.getD j ((0, 0, 0) : Nat × Nat × Nat)).1, (gw.ss.getD j ((0, 0, 0) : Nat × Nat × Nat)).2.1, (gw.ss.getD j ((0, 0, 0) : Nat × Nat × Nat)).2.2)]) (⟨by omega, (by simpa using ho_2), by simp [hsl]⟩) (by omega) (sS rfl (sS rfl (sS rfl (sS rfl (sN))))) (sl sr)
  ·replace hc1 := of_decide_eq_false hc1
   refine OkC.exit (OkQ.then_exit (OkQ.round4_exit (OkQ.in_exit (q2 (ldW 2 tA37 rfl rfl rfl rfl ?_)))))
   exact OkL.store' (i := 7) (off := 0) (vs := [(Value.slice p1 ps.length c1), (Value.slice gw.b.p gw.ts.length gw.b.c), (Value.slice p2 ss.length c2)]) (cs' := [(Value.slice p1 ps.length c1), (Value.slice gw.b.p gw.ts.length gw.b.c), (Value.slice p2 ss.length c2)]) (L' := [rowW p2 78 3 ss.length c2 (rowsL t3L ss), rowW p1 49 10 ps.length c1 (rowsL ptL ps), blk b4 37 ([(Value.slice p1 ps.length c1), (Value.slice gw.b.p gw.ts.length gw.b.c), (Value.slice p2 ss.length c2)]), blk b3 74 ([(Value.slice gw.a.p gw.pl.length gw.a.c), (Value.slice gw.b.p gw.ts.length gw.b.c), (Value.slice gw.c.p gw.ss.length gw.c.c)]), rowR gw.a.p (rowsL movL (zsM m gw.pl)), rowR gw.b.p (rowsL t3L gw.ts), rowR gw.c.p (rowsL t3L gw.ss), blk b2 37 ([(Value.slice p1 ps.length c1), (Value.slice gw.b.p gw.ts.length gw.b.c), (Value.slice p2 ss.length c2)]), blk b1 26 (mqL m), rowR m.p (bytL m.cs)]) (wt_none rfl) rfl rfl rfl rfl rfl Tryz.sizeOf37 rfl rfl rfl rfl (OkL.nil (OkQ.subF (sC 2 rfl (sC 3 rfl (sC 4 rfl (sC 8 rfl (sN))))) (OkQ.then_ (OkC.ret (ret_one rfl (rd_agg (i := 7) (cs := [(Value.slice p1 ps.length c1), (Value.slice gw.b.p gw.ts.length gw.b.c), (Value.slice p2 ss.length c2)]) rfl rfl Tryz.isAgg37 Tryz.sizeOf37 rfl) (fun w hw => (retM hw (MG.mk ps gw.ts ss (good_of gw hfin) ⟨p1, c1, h1.row⟩ gw.b ⟨p2, c2, h2.row⟩) (own_row hw 1 rfl h1 (rowsL_length ptL_len _)) (roWb (inS hw 4 rfl lgw)) (own_row hw 0 rfl h2 (rowsL_length t3L_len _)) rfl)))))))
end
end Go.Proofs.YtmejjgmpkelaiaaGreatDoor
