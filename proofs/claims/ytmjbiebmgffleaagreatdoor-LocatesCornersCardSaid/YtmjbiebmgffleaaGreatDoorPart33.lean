import Derived.Test.YtmjbiebmgffleaaGreatDoorPart05
import Derived.Test.YtmjbiebmgffleaaGreatDoorPart31
import Derived.Test.YtmjbiebmgffleaaGreatDoorPart32
namespace Go.Proofs.YtmjbiebmgffleaaGreatDoor
open Go Go.RowKit
set_option linter.unusedVariables false
set_option linter.unusedSimpArgs false
section
structure Pc where
  tri : Nat
  lo : Rat
  hi : Rat
deriving DecidableEq
def pcL (p : Pc) : List Value := vN p.tri :: (fracL p.lo ++ fracL p.hi)
theorem pcL_len (p : Pc) : (pcL p).length = 11 := rfl
def cmpI (a b : Nat) : Int := if a < b then -1 else if b < a then 1 else 0
def cmpP (x y : Pc) : Int := if cmpQ x.lo y.lo ≠ 0 then cmpQ x.lo y.lo else cmpI x.tri y.tri
theorem cmpI_lt {a b : Nat} (h : a < b) : cmpI a b = -1 := if_pos h
theorem cmpI_gt {a b : Nat} (h : ¬ a < b) (h2 : b < a) : cmpI a b = 1 := by rw [cmpI, if_neg h, if_pos h2]
theorem cmpI_eq {a b : Nat} (h : ¬ a < b) (h2 : ¬ b < a) : cmpI a b = 0 := by rw [cmpI, if_neg h, if_neg h2]
def orI (a b : Int) : Int := if a ≠ 0 then a else if b ≠ 0 then b else 0
theorem orI_eq (x y : Pc) : orI (cmpQ x.lo y.lo) (cmpI x.tri y.tri) = cmpP x y := by
  unfold orI cmpP
  split
  · rfl
  · split
    · rfl
    · rename_i h; exact (Decidable.of_not_not h).symm
def two2 (x y : Pc) (tl : List Value) : List Value := if cmpP y x < 0 then pcL y ++ (pcL x ++ tl) else pcL x ++ (pcL y ++ tl)
theorem two2_t {x y : Pc} {tl : List Value} (h : cmpP y x < 0) : two2 x y tl = pcL y ++ (pcL x ++ tl) := if_pos h
theorem two2_f {x y : Pc} {tl : List Value} (h : ¬ cmpP y x < 0) : two2 x y tl = pcL x ++ (pcL y ++ tl) := if_neg h
section
variable {P : Program} {n : Nat} {F : List (Nat × Value)} {w0 : Base} {L : List As} {d : Option Tmp} {x : Operand} {t : TypeId} {p : String} {af : Array Edge} {g : Option (Nat × Bool)}
theorem ex_slice_clip {tx e : TypeId} {a : Option Addr} {len cap k : Nat} {hi mx : Operand} {ki kj : IntKind} {m : Nat} (hx : evF F x = some (.slice a len cap)) (hh : evF F hi = some (.int ki (m : Nat))) (hj : evF F mx = some (.int kj (m : Nat))) (hu : P.underlying tx = some (.slice e)) (hs : ∀ w, (sizeOf e).run P w = .ok k w) (hm : m ≤ cap) :
    Ex P n F w0 L ⟨d, .slice tx x none (some hi) (some mx), t, p, af, g⟩ (.slice a m m) := fun A w ha _ => by
  simp only [execOp, ha.ev hx, Instr.sliceAt, run_underlying hu, Instr.slice, Option.map_some, Option.map_none, ha.ev hh, ha.ev hj, Instr.sliceBounds, Instr.sliceBound, asIntOf, Sem.run_bind, Result.andThen_ok, Sem.run_pure]
  have h1 : (0 : Int) ≤ (m : Int) ∧ (m : Int) ≤ (cap : Int) := ⟨by omega, by omega⟩
  simp [h1.2, hs]
  cases a <;> simp [Addr.add]
end
def midR (a b : Pt) (f t : Rat) : Pt := a + scaleP (b - a) ((((1 : Int) : Rat) / ((2 : Int) : Rat)) * (f + t))
def pcAt (ps : List Pt) (a b : Pt) (t : Nat) (T : Nat × Nat × Nat) : List Pc :=
  if (spanV (corT ps T) a b).2.2 = true then (if whereT ps (midR a b (spanV (corT ps T) a b).1 (spanV (corT ps T) a b).2.1) T = 1 then [⟨t, (spanV (corT ps T) a b).1, (spanV (corT ps T) a b).2.1⟩] else []) else []
def rayL (ps : List Pt) (ts : List (Nat × Nat × Nat)) (a b : Pt) : Nat → List Pc
  | 0 => []
  | t + 1 => rayL ps ts a b t ++ pcAt ps a b t (ts.getD t (0, 0, 0))
section
variable {ps : List Pt} {ts : List (Nat × Nat × Nat)} {a b : Pt} {t : Nat} {sv : Rat × Rat × Bool}
theorem rayL_out (h : sv = spanV (corT ps (ts.getD t (0, 0, 0))) a b) (h1 : sv.2.2 = false) : rayL ps ts a b (t + 1) = rayL ps ts a b t := by
  rw [rayL, pcAt, ← h, h1]; simp
theorem rayL_off (h : sv = spanV (corT ps (ts.getD t (0, 0, 0))) a b) (h1 : sv.2.2 = true) (h2 : ¬ whereT ps (midR a b sv.1 sv.2.1) (ts.getD t (0, 0, 0)) = 1) : rayL ps ts a b (t + 1) = rayL ps ts a b t := by
  rw [rayL, pcAt, ← h, if_pos h1, if_neg h2, List.append_nil]
theorem rayL_in (h : sv = spanV (corT ps (ts.getD t (0, 0, 0))) a b) (h1 : sv.2.2 = true) (h2 : whereT ps (midR a b sv.1 sv.2.1) (ts.getD t (0, 0, 0)) = 1) : rayL ps ts a b (t + 1) = rayL ps ts a b t ++ [⟨t, sv.1, sv.2.1⟩] := by
  rw [rayL, pcAt, ← h, if_pos h1, if_pos h2]
theorem pcAt_len (T : Nat × Nat × Nat) : (pcAt ps a b t T).length ≤ 1 := by
  unfold pcAt
  split
  · split <;> simp
  · simp
theorem rayL_len : ∀ t, (rayL ps ts a b t).length ≤ t
  | 0 => Nat.le_refl _
  | t + 1 => by
    have h1 := rayL_len t
    have h2 := pcAt_len (ps := ps) (a := a) (b := b) (t := t) (ts.getD t (0, 0, 0))
    rw [rayL, List.length_append]
    omega
end
theorem spanV_sz {c : P3} {a b : Pt} (h : turnP c.1 c.2.1 c.2.2 ≠ 0) (h1 : SzP c.1 ≤ 6) (h2 : SzP c.2.1 ≤ 6) (h3 : SzP c.2.2 ≤ 6) (ha : SzP a ≤ 6) (hb : SzP b ≤ 6) : Sz (spanV c a b).1 ≤ 400 ∧ Sz (spanV c a b).2.1 ≤ 400 :=
  spanQ_sz (Sz_bary h h1 h2 h3 ha h2 h3) (Sz_bary h h1 h2 h3 hb h2 h3) (Sz_bary h h1 h2 h3 h1 ha h3) (Sz_bary h h1 h2 h3 h1 hb h3) (Sz_bary h h1 h2 h3 h1 h2 ha) (Sz_bary h h1 h2 h3 h1 h2 hb)
def RayI (rl : List Pc) (s : Option Addr × Nat) : Prop := OwnOk s.1 rl.length s.2 ∧ (rl = [] → s = (none, 0))
theorem RayI.more {rl rl' : List Pc} {x : Pc} {p : Option Addr} {c : Nat} (e : rl' = rl ++ [x]) (h : OwnOk p (rl.length + 1) c) : RayI rl' (p, c) := by
  subst e
  exact ⟨by simpa using h, fun e => by simp at e⟩
theorem own_some {p : Option Addr} {n c : Nat} (h : OwnOk p n c) (hn : n ≠ 0) : ∃ g, p = some ⟨g, 0, none⟩ := by
  cases p with
  | none => exact absurd (h.nil rfl).1 hn
  | some a => exact ⟨a.block, by rw [← h.at0 a rfl]⟩
section
variable {P : Program} {ops : Array Oper} {rest : List Oper} {Q : Exit → Act → World → Prop} {n D : Nat} {F : List (Nat × Value)} {w0 : Base} {L L' : List As} {c : Code}
theorem OkD.castL (e : L = L') (h : OkD D P c Q n F w0 L') : OkD D P c Q n F w0 L := e ▸ h
theorem OkD.subL (hs : L'.Sublist L) (h : OkD D P c Q n F w0 L') : OkD D P c Q n F w0 L := fun a w ha hw => h a w ha (hw.weak hs)
theorem OkL.subL (hs : L'.Sublist L) (h : OkL P ops rest Q n F w0 L') : OkL P ops rest Q n F w0 L := fun a w ha hw => h a w ha (hw.weak hs)
theorem OkL.unrow (i : Nat) {g T z m c : Nat} {cs : List Value} (hi : L[i]? = some (rowW (some ⟨g, 0, none⟩) T z m c cs)) (next : ∀ tl, OkL P ops rest Q n F w0 (L.set i (blk g T (cs ++ tl)))) : OkL P ops rest Q n F w0 L := fun a w ha hw => by
  obtain ⟨o, ho, hp⟩ := hw.at hi rfl
  obtain ⟨cur, rfl, hs, ht⟩ := hp
  refine next (cur.toList.drop (m * z)) a w ha ?_
  have e : cs ++ cur.toList.drop (m * z) = cur.toList := by rw [← ht, List.take_append_drop]
  rw [e]
  exact hw.turn hi rfl rfl ⟨⟨rfl, rfl, rfl, Nat.le_refl _, fun _ _ _ => rfl⟩, Nat.le_refl _⟩ ⟨_, ho, by simp⟩
end
def srt2 (x y : Pc) : List Pc := if cmpP y x < 0 then [y, x] else [x, y]
theorem two2_srt (x y : Pc) (tl : List Value) : (two2 x y tl).take 22 = rowsL pcL (srt2 x y) := by
  unfold two2 srt2
  split <;> rfl
theorem retP {S : Nat → Prop} {W w : World} {L : List As} (hw : Own ⟨W, none⟩ w L) (i : Nat) {g T : Nat} {x y : Pc} {tl : List Value} (hi : L[i]? = some (blk g T (two2 x y tl))) : GivesR (RX (rowsL pcL (srt2 x y)) 2) S W (.returned (.slice (some ⟨g, 0, none⟩) 2 2)) w := by
  have hro : RowOk (some ⟨g, 0, none⟩) 2 2 := ⟨(fun e => by cases e), (fun a e => by injection e with e; rw [← e]), Nat.le_refl _⟩
  obtain ⟨h1, o, ho, hp⟩ := hw.2.1 _ (List.mem_of_getElem? hi) g rfl
  refine ⟨⟨some ⟨g, 0, none⟩, 2, hro⟩, rfl, hw.out, fun z hz => ?_⟩
  rcases List.mem_singleton.1 hz with rfl
  refine ⟨fun b e => ?_, fun b e => ?_⟩
  · injection e with e
    subst e
    refine ⟨o, ho, (two2 x y tl).toArray, T, (0, 0), hp, ?_⟩
    have h2 : (rowsL pcL (srt2 x y)).length = 22 := by unfold srt2; split <;> rfl
    rw [h2, ← two2_srt x y tl]
    simp
    rfl
  · injection e with e
    subst e
    rcases h1 with h1 | h1 | h1
    · cases h1
    · exact .inl h1
    · cases h1
end
section
set_option maxRecDepth 100000
theorem nan_ok (a : Nat) (w : World)  : Calls Tryz.prog 80 #[(vN a)] w (Gives w (Value.bool false)) := by
 refine calls_of (args := [(vN a)]) Tryz.func80 rfl rfl (leB rfl) (OkC.subF (sC 0 rfl (sN)) (q4 (asg rfl rfl (OkL.nil (q2 (mv rfl rfl (mv rfl rfl (st (ex_neq (c := false) rfl rfl (by simp)) (leB rfl) (asg rfl rfl (OkL.nil (OkQ.subF (sC 2 rfl (sN)) ?_)))))))))))
 exact OkQ.then_ (OkC.ret (ret_one rfl (rd_tmp (v := (Value.bool false)) rfl) (fun w hw => ⟨rfl, hw.out⟩)))
theorem cmpI_ok (a b : Nat) (w : World)  : Calls Tryz.prog 51 #[(vN a), (vN b)] w (Gives w (vI (cmpI a b))) := by
 refine calls_of (args := [(vN a), (vN b)]) Tryz.func51 rfl rfl (leB rfl) (OkC.subF (sC 0 rfl (sC 1 rfl (sN))) (q4 (asg rfl rfl (OkL.nil (q2 (mv rfl rfl (cl Tryz.call80 (fun w hw => nan_ok a w) rfl rfl rfl (asg rfl rfl (q3 (sC 0 rfl (sC 1 rfl (sC 4 rfl (sC 5 rfl (sN))))) (mv rfl rfl (cl Tryz.call80 (fun w hw => nan_ok b w) rfl rfl rfl ?_)))))))))))
 refine asg rfl rfl (q6 (sC 0 rfl (sC 1 rfl (sC 4 rfl (sC 5 rfl (sC 6 rfl (sN)))))) (q4 (mv rfl rfl (OkL.nil (OkQ.subF (sC 0 rfl (sC 1 rfl (sC 4 rfl (sC 6 rfl (sC 11 rfl (sN)))))) (OkQ.then_ (OkC.cond_false rfl (OkC.skip (q1 (q4 (mv rfl rfl ?_)))))))))))
 refine OkL.nil (OkQ.subF (sC 0 rfl (sC 1 rfl (sC 4 rfl (sC 6 rfl (sC 13 rfl (sN)))))) (OkQ.then_ (OkC.cond_false rfl (OkC.skip (q1 (q4 (mv rfl rfl (mv rfl rfl (st (ex_lss (c := (decide (a < b))) rfl rfl (ltN (a := a) (b := b))) (leB rfl) (OkL.nil (OkQ.subF (sC 0 rfl (sC 1 rfl (sC 4 rfl (sC 6 rfl (sC 16 rfl (sN)))))) ?_)))))))))))
 refine OkQ.then_ ?_
 refine OkC.cond rfl (fun hc3 => ?_) (fun hc3 => ?_)
 ·replace hc3 := of_decide_eq_true hc3
  have hr := cmpI_lt hc3
  exact q4 (asg rfl rfl (OkL.nil (OkQ.then_ (OkC.ret (OkQ.then_ret (ret_one rfl (rd_tmp (v := (vI (-1 : Int))) rfl) (fun w hw => ⟨by rw [hr] <;> rfl, hw.out⟩)))))))
 ·replace hc3 := of_decide_eq_false hc3
  refine OkC.skip (q1 (q4 (mv rfl rfl (mv rfl rfl (st (ex_gtr (c := (decide (b < a))) rfl rfl (ltN (a := b) (b := a))) (leB rfl) (OkL.nil (OkQ.subF (sC 0 rfl (sC 1 rfl (sC 4 rfl (sC 6 rfl (sC 19 rfl (sN)))))) (OkQ.then_ ?_))))))))
  refine OkC.cond rfl (fun hc4 => ?_) (fun hc4 => ?_)
  ·replace hc4 := of_decide_eq_true hc4
   have hr := cmpI_gt hc3 hc4
   exact q4 (asg rfl rfl (OkL.nil (OkQ.then_ (OkC.ret (OkQ.then_ret (ret_one rfl (rd_tmp (v := (vI 1)) rfl) (fun w hw => ⟨by rw [hr] <;> rfl, hw.out⟩)))))))
  ·replace hc4 := of_decide_eq_false hc4
   have hr := cmpI_eq hc3 hc4
   exact OkC.skip (q2 (asg rfl rfl (OkL.nil (OkQ.then_ (OkC.ret (ret_one rfl (rd_tmp (v := (vI 0)) rfl) (fun w hw => ⟨by rw [hr] <;> rfl, hw.out⟩)))))))
theorem cmpOr_ok (a b : Int) (g : Nat) (w : World) (hg : w.heap[g]? = some (.cells ([(vI a), (vI b)]).toArray 3 (0, 0))) : Calls Tryz.prog 50 #[(Value.slice (some ⟨g, 0, none⟩) 2 2)] w (fun e w' => e = .returned (Value.int .i64 (orI a b)) ∧ Grw w w' (some g) ∧ w'.heap[g]? = some (.cells ([(vI a), (vI b)]).toArray 3 (0, 0))) := by
 refine calls_ofM (args := [(Value.slice (some ⟨g, 0, none⟩) 2 2)]) (g := g) (T := 3) (cs := [(vI a), (vI b)]) Tryz.func50 rfl rfl (leB rfl) hg (OkC.subF (sC 0 rfl (sN)) (q4 (asg rfl rfl (OkL.nil (q2 (asg rfl rfl (OkL.nil (q1 (q4 (mv rfl rfl (st (v := (vI 2)) (ex_len_slice rfl Tryz.underlying46) (leB rfl) ?_)))))))))))
 refine mv rfl rfl (OkL.nil (OkQ.subF (sC 2 rfl (sC 3 rfl (sC 6 rfl (sC 7 rfl (sC 8 rfl (sN)))))) (OkQ.then_ (OkC.block (OkC.unroll 4 (OkR.step (q4 (st (ex_lss (c := true) rfl rfl (by decide)) (leB rfl) (OkL.nil (q1 (OkC.cond_true rfl ?_)))))))))))
 refine OkC.skip (q1 (OkC.block (q4 (st (v := (pP g 0)) (ex_indexAddr_slice (j := 0) rfl rfl Tryz.underlying46 Tryz.sizeOf3 rfl (by omega) rfl) (leB rfl) (ldO 0 (vI a) tO3 rfl rfl rfl rfl (asg rfl rfl (q3 (sC 2 rfl (sC 3 rfl (sC 6 rfl (sC 7 rfl (sC 8 rfl (sC 5 rfl (sN))))))) (mv rfl rfl (mv rfl rfl (st (ex_neq (c := (decide (a ≠ (0 : Int)))) rfl rfl rfl) (leB rfl) (OkL.nil ?_)))))))))))
 refine OkQ.subF (sC 2 rfl (sC 3 rfl (sC 6 rfl (sC 7 rfl (sC 8 rfl (sC 5 rfl (sC 14 rfl (sN)))))))) (OkQ.then_ ?_)
 refine OkC.cond rfl (fun hc1 => ?_) (fun hc1 => ?_)
 ·replace hc1 := of_decide_eq_true hc1
  have hr : orI a b = a := if_pos hc1
  exact q4 (mv rfl rfl (asg rfl rfl (OkL.nil (OkQ.subF (sC 2 rfl (sC 3 rfl (sC 6 rfl (sC 7 rfl (sC 8 rfl (sC 5 rfl (sN))))))) (OkQ.then_ (OkC.ret (OkQ.in_ret (OkQ.then_ret (OkQ.then_ret (OkQ.in_ret (OkQ.then_ret (ret_one rfl (rd_tmp (v := (vI a)) rfl) (fun w hw => ⟨by rw [hr] <;> rfl, hw.1, hw.get (i := 0) rfl⟩)))))))))))))
 ·replace hc1 := of_decide_eq_false hc1
  have hq := hc1
  refine OkC.skip (OkQ.in_normal (OkQ.then_ (OkC.region (st (ex_add (c := (1 : Int)) rfl rfl (by decide)) (leB rfl) (mv rfl rfl (OkL.nil (OkQ.subF (sC 2 rfl (sC 3 rfl (sC 6 rfl (sC 7 rfl (sC 8 rfl (sC 5 rfl (sN))))))) (OkQ.again (OkR.step (q4 (st (ex_lss (c := true) rfl rfl (by decide)) (leB rfl) ?_)))))))))))
  refine OkL.nil (q1 (OkC.cond_true rfl (OkC.skip (q1 (OkC.block (q4 (st (v := (pP g 1)) (ex_indexAddr_slice (j := 1) rfl rfl Tryz.underlying46 Tryz.sizeOf3 rfl (by omega) rfl) (leB rfl) (ldO 0 (vI b) tO3 rfl rfl rfl rfl (asg rfl rfl (q3 (sC 2 rfl (sC 3 rfl (sC 6 rfl (sC 7 rfl (sC 8 rfl (sC 5 rfl (sN))))))) (mv rfl rfl ?_)))))))))))
  refine mv rfl rfl (st (ex_neq (c := (decide (b ≠ (0 : Int)))) rfl rfl rfl) (leB rfl) (OkL.nil (OkQ.subF (sC 2 rfl (sC 3 rfl (sC 6 rfl (sC 7 rfl (sC 8 rfl (sC 5 rfl (sC 14 rfl (sN)))))))) (OkQ.then_ ?_))))
  refine OkC.cond rfl (fun hc1 => ?_) (fun hc1 => ?_)
  ·replace hc1 := of_decide_eq_true hc1
   have hr : orI a b = b := by rw [orI, if_neg hq, if_pos hc1]
   exact q4 (mv rfl rfl (asg rfl rfl (OkL.nil (OkQ.subF (sC 2 rfl (sC 3 rfl (sC 6 rfl (sC 7 rfl (sC 8 rfl (sC 5 rfl (sN))))))) (OkQ.then_ (OkC.ret (OkQ.in_ret (OkQ.then_ret (OkQ.then_ret (OkQ.in_ret (OkQ.then_ret (ret_one rfl (rd_tmp (v := (vI b)) rfl) (fun w hw => ⟨by rw [hr] <;> rfl, hw.1, hw.get (i := 0) rfl⟩)))))))))))))
  ·replace hc1 := of_decide_eq_false hc1
   have hr : orI a b = 0 := by rw [orI, if_neg hq, if_neg hc1]
   refine OkC.skip (OkQ.in_normal (OkQ.then_ (OkC.region (st (ex_add (c := (2 : Int)) rfl rfl (by decide)) (leB rfl) (mv rfl rfl (OkL.nil (OkQ.subF (sC 2 rfl (sC 3 rfl (sC 6 rfl (sC 7 rfl (sC 8 rfl (sC 5 rfl (sN))))))) (OkQ.again (OkR.step (q4 (st (ex_lss (c := false) rfl rfl (by decide)) (leB rfl) ?_)))))))))))
   refine OkL.nil (q1 (OkC.cond_false rfl (OkC.exit (OkQ.then_exit (OkQ.then_exit (OkQ.in_exit (q2 (mv rfl rfl (asg rfl rfl (OkL.nil (OkQ.subF (sC 2 rfl (sC 3 rfl (sC 6 rfl (sC 7 rfl (sC 8 rfl (sC 5 rfl (sN))))))) ?_)))))))))))
   exact OkQ.then_ (OkC.ret (ret_one rfl (rd_tmp (v := (vI 0)) rfl) (fun w hw => ⟨by rw [hr] <;> rfl, hw.1, hw.get (i := 0) rfl⟩)))
theorem ray1_ok (x y : Pc) (hs : Sz x.lo + Sz y.lo ≤ 1000000) (w : World)  : Calls Tryz.prog 66 #[(aG (pcL x)), (aG (pcL y))] w (Gives w (vI (cmpP x y))) := by
 refine calls_of (args := [(aG (pcL x)), (aG (pcL y))]) Tryz.func66 rfl rfl (leB rfl) (OkC.subF (sC 0 rfl (sC 1 rfl (sN))) (q4 (bx (cs := pcL x) rfl rfl rfl fun b1 => bx (cs := pcL y) rfl rfl rfl fun b2 => asg rfl rfl (q6 (sC 2 rfl (sC 3 rfl (sC 4 rfl (sN)))) (rG [(0, true), (1, true), (2, true), (3, true), (5, true), (6, true), (7, true), (8, true), (4, false), (9, false), (10, false), (11, false), (12, true)] sr (by kernel_rfl) (fun _ _ d _ _ h => by cases d <;> exact h) (pE (v := (pP b1 1)) rfl (ex_fieldAddr rfl Tryz.underlying99 rfl Tryz.sizeOf43 rfl) rfl (pA 1 (fracL x.lo) tA43 rfl rfl rfl rfl rfl rfl (pE (v := (pP b2 1)) rfl (ex_fieldAddr rfl Tryz.underlying99 rfl Tryz.sizeOf43 rfl) rfl (pA 0 (fracL y.lo) tA43 rfl rfl rfl rfl rfl rfl ?_)))))))))
 refine pE (v := (pP b1 0)) rfl (ex_fieldAddr rfl Tryz.underlying99 rfl Tryz.sizeOf3 rfl) rfl (pO' 1 (vN x.tri) tO3 rfl rfl rfl rfl rfl (pE (v := (pP b2 0)) rfl (ex_fieldAddr rfl Tryz.underlying99 rfl Tryz.sizeOf3 rfl) rfl (pO' 0 (vN y.tri) tO3 rfl rfl rfl rfl rfl (OkE.imp rfl (cl Tryz.call22 (fun w hw => fCmp_ok x.lo y.lo (by omega) w) rfl rfl rfl (OkE.back sr (OkE.imp rfl (cl Tryz.call51 (fun w hw => cmpI_ok x.tri y.tri w) rfl rfl rfl (OkE.back sr (OkE.imp rfl (OkL.openV (V := fun b3 => (Value.slice (some ⟨b3, 0, none⟩) 2 2)) (T := 3) (cs := [(vI (cmpQ x.lo y.lo)), (vI (cmpI x.tri y.tri))]) (wt_none rfl) (op_buildSlice (cs := [(vI (cmpQ x.lo y.lo)), (vI (cmpI x.tri y.tri))]) (pv := [(0, (vI (cmpQ x.lo y.lo))), (1, (vI (cmpI x.tri y.tri)))]) Tryz.underlying46 Tryz.sizeOf3 Tryz.zeroValue3 (by decide) (by decide) rfl (by kernel_rfl)) rfl (leB rfl) fun b3 => ?_)))))))))))
 exact OkE.back (sl sr) (OkE.imp rfl (OkL.callM (v := (vI (orI (cmpQ x.lo y.lo) (cmpI x.tri y.tri)))) (i := 0) (cs' := [(vI (cmpQ x.lo y.lo)), (vI (cmpI x.tri y.tri))]) (L' := [blk b3 3 ([(vI (cmpQ x.lo y.lo)), (vI (cmpI x.tri y.tri))]), blk b2 99 (pcL y), blk b1 99 (pcL x)]) (wt_none rfl) (op_call0 (args := [(Value.slice (some ⟨b3, 0, none⟩) 2 2)]) rfl rfl Tryz.call50) rfl (fun w hw => cmpOr_ok (cmpQ x.lo y.lo) (cmpI x.tri y.tri) _ w (hw.get (i := 0) rfl)) (fun d hd => by cases hd <;> exact (leB rfl)) rfl (OkE.back (sl sr) (pS rfl rfl rfl (OkE.nil (OkQ.subF (sC 4 rfl (sN)) (OkQ.then_ (OkC.ret (ret_one rfl (rd_tmp (v := (vI (orI (cmpQ x.lo y.lo) (cmpI x.tri y.tri)))) rfl) (fun w hw => ⟨by rw [← orI_eq], hw.out⟩))))))))))
theorem isort2_ok (x y : Pc) (tl : List Value) (cp : Nat) (g : Nat) (hcp : 2 ≤ cp) (hs : Sz x.lo + Sz y.lo ≤ 1000000) (w : World) (hg : w.heap[g]? = some (.cells (pcL x ++ (pcL y ++ tl)).toArray 99 (0, 0))) : Calls Tryz.prog 121 #[(Value.slice (some ⟨g, 0, none⟩) 2 cp), (vI 0), (vI 2), (Value.func (.func 66) #[] #[])] w (fun e w' => e = .returned (.tuple #[]) ∧ Grw w w' (some g) ∧ w'.heap[g]? = some (.cells (two2 x y tl).toArray 99 (0, 0))) := by
 refine calls_ofM (args := [(Value.slice (some ⟨g, 0, none⟩) 2 cp), (vI 0), (vI 2), (Value.func (.func 66) #[] #[])]) (g := g) (T := 99) (cs := pcL x ++ (pcL y ++ tl)) Tryz.func121 rfl rfl (leB rfl) hg (OkC.subF (sC 0 rfl (sC 1 rfl (sC 2 rfl (sC 3 rfl (sN))))) (q4 (mv rfl rfl (st (ex_add (c := (1 : Int)) rfl rfl (by decide)) (leB rfl) (asg rfl rfl (OkL.nil (OkQ.subF (sC 0 rfl (sC 1 rfl (sC 2 rfl (sC 3 rfl (sC 8 rfl (sN)))))) (OkQ.then_ (OkC.block (OkC.unroll 3 (OkR.step ?_)))))))))))
 refine OkC.seq (q4 (mv rfl rfl (mv rfl rfl (st (ex_lss (c := true) rfl rfl (by decide)) (leB rfl) (OkL.nil (OkQ.subF (sC 0 rfl (sC 1 rfl (sC 2 rfl (sC 3 rfl (sC 8 rfl (sC 14 rfl (sN))))))) (OkQ.then_ (OkC.cond_true rfl (OkC.skip (q1 (OkC.block ?_)))))))))))
 refine q4 (mv rfl rfl (asg rfl rfl (OkL.nil (OkQ.subF (sC 0 rfl (sC 1 rfl (sC 2 rfl (sC 3 rfl (sC 8 rfl (sC 9 rfl (sN))))))) (OkQ.then_ (OkC.block (OkC.unroll 3 (OkR.step (OkC.seq (OkC.seq (rG [(0, true), (1, true), (2, true), (3, true), (4, true), (5, true), (6, true), (7, true), (8, true), (9, true), (10, true), (11, true), (12, true), (13, true), (14, false), (15, true), (16, true)] sr (by kernel_rfl) (fun _ _ d _ _ h => by cases d <;> exact h) ?_)))))))))))
 refine pM rfl rfl rfl (pM rfl rfl rfl (pE rfl (ex_gtr (c := true) rfl rfl (by decide)) rfl (pM rfl rfl rfl (OkE.pas (v := (Value.func (.func 66) #[] #[])) rfl (wt_some rfl rfl rfl) (ex_move rfl) rfl rfl (OkE.pas (v := (Value.slice (some ⟨g, 0, none⟩) 2 cp)) rfl (wt_some rfl rfl rfl) (ex_move rfl) rfl rfl (OkE.pas (v := (vI 1)) rfl (wt_some rfl rfl rfl) (ex_move rfl) rfl rfl (OkE.pas (v := (pP g 11)) rfl (wt_some rfl rfl rfl) (ex_indexAddr_slice (j := 1) rfl rfl Tryz.underlying96 Tryz.sizeOf99 rfl (by omega) rfl) rfl rfl (OkE.pas (v := (aG (pcL y))) rfl (wt_some rfl rfl rfl) (ex_load_agg (i := 0) (vs := pcL y) rfl rfl tA99.a tA99.s rfl rfl) rfl rfl (OkE.pas (v := (Value.slice (some ⟨g, 0, none⟩) 2 cp)) rfl (wt_some rfl rfl rfl) (ex_move rfl) rfl rfl (OkE.pas (v := (vI 1)) rfl (wt_some rfl rfl rfl) (ex_move rfl) rfl rfl (OkE.pas (v := (vI 0)) rfl (wt_some rfl rfl rfl) (ex_sub (c := (0 : Int)) rfl rfl (by decide)) rfl rfl ?_)))))))))))
 refine OkE.pas (v := (pP g 0)) rfl (wt_some rfl rfl rfl) (ex_indexAddr_slice (j := 0) rfl rfl Tryz.underlying96 Tryz.sizeOf99 rfl (by omega) rfl) rfl rfl (OkE.pas (v := (aG (pcL x))) rfl (wt_some rfl rfl rfl) (ex_load_agg (i := 0) (vs := pcL x) rfl rfl tA99.a tA99.s rfl rfl) rfl rfl (OkE.imp rfl (OkL.call (v := (vI (cmpP y x))) (wt_some rfl rfl rfl) (op_call0 (args := [(aG (pcL y)), (aG (pcL x))]) rfl rfl Tryz.call66) (fun w hw => ray1_ok y x (by omega) w) rfl (leB rfl) (OkE.back sr (OkE.pas (v := (Value.bool (decide ((cmpP y x) < (0 : Int))))) rfl (wt_some rfl rfl rfl) (ex_lss (c := (decide ((cmpP y x) < (0 : Int)))) rfl rfl rfl) rfl rfl (pE (v := (Value.bool (decide ((cmpP y x) < (0 : Int))))) rfl (ex_pick_true rfl rfl) rfl (OkE.nil (OkQ.subF (sC 0 rfl (sC 1 rfl (sC 2 rfl (sC 3 rfl (sC 8 rfl (sC 9 rfl (sC 22 rfl (sC 23 rfl (sC 24 rfl (sC 25 rfl (sC 26 rfl (sC 27 rfl (sC 28 rfl (sC 29 rfl (sC 30 rfl (sC 31 rfl (sC 32 rfl (sC 33 rfl (sC 34 rfl (sN)))))))))))))))))))) (OkQ.then_ ?_)))))))))
 refine OkC.cond rfl (fun hc1 => ?_) (fun hc1 => ?_)
 ·replace hc1 := of_decide_eq_true hc1
  have hr := two2_t (tl := tl) hc1
  refine OkC.skip (q1 (OkC.block ?_))
  refine dA (sl sr) (dC (dC (dC (dC (dC (dC (dC (dC (dC (dC (dC (dC (dC (dC (dC (dN)))))))))))))))) (fun _ => vC (vcM 0 (Value.slice (some ⟨g, 0, none⟩) 2 cp) (fun _ => by kernel_rfl)) (vC (vcM 9 (vI 1) (fun _ => by kernel_rfl)) (vC (vcM 0 (Value.slice (some ⟨g, 0, none⟩) 2 cp) (fun _ => by kernel_rfl)) (vC (vcM 9 (vI 1) (fun _ => by kernel_rfl)) (vC (vcP (G := [(40, (vI 1))]) (fun _ => by kernel_rfl) (fun _ => ex_sub (c := (0 : Int)) rfl rfl (by decide))) (vC (vcM 0 (Value.slice (some ⟨g, 0, none⟩) 2 cp) (fun _ => by kernel_rfl)) (vC (vcM 9 (vI 1) (fun _ => by kernel_rfl)) (vC (vcP (G := [(43, (vI 1))]) (fun _ => by kernel_rfl) (fun _ => ex_sub (c := (0 : Int)) rfl rfl (by decide))) (vC (vcP (v := (pP g 0)) (G := [(42, (Value.slice (some ⟨g, 0, none⟩) 2 cp)), (44, (vI 0))]) (fun _ => by kernel_rfl) (fun _ => ex_indexAddr_slice (j := 0) rfl rfl Tryz.underlying96 Tryz.sizeOf99 rfl (by omega) rfl)) (vC (vc_look0 (v := fun β => (aG (pcL x))) (ks := []) (G := fun β => [(45, (pP g 0))]) (fun β => sF (by kernel_rfl)) (fun β => ex_load_agg (i := 0) (vs := pcL x) rfl rfl tA99.a tA99.s rfl rfl)) (vC (vcM 0 (Value.slice (some ⟨g, 0, none⟩) 2 cp) (fun _ => by kernel_rfl)) (vC (vcM 9 (vI 1) (fun _ => by kernel_rfl)) (vC (vcP (v := (pP g 11)) (G := [(47, (Value.slice (some ⟨g, 0, none⟩) 2 cp)), (48, (vI 1))]) (fun _ => by kernel_rfl) (fun _ => ex_indexAddr_slice (j := 1) rfl rfl Tryz.underlying96 Tryz.sizeOf99 rfl (by omega) rfl)) (vC (vc_look0 (v := fun β => (aG (pcL y))) (ks := []) (G := fun β => [(49, (pP g 11))]) (fun β => sF (by kernel_rfl)) (fun β => ex_load_agg (i := 0) (vs := pcL y) rfl rfl tA99.a tA99.s rfl rfl)) (vC (vcP (v := (pP g 11)) (G := [(37, (Value.slice (some ⟨g, 0, none⟩) 2 cp)), (38, (vI 1))]) (fun _ => by kernel_rfl) (fun _ => ex_indexAddr_slice (j := 1) rfl rfl Tryz.underlying96 Tryz.sizeOf99 rfl (by omega) rfl)) (VcAll.nil)))))))))))))))) (by kernel_rfl) (by kernel_rfl) (fun _ _ d _ _ h => by cases d <;> exact h) (fun β _ => ?_)
  refine hS0 (F' := [(0, (Value.slice (some ⟨g, 0, none⟩) 2 cp)), (1, (vI 0)), (2, (vI 2)), (3, (Value.func (.func 66) #[] #[])), (8, (vI 1)), (9, (vI 1)), (22, (Value.func (.func 66) #[] #[])), (23, (Value.slice (some ⟨g, 0, none⟩) 2 cp)), (24, (vI 1)), (25, (pP g 11)), (26, (aG (pcL y))), (27, (Value.slice (some ⟨g, 0, none⟩) 2 cp)), (28, (vI 1)), (29, (vI 0)), (30, (pP g 0)), (31, (aG (pcL x))), (32, (vI (cmpP y x))), (33, (Value.bool (decide ((cmpP y x) < (0 : Int))))), (39, (Value.slice (some ⟨g, 0, none⟩) 2 cp)), (41, (vI 0)), (46, (aG (pcL x))), (50, (aG (pcL y))), (51, (pP g 11))]) rfl rfl (OkLH.store' (i := 0) (off := 11) (vs := pcL x) (cs' := pcL x ++ (pcL x ++ tl)) (L' := [blk g 99 (pcL x ++ (pcL x ++ tl))]) (sl sr) (wt_none rfl) rfl rfl rfl rfl rfl Tryz.sizeOf99 rfl rfl rfl rfl (OkLH.step (v := (pP g 0)) (sl sr) (wt_none rfl) (ex_indexAddr_slice (j := 0) rfl rfl Tryz.underlying96 Tryz.sizeOf99 rfl (by omega) rfl) rfl (leB rfl) (OkLH.store' (i := 0) (off := 0) (vs := pcL y) (cs' := pcL y ++ (pcL x ++ tl)) (L' := [blk g 99 (pcL y ++ (pcL x ++ tl))]) (sl sr) (wt_none rfl) rfl rfl rfl rfl rfl Tryz.sizeOf99 rfl rfl rfl rfl (OkLH.nil (OkQ.subF (sC 0 rfl (sC 1 rfl (sC 2 rfl (sC 3 rfl (sC 8 rfl (sC 9 rfl (sC 22 rfl (sC 23 rfl (sC 24 rfl (sC 25 rfl (sC 26 rfl (sC 27 rfl (sC 28 rfl (sC 29 rfl (sC 30 rfl (sC 31 rfl (sC 32 rfl (sC 33 rfl (sN))))))))))))))))))) (OkQ.in_normal (OkQ.then_ (OkC.region (mv rfl rfl (st (ex_sub (c := (0 : Int)) rfl rfl (by decide)) (leB rfl) (asg rfl rfl ?_)))))))))))
  refine OkL.nil (OkQ.subF (sC 0 rfl (sC 1 rfl (sC 2 rfl (sC 3 rfl (sC 8 rfl (sC 9 rfl (sC 22 rfl (sC 23 rfl (sC 24 rfl (sC 25 rfl (sC 26 rfl (sC 27 rfl (sC 28 rfl (sC 29 rfl (sC 30 rfl (sC 31 rfl (sC 32 rfl (sC 33 rfl (sN))))))))))))))))))) (OkQ.again (OkR.step (OkC.seq (OkC.seq (rG [(0, true), (1, true), (2, true), (3, true), (4, true), (5, true), (6, true), (7, true), (8, true), (9, true), (10, true), (11, true), (12, true), (13, true), (14, false), (15, true), (16, true)] sr (by kernel_rfl) (fun _ _ d _ _ h => by cases d <;> exact h) (pM rfl rfl rfl (pM rfl rfl rfl (pE rfl (ex_gtr (c := false) rfl rfl (by decide)) rfl (pM rfl rfl rfl (OkE.skp rfl (wt_not rfl rfl rfl) rfl rfl ?_)))))))))))
  refine OkE.skp rfl (wt_not rfl rfl rfl) rfl rfl (OkE.skp rfl (wt_not rfl rfl rfl) rfl rfl (OkE.skp rfl (wt_not rfl rfl rfl) rfl rfl (OkE.skp rfl (wt_not rfl rfl rfl) rfl rfl (OkE.skp rfl (wt_not rfl rfl rfl) rfl rfl (OkE.skp rfl (wt_not rfl rfl rfl) rfl rfl (OkE.skp rfl (wt_not rfl rfl rfl) rfl rfl (OkE.skp rfl (wt_not rfl rfl rfl) rfl rfl (OkE.skp rfl (wt_not rfl rfl rfl) rfl rfl (OkE.imp rfl (OkL.skip (wt_not rfl rfl rfl) rfl (leB rfl) (OkE.back sr ?_)))))))))))
  refine OkE.skp rfl (wt_not rfl rfl rfl) rfl rfl (pE (v := (Value.bool false)) rfl (ex_pick_false rfl rfl) rfl (OkE.nil (OkQ.subF (sC 0 rfl (sC 1 rfl (sC 2 rfl (sC 3 rfl (sC 8 rfl (sC 9 rfl (sC 34 rfl (sN)))))))) (OkQ.then_ (OkC.cond_false rfl (OkC.exit (OkQ.then_exit (OkQ.then_exit (OkQ.in_exit (OkQ.in_normal (OkQ.then_ ?_)))))))))))
  refine OkC.region (mv rfl rfl (st (ex_add (c := (2 : Int)) rfl rfl (by decide)) (leB rfl) (asg rfl rfl (OkL.nil (OkQ.subF (sC 0 rfl (sC 1 rfl (sC 2 rfl (sC 3 rfl (sC 8 rfl (sC 9 rfl (sN))))))) (OkQ.again (OkR.step (OkC.seq (q4 (mv rfl rfl (mv rfl rfl ?_)))))))))))
  exact st (ex_lss (c := false) rfl rfl (by decide)) (leB rfl) (OkL.nil (OkQ.subF (sC 0 rfl (sC 1 rfl (sC 2 rfl (sC 3 rfl (sC 8 rfl (sC 9 rfl (sC 14 rfl (sN)))))))) (OkQ.then_ (OkC.cond_false rfl (OkC.exit (OkQ.then_exit (OkQ.then_exit (OkQ.in_exit (ret_none (.inr rfl) rfl  (fun w hw => ⟨rfl, hw.1, by rw [hr]; exact hw.get (i := 0) rfl⟩))))))))))
 ·replace hc1 := of_decide_eq_false hc1
  have hr := two2_f (tl := tl) hc1
  refine OkC.exit (OkQ.then_exit (OkQ.then_exit (OkQ.in_exit (OkQ.in_normal (OkQ.then_ (OkC.region (mv rfl rfl (st (ex_add (c := (2 : Int)) rfl rfl (by decide)) (leB rfl) (asg rfl rfl (OkL.nil (OkQ.subF (sC 0 rfl (sC 1 rfl (sC 2 rfl (sC 3 rfl (sC 8 rfl (sC 9 rfl (sC 22 rfl (sC 23 rfl (sC 24 rfl (sC 25 rfl (sC 26 rfl (sC 27 rfl (sC 28 rfl (sC 29 rfl (sC 30 rfl (sC 31 rfl (sC 32 rfl (sC 33 rfl (sN))))))))))))))))))) ?_)))))))))))
  refine OkQ.again (OkR.step (OkC.seq (q4 (mv rfl rfl (mv rfl rfl (st (ex_lss (c := false) rfl rfl (by decide)) (leB rfl) (OkL.nil (OkQ.subF (sC 0 rfl (sC 1 rfl (sC 2 rfl (sC 3 rfl (sC 8 rfl (sC 9 rfl (sC 22 rfl (sC 23 rfl (sC 24 rfl (sC 25 rfl (sC 26 rfl (sC 27 rfl (sC 28 rfl (sC 29 rfl (sC 30 rfl (sC 31 rfl (sC 32 rfl (sC 33 rfl (sC 14 rfl (sN)))))))))))))))))))) (OkQ.then_ (OkC.cond_false rfl (OkC.exit ?_)))))))))))
  exact OkQ.then_exit (OkQ.then_exit (OkQ.in_exit (ret_none (.inr rfl) rfl  (fun w hw => ⟨rfl, hw.1, by rw [hr]; exact hw.get (i := 0) rfl⟩))))
theorem len64_0  (w : World)  : Calls Tryz.prog 112 #[(Value.int .u64 (0 : Int))] w (Gives w (vI 0)) := by
 refine calls_of (args := [(Value.int .u64 (0 : Int))]) Tryz.func112 rfl rfl (leB rfl) (OkC.subF (sC 0 rfl (sN)) (q4 (asg rfl rfl (OkL.nil (q1 (q4 (mv rfl rfl (st (ex_geq (c := false) rfl rfl (by decide)) (leB rfl) (OkL.nil (OkQ.subF (sC 0 rfl (sC 2 rfl (sC 4 rfl (sN)))) (OkQ.then_ ?_)))))))))))
 refine OkC.cond_false rfl (OkC.skip (q1 (q4 (mv rfl rfl (st (ex_geq (c := false) rfl rfl (by decide)) (leB rfl) (OkL.nil (OkQ.subF (sC 0 rfl (sC 2 rfl (sC 8 rfl (sN)))) (OkQ.then_ (OkC.cond_false rfl (OkC.skip (q1 ?_)))))))))))
 refine q4 (mv rfl rfl (st (ex_geq (c := false) rfl rfl (by decide)) (leB rfl) (OkL.nil (OkQ.subF (sC 0 rfl (sC 2 rfl (sC 14 rfl (sN)))) (OkQ.then_ (OkC.cond_false rfl (OkC.skip (q2 (mv rfl rfl (mv rfl rfl (st (ex_conv (c := (0 : Int)) rfl Tryz.underlying35 Tryz.underlying5 (by decide)) (leB rfl) ?_)))))))))))
 exact st (v := (Value.int .u8 (0 : Int))) (ex_index_str (j := 0) (m := 0) rfl rfl Tryz.underlying9 (by kernel_rfl) (by decide)) (leB rfl) (st (ex_conv (c := (0 : Int)) rfl Tryz.underlying5 Tryz.underlying3 (by decide)) (leB rfl) (st (ex_add (c := (0 : Int)) rfl rfl (by decide)) (leB rfl) (asg rfl rfl (OkL.nil (OkQ.subF (sC 0 rfl (sC 2 rfl (sN))) (OkQ.then_ (OkC.ret (ret_one rfl (rd_tmp (v := (vI 0)) rfl) (fun w hw => ⟨rfl, hw.out⟩)))))))))
theorem len_0  (w : World)  : Calls Tryz.prog 79 #[(Value.int .u64 (0 : Int))] w (Gives w (vI 0)) := by
 refine calls_of (args := [(Value.int .u64 (0 : Int))]) Tryz.func79 rfl rfl (leB rfl) (OkC.subF (sC 0 rfl (sN)) (q4 (asg rfl rfl (OkL.nil (q1 (OkC.cond_false rfl (OkC.skip (q2 (mv rfl rfl (cl Tryz.call112 (fun w hw => len64_0 w) rfl rfl rfl (asg rfl rfl ?_)))))))))))
 exact OkL.nil (OkQ.subF (sC 0 rfl (sC 2 rfl (sN))) (OkQ.then_ (OkC.ret (ret_one rfl (rd_tmp (v := (vI 0)) rfl) (fun w hw => ⟨rfl, hw.out⟩)))))
theorem len64_2  (w : World)  : Calls Tryz.prog 112 #[(Value.int .u64 (2 : Int))] w (Gives w (vI 2)) := by
 refine calls_of (args := [(Value.int .u64 (2 : Int))]) Tryz.func112 rfl rfl (leB rfl) (OkC.subF (sC 0 rfl (sN)) (q4 (asg rfl rfl (OkL.nil (q1 (q4 (mv rfl rfl (st (ex_geq (c := false) rfl rfl (by decide)) (leB rfl) (OkL.nil (OkQ.subF (sC 0 rfl (sC 2 rfl (sC 4 rfl (sN)))) (OkQ.then_ ?_)))))))))))
 refine OkC.cond_false rfl (OkC.skip (q1 (q4 (mv rfl rfl (st (ex_geq (c := false) rfl rfl (by decide)) (leB rfl) (OkL.nil (OkQ.subF (sC 0 rfl (sC 2 rfl (sC 8 rfl (sN)))) (OkQ.then_ (OkC.cond_false rfl (OkC.skip (q1 ?_)))))))))))
 refine q4 (mv rfl rfl (st (ex_geq (c := false) rfl rfl (by decide)) (leB rfl) (OkL.nil (OkQ.subF (sC 0 rfl (sC 2 rfl (sC 14 rfl (sN)))) (OkQ.then_ (OkC.cond_false rfl (OkC.skip (q2 (mv rfl rfl (mv rfl rfl (st (ex_conv (c := (2 : Int)) rfl Tryz.underlying35 Tryz.underlying5 (by decide)) (leB rfl) ?_)))))))))))
 exact st (v := (Value.int .u8 (2 : Int))) (ex_index_str (j := 2) (m := 2) rfl rfl Tryz.underlying9 (by kernel_rfl) (by decide)) (leB rfl) (st (ex_conv (c := (2 : Int)) rfl Tryz.underlying5 Tryz.underlying3 (by decide)) (leB rfl) (st (ex_add (c := (2 : Int)) rfl rfl (by decide)) (leB rfl) (asg rfl rfl (OkL.nil (OkQ.subF (sC 0 rfl (sC 2 rfl (sN))) (OkQ.then_ (OkC.ret (ret_one rfl (rd_tmp (v := (vI 2)) rfl) (fun w hw => ⟨rfl, hw.out⟩)))))))))
theorem len_2  (w : World)  : Calls Tryz.prog 79 #[(Value.int .u64 (2 : Int))] w (Gives w (vI 2)) := by
 refine calls_of (args := [(Value.int .u64 (2 : Int))]) Tryz.func79 rfl rfl (leB rfl) (OkC.subF (sC 0 rfl (sN)) (q4 (asg rfl rfl (OkL.nil (q1 (OkC.cond_false rfl (OkC.skip (q2 (mv rfl rfl (cl Tryz.call112 (fun w hw => len64_2 w) rfl rfl rfl (asg rfl rfl ?_)))))))))))
 exact OkL.nil (OkQ.subF (sC 0 rfl (sC 2 rfl (sN))) (OkQ.then_ (OkC.ret (ret_one rfl (rd_tmp (v := (vI 2)) rfl) (fun w hw => ⟨rfl, hw.out⟩)))))
theorem pdq2_ok (x y : Pc) (tl : List Value) (cp : Nat) (g : Nat) (hcp : 2 ≤ cp) (hs : Sz x.lo + Sz y.lo ≤ 1000000) (w : World) (hg : w.heap[g]? = some (.cells (pcL x ++ (pcL y ++ tl)).toArray 99 (0, 0))) : Calls Tryz.prog 91 #[(Value.slice (some ⟨g, 0, none⟩) 2 cp), (vI 0), (vI 2), (vI 2), (Value.func (.func 66) #[] #[])] w (fun e w' => e = .returned (.tuple #[]) ∧ Grw w w' (some g) ∧ w'.heap[g]? = some (.cells (two2 x y tl).toArray 99 (0, 0))) := by
 refine calls_ofM (args := [(Value.slice (some ⟨g, 0, none⟩) 2 cp), (vI 0), (vI 2), (vI 2), (Value.func (.func 66) #[] #[])]) (g := g) (T := 99) (cs := pcL x ++ (pcL y ++ tl)) Tryz.func91 rfl rfl (leB rfl) hg (OkC.subF (sC 0 rfl (sC 1 rfl (sC 2 rfl (sC 3 rfl (sC 4 rfl (sN)))))) (q4 (asg rfl rfl (OkL.nil (q2 (asg rfl rfl (OkL.nil (OkQ.then_ (OkC.block (OkC.unroll 1 (OkR.step ?_)))))))))))
 refine OkC.block (q4 (mv rfl rfl (mv rfl rfl (st (ex_sub (c := (2 : Int)) rfl rfl (by decide)) (leB rfl) (asg rfl rfl (q6 (sC 0 rfl (sC 1 rfl (sC 2 rfl (sC 3 rfl (sC 4 rfl (sC 10 rfl (sC 11 rfl (sC 12 rfl (sN))))))))) (q4 (mv rfl rfl (st (ex_leq (c := true) rfl rfl (by decide)) (leB rfl) (OkL.nil (OkQ.subF (sC 0 rfl (sC 1 rfl (sC 2 rfl (sC 3 rfl (sC 4 rfl (sC 10 rfl (sC 11 rfl (sC 12 rfl (sC 25 rfl (sN)))))))))) ?_)))))))))))
 refine OkQ.then_ (OkC.cond_true rfl (q4 (mv rfl rfl (mv rfl rfl (mv rfl rfl (mv rfl rfl (OkL.callM (v := (Value.tuple #[])) (i := 0) (cs' := two2 x y tl) (L' := [blk g 99 (two2 x y tl)]) (wt_none rfl) (op_call0 (args := [(Value.slice (some ⟨g, 0, none⟩) 2 cp), (vI 0), (vI 2), (Value.func (.func 66) #[] #[])]) rfl rfl Tryz.call121) rfl (fun w hw => isort2_ok x y tl cp _ hcp hs w (hw.get (i := 0) rfl)) (fun d hd => by cases hd <;> exact (leB rfl)) rfl (OkL.nil (OkQ.subF (sC 0 rfl (sC 1 rfl (sC 2 rfl (sC 3 rfl (sC 4 rfl (sC 10 rfl (sC 11 rfl (sC 12 rfl (sN))))))))) (OkQ.then_ (OkC.ret ?_)))))))))))
 exact OkQ.then_ret (OkQ.in_ret (OkQ.then_ret (OkQ.in_ret (ret_none (.inl rfl) rfl  (fun w hw => ⟨rfl, hw.1, hw.get (i := 0) rfl⟩)))))
theorem sort2_ok (x y : Pc) (tl : List Value) (cp : Nat) (g : Nat) (hcp : 2 ≤ cp) (hs : Sz x.lo + Sz y.lo ≤ 1000000) (w : World) (hg : w.heap[g]? = some (.cells (pcL x ++ (pcL y ++ tl)).toArray 99 (0, 0))) : Calls Tryz.prog 65 #[(Value.slice (some ⟨g, 0, none⟩) 2 cp), (Value.func (.func 66) #[] #[])] w (fun e w' => e = .returned (.tuple #[]) ∧ Grw w w' (some g) ∧ w'.heap[g]? = some (.cells (two2 x y tl).toArray 99 (0, 0))) := by
 refine calls_ofM (args := [(Value.slice (some ⟨g, 0, none⟩) 2 cp), (Value.func (.func 66) #[] #[])]) (g := g) (T := 99) (cs := pcL x ++ (pcL y ++ tl)) Tryz.func65 rfl rfl (leB rfl) hg (OkC.subF (sC 0 rfl (sC 1 rfl (sN))) (q4 (mv rfl rfl (st (v := (vI 2)) (ex_len_slice rfl Tryz.underlying96) (leB rfl) (asg rfl rfl (OkL.nil (OkQ.subF (sC 0 rfl (sC 1 rfl (sC 4 rfl (sN)))) (OkQ.then_ (OkC.region (mv rfl rfl (mv rfl rfl ?_)))))))))))
 exact mv rfl rfl (st (ex_conv (c := (2 : Int)) rfl Tryz.underlying3 Tryz.underlying151 (by decide)) (leB rfl) (cl Tryz.call79 (fun w hw => len_2 w) rfl rfl rfl (mv rfl rfl (OkL.callM (v := (Value.tuple #[])) (i := 0) (cs' := two2 x y tl) (L' := [blk g 99 (two2 x y tl)]) (wt_none rfl) (op_call0 (args := [(Value.slice (some ⟨g, 0, none⟩) 2 cp), (vI 0), (vI 2), (vI 2), (Value.func (.func 66) #[] #[])]) rfl rfl Tryz.call91) rfl (fun w hw => pdq2_ok x y tl cp _ hcp hs w (hw.get (i := 0) rfl)) (fun d hd => by cases hd <;> exact (leB rfl)) rfl (OkL.nil (OkQ.subF (sC 0 rfl (sN)) (ret_none (.inr rfl) rfl  (fun w hw => ⟨rfl, hw.1, hw.get (i := 0) rfl⟩))))))))
theorem isort0_ok  (w : World)  : Calls Tryz.prog 121 #[(Value.slice none 0 0), (vI 0), (vI 0), (Value.func (.func 66) #[] #[])] w (Gives w (Value.tuple #[])) := by
 refine calls_of (args := [(Value.slice none 0 0), (vI 0), (vI 0), (Value.func (.func 66) #[] #[])]) Tryz.func121 rfl rfl (leB rfl) (OkC.subF (sC 0 rfl (sC 1 rfl (sC 2 rfl (sC 3 rfl (sN))))) (q4 (mv rfl rfl (st (ex_add (c := (1 : Int)) rfl rfl (by decide)) (leB rfl) (asg rfl rfl (OkL.nil (OkQ.subF (sC 0 rfl (sC 1 rfl (sC 2 rfl (sC 3 rfl (sC 8 rfl (sN)))))) (OkQ.then_ (OkC.block (OkC.unroll 1 (OkR.step ?_)))))))))))
 refine OkC.seq (q4 (mv rfl rfl (mv rfl rfl (st (ex_lss (c := false) rfl rfl (by decide)) (leB rfl) (OkL.nil (OkQ.subF (sC 0 rfl (sC 1 rfl (sC 2 rfl (sC 3 rfl (sC 8 rfl (sC 14 rfl (sN))))))) (OkQ.then_ (OkC.cond_false rfl (OkC.exit (OkQ.then_exit (OkQ.then_exit ?_)))))))))))
 exact OkQ.in_exit (ret_none (.inr rfl) rfl  (fun w hw => ⟨rfl, hw.out⟩))
theorem pdq0_ok  (w : World)  : Calls Tryz.prog 91 #[(Value.slice none 0 0), (vI 0), (vI 0), (vI 0), (Value.func (.func 66) #[] #[])] w (Gives w (Value.tuple #[])) := by
 refine calls_of (args := [(Value.slice none 0 0), (vI 0), (vI 0), (vI 0), (Value.func (.func 66) #[] #[])]) Tryz.func91 rfl rfl (leB rfl) (OkC.subF (sC 0 rfl (sC 1 rfl (sC 2 rfl (sC 3 rfl (sC 4 rfl (sN)))))) (q4 (asg rfl rfl (OkL.nil (q2 (asg rfl rfl (OkL.nil (OkQ.then_ (OkC.block (OkC.unroll 1 (OkR.step ?_)))))))))))
 refine OkC.block (q4 (mv rfl rfl (mv rfl rfl (st (ex_sub (c := (0 : Int)) rfl rfl (by decide)) (leB rfl) (asg rfl rfl (q6 (sC 0 rfl (sC 1 rfl (sC 2 rfl (sC 3 rfl (sC 4 rfl (sC 10 rfl (sC 11 rfl (sC 12 rfl (sN))))))))) (q4 (mv rfl rfl (st (ex_leq (c := true) rfl rfl (by decide)) (leB rfl) (OkL.nil (OkQ.subF (sC 0 rfl (sC 1 rfl (sC 2 rfl (sC 3 rfl (sC 4 rfl (sC 10 rfl (sC 11 rfl (sC 12 rfl (sC 25 rfl (sN)))))))))) ?_)))))))))))
 refine OkQ.then_ (OkC.cond_true rfl (q4 (mv rfl rfl (mv rfl rfl (mv rfl rfl (mv rfl rfl (cl Tryz.call121 (fun w hw => isort0_ok w) rfl rfl rfl (OkL.nil (OkQ.subF (sC 0 rfl (sC 1 rfl (sC 2 rfl (sC 3 rfl (sC 4 rfl (sC 10 rfl (sC 11 rfl (sC 12 rfl (sN))))))))) (OkQ.then_ (OkC.ret ?_)))))))))))
 exact OkQ.then_ret (OkQ.in_ret (OkQ.then_ret (OkQ.in_ret (ret_none (.inl rfl) rfl  (fun w hw => ⟨rfl, hw.out⟩)))))
theorem sort0_ok  (w : World)  : Calls Tryz.prog 65 #[(Value.slice none 0 0), (Value.func (.func 66) #[] #[])] w (Gives w (Value.tuple #[])) := by
 refine calls_of (args := [(Value.slice none 0 0), (Value.func (.func 66) #[] #[])]) Tryz.func65 rfl rfl (leB rfl) (OkC.subF (sC 0 rfl (sC 1 rfl (sN))) (q4 (mv rfl rfl (st (v := (vI 0)) (ex_len_slice rfl Tryz.underlying96) (leB rfl) (asg rfl rfl (OkL.nil (OkQ.subF (sC 0 rfl (sC 1 rfl (sC 4 rfl (sN)))) (OkQ.then_ (OkC.region (mv rfl rfl (mv rfl rfl ?_)))))))))))
 exact mv rfl rfl (st (ex_conv (c := (0 : Int)) rfl Tryz.underlying3 Tryz.underlying151 (by decide)) (leB rfl) (cl Tryz.call79 (fun w hw => len_0 w) rfl rfl rfl (mv rfl rfl (cl Tryz.call91 (fun w hw => pdq0_ok w) rfl rfl rfl (OkL.nil (OkQ.subF (sC 0 rfl (sN)) (ret_none (.inr rfl) rfl  (fun w hw => ⟨rfl, hw.out⟩))))))))
end
end Go.Proofs.YtmjbiebmgffleaaGreatDoor
