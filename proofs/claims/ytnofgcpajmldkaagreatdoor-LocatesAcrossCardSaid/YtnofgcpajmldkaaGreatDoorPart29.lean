import Derived.RangeFuncMany
import Derived.Test.YtnofgcpajmldkaaGreatDoorPart27
namespace Go.Proofs.YtnofgcpajmldkaaGreatDoor
open Go Go.RowKit
set_option linter.unusedVariables false
set_option linter.unusedSimpArgs false
section
def rF (r : Option Nat) : Fence := { Fence.wide with round := r }
theorem callsIn_rF {r : Option Nat} {m : Nat} {P : Program} {f : FuncId} {args : Array Value} {w : World} {R : Ending → World → Prop} (h : Calls P f args w R) : CallsIn (rF r) m P f args w R := (callsIn_wide (n := m)).2 h
theorem rowsIn_rF {r : Option Nat} {m : Nat} {P : Program} {row : String} {args : Array Value} {w : World} {R : Value → World → Prop} (h : Rows P row args w R) : RowsIn (rF r) m P row args w R := fun c cs _ =>
  let ⟨v, w', k, s⟩ := h c cs
  ⟨v, w', k, (stepsIn_wide (P := P)).2 s⟩
def ndO : List Oper → Bool
  | [] => true
  | o :: r => (match o.op with | .defer _ => false | _ => true) && ndO r
theorem oper_in {r : Option Nat} {P : Program} {o : Oper} {a : Act} {w : World} {K K' : Act → World → Prop} {Q Q' : Exit → Act → World → Prop} (hK : ∀ a w, K a w → K' a w) (hp : ∀ ch w, Q (.panic ch) a w → Q' (.panic ch) a w) (hq : LetsOut Q → LetsOut Q') (hd : ∀ c, o.op ≠ .defer c) (h : o.wp P a w K Q) : o.wpIn (rF r) 0 P a w K' Q' := by
  refine ⟨fun _ _ => trivial, ?_⟩
  rw [Oper.semAt_eq _ _ _ hd]
  unfold Oper.wp at h
  revert h
  generalize (execOp a.eval o).run P w = x
  intro h
  match x, h with
  | .ok (.value v) w', h => exact hK _ _ h
  | .ok .skip w', h => exact hK _ _ h
  | .ok (.defer d) w', h => exact hK _ _ h
  | .ok (.enter f args) w', h =>
    refine ⟨(fun e => by cases e), callsIn_rF (Calls.mono h fun e w2 k => ?_)⟩
    match e, k with
    | .returned v, k => exact hK _ _ k
    | .panicked ch, k => exact hp _ _ k
    | .outgrown, k => exact hq k
  | .ok (.row row args) w', h => exact ⟨(fun e => by cases e), rowsIn_rF (Rows.mono h fun v w2 k => hK _ _ k)⟩
  | .halt (.panic v) w', h => exact hp _ _ h
theorem wpList_in {r : Option Nat} {P : Program} {ops : Array Oper} {Q : Exit → Act → World → Prop} (hno : ∀ a w, ¬ Q .outgrown a w) {suf : List Oper} : ∀ (pre : List Oper) (a : Act) (w : World), ndO pre = true →
    wpList P ops (Exit.then (fun a w => wpListIn (rF r) 0 P ops Q suf a w) Q) pre a w → wpListIn (rF r) 0 P ops Q (pre ++ suf) a w
  | [], a, w, _, h => h
  | o :: pre, a, w, hn, h => by
    have hn1 : ∀ c, o.op ≠ .defer c := fun c e => by simp [ndO, e] at hn
    have hn2 : ndO pre = true := by
      unfold ndO at hn
      exact (Bool.and_eq_true _ _ ▸ hn).2
    unfold wpList at h
    show wpListIn (rF r) 0 P ops Q (o :: (pre ++ suf)) a w
    unfold wpListIn
    split
    · rename_i hw
      rw [if_pos hw] at h
      rcases h with h | ⟨_, a', w', h⟩
      · exact oper_in (fun a w k => wpList_in hno pre a w hn2 k) (fun _ _ k => k) (fun k => k) hn1 h
      · exact absurd h (hno a' w')
    · rename_i hw
      rw [if_neg hw] at h
      exact ⟨fun _ _ => trivial, wpList_in hno pre _ _ hn2 h⟩
def OkI (r : Option Nat) (P : Program) (c : Code) (Q : Exit → Act → World → Prop) (n : Nat) (F : List (Nat × Value)) (w0 : Base) (L : List As) : Prop :=
  ∀ a w, Frm n a F → Own w0 w L → c.wpIn (rF r) 0 P Q a w
def OkLI (r : Option Nat) (P : Program) (ops : Array Oper) (rest : List Oper) (Q : Exit → Act → World → Prop) (n : Nat) (F : List (Nat × Value)) (w0 : Base) (L : List As) : Prop :=
  ∀ a w, Frm n a F → Own w0 w L → wpListIn (rF r) 0 P ops Q rest a w
section
variable {r : Option Nat} {P : Program} {ops : Array Oper} {pre rest : List Oper} {Q : Exit → Act → World → Prop} {n : Nat} {F F' : List (Nat × Value)} {w0 : Base} {L L' : List As} {x y : Code} {id : Nat}
theorem OkLI.pre_ (hno : ∀ a w, ¬ Q .outgrown a w) (hn : ndO pre = true) (h : OkL P ops pre (Exit.then (fun a w => wpListIn (rF r) 0 P ops Q rest a w) Q) n F w0 L) : OkLI r P ops (pre ++ rest) Q n F w0 L := fun a w ha hw => wpList_in hno pre a w hn (h a w ha hw)
theorem OkI.list {l : List Oper} (h : OkLI r P l.toArray l Q n F w0 L) : OkI r P (.region id l.toArray false) Q n F w0 L := fun a w ha hw => wpIn_region_lit (h a w ha hw)
theorem OkI.region {l : List Oper} (hno : ∀ a w, ¬ Q .outgrown a w) (hn : ndO l = true) (h : OkL P l.toArray l Q n F w0 L) : OkI r P (.region id l.toArray false) Q n F w0 L := by
  refine OkI.list fun a w ha hw => ?_
  have k := wpList_in (P := P) (r := r) (suf := []) (Q := Q) (ops := l.toArray) hno l a w hn
  rw [List.append_nil] at k
  refine k ?_
  have k2 : (Exit.then (fun a w => wpListIn (rF r) 0 P l.toArray Q [] a w) Q) = Q := by
    funext e a w
    cases e <;> rfl
  rw [k2]
  exact h a w ha hw
theorem OkI.cut (k : Nat) {l : List Oper} (hno : ∀ a w, ¬ Q .outgrown a w) (hn : ndO (l.take k) = true) (h : OkL P l.toArray (l.take k) (Exit.then (fun a w => wpListIn (rF r) 0 P l.toArray Q (l.drop k) a w) Q) n F w0 L) : OkI r P (.region id l.toArray false) Q n F w0 L := by
  refine OkI.list ?_
  have h1 := OkLI.pre_ (rest := l.drop k) hno hn h
  rw [List.take_append_drop] at h1
  exact h1
theorem OkLI.ofL {l : List Oper} (hno : ∀ a w, ¬ Q .outgrown a w) (hn : ndO l = true) (h : OkL P ops l Q n F w0 L) : OkLI r P ops l Q n F w0 L := fun a w ha hw => by
  have k := wpList_in (P := P) (r := r) (suf := []) (Q := Q) (ops := ops) hno l a w hn
  rw [List.append_nil] at k
  refine k ?_
  have k2 : (Exit.then (fun a w => wpListIn (rF r) 0 P ops Q [] a w) Q) = Q := by
    funext e a w
    cases e <;> rfl
  rw [k2]
  exact h a w ha hw
theorem OkI.seq (h : OkI r P x (Exit.then (y.wpIn (rF r) 0 P Q) Q) n F w0 L) : OkI r P (.seq x y) Q n F w0 L := fun a w ha hw => wpIn_seq (h a w ha hw)
theorem OkI.skip (h : OkQ Q .normal n F w0 L) : OkI r P .skip Q n F w0 L := fun a w ha hw => wpIn_skip (h a w ha hw)
theorem OkI.ret (h : OkQ Q .ret n F w0 L) : OkI r P .ret Q n F w0 L := fun a w ha hw => wpIn_ret (h a w ha hw)
theorem OkI.exit (h : OkQ Q (.exit id) n F w0 L) : OkI r P (.exit id) Q n F w0 L := fun a w ha hw => wpIn_exit (h a w ha hw)
theorem OkI.block {c : Code} (h : OkI r P c (Exit.inBlock id Q) n F w0 L) : OkI r P (.block id c) Q n F w0 L := fun a w ha hw => wpIn_block (h a w ha hw)
theorem OkI.cond {c : Operand} {t : Bool} (hc : evF F c = some (.bool t)) (h1 : t = true → OkI r P x Q n F w0 L) (h2 : t = false → OkI r P y Q n F w0 L) : OkI r P (.cond c x y) Q n F w0 L := fun a w ha hw =>
  wpIn_cond_split (ha.ev hc) (fun e => h1 e a w ha hw) (fun e => h2 e a w ha hw)
theorem OkI.cond_true {c : Operand} (hc : evF F c = some (.bool true)) (h1 : OkI r P x Q n F w0 L) : OkI r P (.cond c x y) Q n F w0 L := fun a w ha hw => wpIn_cond_true (ha.ev hc) (h1 a w ha hw)
theorem OkI.cond_false {c : Operand} (hc : evF F c = some (.bool false)) (h1 : OkI r P y Q n F w0 L) : OkI r P (.cond c x y) Q n F w0 L := fun a w ha hw => wpIn_cond_false (ha.ev hc) (h1 a w ha hw)
theorem OkI.subF {c : Code} (hs : SubF F' F) (h : OkI r P c Q n F' w0 L) : OkI r P c Q n F w0 L := fun a w ha hw => h a w (ha.sub hs) hw
theorem OkI.subL {c : Code} (hs : L'.Sublist L) (h : OkI r P c Q n F w0 L') : OkI r P c Q n F w0 L := fun a w ha hw => h a w ha (hw.weak hs)
theorem OkQ.then_I (h : OkI r P y Q n F w0 L) : OkQ (Exit.then (y.wpIn (rF r) 0 P Q) Q) .normal n F w0 L := h
theorem OkC.ofI {c : Code} (h : OkI none P c Q n F w0 L) : OkC P c Q n F w0 L := fun a w ha hw => (wpIn_wide (n := 0)).1 (h a w ha hw)
end
structure Lp (P : Program) (l N : Nat) (encs : Nat → List Value) (J : Nat → World → Prop) (X : World → Prop) : Prop where
  grow : ∀ t W W', J t W → Bel W.heap.size W W' → J t W'
  growX : ∀ W W', X W → Bel W.heap.size W W' → X W'
  round : ∀ t W, t < N → J t W → YieldAt Fence.wide 0 P l (encs t).toArray W fun e W' => (e = .returned (.bool true) ∧ J (t + 1) W') ∨ (e = .returned (.bool false) ∧ X W')
section
variable {P : Program} {ops : Array Oper} {rest : List Oper} {Q : Exit → Act → World → Prop} {n d : Nat} {F : List (Nat × Value)} {w0 : Base} {L L1 L2 : List As} {t : TypeId} {p : String} {af : Array Edge} {y : Operand} {xs : List Operand} {ts : Array TypeId} {l N : Nat} {encs : Nat → List Value} {J : Nat → World → Prop} {X : World → Prop}
theorem OkLI.yield (i : Nat) (hl : Lp P l N encs J X) (hi : i < N) (hJ : ∀ w, Own w0 w L → J i w) (hf : evF F y = some (.func (.yield l) #[] #[])) (hargs : xs.map (evF F) = (encs i).map some) (hd : Nat.ble (d + 1) n = true)
    (next : ∀ W, J (i + 1) W → OkLI none P ops rest Q n ((d, .bool true) :: F) ⟨W, none⟩ []) (stop : ∀ W, X W → OkLI none P ops rest Q n ((d, .bool false) :: F) ⟨W, none⟩ []) :
    OkLI none P ops (⟨some d, .call { callee := .value y, args := xs.toArray, argTypes := ts }, t, p, af, none⟩ :: rest) Q n F w0 L := fun a w ha hw => by
  unfold wpListIn
  rw [if_pos (by simp [Region.wanted])]
  obtain ⟨fn, tmps, asg0, bo, hy, hr⟩ := hl.round i w hi (hJ w hw)
  refine ⟨fun _ _ => trivial, ?_⟩
  have he : (Oper.semAt (rF none).round a.eval ⟨some d, .call { callee := .value y, args := xs.toArray, argTypes := ts }, t, p, af, none⟩).run P w = .ok (.round l fn tmps asg0 bo) w := by
    have e1 : xs.toArray.map a.eval = (encs i).toArray := by rw [← evals_of ha hargs]; simp
    rw [Oper.semAt_eq _ _ _ (fun c h => by cases h)]
    simp [execOp, resolve, ha.ev hf, Deferred.ofValue, e1, invoke, hy]
  rw [he, Oper.uponIn_round]
  refine ⟨(fun e => by cases e), RoundIn.mono hr fun e W k => ?_⟩
  rcases k with ⟨rfl, k⟩ | ⟨rfl, k⟩
  · exact next W k _ _ (ha.put (blt_lt' hd)) (Own.start W)
  · exact stop W k _ _ (ha.put (blt_lt' hd)) (Own.start W)
theorem OkC.loopI {c : Code} (hl : Lp P l N encs J X) (FI : Nat → List (Nat × Value)) (LI : List As) (hro : ∀ t W, J t W → Own ⟨W, none⟩ W LI)
    (round : ∀ t W, t < N → J t W → OkC P c (Exit.then (fun a w => Frm n a (FI (t + 1)) ∧ J (t + 1) w) Q) n (FI t) ⟨W, none⟩ LI)
    (last : ∀ W, J N W → OkC P c (Exit.then (fun a w => False) Q) n (FI N) ⟨W, none⟩ LI) {W0 : World} (h0 : J 0 W0) : OkC P (.loop c) Q n (FI 0) ⟨W0, none⟩ L := fun a w ha hw => by
  refine wp_loop_rounds (N + 1) ?_
  have key : ∀ k t a w, t + k = N → Frm n a (FI t) → J t w → Code.rounds P c Q (k + 1) a w := by
    intro k
    induction k with
    | zero =>
      intro t a w e ha hj
      rw [rounds_succ]
      have e : t = N := by omega
      subst e
      refine Code.wp_mono (fun e a' w' hq => ?_) (last w hj a w ha (hro _ _ hj))
      cases e <;> first
        | exact hq.elim
        | exact hq
    | succ k ih =>
      intro t a w e ha hj
      rw [rounds_succ]
      refine Code.wp_mono (fun e a' w' hq => ?_) (round t w (by omega) hj a w ha (hro _ _ hj))
      cases e <;> first
        | exact ih (t + 1) a' w' (by omega) hq.1 hq.2
        | exact hq
  exact key N 0 a w (by omega) ha (hl.grow 0 _ _ h0 hw.out)
end
@[reducible] def lpA (l : Nat) (o : Loop) : As := ⟨some l, fun x => x = .loop o, false⟩
@[reducible] def dfA (D : Nat) : As := ⟨some D, fun x => x = .deferred (some []), false⟩
@[reducible] def anyA (D : Nat) : As := ⟨some D, fun x => True, false⟩
theorem Own.putObj {w0 : Base} {w : World} {L : List As} (h : Own w0 w L) (i : Nat) {b : Nat} {x y : As} {o : Obj} (hi : L[i]? = some x) (hx : x.foot = some b) (hy : y.foot = some b) (ho : y.P o) (hr : x.ro = false) : Own w0 (w.putObj b o) (L.set i y) :=
  h.turn hi hx hy ⟨grownBy_putObj' w b o, Nat.le_refl _⟩ ⟨o, World.putObj_heap_same (h.lt (List.mem_of_getElem? hi) hx), ho⟩ hr
theorem Own.at {w0 : Base} {w : World} {L : List As} (h : Own w0 w L) {i b : Nat} {x : As} (hi : L[i]? = some x) (hx : x.foot = some b) : ∃ o, w.heap[b]? = some o ∧ x.P o := (h.2.1 x (List.mem_of_getElem? hi) b hx).2
def cD (D : Nat) : Deferred := { target := .collected D, args := #[] }
def rdP {σ : Type} (w0 : Base) (la da : As) (t : Nat) (Pt St : Nat → σ → Prop) (Lt Ls : Nat → σ → List As) : Exit → Act → World → Prop
  | .normal, _, w => ∃ s, Pt (t + 1) s ∧ Own w0 w (la :: da :: Lt (t + 1) s)
  | .ret, _, w => ∃ s, St t s ∧ Own w0 w (la :: da :: Ls t s)
  | _, _, _ => False
section
variable {P : Program} {Q : Exit → Act → World → Prop} {n : Nat} {F : List (Nat × Value)} {w0 : Base} {L : List As}
theorem OkI.rangeFunc {σ : Type} {g : Operand} {p1 p2 : Tmp} {assign body : Code} {gf : FuncId} {lbs : List Value} (hg : evF F g = some (.func (.func gf) #[] lbs.toArray)) (eg : ∀ args w, (callFunc gf args).run P w = .ok (.enter gf args) w) (hp1 : Nat.ble (p1 + 1) n = true) (hp2 : Nat.ble (p2 + 1) n = true)
    (N : Nat) (v1 v2 : Nat → Value) (Pt St : Nat → σ → Prop) (Lt Ls : Nat → σ → List As) (s0 : σ)
    (hs : (Lt 0 s0).Sublist L) (h0 : Pt 0 s0)
    (iter : ∀ (l : Nat) (J : Nat → World → Prop) (X : World → Prop) (W : World), (∀ t W, J t W → ∃ s, Pt t s ∧ Own w0 W (Lt t s)) → Lp P l N (fun t => [v1 t, v2 t]) J X → J 0 W → Calls P gf (.func (.yield l) #[] #[] :: lbs).toArray W fun e W' => (∃ v, e = .returned v) ∧ (J N W' ∨ X W'))
    (round : ∀ (l : Nat) (la1 la2 da : As) (t : Nat) (s : σ), t < N → Pt t s → ∀ K : Act → World → Prop, (∀ i F' L', L'[i]? = some la1 → OkI (some l) P body (rdP w0 la2 da t Pt St Lt Ls) n F' w0 (L'.set i la2) → ∀ a w, Frm n a F' → Own w0 w L' → K a w) →
      OkI (some l) P assign (Exit.then K fun _ _ _ => False) n ((p2, v2 t) :: (p1, v1 t) :: F) w0 (la1 :: da :: Lt t s))
    (done : ∀ (la : As) (D : Nat) (s : σ), Pt N s → ∀ a w, Frm n a F → Own w0 w (la :: dfA D :: Lt N s) → Q .normal { a with defers := [cD D] } w)
    (stop : ∀ (la : As) (D : Nat) (t : Nat) (s : σ), St t s → ∀ a w, Frm n a F → Own w0 w (la :: dfA D :: Ls t s) → Q .ret { a with defers := [cD D] } w) :
    OkI none P (.rangeFunc g #[p1, p2] assign body) Q n F w0 L := fun a w ha hw => by
  refine wpIn_rangeFunc fun fn _ => ?_
  obtain ⟨rec, hrec⟩ : ∃ rec : LoopState → Option Code → Loop, rec = fun st pe => { state := st, pending := pe, fn, tmps := a.tmps, params := #[p1, p2], assign, body, defers := w.heap.size } := ⟨_, rfl⟩
  have hdef : a.defers = [] := ha.1
  have hsz : (w.alloc (.deferred (some []))).heap.size = w.heap.size + 1 := World.size_alloc _ _
  have hW1 : Own w0 ((w.alloc (.deferred (some []))).alloc (.loop (rec .ready none))) (lpA (w.heap.size + 1) (rec .ready none) :: dfA w.heap.size :: Lt 0 s0) :=
    ((hw.weak hs).alloc (.deferred (some [])) (x := dfA w.heap.size) rfl rfl).alloc (.loop (rec .ready none)) (x := lpA (w.heap.size + 1) (rec .ready none)) (by rw [hsz]) rfl
  obtain ⟨W1, hW⟩ : ∃ W1, (w.alloc (.deferred (some []))).alloc (.loop (rec .ready none)) = W1 := ⟨_, rfl⟩
  rw [hW] at hW1
  refine ⟨w.heap.size + 1, [cD w.heap.size], W1, { target := .fn (.func gf) lbs.toArray, args := #[.func (.yield (w.heap.size + 1)) #[] #[]] }, W1, gf, (.func (.yield (w.heap.size + 1)) #[] #[] :: lbs).toArray, W1, ?_, ?_, fun _ _ => trivial, ?_, (fun e => by cases e), ?_⟩
  · rw [← hW, hrec]; exact run_enterLoop_outer _ _ _ _ _
  · simp [resolve, ha.ev hg, rangeCall, Deferred.ofValue]
    rfl
  · simp [invoke, eg]
  have hloop : Lp P (w.heap.size + 1) N (fun t => [v1 t, v2 t]) (fun t W => ∃ s, Pt t s ∧ Own w0 W (lpA (w.heap.size + 1) (rec .ready none) :: dfA w.heap.size :: Lt t s)) (fun W => ∃ t s, St t s ∧ Own w0 W (lpA (w.heap.size + 1) (rec .done (some .ret)) :: dfA w.heap.size :: Ls t s)) := by
    refine ⟨fun t W W' ⟨s, h⟩ hb => ⟨s, h.1, h.2.below hb⟩, fun W W' ⟨t, s, h1, h2⟩ hb => ⟨t, s, h1, h2.below hb⟩, fun t W ht ⟨s, hJ⟩ => ?_⟩
    obtain ⟨o, hl, ho⟩ := hJ.2.at (i := 0) rfl rfl
    have hl : W.heap[w.heap.size + 1]? = some (.loop (rec .ready none)) := by rw [hl, ho]
    have hy : (Instr.yield (w.heap.size + 1) [v1 t, v2 t].toArray).run P W = .ok (.round (w.heap.size + 1) fn ((a.tmps.setIfInBounds p1 (v1 t)).setIfInBounds p2 (v2 t)) assign body) W := by
      have k := run_yield (P := P) (args := [v1 t, v2 t].toArray) hl (by rw [hrec]; rfl)
      rw [k, hrec]
      simp
    refine ⟨_, _, _, _, hy, roundIn_of_wpIn trivial ?_⟩
    have h1 := round (w.heap.size + 1) (lpA (w.heap.size + 1) (rec .ready none)) (lpA (w.heap.size + 1) (rec .busy none)) (dfA w.heap.size) t s ht hJ.1
    have hfr : Frm n { tmps := (a.tmps.setIfInBounds p1 (v1 t)).setIfInBounds p2 (v2 t), defers := [] } ((p2, v2 t) :: (p1, v1 t) :: F) := by
      have k := (ha.put (v := v1 t) (blt_lt' hp1)).put (v := v2 t) (blt_lt' hp2)
      simp only [Act.put, hdef] at k
      exact k
    refine h1 _ (fun i F' L' hi h2 a1 w1 ha1 hw1 => ?_) _ _ hfr hJ.2
    obtain ⟨o, hl1, ho⟩ := hw1.at hi rfl
    have hl1 : w1.heap[w.heap.size + 1]? = some (.loop (rec .ready none)) := by rw [hl1, ho]
    refine ⟨_, run_beginRound hl1 (by rw [hrec]), ?_⟩
    have hb : Own w0 (w1.putObj (w.heap.size + 1) (.loop { rec .ready none with state := .busy })) (L'.set i (lpA (w.heap.size + 1) (rec .busy none))) := hw1.putObj i hi rfl rfl (by rw [hrec]) rfl
    refine wpIn_mono (h2 a1 _ ha1 hb) fun e a2 w2 hq => ?_
    match e, hq with
    | .normal, ⟨s2, hq⟩ =>
      obtain ⟨o, hl2, ho⟩ := hq.2.at (i := 0) rfl rfl
      have hl2 : w2.heap[w.heap.size + 1]? = some (.loop (rec .busy none)) := by rw [hl2, ho]
      exact ⟨_, _, run_endRound none hl2, .inl ⟨rfl, s2, hq.1, hq.2.putObj 0 rfl rfl rfl (by rw [hrec]; rfl) rfl⟩⟩
    | .ret, ⟨s2, hq⟩ =>
      obtain ⟨o, hl2, ho⟩ := hq.2.at (i := 0) rfl rfl
      have hl2 : w2.heap[w.heap.size + 1]? = some (.loop (rec .busy none)) := by rw [hl2, ho]
      exact ⟨_, _, run_endRound (some .ret) hl2, .inr ⟨rfl, t, s2, hq.1, hq.2.putObj 0 rfl rfl rfl (by rw [hrec]; rfl) rfl⟩⟩
  refine callsIn_rF (r := none) (Calls.mono (iter _ _ _ _ (fun t W ⟨s, h⟩ => ⟨s, h.1, h.2.weak (.cons _ (.cons _ (List.Sublist.refl _)))⟩) hloop ⟨s0, h0, hW1⟩) fun e W2 hq => ?_)
  obtain ⟨⟨v, rfl⟩, (⟨s, hp, hq⟩ | ⟨t, s, hp, hq⟩)⟩ := hq
  · obtain ⟨o, hl2, ho⟩ := hq.at (i := 0) rfl rfl
    have hl2 : W2.heap[w.heap.size + 1]? = some (.loop (rec .ready none)) := by rw [hl2, ho]
    refine ⟨none, W2.putObj (w.heap.size + 1) (.loop { rec .ready none with state := .exhausted }), by have k := run_endLoop (P := P) hl2 (by rw [hrec]; simp); rw [k, hrec], ?_⟩
    have k := done (anyA (w.heap.size + 1)) w.heap.size s hp a _ ha (hq.putObj (o := .loop { rec .ready none with state := .exhausted }) (y := anyA (w.heap.size + 1)) 0 rfl rfl rfl trivial rfl)
    simp only [hdef, List.append_nil]
    exact k
  · obtain ⟨o, hl2, ho⟩ := hq.at (i := 0) rfl rfl
    have hl2 : W2.heap[w.heap.size + 1]? = some (.loop (rec .done (some .ret))) := by rw [hl2, ho]
    refine ⟨some .ret, W2.putObj (w.heap.size + 1) (.loop { rec .done (some .ret) with state := .exhausted }), by have k := run_endLoop (P := P) hl2 (by rw [hrec]; simp); rw [k, hrec], ?_⟩
    have k := stop (anyA (w.heap.size + 1)) w.heap.size t s hp a _ ha (hq.putObj (o := .loop { rec .done (some .ret) with state := .exhausted }) (y := anyA (w.heap.size + 1)) 0 rfl rfl rfl trivial rfl)
    simp only [hdef, List.append_nil]
    exact wpIn_ret k
end
def OkD (D : Nat) (P : Program) (c : Code) (Q : Exit → Act → World → Prop) (n : Nat) (F : List (Nat × Value)) (w0 : Base) (L : List As) : Prop :=
  ∀ a w, Frm n a F → Own w0 w L → c.wpIn (rF none) 0 P Q { a with defers := [cD D] } w
def Qd (D : Nat) (Q : Exit → Act → World → Prop) : Exit → Act → World → Prop := fun e a w => a.defers = [] ∧ Q e { a with defers := [cD D] } w
theorem no_d {D : Nat} {P : Program} {ops : Array Oper} {Q : Exit → Act → World → Prop} (hno : ∀ a w, ¬ Q .outgrown a w) : ∀ (l : List Oper) (a : Act) (w : World), a.defers ≠ [] → wpList P ops (Qd D Q) l a w → False
  | [], a, w, hd, h => hd h.1
  | o :: l, a, w, hd, h => by
    have hput : ∀ (d : Option Tmp) (v : Value), (a.put d v).defers ≠ [] := fun d v => by cases d <;> exact hd
    unfold wpList at h
    split at h
    · rcases h with h | ⟨_, a', w', h⟩
      · unfold Oper.wp at h
        revert h
        generalize (execOp a.eval o).run P w = x
        intro h
        match x, h with
        | .ok (.value v) w', h => exact no_d hno l _ _ (hput _ _) h
        | .ok .skip w', h => exact no_d hno l _ _ (hput _ _) h
        | .ok (.defer d) w', h => exact no_d hno l _ _ (by cases o.dst <;> simp [Act.put]) h
        | .ok (.enter f args) w', h =>
          obtain ⟨e, w2, _, k, _⟩ := h []
          match e, k with
          | .returned v, k => exact no_d hno l _ _ (hput _ _) k
          | .panicked ch, k => exact hd k.1
          | .outgrown, k => obtain ⟨a', w', k⟩ := k; exact hno _ _ k.2
        | .ok (.row row args) w', h =>
          obtain ⟨v, w2, k, _⟩ := h default []
          exact no_d hno l _ _ (hput _ _) k
        | .halt (.panic v) w', h => exact hd h.1
      · exact hno _ _ h.2
    · exact no_d hno l _ _ (hput _ _) h
theorem wpList_d {D : Nat} {P : Program} {ops : Array Oper} {Q : Exit → Act → World → Prop} (hno : ∀ a w, ¬ Q .outgrown a w) : ∀ (l : List Oper) (a : Act) (w : World), ndO l = true → wpList P ops (Qd D Q) l a w → wpListIn (rF none) 0 P ops Q l { a with defers := [cD D] } w
  | [], a, w, _, h => h.2
  | o :: l, a, w, hn, h => by
    have hn1 : ∀ c, o.op ≠ .defer c := fun c e => by simp [ndO, e] at hn
    have hn2 : ndO l = true := by
      unfold ndO at hn
      exact (Bool.and_eq_true _ _ ▸ hn).2
    have hput : ∀ (d : Option Tmp) (v : Value), ({ a with defers := [cD D] } : Act).put d v = { a.put d v with defers := [cD D] } := fun d v => by cases d <;> rfl
    have hp2 : ∀ (d : Option Tmp) (v : Value) (w : World), wpListIn (rF none) 0 P ops Q l { a.put d v with defers := [cD D] } w → wpListIn (rF none) 0 P ops Q l (({ a with defers := [cD D] } : Act).put d v) w := fun d v w k => by rw [hput]; exact k
    have hev : ({ a with defers := [cD D] } : Act).eval = a.eval := funext fun x => by cases x <;> rfl
    unfold wpList at h
    unfold wpListIn
    split
    · rename_i hw
      rw [if_pos hw] at h
      rcases h with h | ⟨_, a', w', h⟩
      · refine ⟨fun _ _ => trivial, ?_⟩
        rw [Oper.semAt_eq _ _ _ hn1, hev]
        unfold Oper.wp at h
        revert h
        generalize (execOp a.eval o).run P w = x
        intro h
        match x, h with
        | .ok (.value v) w', h => exact hp2 o.dst v _ (wpList_d hno l _ _ hn2 h)
        | .ok .skip w', h => exact hp2 o.dst undef _ (wpList_d hno l _ _ hn2 h)
        | .ok (.defer d) w', h => exact (no_d hno l _ _ (by cases o.dst <;> simp [Act.put]) h).elim
        | .ok (.enter f args) w', h =>
          refine ⟨(fun e => by cases e), callsIn_rF (Calls.mono h fun e w2 k => ?_)⟩
          match e, k with
          | .returned v, k => exact hp2 o.dst v _ (wpList_d hno l _ _ hn2 k)
          | .panicked ch, k => exact k.2
          | .outgrown, k => obtain ⟨a', w', k⟩ := k; exact absurd k.2 (hno _ _)
        | .ok (.row row args) w', h => exact ⟨(fun e => by cases e), rowsIn_rF (Rows.mono h fun v w2 k => hp2 o.dst v _ (wpList_d hno l _ _ hn2 k))⟩
        | .halt (.panic v) w', h => exact h.2
      · exact absurd h.2 (hno _ w')
    · rename_i hw
      rw [if_neg hw] at h
      refine ⟨fun _ _ => trivial, ?_⟩
      rw [hput]
      exact wpList_d hno l _ _ hn2 h
section
variable {D : Nat} {P : Program} {Q : Exit → Act → World → Prop} {n : Nat} {F F' : List (Nat × Value)} {w0 : Base} {L L' : List As} {x y : Code} {id : Nat} {fn : Func} {R : Ending → World → Prop}
theorem OkD.region {l : List Oper} (hno : ∀ a w, ¬ Q .outgrown a w) (hn : ndO l = true) (h : OkL P l.toArray l (Qd D Q) n F w0 L) : OkD D P (.region id l.toArray false) Q n F w0 L := fun a w ha hw => wpIn_region_lit (wpList_d hno l a w hn (h a w ha hw))
theorem OkD.seq (h : OkD D P x (Exit.then (y.wpIn (rF none) 0 P Q) Q) n F w0 L) : OkD D P (.seq x y) Q n F w0 L := fun a w ha hw => wpIn_seq (h a w ha hw)
theorem OkD.ret (h : OkQ (Qd D Q) .ret n F w0 L) : OkD D P .ret Q n F w0 L := fun a w ha hw => wpIn_ret (h a w ha hw).2
theorem OkD.subF {c : Code} (hs : SubF F' F) (h : OkD D P c Q n F' w0 L) : OkD D P c Q n F w0 L := fun a w ha hw => h a w (ha.sub hs) hw
theorem OkQ.then_D (h : OkD D P y Q n F w0 L) : OkQ (Qd D (Exit.then (y.wpIn (rF none) 0 P Q) Q)) .normal n F w0 L := fun a w ha hw => ⟨ha.1, h a w ha hw⟩
theorem retD (i : Nat) (hi : L[i]? = some (dfA D)) (h : OkQ (bodyPost P fn R) .ret n F w0 (L.set i (anyA D))) : OkQ (Qd D (bodyPostM (rF none) 0 P fn R)) .ret n F w0 L := fun a w ha hw => by
  obtain ⟨o, hd, ho⟩ := hw.at hi rfl
  have hd : w.heap[D]? = some (.deferred (some [])) := by rw [hd, ho]
  have k := h a _ ha (hw.putObj (o := .deferred none) i hi rfl rfl trivial rfl)
  exact ⟨ha.1, by simp, .inl ⟨D, _, rfl, run_takeDeferred hd, k.2⟩⟩
theorem calls_ofM' {f : FuncId} {c : Code} {args : List Value} {w : World} (hf : P.funcs[f]? = some fn) (hb : fn.body = some c) (hn : fn.ntmps = n) (hl : args.length ≤ n) (hL : ∀ x ∈ L, x.ro = true ∧ Holds w x)
    (h : OkI none P c (bodyPostM (rF none) 0 P fn R) n (slotsOf 0 args) ⟨w, none⟩ L) : Calls P f args.toArray w R := by
  refine (callsIn_wide (n := 0)).1 (callsIn_of_wp_marks hf hb trivial ?_ rfl)
  rw [hn]
  exact h _ _ (frm_start hl _ fun k v hk => by simpa using (lookup_slotsOf args 0 k v hk).2) (Own.startR hL)
end
section
variable {D : Nat} {P : Program} {Q : Exit → Act → World → Prop} {K : Act → World → Prop} {n t l : Nat} {F F' : List (Nat × Value)} {w0 : Base} {L L' : List As} {y body : Code} {id : Nat} {la la1 la2 da : As} {σ : Type} {Pt St : Nat → σ → Prop} {Lt Ls : Nat → σ → List As}
theorem OkQ.rdN (s : σ) (h : Pt (t + 1) s) (hs : (la :: da :: Lt (t + 1) s).Sublist L) : OkQ (rdP w0 la da t Pt St Lt Ls) .normal n F w0 L := fun a w ha hw => ⟨s, h, hw.weak hs⟩
theorem OkQ.rdR (s : σ) (h : St t s) (hs : (la :: da :: Ls t s).Sublist L) : OkQ (rdP w0 la da t Pt St Lt Ls) .ret n F w0 L := fun a w ha hw => ⟨s, h, hw.weak hs⟩
theorem OkD.behind (h : OkD D P y Q n F w0 L) : ∀ a w, Frm n a F → Own w0 w L → (Exit.inBlock id (Exit.then (y.wpIn (rF none) 0 P Q) Q)) .normal { a with defers := [cD D] } w := h
theorem OkD.out (h : OkQ (Qd D Q) .ret n F w0 L) : ∀ a w, Frm n a F → Own w0 w L → (Exit.inBlock id (Exit.then K Q)) .ret { a with defers := [cD D] } w := fun a w ha hw => (h a w ha hw).2
end
abbrev P3 := Pt × Pt × Pt
def cnL (x : P3) : List Value := ptL x.1 ++ ptL x.2.1 ++ ptL x.2.2
def corT (ps : List Pt) (t : Nat × Nat × Nat) : P3 := (cor ps t.1, cor ps t.2.1, cor ps t.2.2)
structure CX (f : Nat) (cs : List Value) where
  b : Nat
instance {f : Nat} {cs : List Value} : Ref (CX f cs) := ⟨fun x => .func (.func f) #[] #[pP x.b 0], fun x => [rowR (some ⟨x.b, 0, none⟩) cs], fun x y hy => by rcases List.mem_singleton.1 hy with rfl; rfl⟩
def CX.bx {f : Nat} {cs : List Value} (x : CX f cs) : BX cs := ⟨x.b⟩
theorem Ro.top {S : Nat → Prop} {w : World} {α : Type} [Ref α] {a : α} (h : Ro S w a) : Ro (fun _ => True) w a := h.mono fun _ _ => trivial
def nB (n : Nat) (ts : List (Nat × Nat × Nat)) : Nat := if numB n ts = true then ts.length else 0
theorem nB_lt {n t : Nat} {ts : List (Nat × Nat × Nat)} (h : t < nB n ts) : numB n ts = true ∧ t < ts.length := by
  unfold nB at h
  split at h
  · exact ⟨by assumption, h⟩
  · omega
def findB (ps : List Pt) (ts : List (Nat × Nat × Nat)) (q : Pt) : Int × Nat := if numB ps.length ts = true then findAt ps q ts 0 else (-1, 0)
theorem findAt_step {ps : List Pt} {q : Pt} {ts : List (Nat × Nat × Nat)} {j : Nat} (hj : j < ts.length) (h : whereT ps q (ts.getD j (0, 0, 0)) = 0) : findAt ps q (ts.drop j) j = findAt ps q (ts.drop (j + 1)) (j + 1) := by
  rw [drop_at (d := (0, 0, 0)) hj]; exact if_pos h
theorem findAt_hit {ps : List Pt} {q : Pt} {ts : List (Nat × Nat × Nat)} {j : Nat} (hj : j < ts.length) (h : whereT ps q (ts.getD j (0, 0, 0)) ≠ 0) : findAt ps q (ts.drop j) j = ((j : Int), whereT ps q (ts.getD j (0, 0, 0))) := by
  rw [drop_at (d := (0, 0, 0)) hj]; exact if_neg h
theorem findB_end {ps : List Pt} {q : Pt} {ts : List (Nat × Nat × Nat)} (h : findAt ps q ts 0 = findAt ps q (ts.drop (nB ps.length ts)) (nB ps.length ts)) : findB ps ts q = (-1, 0) := by
  unfold findB
  split
  · rename_i k
    rw [h, nB, if_pos k, List.drop_length]
    rfl
  · rfl
theorem findB_hit {ps : List Pt} {q : Pt} {ts : List (Nat × Nat × Nat)} {r : Int × Nat} (hn : numB ps.length ts = true) (h : findAt ps q ts 0 = r) : findB ps ts q = r := by
  rw [findB, if_pos hn, h]
end
end Go.Proofs.YtnofgcpajmldkaaGreatDoor
