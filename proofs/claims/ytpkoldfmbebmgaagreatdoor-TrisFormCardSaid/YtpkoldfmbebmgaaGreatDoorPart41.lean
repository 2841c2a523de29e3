import Derived.Test.YtpkoldfmbebmgaaGreatDoorPart08
import Derived.Test.YtpkoldfmbebmgaaGreatDoorPart28
import Derived.Test.YtpkoldfmbebmgaaGreatDoorPart37
namespace Go.Proofs.YtpkoldfmbebmgaaGreatDoor
open Go Go.RowKit
set_option linter.unusedVariables false
set_option linter.unusedSimpArgs false
section
structure S2F (u v : Rat) where
  b : Nat
  f : FX u
  g : FX v
@[reducible] def S2F.p {u v : Rat} (a : S2F u v) : Option Addr := some ⟨a.b, 0, none⟩
def s2L {u v : Rat} (a : S2F u v) : List Value := fxL a.f ++ fxL a.g
theorem S2F.ok {u v : Rat} (a : S2F u v) : RowOk a.p 2 2 := ⟨(fun e => by cases e), (fun c e => by injection e with e; rw [← e]), Nat.le_refl _⟩
def s2R {u v : Rat} (a : S2F u v) : List As := [rowR a.p (s2L a), nxR a.f.z.n, nxR a.f.m, nxR a.g.z.n, nxR a.g.m]
theorem s2R_ro {u v : Rat} (a : S2F u v) : ∀ y ∈ s2R a, y.ro = true := fun y hy => by
  simp only [s2R, List.mem_cons, List.not_mem_nil, or_false] at hy
  rcases hy with rfl | rfl | rfl | rfl | rfl <;> rfl
instance {u v : Rat} : Ref (S2F u v) := ⟨fun a => .slice a.p 2 2, s2R, s2R_ro⟩
structure S2E (u v : Rat) where
  s : S2F u v
instance {u v : Rat} : Ref (S2E u v) := ⟨fun a => .tuple #[.slice a.s.p 2 2, vI 0], fun a => s2R a.s, fun a => s2R_ro a.s⟩
structure G3 (x y z : Pt) where
  p : Option Addr
  c : Nat
  ok : RowOk p 3 c
  f : PX x
  g : PX y
  h : PX z
def g3L {x y z : Pt} (a : G3 x y z) : List Value := pxL a.f ++ pxL a.g ++ pxL a.h
def pxR {x : Pt} (a : PX x) : List As := [nxR a.x.z.n, nxR a.x.m, nxR a.y.z.n, nxR a.y.m]
def g3R {x y z : Pt} (a : G3 x y z) : List As := rowR a.p (g3L a) :: (pxR a.f ++ pxR a.g ++ pxR a.h)
theorem g3R_ro {x y z : Pt} (a : G3 x y z) : ∀ y ∈ g3R a, y.ro = true := fun y hy => by
  simp only [g3R, pxR, List.cons_append, List.nil_append, List.mem_cons, List.not_mem_nil, or_false] at hy
  rcases hy with rfl | rfl | rfl | rfl | rfl | rfl | rfl | rfl | rfl | rfl | rfl | rfl | rfl <;> rfl
instance {x y z : Pt} : Ref (G3 x y z) := ⟨fun a => .slice a.p 3 a.c, g3R, g3R_ro⟩
structure G3E (x y z : Pt) where
  s : G3 x y z
instance {x y z : Pt} : Ref (G3E x y z) := ⟨fun a => .tuple #[.slice a.s.p 3 a.s.c, vI 0], fun a => g3R a.s, fun a => g3R_ro a.s⟩
section
variable {S : Nat → Prop} {w W : World} {w0 : Base} {L : List As} {u v q : Rat} {x y z : Pt}
theorem roU {a : S2E u v} (h : Ro S w a) : Ro S w a.s := h
theorem roI {a : G3E x y z} (h : Ro S w a) : Ro S w a.s := h
theorem roTf {a : S2F u v} (h : Ro S w a) : Ro S w a.f := fun y hy => h y (by
  rcases List.mem_cons.1 hy with rfl | hy
  · simp [Ref.rows, s2R]
  · rcases List.mem_singleton.1 hy with rfl; simp [Ref.rows, s2R])
theorem roTg {a : S2F u v} (h : Ro S w a) : Ro S w a.g := fun y hy => h y (by
  rcases List.mem_cons.1 hy with rfl | hy
  · simp [Ref.rows, s2R]
  · rcases List.mem_singleton.1 hy with rfl; simp [Ref.rows, s2R])
theorem roHf {a : G3 x y z} (h : Ro S w a) : Ro S w a.f := fun r hr => h r (List.mem_cons_of_mem _ (List.mem_append_left _ (List.mem_append_left _ hr)))
theorem roHg {a : G3 x y z} (h : Ro S w a) : Ro S w a.g := fun r hr => h r (List.mem_cons_of_mem _ (List.mem_append_left _ (List.mem_append_right _ hr)))
theorem roHh {a : G3 x y z} (h : Ro S w a) : Ro S w a.h := fun r hr => h r (List.mem_cons_of_mem _ (List.mem_append_right _ hr))
theorem retS2 (hw : Own ⟨W, none⟩ w L) (i : Nat) {b : Nat} {T : TypeId} {f : FX u} {g : FX v} (hi : L[i]? = some (blk b T (fxL f ++ fxL g))) (hf : Ro (SL ⟨W, none⟩ S L) w f) (hg : Ro (SL ⟨W, none⟩ S L) w g)
    {x : Value} (hx : x = .tuple #[.slice (some ⟨b, 0, none⟩) 2 2, vI 0]) : GivesR (S2E u v) S W (.returned x) w := by
  have hm := hw.2.1 _ (List.mem_of_getElem? hi) b rfl
  have k1 := hf.mono (S' := fun b => W.heap.size ≤ b ∨ S b) fun b h => h.2
  have k2 := hg.mono (S' := fun b => W.heap.size ≤ b ∨ S b) fun b h => h.2
  refine ⟨⟨⟨b, f, g⟩⟩, by rw [hx]; rfl, hw.out, fun y hy => ?_⟩
  rcases List.mem_cons.1 hy with rfl | hy
  · refine ⟨fun c e => ?_, fun c e => ?_⟩
    · injection e with e; subst e
      obtain ⟨_, o, ho, hp⟩ := hm
      exact ⟨o, ho, lies_blk hp⟩
    · injection e with e; subst e
      rcases hm.1 with h1 | h1 | h1
      · cases h1
      · exact .inl h1
      · cases h1
  · rcases List.mem_cons.1 hy with rfl | hy
    · exact k1 _ List.mem_cons_self
    · rcases List.mem_cons.1 hy with rfl | hy
      · exact k1 _ (List.mem_cons_of_mem _ List.mem_cons_self)
      · exact k2 y hy
theorem retG (hw : Own ⟨W, none⟩ w L) (i : Nat) {p : Option Addr} {T : TypeId} {c : Nat} {f : PX x} {g : PX y} {h : PX z} (hi : L[i]? = some (rowW p T 6 3 c (pxL f ++ pxL g ++ pxL h))) (ho : OwnOk p 3 c) (hf : Ro (SL ⟨W, none⟩ S L) w f) (hg : Ro (SL ⟨W, none⟩ S L) w g) (hh : Ro (SL ⟨W, none⟩ S L) w h)
    {r : Value} (hx : r = .tuple #[.slice p 3 c, vI 0]) : GivesR (G3E x y z) S W (.returned r) w := by
  have hb := hw.newRow hi
  have k1 := hf.mono (S' := fun b => W.heap.size ≤ b ∨ S b) fun b h => h.2
  have k2 := hg.mono (S' := fun b => W.heap.size ≤ b ∨ S b) fun b h => h.2
  have k3 := hh.mono (S' := fun b => W.heap.size ≤ b ∨ S b) fun b h => h.2
  refine ⟨⟨⟨p, c, ho.row, f, g, h⟩⟩, by rw [hx]; rfl, hw.out, fun y hy => ?_⟩
  rcases List.mem_cons.1 hy with rfl | hy
  · refine ⟨fun d e => ?_, fun d e => .inl (hb d e)⟩
    obtain ⟨_, o, ho2, hp⟩ := hw.2.1 _ (List.mem_of_getElem? hi) d e
    exact ⟨o, ho2, lies_of_rowW ho rfl hp⟩
  · rcases List.mem_append.1 hy with hy | hy
    · rcases List.mem_append.1 hy with hy | hy
      · exact k1 y hy
      · exact k2 y hy
    · exact k3 y hy
theorem fill2R {x0 x1 : Rat} (f0 : FX x0) (f1 : FX x1) : Instr.fill (fun i => some (i * 3, 3)) ((Array.range (2 * 3)).map ((Value.agg (#[(Value.bool false), (Value.slice none 0 0), (Value.slice none 0 0)])).cells[· % (Value.agg (#[(Value.bool false), (Value.slice none 0 0), (Value.slice none 0 0)])).cells.size]!)) [(0, .agg (fxL f0).toArray), (1, .agg (fxL f1).toArray)] = some (fxL f0 ++ fxL f1).toArray := by kernel_rfl
theorem fill1P {x0 : Pt} (f0 : PX x0) : Instr.fill (fun i => some (i * 6, 6)) ((Array.range (1 * 6)).map ((Value.agg (#[(Value.bool false), (Value.slice none 0 0), (Value.slice none 0 0), (Value.bool false), (Value.slice none 0 0), (Value.slice none 0 0)])).cells[· % (Value.agg (#[(Value.bool false), (Value.slice none 0 0), (Value.slice none 0 0), (Value.bool false), (Value.slice none 0 0), (Value.slice none 0 0)])).cells.size]!)) [(0, .agg (pxL f0).toArray)] = some (pxL f0).toArray := by kernel_rfl
end
structure T3 where
  q0 : Rat
  q1 : Rat
  q2 : Rat
  f0 : FX q0
  f1 : FX q1
  f2 : FX q2
def T3.q (s : T3) : Rat × Rat × Rat := (s.q0, s.q1, s.q2)
def cs01 (t : Rat × Rat × Rat) : Rat × Rat × Rat := if 0 < cmpQ t.1 t.2.1 then (t.2.1, t.1, t.2.2) else t
def cs12 (t : Rat × Rat × Rat) : Rat × Rat × Rat := if 0 < cmpQ t.2.1 t.2.2 then (t.1, t.2.2, t.2.1) else t
theorem cs01_t {a b c : Rat} (h : 0 < cmpQ a b) : (b, a, c) = cs01 (a, b, c) := by unfold cs01; rw [if_pos h]
theorem cs01_f {a b c : Rat} (h : ¬ 0 < cmpQ a b) : (a, b, c) = cs01 (a, b, c) := by unfold cs01; rw [if_neg h]
theorem cs12_t {a b c : Rat} (h : 0 < cmpQ b c) : (a, c, b) = cs12 (a, b, c) := by unfold cs12; rw [if_pos h]
theorem cs12_f {a b c : Rat} (h : ¬ 0 < cmpQ b c) : (a, b, c) = cs12 (a, b, c) := by unfold cs12; rw [if_neg h]
theorem cmpQ_gt0 (a b : Rat) : 0 < cmpQ a b ↔ b < a := by
  unfold cmpQ
  split
  · exact ⟨fun h => by omega, fun h => by grind⟩
  · split
    · exact ⟨fun h => by omega, fun h => by grind⟩
    · exact ⟨fun _ => by grind, fun _ => by omega⟩
theorem sort3_ref (x y z : Rat) : cs12 (cs01 (cs12 (cs01 (cs12 (cs01 (x, y, z)))))) = sort3 x y z := by
  have e1 : ∀ a b c : Rat, b < a → cs01 (a, b, c) = (b, a, c) := fun a b c h => by unfold cs01; rw [if_pos ((cmpQ_gt0 _ _).2 h)]
  have e2 : ∀ a b c : Rat, ¬ b < a → cs01 (a, b, c) = (a, b, c) := fun a b c h => by unfold cs01; rw [if_neg (fun e => h ((cmpQ_gt0 _ _).1 e))]
  have e3 : ∀ a b c : Rat, c < b → cs12 (a, b, c) = (a, c, b) := fun a b c h => by unfold cs12; rw [if_pos ((cmpQ_gt0 _ _).2 h)]
  have e4 : ∀ a b c : Rat, ¬ c < b → cs12 (a, b, c) = (a, b, c) := fun a b c h => by unfold cs12; rw [if_neg (fun e => h ((cmpQ_gt0 _ _).1 e))]
  have lt : ∀ {a b : Rat}, a < b → ¬ b < a := fun h e => by grind
  unfold sort3
  by_cases h1 : y < x <;> by_cases h2 : z < x <;> by_cases h3 : z < y
  · rw [e1 _ _ _ h1, e3 _ _ _ h2, e1 _ _ _ h3, e4 _ _ _ (lt h1), e2 _ _ _ (lt h3), e4 _ _ _ (lt h1)]; simp [h1, h2, h3]
  · rw [e1 _ _ _ h1, e3 _ _ _ h2, e2 _ _ _ h3, e4 _ _ _ (lt h2), e2 _ _ _ h3, e4 _ _ _ (lt h2)]; simp [h1, h2, h3]
  · exact absurd h3 (by grind)
  · rw [e1 _ _ _ h1, e4 _ _ _ h2, e2 _ _ _ (lt h1), e4 _ _ _ h2, e2 _ _ _ (lt h1), e4 _ _ _ h2]; simp [h1, h2]
  · rw [e2 _ _ _ h1, e3 _ _ _ h3, e1 _ _ _ h2, e4 _ _ _ h1, e2 _ _ _ (lt h2), e4 _ _ _ h1]; simp [h1, h2, h3]
  · exact absurd h3 (by grind)
  · rw [e2 _ _ _ h1, e3 _ _ _ h3, e2 _ _ _ h2, e4 _ _ _ (lt h3), e2 _ _ _ h2, e4 _ _ _ (lt h3)]; simp [h1, h2, h3]
  · rw [e2 _ _ _ h1, e4 _ _ _ h3, e2 _ _ _ h1, e4 _ _ _ h3, e2 _ _ _ h1, e4 _ _ _ h3]; simp [h1, h3]
theorem pSwp01 {x a b c d e f : As} {r : List As} : (x :: a :: b :: c :: d :: e :: f :: r).Perm (x :: a :: b :: e :: f :: c :: d :: r) :=
  .cons _ (.cons _ (.cons _ (List.perm_append_comm_assoc [c, d] [e, f] r)))
theorem pSwp12 {x a b c d : As} {r : List As} : (x :: a :: b :: c :: d :: r).Perm (x :: c :: d :: a :: b :: r) := .cons _ (List.perm_append_comm_assoc [a, b] [c, d] r)
theorem OkQ.join1o {w0 : Base} {L : List As} {n : Nat} {Q : Exit → Act → World → Prop} {F : List (Nat × Value)} {α : Type} {J : α → Prop} {FI : α → List (Nat × Value)} {LI : α → List As} (i : α) (hJ : J i) (hs : SubF (FI i) F) (hl : ∀ w, Own w0 w L → Own w0 w (LI i)) : OkQ (Jn1 n w0 J FI LI Q) .normal n F w0 L := fun _ w ha hw => ⟨i, hJ, ha.sub hs, hl w hw⟩
section
variable {P : Program} {ops : Array Oper} {rest : List Oper} {Q : Exit → Act → World → Prop} {n d : Nat} {F : List (Nat × Value)} {w0 : Base} {S : Nat → Prop} {L : List As} {t : TypeId} {p : String} {af : Array Edge} {y : Operand} {f : FuncId} {xs : List Operand} {args : List Value} {ts : Array TypeId}
theorem cU {u v : Rat} (hc : ∀ args w, (callFunc f args).run P w = .ok (.enter f args) w) (h : ∀ w, Own w0 w L → Calls P f args.toArray w (GivesR (S2E u v) (SL w0 S L) w))
    (hf : evF F y = some (.func (.func f) #[] #[])) (hargs : xs.map (evF F) = args.map some) (hd : Nat.ble (d + 1) n = true)
    (next : ∀ a : S2E u v, At w0 S a → OkL P ops rest Q n ((d, .tuple #[.slice a.s.p 2 2, vI 0]) :: F) w0 (rowR a.s.p (s2L a.s) :: nxR a.s.f.z.n :: nxR a.s.f.m :: nxR a.s.g.z.n :: nxR a.s.g.m :: L)) :
    OkL P ops (⟨some d, .call { callee := .value y, args := xs.toArray, argTypes := ts }, t, p, af, none⟩ :: rest) Q n F w0 L := OkL.callR hc h hf hargs hd next
theorem cI {u v x : Pt} (hc : ∀ args w, (callFunc f args).run P w = .ok (.enter f args) w) (h : ∀ w, Own w0 w L → Calls P f args.toArray w (GivesR (G3E u v x) (SL w0 S L) w))
    (hf : evF F y = some (.func (.func f) #[] #[])) (hargs : xs.map (evF F) = args.map some) (hd : Nat.ble (d + 1) n = true)
    (next : ∀ a : G3E u v x, At w0 S a → OkL P ops rest Q n ((d, .tuple #[.slice a.s.p 3 a.s.c, vI 0]) :: F) w0 (rowR a.s.p (g3L a.s) :: nxR a.s.f.x.z.n :: nxR a.s.f.x.m :: nxR a.s.f.y.z.n :: nxR a.s.f.y.m :: nxR a.s.g.x.z.n :: nxR a.s.g.x.m :: nxR a.s.g.y.z.n :: nxR a.s.g.y.m :: nxR a.s.h.x.z.n :: nxR a.s.h.x.m :: nxR a.s.h.y.z.n :: nxR a.s.h.y.m :: L)) :
    OkL P ops (⟨some d, .call { callee := .value y, args := xs.toArray, argTypes := ts }, t, p, af, none⟩ :: rest) Q n F w0 L := OkL.callR hc h hf hargs hd next
end
end
end Go.Proofs.YtpkoldfmbebmgaaGreatDoor
