import Derived.Test.YtpkoldfmbebmgaaGreatDoorPart03
import Derived.Test.YtpkoldfmbebmgaaGreatDoorPart05
import Derived.Test.YtpkoldfmbebmgaaGreatDoorPart07
import Derived.Test.YtpkoldfmbebmgaaGreatDoorPart11
namespace Go.Proofs.YtpkoldfmbebmgaaGreatDoor
open Go Go.RowKit
set_option linter.unusedVariables false
set_option linter.unusedSimpArgs false
section
structure NX (x : Nat) where
  p : Option Addr
  c : Nat
  ok : RowOk p (dg x).length c
@[reducible] def NX.nv {x : Nat} (a : NX x) : NV := ⟨a.p, a.c, x, a.ok⟩
@[reducible] def NX.cast {x y : Nat} (h : x = y) (a : NX x) : NX y := ⟨a.p, a.c, h ▸ a.ok⟩
def NX.zero : NX 0 := ⟨none, 0, ⟨fun _ => ⟨rfl, rfl⟩, (fun _ e => by cases e), Nat.le_refl _⟩⟩
@[reducible] def nxV {x : Nat} (a : NX x) : Value := .slice a.p (dg x).length a.c
def nxR {x : Nat} (a : NX x) : As := rowR a.p (dgL (dg x))
structure ZX (z : Int) where
  n : NX z.natAbs
structure FX (q : Rat) where
  z : ZX q.num
  m : NX (q.den - 1)
structure PX (p : Pt) where
  x : FX p.x
  y : FX p.y
def zxL {z : Int} (a : ZX z) : List Value := [.bool (decide (z < 0)), nxV a.n]
def fxL {q : Rat} (a : FX q) : List Value := zxL a.z ++ [nxV a.m]
def pxL {p : Pt} (a : PX p) : List Value := fxL a.x ++ fxL a.y
class Ref (α : Type) where
  val : α → Value
  rows : α → List As
  ro : ∀ a, ∀ y ∈ rows a, y.ro = true
instance {x : Nat} : Ref (NX x) := ⟨fun a => nxV a, fun a => [nxR a], fun a y hy => by rcases List.mem_singleton.1 hy with rfl; rfl⟩
instance {z : Int} : Ref (ZX z) := ⟨fun a => aG (zxL a), fun a => [nxR a.n], fun a y hy => by rcases List.mem_singleton.1 hy with rfl; rfl⟩
theorem ro_two {a b y : As} (ha : a.ro = true) (hb : b.ro = true) (hy : y ∈ [a, b]) : y.ro = true := by
  rcases List.mem_cons.1 hy with rfl | hy
  · exact ha
  · rcases List.mem_singleton.1 hy with rfl; exact hb
instance {q : Rat} : Ref (FX q) := ⟨fun a => aG (fxL a), fun a => [nxR a.z.n, nxR a.m], fun a y hy => ro_two rfl rfl hy⟩
instance {p : Pt} : Ref (PX p) := ⟨fun a => aG (pxL a), fun a => [nxR a.x.z.n, nxR a.x.m, nxR a.y.z.n, nxR a.y.m], fun a y hy => by
  rcases List.mem_cons.1 hy with rfl | hy
  · rfl
  · rcases List.mem_cons.1 hy with rfl | hy
    · rfl
    · exact ro_two rfl rfl hy⟩
def Ro (S : Nat → Prop) (w : World) {α : Type} [Ref α] (a : α) : Prop := ∀ y ∈ Ref.rows a, Holds w y ∧ ∀ b, y.foot = some b → S b
def GivesR (α : Type) [Ref α] (S : Nat → Prop) (W : World) (e : Ending) (w : World) : Prop :=
  ∃ a : α, e = .returned (Ref.val a) ∧ Below W.heap.size W w ∧ Ro (fun b => W.heap.size ≤ b ∨ S b) w a
def Nw (w0 : Base) (S : Nat → Prop) (b : Nat) : Prop := w0.w.heap.size ≤ b ∨ S b
def SL (w0 : Base) (S : Nat → Prop) (L : List As) (b : Nat) : Prop := (∃ y ∈ L, y.ro = true ∧ y.foot = some b) ∧ Nw w0 S b
def At (w0 : Base) (S : Nat → Prop) {α : Type} [Ref α] (a : α) : Prop := ∀ y ∈ Ref.rows a, ∀ b, y.foot = some b → Nw w0 S b
section
variable {w0 : Base} {S : Nat → Prop} {w W : World} {L : List As} {α : Type} [Ref α]
theorem inS (hw : Own w0 w L) (i : Nat) {a : α} (hi : (L.drop i).take (Ref.rows a).length = Ref.rows a) (ha : At w0 S a) : Ro (SL w0 S L) w a := fun y hy => by
  have hm : y ∈ L := List.mem_of_mem_drop (i := i) (List.mem_of_mem_take (i := (Ref.rows a).length) (by rw [hi]; exact hy))
  exact ⟨fun b e => (hw.2.1 y hm b e).2, fun b e => ⟨⟨y, hm, Ref.ro a y hy, e⟩, ha y hy b e⟩⟩
theorem Ro.mono {S' : Nat → Prop} {a : α} (h : Ro S w a) (hs : ∀ b, S b → S' b) : Ro S' w a := fun y hy => ⟨(h y hy).1, fun b e => hs b ((h y hy).2 b e)⟩
theorem atA {a : α} (h : Ro S w a) : At ⟨W, none⟩ S a := fun y hy b e => .inr ((h y hy).2 b e)
theorem retR {a : α} {v : Value} (hw : Own ⟨W, none⟩ w L) (h : Ro (SL ⟨W, none⟩ S L) w a) (hv : v = Ref.val a) : GivesR α S W (.returned v) w := ⟨a, by rw [hv], hw.out, h.mono fun b h => h.2⟩
theorem GivesR.cast {ι : Type} {T : ι → Type} [∀ i, Ref (T i)] {i j : ι} (h : i = j) {f : FuncId} {P : Program} {args : Array Value} (k : Calls P f args W (GivesR (T i) S W)) : Calls P f args W (GivesR (T j) S W) := h ▸ k
-- parts
theorem roZ {q : Rat} {a : FX q} (h : Ro S w a) : Ro S w a.z := fun y hy => h y (by rcases List.mem_singleton.1 hy with rfl; exact List.mem_cons_self)
theorem roM {q : Rat} {a : FX q} (h : Ro S w a) : Ro S w a.m := fun y hy => h y (by rcases List.mem_singleton.1 hy with rfl; exact List.mem_cons_of_mem _ List.mem_cons_self)
theorem roN {z : Int} {a : ZX z} (h : Ro S w a) : Ro S w a.n := fun y hy => h y hy
theorem roX {p : Pt} {a : PX p} (h : Ro S w a) : Ro S w a.x := fun y hy => h y (by
  rcases List.mem_cons.1 hy with rfl | hy
  · exact List.mem_cons_self
  · rcases List.mem_singleton.1 hy with rfl; exact List.mem_cons_of_mem _ List.mem_cons_self)
theorem roY {p : Pt} {a : PX p} (h : Ro S w a) : Ro S w a.y := fun y hy => h y (List.mem_cons_of_mem _ (List.mem_cons_of_mem _ hy))
theorem mkZ {z : Int} {a : NX z.natAbs} (h : Ro S w a) : Ro S w (ZX.mk a : ZX z) := fun y hy => h y hy
theorem mkF {q : Rat} {a : ZX q.num} {b : NX (q.den - 1)} (h : Ro S w a) (k : Ro S w b) : Ro S w (FX.mk a b : FX q) := fun y hy => by
  rcases List.mem_cons.1 hy with rfl | hy
  · exact h _ List.mem_cons_self
  · exact k y hy
theorem mkP {p : Pt} {a : FX p.x} {b : FX p.y} (h : Ro S w a) (k : Ro S w b) : Ro S w (PX.mk a b : PX p) := fun y hy => by
  rcases List.mem_cons.1 hy with rfl | hy
  · exact h _ List.mem_cons_self
  · rcases List.mem_cons.1 hy with rfl | hy
    · exact h _ (List.mem_cons_of_mem _ List.mem_cons_self)
    · exact k y hy
theorem roO : Ro S w NX.zero := fun y hy => by
  rcases List.mem_singleton.1 hy with rfl
  exact ⟨(fun b e => by cases e), (fun b e => by cases e)⟩
theorem roCast {x y : Nat} {h : x = y} {a : NX x} (k : Ro S w a) : Ro S w (a.cast h) := by subst h; exact k
theorem ro1 {x : Nat} {a : NX x} (h : Ro S w a) : Holds w (nA a.nv) := (h _ List.mem_cons_self).1
-- what a walk starts with
theorem sxN {x : Nat} {a : NX x} (h : Ro S w a) (t : ∀ y ∈ L, y.ro = true ∧ Holds w y) : ∀ y ∈ nxR a :: L, y.ro = true ∧ Holds w y := roL_cons rfl (h _ List.mem_cons_self).1 t
theorem sxZ {z : Int} {a : ZX z} (h : Ro S w a) (t : ∀ y ∈ L, y.ro = true ∧ Holds w y) : ∀ y ∈ nxR a.n :: L, y.ro = true ∧ Holds w y := sxN (roN h) t
theorem sxF {q : Rat} {a : FX q} (h : Ro S w a) (t : ∀ y ∈ L, y.ro = true ∧ Holds w y) : ∀ y ∈ nxR a.z.n :: nxR a.m :: L, y.ro = true ∧ Holds w y := sxZ (roZ h) (sxN (roM h) t)
theorem sxP {p : Pt} {a : PX p} (h : Ro S w a) (t : ∀ y ∈ L, y.ro = true ∧ Holds w y) : ∀ y ∈ nxR a.x.z.n :: nxR a.x.m :: nxR a.y.z.n :: nxR a.y.m :: L, y.ro = true ∧ Holds w y := sxF (roX h) (sxF (roY h) t)
end
theorem Own.addRos {w0 : Base} {w w' : World} {L : List As} (h : Own w0 w L) (hb : Below w.heap.size w w') : ∀ (xs : List As), (∀ x ∈ xs, x.ro = true ∧ Holds w' x ∧ ∀ b, x.foot = some b → w.heap.size ≤ b ∨ ∃ y ∈ L, y.ro = true ∧ y.foot = some b) → Own w0 w' (xs ++ L)
  | [], _ => h.below hb
  | x :: xs, hx => by
    have h1 := Own.addRos h hb xs fun y hy => hx y (List.mem_cons_of_mem _ hy)
    obtain ⟨hr, hh, hs⟩ := hx x List.mem_cons_self
    have h2 := h.addRo hb hr hh hs
    refine ⟨h1.1, fun y hy => (List.mem_cons.1 hy).elim (fun e => h2.2.1 y (e ▸ List.mem_cons_self)) (fun e => h1.2.1 y e), List.pairwise_cons.2 ⟨fun y hy => ?_, h1.2.2⟩⟩
    rcases List.mem_append.1 hy with hy | hy
    · exact .inl ⟨hr, (hx y (List.mem_cons_of_mem _ hy)).1⟩
    · exact (List.pairwise_cons.1 h2.2.2).1 y hy
section
variable {P : Program} {ops : Array Oper} {rest : List Oper} {Q : Exit → Act → World → Prop} {n d : Nat} {F : List (Nat × Value)} {w0 : Base} {S : Nat → Prop} {L : List As} {t : TypeId} {p : String} {af : Array Edge} {y : Operand} {f : FuncId} {xs : List Operand} {args : List Value} {ts : Array TypeId}
theorem OkL.callRg {α : Type} [Ref α] {g : Option (Nat × Bool)} (hw : Wt ops n F ⟨some d, .call { callee := .value y, args := xs.toArray, argTypes := ts }, t, p, af, g⟩) (hc : ∀ args w, (callFunc f args).run P w = .ok (.enter f args) w) (h : ∀ w, Own w0 w L → Calls P f args.toArray w (GivesR α (SL w0 S L) w))
    (hf : evF F y = some (.func (.func f) #[] #[])) (hargs : xs.map (evF F) = args.map some) (hd : Nat.ble (d + 1) n = true) (next : ∀ a : α, At w0 S a → OkL P ops rest Q n ((d, Ref.val a) :: F) w0 (Ref.rows a ++ L)) :
    OkL P ops (⟨some d, .call { callee := .value y, args := xs.toArray, argTypes := ts }, t, p, af, g⟩ :: rest) Q n F w0 L := fun a w ha hW => by
  unfold wpList
  rw [if_pos (hw a ha)]
  left
  unfold Oper.wp
  rw [op_call0 hf hargs hc a w ha hW, Oper.upon_enter]
  refine (h w hW).mono ?_
  rintro e w' ⟨v, rfl, hb, hr⟩
  exact next v (fun y hy b e => ((hr y hy).2 b e).elim (fun h => .inl (Nat.le_trans hW.1.size h)) fun h => h.2) _ _ (ha.put (blt_lt' hd)) (hW.addRos hb _ fun x hx => ⟨Ref.ro v x hx, (hr x hx).1, fun b e => ((hr x hx).2 b e).imp_right fun h => h.1⟩)
theorem OkL.callR {α : Type} [Ref α] (hc : ∀ args w, (callFunc f args).run P w = .ok (.enter f args) w) (h : ∀ w, Own w0 w L → Calls P f args.toArray w (GivesR α (SL w0 S L) w))
    (hf : evF F y = some (.func (.func f) #[] #[])) (hargs : xs.map (evF F) = args.map some) (hd : Nat.ble (d + 1) n = true) (next : ∀ a : α, At w0 S a → OkL P ops rest Q n ((d, Ref.val a) :: F) w0 (Ref.rows a ++ L)) :
    OkL P ops (⟨some d, .call { callee := .value y, args := xs.toArray, argTypes := ts }, t, p, af, none⟩ :: rest) Q n F w0 L := OkL.callRg (wt_none rfl) hc h hf hargs hd next
theorem cN {x : Nat} (hc : ∀ args w, (callFunc f args).run P w = .ok (.enter f args) w) (h : ∀ w, Own w0 w L → Calls P f args.toArray w (GivesR (NX x) (SL w0 S L) w))
    (hf : evF F y = some (.func (.func f) #[] #[])) (hargs : xs.map (evF F) = args.map some) (hd : Nat.ble (d + 1) n = true) (next : ∀ a : NX x, At w0 S a → OkL P ops rest Q n ((d, nxV a) :: F) w0 (nxR a :: L)) :
    OkL P ops (⟨some d, .call { callee := .value y, args := xs.toArray, argTypes := ts }, t, p, af, none⟩ :: rest) Q n F w0 L := OkL.callR hc h hf hargs hd next
theorem cZ {x : Int} (hc : ∀ args w, (callFunc f args).run P w = .ok (.enter f args) w) (h : ∀ w, Own w0 w L → Calls P f args.toArray w (GivesR (ZX x) (SL w0 S L) w))
    (hf : evF F y = some (.func (.func f) #[] #[])) (hargs : xs.map (evF F) = args.map some) (hd : Nat.ble (d + 1) n = true) (next : ∀ a : ZX x, At w0 S a → OkL P ops rest Q n ((d, aG (zxL a)) :: F) w0 (nxR a.n :: L)) :
    OkL P ops (⟨some d, .call { callee := .value y, args := xs.toArray, argTypes := ts }, t, p, af, none⟩ :: rest) Q n F w0 L := OkL.callR hc h hf hargs hd next
theorem cF {x : Rat} (hc : ∀ args w, (callFunc f args).run P w = .ok (.enter f args) w) (h : ∀ w, Own w0 w L → Calls P f args.toArray w (GivesR (FX x) (SL w0 S L) w))
    (hf : evF F y = some (.func (.func f) #[] #[])) (hargs : xs.map (evF F) = args.map some) (hd : Nat.ble (d + 1) n = true) (next : ∀ a : FX x, At w0 S a → OkL P ops rest Q n ((d, aG (fxL a)) :: F) w0 (nxR a.z.n :: nxR a.m :: L)) :
    OkL P ops (⟨some d, .call { callee := .value y, args := xs.toArray, argTypes := ts }, t, p, af, none⟩ :: rest) Q n F w0 L := OkL.callR hc h hf hargs hd next
theorem cP {x : Pt} (hc : ∀ args w, (callFunc f args).run P w = .ok (.enter f args) w) (h : ∀ w, Own w0 w L → Calls P f args.toArray w (GivesR (PX x) (SL w0 S L) w))
    (hf : evF F y = some (.func (.func f) #[] #[])) (hargs : xs.map (evF F) = args.map some) (hd : Nat.ble (d + 1) n = true) (next : ∀ a : PX x, At w0 S a → OkL P ops rest Q n ((d, aG (pxL a)) :: F) w0 (nxR a.x.z.n :: nxR a.x.m :: nxR a.y.z.n :: nxR a.y.m :: L)) :
    OkL P ops (⟨some d, .call { callee := .value y, args := xs.toArray, argTypes := ts }, t, p, af, none⟩ :: rest) Q n F w0 L := OkL.callR hc h hf hargs hd next
theorem gF {x : Rat} {g : Option (Nat × Bool)} (hc : ∀ args w, (callFunc f args).run P w = .ok (.enter f args) w) (h : ∀ w, Own w0 w L → Calls P f args.toArray w (GivesR (FX x) (SL w0 S L) w))
    (hf : evF F y = some (.func (.func f) #[] #[])) (hargs : xs.map (evF F) = args.map some) (hd : Nat.ble (d + 1) n = true) (hw : Wt ops n F ⟨some d, .call { callee := .value y, args := xs.toArray, argTypes := ts }, t, p, af, g⟩) (next : ∀ a : FX x, At w0 S a → OkL P ops rest Q n ((d, aG (fxL a)) :: F) w0 (nxR a.z.n :: nxR a.m :: L)) :
    OkL P ops (⟨some d, .call { callee := .value y, args := xs.toArray, argTypes := ts }, t, p, af, g⟩ :: rest) Q n F w0 L := OkL.callRg hw hc h hf hargs hd next
end
theorem dg_nw (x : Nat) : (dg x).length ≤ 3 * nw x := dg_len (Nat.lt_of_lt_of_le (lt_pow_nw x) (by rw [Nat.pow_mul]; exact Nat.pow_le_pow_left (by decide) _))
end
section
set_option maxRecDepth 100000
theorem tO2 : OneT Tryz.prog 2 := ⟨Tryz.isAgg2⟩
theorem tO3 : OneT Tryz.prog 3 := ⟨Tryz.isAgg3⟩
theorem tO4 : OneT Tryz.prog 4 := ⟨Tryz.isAgg4⟩
theorem tO9 : OneT Tryz.prog 9 := ⟨Tryz.isAgg9⟩
theorem tO22 : OneT Tryz.prog 22 := ⟨Tryz.isAgg22⟩
theorem tA24 : AggT Tryz.prog 24 2 := ⟨Tryz.isAgg24, Tryz.sizeOf24⟩
theorem tA26 : AggT Tryz.prog 26 4 := ⟨Tryz.isAgg26, Tryz.sizeOf26⟩
theorem tO28 : OneT Tryz.prog 28 := ⟨Tryz.isAgg28⟩
theorem tA30 : AggT Tryz.prog 30 2 := ⟨Tryz.isAgg30, Tryz.sizeOf30⟩
theorem tA32 : AggT Tryz.prog 32 2 := ⟨Tryz.isAgg32, Tryz.sizeOf32⟩
theorem tA34 : AggT Tryz.prog 34 3 := ⟨Tryz.isAgg34, Tryz.sizeOf34⟩
theorem tA36 : AggT Tryz.prog 36 5 := ⟨Tryz.isAgg36, Tryz.sizeOf36⟩
theorem tA38 : AggT Tryz.prog 38 10 := ⟨Tryz.isAgg38, Tryz.sizeOf38⟩
theorem tO41 : OneT Tryz.prog 41 := ⟨Tryz.isAgg41⟩
theorem tA43 : AggT Tryz.prog 43 2 := ⟨Tryz.isAgg43, Tryz.sizeOf43⟩
theorem tA45 : AggT Tryz.prog 45 3 := ⟨Tryz.isAgg45, Tryz.sizeOf45⟩
theorem tA47 : AggT Tryz.prog 47 6 := ⟨Tryz.isAgg47, Tryz.sizeOf47⟩
theorem tA49 : AggT Tryz.prog 49 30 := ⟨Tryz.isAgg49, Tryz.sizeOf49⟩
theorem tA56 : AggT Tryz.prog 56 15 := ⟨Tryz.isAgg56, Tryz.sizeOf56⟩
theorem tA62 : AggT Tryz.prog 62 10 := ⟨Tryz.isAgg62, Tryz.sizeOf62⟩
theorem tZ30 : ZeroT Tryz.prog 30 (natL 0) := ⟨_, Tryz.zeroValue30, rfl⟩
theorem tZ32 : ZeroT Tryz.prog 32 (natL 0) := ⟨_, Tryz.zeroValue32, rfl⟩
theorem tZ34 : ZeroT Tryz.prog 34 (intL 0) := ⟨_, Tryz.zeroValue34, rfl⟩
theorem tZ36 : ZeroT Tryz.prog 36 (fracL (0 : Rat)) := ⟨_, Tryz.zeroValue36, rfl⟩
theorem tZ38 : ZeroT Tryz.prog 38 (ptL (⟨0, 0⟩ : Pt)) := ⟨_, Tryz.zeroValue38, rfl⟩
theorem tZ43 : ZeroT Tryz.prog 43 ([(Value.bool false), (Value.slice none 0 0)]) := ⟨_, Tryz.zeroValue43, rfl⟩
theorem tZ45 : ZeroT Tryz.prog 45 ([(Value.bool false), (Value.slice none 0 0), (Value.slice none 0 0)]) := ⟨_, Tryz.zeroValue45, rfl⟩
theorem tZ47 : ZeroT Tryz.prog 47 ([(Value.bool false), (Value.slice none 0 0), (Value.slice none 0 0), (Value.bool false), (Value.slice none 0 0), (Value.slice none 0 0)]) := ⟨_, Tryz.zeroValue47, rfl⟩
theorem tZ49 : ZeroT Tryz.prog 49 (ptL (⟨0, 0⟩ : Pt) ++ ptL (⟨0, 0⟩ : Pt) ++ ptL (⟨0, 0⟩ : Pt)) := ⟨_, Tryz.zeroValue49, rfl⟩
theorem tZ56 : ZeroT Tryz.prog 56 (fracL (0 : Rat) ++ fracL (0 : Rat) ++ fracL (0 : Rat)) := ⟨_, Tryz.zeroValue56, rfl⟩
theorem tZ62 : ZeroT Tryz.prog 62 (fracL (0 : Rat) ++ fracL (0 : Rat)) := ⟨_, Tryz.zeroValue62, rfl⟩
theorem tZ226 : ZeroT Tryz.prog 226 ([(Value.int .u8 (0 : Int)), (Value.int .u8 (0 : Int)), (Value.int .u8 (0 : Int)), (Value.int .u8 (0 : Int)), (Value.int .u8 (0 : Int)), (Value.int .u8 (0 : Int)), (Value.int .u8 (0 : Int)), (Value.int .u8 (0 : Int)), (Value.int .u8 (0 : Int)), (Value.int .u8 (0 : Int)), (Value.int .u8 (0 : Int)), (Value.int .u8 (0 : Int)), (Value.int .u8 (0 : Int)), (Value.int .u8 (0 : Int)), (Value.int .u8 (0 : Int)), (Value.int .u8 (0 : Int)), (Value.int .u8 (0 : Int)), (Value.int .u8 (0 : Int)), (Value.int .u8 (0 : Int)), (Value.int .u8 (0 : Int)), (Value.int .u8 (0 : Int)), (Value.int .u8 (0 : Int)), (Value.int .u8 (0 : Int)), (Value.int .u8 (0 : Int))]) := ⟨_, Tryz.zeroValue226, rfl⟩
end
end Go.Proofs.YtpkoldfmbebmgaaGreatDoor
