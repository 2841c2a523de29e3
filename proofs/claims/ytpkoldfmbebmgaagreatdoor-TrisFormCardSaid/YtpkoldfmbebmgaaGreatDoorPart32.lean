import Derived.Test.YtpkoldfmbebmgaaGreatDoorPart12
import Derived.Test.YtpkoldfmbebmgaaGreatDoorPart31
namespace Go.Proofs.YtpkoldfmbebmgaaGreatDoor
open Go Go.RowKit
set_option linter.unusedVariables false
set_option linter.unusedSimpArgs false
section
structure NX2 (x y : Nat) where
  q : NX x
  r : NX y
instance {x y : Nat} : Ref (NX2 x y) := ⟨fun a => .tuple #[nxV a.q, nxV a.r], fun a => [nxR a.q, nxR a.r], fun a y hy => ro_two rfl rfl hy⟩
section
variable {S : Nat → Prop} {w : World} {x y : Nat}
theorem ro2q {a : NX2 x y} (h : Ro S w a) : Ro S w a.q := fun z hz => h z (by rcases List.mem_singleton.1 hz with rfl; exact List.mem_cons_self)
theorem gN {W : World} {src : List (Option Nat)} {e : Ending} (hs : ∀ s ∈ src, ∀ b, s = some b → S b) (h : GivesN W src x e w) : GivesR (NX x) S W e w := by
  obtain ⟨v, rfl, rfl, hb, hh, hl⟩ := h
  refine ⟨⟨v.p, v.c, v.ok⟩, rfl, hb, fun y hy => ?_⟩
  rcases List.mem_singleton.1 hy with rfl
  exact ⟨hh, fun b e => (hl b e).imp_right fun h => hs _ h b rfl⟩
theorem foN {a : NX x} (h : Ro S w a) {b : Nat} (e : a.p.map (·.block) = some b) : S b := (h _ List.mem_cons_self).2 b e
theorem dg_ok {x : Nat} (h : nw x ≤ 67108864) : (dg x).length ≤ 274877906944 := by have := dg_nw x; omega
theorem dg_ok2 {x : Nat} (h : nw x ≤ 67108864) : (dg x).length ≤ 549755813888 := by have := dg_nw x; omega
theorem xOf_ok (x : Nat) (hx : x < 18446744073709551616) (w : World) {S : Nat → Prop} : Calls Tryz.prog 128 #[(vK .u64 x)] w (GivesR (NX x) S w) := (rOf_ok x hx w).mono fun e w' h => gN (fun s hs => by cases hs) h
theorem xAdd_ok (a : NX x) (b : NX y) (hx : nw x ≤ 67108864) (hy : nw y ≤ 67108864) (w : World) (ha : Ro S w a) (hb : Ro S w b) : Calls Tryz.prog 144 #[nxV a, nxV b] w (GivesR (NX (x + y)) S w) :=
  (rAdd_ok a.nv b.nv (dg_ok2 hx) (dg_ok2 hy) w (ro1 ha) (ro1 hb)).mono fun e w' h => gN (fun s hs => by cases hs) h
theorem xSub_ok (a : NX x) (b : NX y) (hxy : y ≤ x) (hx : nw x ≤ 67108864) (w : World) (ha : Ro S w a) (hb : Ro S w b) : Calls Tryz.prog 142 #[nxV a, nxV b] w (GivesR (NX (x - y)) S w) :=
  (rSub_ok a.nv b.nv hxy (dg_ok2 hx) w (ro1 ha) (ro1 hb)).mono fun e w' h => gN (fun s hs => by cases hs) h
theorem xMul_ok (a : NX x) (b : NX y) (hx : nw x ≤ 67108864) (hy : nw y ≤ 67108864) (w : World) (ha : Ro S w a) (hb : Ro S w b) : Calls Tryz.prog 109 #[nxV a, nxV b] w (GivesR (NX (x * y)) S w) :=
  (rMul_ok a.nv b.nv (dg_ok2 hx) (dg_ok2 hy) w (ro1 ha) (ro1 hb)).mono fun e w' h => gN (fun s hs => by cases hs) h
theorem xCmp_ok (a : NX x) (b : NX y) (hx : nw x ≤ 67108864) (hy : nw y ≤ 67108864) (w : World) (ha : Ro S w a) (hb : Ro S w b) : Calls Tryz.prog 160 #[nxV a, nxV b] w (Gives w (vI (cmpZ x y))) :=
  rCmp_ok a.nv b.nv (dg_ok2 hx) (dg_ok2 hy) w (ro1 ha) (ro1 hb)
theorem xGcd_ok (a : NX x) (b : NX y) (hx : nw x ≤ 67108864) (hy : nw y ≤ 67108864) (w : World) (ha : Ro S w a) (hb : Ro S w b) : Calls Tryz.prog 140 #[nxV a, nxV b] w (GivesR (NX (Nat.gcd x y)) S w) :=
  (rGcd_ok a.nv b.nv (dg_ok hx) (dg_ok hy) w (ro1 ha) (ro1 hb)).mono fun e w' h => gN (fun s hs c e => by
    rcases List.mem_cons.1 hs with rfl | hs
    · exact foN ha e
    · rcases List.mem_singleton.1 hs with rfl; exact foN hb e) h
theorem xDiv_ok (a : NX x) (b : NX y) (hy0 : 0 < y) (hx : nw x ≤ 67108864) (hy : nw y ≤ 67108864) (w : World) (ha : Ro S w a) (hb : Ro S w b) : Calls Tryz.prog 141 #[nxV a, nxV b] w (GivesR (NX2 (x / y) (x % y)) S w) :=
  (rDiv_ok a.nv b.nv hy0 (dg_ok hx) (dg_ok hy) w (ro1 ha) (ro1 hb)).mono fun e w' h => by
    obtain ⟨u, v, hu, hv, rfl, hB, hhu, hhv, lu, lv⟩ := h
    obtain ⟨up, uc, ux, uok⟩ := u
    obtain ⟨vp, vc, vx, vok⟩ := v
    dsimp only at hu hv
    subst hu; subst hv
    refine ⟨⟨⟨up, uc, uok⟩, ⟨vp, vc, vok⟩⟩, rfl, hB, fun z hz => ?_⟩
    rcases List.mem_cons.1 hz with rfl | hz
    · exact ⟨hhu, fun b e => (lu b e).elim .inl fun h => by cases h⟩
    · rcases List.mem_singleton.1 hz with rfl
      exact ⟨hhv, fun b e => (lv b e).imp_right fun h => by
        have := List.mem_singleton.1 h
        exact foN ha this.symm⟩
theorem xText_ok (a : NX x) (hx : nw x ≤ 67108864) (w : World) (ha : Ro S w a) : Calls Tryz.prog 111 #[nxV a] w (Gives w (Value.string (txB (Lib.decDigits x)))) := rText_ok a.nv (dg_ok2 hx) w (ro1 ha)
end
section
variable {P : Program} {ops : Array Oper} {rest : List Oper} {Q : Exit → Act → World → Prop} {n d : Nat} {F : List (Nat × Value)} {w0 : Base} {S : Nat → Prop} {L : List As} {t : TypeId} {p : String} {af : Array Edge} {y : Operand} {f : FuncId} {xs : List Operand} {args : List Value} {ts : Array TypeId}
theorem cD {u v : Nat} (hc : ∀ args w, (callFunc f args).run P w = .ok (.enter f args) w) (h : ∀ w, Own w0 w L → Calls P f args.toArray w (GivesR (NX2 u v) (SL w0 S L) w))
    (hf : evF F y = some (.func (.func f) #[] #[])) (hargs : xs.map (evF F) = args.map some) (hd : Nat.ble (d + 1) n = true) (next : ∀ a : NX2 u v, At w0 S a → OkL P ops rest Q n ((d, .tuple #[nxV a.q, nxV a.r]) :: F) w0 (nxR a.q :: nxR a.r :: L)) :
    OkL P ops (⟨some d, .call { callee := .value y, args := xs.toArray, argTypes := ts }, t, p, af, none⟩ :: rest) Q n F w0 L := OkL.callR hc h hf hargs hd next
end
end
end Go.Proofs.YtpkoldfmbebmgaaGreatDoor
