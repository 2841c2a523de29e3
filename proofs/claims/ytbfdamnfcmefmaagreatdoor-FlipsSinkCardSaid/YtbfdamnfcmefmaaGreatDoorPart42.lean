import Derived.Test.YtbfdamnfcmefmaaGreatDoorPart41
namespace Go.Proofs.YtbfdamnfcmefmaaGreatDoor
open Go Go.RowKit Go.Proofs.Tryz
open Go.Value renaming slice→qz,bool→qa
set_option linter.unusedVariables false
set_option linter.unusedSimpArgs false
section
set_option maxRecDepth 100000
theorem Pv {ps : List Pt} {ts ss : List T3} (x : MX ps ts ss) (u v : Int) {p' : List Pt} {t' s' : List T3} {e : Nat} (h : Nt ps ts u v = p' ∧ Nv ps ts u v = t' ∧ Nu ps ts (ss.map C8) u v = s'.map C8 ∧ M2 ps ts u v = e) (hnb : BV ps.length ts = true) (htl : ts.length ≤ 1000000) (hN : ps.length ≤ 1000000) (hsl : ss.length ≤ 1000000) (hz : ∀ i, Bn (cor ps i) ≤ 200000) (w : World) {S : Nat → Prop} (hx : Ro S w x) : Calls Tryz.prog 19 #[(aG (Ce x)), (vI u), (vI v)] w (BS (a9 p' t' s' e) S w) :=
  (Q9 x u v h hnb htl hN hsl hz w hx).mono fun e w1 h => Zw h
theorem L1 (x0 x1 : Nat) : Instr.fill (fun i => some (i * 1, 1)) (Ay ((0, 0) : P2)).toArray [(0, vN x0), (1, vN x1)] = some (Ay (x0, x1)).toArray := by kernel_rfl
theorem B0 (x0 x1 x2 : Nat) : Instr.fill (fun i => some (i * 1, 1)) (Ad ((0, 0, 0) : Nat × Nat × Nat)).toArray [(0, vN x0), (1, vN x1), (2, vN x2)] = some (Ad (x0, x1, x2)).toArray := by kernel_rfl
set_option maxHeartbeats 2000000 in
theorem NS (m : MQ) (nt : Nat) (hat : nt < 65536) (w : World) {S : Nat → Prop} (hm : Ro S w m) (hT : SI w) : Calls Tryz.prog 4 #[(aG (Ef m)), (vK .u16 nt)] w (Ag w (qa true)) := by
  have lm := Db (W := w) hm
  refine Ak (args := [(aG (Ef m)), (vK .u16 nt)]) (L := [AP m.p (Ct m.cs)]) Tryz.func4 rfl rfl (BE rfl) (De hm A_) ?_
  refine zM (sL [0, 1] rfl) ?_
  refine q4 ?_
  refine BZ (cs := Ef m) rfl ?_; intro b1
  refine asg' rfl ?_
  refine q3 (sL [1, 2, 4] rfl) ?_
  refine Ai 0 OR rfl ?_
  refine yD (S := S) (α := MG) (args := [(aG (Ef m))]) Tryz.call8 (fun w hw => Vb m w (Cd hw 1 rfl lm)) rfl rfl rfl ?_; intro g lg
  have hG := g.good
  have hnb : BV g.ps.length g.ts = true := S3 hG
  have htl := hG.tl
  have hpl := hG.pl
  have hz : ∀ i, Bn (cor g.ps i) ≤ 1000 := fun i => xN (hG.sz i) (by decide)
  have hz2 : ∀ i, Bn (cor g.ps i) ≤ 200000 := fun i => xN (hz i) (by decide)
  have hsl := g.sl
  have hck : Fr g.ps g.ts g.ss := VC hG hnb g.sd (by omega)
  have ht0 := hck.t0
  have hel := Up hnb (by omega) ht0
  have hel2 := QC g.ts
  refine al G_ rfl ?_; intro b2
  refine Ah rfl Tryz.sizeOf34 rfl ?_
  refine q3 (sL [1, 4, 5] rfl) ?_
  refine Ai 0 Bg rfl ?_
  refine cX (S := S) (cs := rowsL Bd (BJ g.ts)) (k := (BJ g.ts).length) (args := [(aG (Ce g.mx))]) Tryz.call17 (fun w hw => Tq g.mx (by omega) (by omega) hnb w (Cd hw 1 rfl lg : Ro _ w g.mx)) rfl rfl rfl ?_; intro o lo
  refine asg' rfl ?_
  refine q6 (sL [1, 4, 5, 6] rfl) ?_
  refine q4 ?_
  refine AM rfl ?_
  refine AC (v := (vN ((BJ g.ts).length))) (AE rfl Tryz.underlying51) rfl ?_
  refine AC (BM (c := (decide (((BJ g.ts).length) = 0))) rfl rfl (Mz (a := (BJ g.ts).length) (b := 0))) rfl ?_
  refine AU.nil ?_
  refine zB (sL [1, 4, 5, 6, 27] rfl) ?_
  refine zA ?_
  refine zL rfl (fun hc0 => ?_) (fun hc0 => ?_)
  · replace hc0 := xU hc0
    exfalso; omega
  · replace hc0 := xT hc0
    have hml : nt % (BJ g.ts).length < (BJ g.ts).length := Nat.mod_lt _ hel
    obtain ⟨E, hE⟩ : ∃ q, q = ((BJ g.ts).getD (nt % (BJ g.ts).length) (⟨0, 0, 0, 0⟩ : E4)) := ⟨_, rfl⟩
    have hEm : E ∈ BJ g.ts := by rw [hE, List.getD, xQ hml]; exact List.getElem_mem hml
    have hEe := HN hnb (by omega) hEm
    refine zC ?_
    refine q1 ?_
    by_cases k0 : LF g.ps g.ts (E.a : Int) (E.b : Int) = true
    · skip
      obtain ⟨a, b, p, q, c, d, FT, BT, lb, hE4, K⟩ := Yy hck hEm k0
      rw [hE4] at hE
      have hFl := K.ft
      have hBl := K.bt
      have hp9 := K.pl
      have hq9 := K.ql
      have hne9 := K.ne
      obtain ⟨ha9, hb9, hc9, hd9⟩ := K.ab
      have hsp := K.sp
      have hsq := K.sq
      have hs1 := PH hz FT
      have hs2 := PH hz g.ts
      refine zD ?_
      refine AM rfl ?_
      refine AM rfl ?_
      refine AC (Ar (c := ((nt : Nat) : Int)) rfl Tryz.underlying50 Tryz.underlying3 (CC (by omega))) rfl ?_
      refine AM rfl ?_
      refine AC (v := (vN ((BJ g.ts).length))) (AE rfl Tryz.underlying51) rfl ?_
      refine AC (B7 (c := ((nt % ((BJ g.ts).length) : Nat) : Int)) rfl rfl (by omega) (IE (a := nt) (b := (BJ g.ts).length))) rfl ?_
      refine AC (v := (pP (pB o.p) (pO o.p + (nt % ((BJ g.ts).length)) * 4))) (AO (j := nt % ((BJ g.ts).length)) rfl rfl o.ok Tryz.underlying51 Tryz.sizeOf54 rfl (by omega)) rfl ?_
      refine AC (v := (aG (Bd ((BJ g.ts).getD (nt % ((BJ g.ts).length)) (⟨0, 0, 0, 0⟩ : E4))))) (AI (vs := Bd ((BJ g.ts).getD (nt % ((BJ g.ts).length)) (⟨0, 0, 0, 0⟩ : E4))) (i := 0) rfl rfl (Aw.ne o.ok (by omega)) G8 (Ae Cr _ _ _ (by omega)) (Cr _)) rfl ?_
      refine zK (k := 35) (u := (aG ([(vN a), (vN b), (vN p), (vN q)]))) rfl (by rw [← hE]; rfl) ?_
      refine al II rfl ?_; intro b3
      refine Ah rfl Tryz.sizeOf54 rfl ?_
      refine q3 (sL [4, 5, 6, 7] rfl) ?_
      refine Ai 2 Bg rfl ?_
      refine AC (v := (pP b3 0)) (AA rfl Tryz.underlying54 rfl Tryz.sizeOf3 rfl) rfl ?_
      refine BA 0 (vN a) BP rfl ?_
      refine AC (v := (pP b3 1)) (AA rfl Tryz.underlying54 rfl Tryz.sizeOf3 rfl) rfl ?_
      refine BA 0 (vN b) BP rfl ?_
      refine C7 Tryz.call18 (fun w hw => Py g.mx (a : Int) (b : Int) K.lg K.le hnb (by omega) (by omega) hz2 w (Cd hw 3 rfl lg : Ro _ w g.mx)) rfl ?_
      refine AM rfl ?_
      refine AC (AJ (v := (qa lb)) rfl rfl) rfl ?_
      refine AC (AJ (v := (vI 0)) rfl rfl) rfl ?_
      refine asg' rfl ?_
      refine asg' rfl ?_
      refine q3 (sL [4, 5, 6, 7, 8, 9] rfl) ?_
      refine Ai 2 Bg rfl ?_
      refine AC (v := (pP b3 0)) (AA rfl Tryz.underlying54 rfl Tryz.sizeOf3 rfl) rfl ?_
      refine BA 0 (vN a) BP rfl ?_
      refine AC (v := (pP b3 1)) (AA rfl Tryz.underlying54 rfl Tryz.sizeOf3 rfl) rfl ?_
      refine BA 0 (vN b) BP rfl ?_
      refine yD (S := S) (α := a9 g.ps FT g.ss 0) (args := [(aG (Ce g.mx)), (vN a), (vN b)]) Tryz.call19 (fun w hw => Pv g.mx (a : Int) (b : Int) K.fl hnb (by omega) (by omega) (by omega) hz2 w (Cd hw 3 rfl lg : Ro _ w g.mx)) rfl rfl rfl ?_; intro f lf
      refine AM rfl ?_
      refine AC (AJ (v := (aG (Ce f.x))) rfl rfl) rfl ?_
      refine AC (AJ (v := (vI 0)) rfl rfl) rfl ?_
      refine al G_ rfl ?_; intro b4
      refine Ah rfl Tryz.sizeOf34 rfl ?_
      refine asg' rfl ?_
      refine q6 (sL [4, 5, 6, 7, 8, 9, 10, 11] rfl) ?_
      refine q4 ?_
      refine AM rfl ?_
      refine AC (Bw (c := false) rfl rfl (by decide)) rfl ?_
      refine AM rfl ?_
      refine AU.step (v := (pP b3 2)) (AY rfl) (AA rfl Tryz.underlying54 rfl Tryz.sizeOf3 rfl) rfl (BE rfl) ?_
      refine AU.step (v := (vN p)) (AY rfl) (AD (i := 4) (v := (vN p)) rfl rfl BP.a rfl) rfl (BE rfl) ?_
      refine AU.step (v := (qa false)) (AY rfl) (Aa (c := false) rfl rfl (xI (by omega))) rfl (BE rfl) ?_
      refine AU.step (v := (qa false)) (AY rfl) (DD rfl) rfl (BE rfl) ?_
      refine yP (B9 rfl) rfl (BE rfl) ?_
      refine yP (B9 rfl) rfl (BE rfl) ?_
      refine AU.step (v := (qa false)) (AY rfl) (AL rfl rfl) rfl (BE rfl) ?_
      refine AC (v := (qa false)) (AL rfl rfl) rfl ?_
      refine AM rfl ?_
      refine AU.step (v := (pP b3 3)) (AY rfl) (AA rfl Tryz.underlying54 rfl Tryz.sizeOf3 rfl) rfl (BE rfl) ?_
      refine AU.step (v := (vN q)) (AY rfl) (AD (i := 4) (v := (vN q)) rfl rfl BP.a rfl) rfl (BE rfl) ?_
      refine AU.step (v := (qa false)) (AY rfl) (Aa (c := false) rfl rfl (xI (by omega))) rfl (BE rfl) ?_
      refine AU.step (v := (qa false)) (AY rfl) (DD rfl) rfl (BE rfl) ?_
      refine yP (B9 rfl) rfl (BE rfl) ?_
      refine yP (B9 rfl) rfl (BE rfl) ?_
      refine AU.step (v := (qa false)) (AY rfl) (AL rfl rfl) rfl (BE rfl) ?_
      refine AC (v := (qa false)) (AL rfl rfl) rfl ?_
      refine AM rfl ?_
      refine AU.step (v := (qa lb)) (AY rfl) (DD rfl) rfl (BE rfl) ?_
      refine AU.step (v := (qa (!lb))) (AY rfl) (BG (c := (!lb)) rfl rfl) rfl (BE rfl) ?_
      refine AU.step (v := (qa (!lb))) (AY rfl) (DD rfl) rfl (BE rfl) ?_
      refine zi (FM := [(4, (qa false)), (5, (pP b2 0)), (6, (qz o.p ((BJ g.ts).length) o.c)), (7, (pP b3 0)), (8, (qa lb)), (9, (vI 0)), (10, (pP b4 0)), (11, (vI 0)), (54, (vI 0)), (55, (qa false)), (56, (qa false)), (57, (pP b3 2)), (58, (vN p)), (59, (qa false)), (60, (qa false)), (63, (qa false)), (64, (qa false)), (65, (qa false)), (66, (pP b3 3)), (67, (vN q)), (68, (qa false)), (69, (qa false)), (72, (qa false)), (73, (qa false)), (74, (qa false)), (75, (qa lb)), (76, (qa (!lb))), (77, (qa (!lb))), (80, (qa ((!lb) && false)))]) (LM := [AX b4 34 (Ce f.x), AP f.x.a.p (rowsL AZ g.ps), AP f.x.b.p (rowsL Ad FT), AP f.x.c.p (rowsL Ad g.ss), AX b3 54 ([(vN a), (vN b), (vN p), (vN q)]), AP o.p (rowsL Bd (BJ g.ts)), AX b2 34 (Ce g.mx), AP g.mx.a.p (rowsL AZ g.ps), AP g.mx.b.p (rowsL Ad g.ts), AP g.mx.c.p (rowsL Ad g.ss), AX b1 26 (Ef m), AP m.p (Ct m.cs)]) 3 ?_ ?_
      · rcases xR (!lb) with hg1 | hg1
        · skip
          refine zK (k := 77) (u := qa true) rfl (by rw [hg1]) ?_
          have hg1' := hg1
          simp only [yz, yy, yx, xZ, xY, xX, xW, xV] at hg1'
          refine AU.step (v := (vI 0)) (AY rfl) (DD rfl) rfl (BE rfl) ?_
          refine AU.step (v := (qa false)) (AY rfl) (Bw (c := false) rfl rfl (by decide)) rfl (BE rfl) ?_
          refine AU.step (v := (qa false)) (AY rfl) (AQ rfl rfl) rfl (BE rfl) ?_
          refine AU.nil ?_
          exact zT (sS rfl (sS rfl (sS rfl (sS rfl (sS rfl (sS rfl (sS rfl (sS rfl (sS rfl (sS rfl (sS rfl (sS rfl (sS rfl (sS rfl (sS rfl (sS rfl (sS rfl (sS rfl (sS rfl (sS rfl (sS rfl (sS rfl (sS rfl (sS rfl (sS rfl (sS rfl (sS rfl (sS (by first | rfl | (rw [hg1]; rfl) | rw [hg1]) (sS (by first | rfl | (rw [hg1]; rfl) | rw [hg1]) (sN)))))))))))))))))))))))))))))) (xS _)
        · skip
          refine zK (k := 77) (u := qa false) rfl (by rw [hg1]) ?_
          have hg1' := hg1
          simp only [yz, yy, yx, xZ, xY, xX, xW, xV] at hg1'
          refine yP (B9 rfl) rfl (BE rfl) ?_
          refine yP (B9 rfl) rfl (BE rfl) ?_
          refine AU.step (v := (qa false)) (AY rfl) (AL rfl rfl) rfl (BE rfl) ?_
          refine AU.nil ?_
          exact zT (sS rfl (sS rfl (sS rfl (sS rfl (sS rfl (sS rfl (sS rfl (sS rfl (sS rfl (sS rfl (sS rfl (sS rfl (sS rfl (sS rfl (sS rfl (sS rfl (sS rfl (sS rfl (sS rfl (sS rfl (sS rfl (sS rfl (sS rfl (sS rfl (sS rfl (sS rfl (sS rfl (sS (by first | rfl | (rw [hg1]; rfl) | rw [hg1]) (sS (by first | rfl | (rw [hg1]; rfl) | rw [hg1]) (sN)))))))))))))))))))))))))))))) (xS _)
      refine AC (v := (qa ((!lb) && false))) (AL rfl rfl) rfl ?_
      refine AU.nil ?_
      refine zB (sL [4, 5, 6, 7, 8, 10, 11, 81] rfl) ?_
      refine zA ?_
      refine zL rfl (fun hc1 => ?_) (fun hc1 => ?_)
      · simp only [yz, yy, yx, xZ, xY, xX, xW, xV] at hc1
        simp at hc1
      · simp only [yz, yy, yx, xZ, xY, xX, xW, xV] at hc1
        refine zC ?_
        refine q1 ?_
        refine q4 ?_
        refine AM rfl ?_
        refine AC (Bw (c := false) rfl rfl (by decide)) rfl ?_
        refine AU.nil ?_
        refine zB (sL [4, 5, 6, 7, 8, 10, 11, 83] rfl) ?_
        refine zA ?_
        refine zP rfl ?_
        refine zC ?_
        refine q1 ?_
        refine C_ [(0, true), (2, true), (1, false), (3, false), (4, false), (5, true)] sr ?_
        refine Es 0 Bg rfl ?_
        refine Es 6 Bg rfl ?_
        refine zN rfl ?_
        refine C7 Tryz.call21 (fun w hw => Ty f.x K.ck.num (by omega) (by omega) hz w (Cd hw 1 rfl lf : Ro _ w f.x)) rfl ?_
        refine zG sr ?_
        refine zN rfl ?_
        refine C7 Tryz.call21 (fun w hw => Ty g.mx hnb (by omega) (by omega) hz w (Cd hw 7 rfl lg : Ro _ w g.mx)) rfl ?_
        refine zG sr ?_
        refine zN rfl ?_
        refine ck' Tryz.call20 (Nq (EO g.ps FT) (EO g.ps g.ts) (by omega)) rfl ?_
        refine zG sr ?_
        refine pS' rfl ?_
        refine zQ ?_
        refine zB (sL [4, 5, 6, 7, 8, 10, 11, 12] rfl) ?_
        refine q1 ?_
        refine zY ?_
        refine C_ [(0, true), (1, true), (2, true), (3, true), (4, true), (5, true), (6, true), (7, false), (8, true), (9, true), (10, true), (11, true), (13, true), (12, false), (14, false), (15, true), (16, true)] sr ?_
        refine Bx rfl ?_
        refine Aj rfl (Aa (c := (decide ((Fw (EO g.ps FT) (EO g.ps g.ts)) < (0 : Int)))) rfl rfl rfl) ?_
        refine Bx rfl ?_
        refine Aj rfl (BG (c := (!lb)) rfl rfl) ?_
        refine Aj rfl (Ji (c := false) rfl rfl Tryz.underlying4 (by rw [K.cm]; simp)) ?_
        refine Bx rfl ?_
        refine zW (v := (aG (Ce f.x))) rfl (AY rfl) (Ab (i := 0) (vs := Ce f.x) rfl rfl Bg.a Bg.s rfl rfl) rfl rfl ?_
        refine zN rfl ?_
        refine zg (v := (vI 0)) (AY rfl) (Ao (args := [(aG (Ce f.x))]) rfl rfl Tryz.call22) (fun w hw => Og f.x K.ck w (Cd hw 1 rfl lf : Ro _ w f.x)) rfl (BE rfl) ?_
        refine zG sr ?_
        refine zW (v := (qa false)) rfl (AY rfl) (Bw (c := false) rfl rfl (by decide)) rfl rfl ?_
        refine Aj (v := (qa false)) rfl (AL rfl rfl) ?_
        refine Bx rfl ?_
        refine zW (v := (aG (Ce f.x))) rfl (AY rfl) (Ab (i := 0) (vs := Ce f.x) rfl rfl Bg.a Bg.s rfl rfl) rfl rfl ?_
        refine zW (v := (aG (Ce g.mx))) rfl (AY rfl) (Ab (i := 6) (vs := Ce g.mx) rfl rfl Bg.a Bg.s rfl rfl) rfl rfl ?_
        refine zN rfl ?_
        refine zg (v := (aG (AG (Fu g.ps FT FT.length)))) (AY rfl) (Ao (args := [(aG (Ce f.x))]) rfl rfl Tryz.call23) (fun w hw => Ol f.x K.ck.tl K.ck.sz K.ck.num w (Cd hw 1 rfl lf : Ro _ w f.x)) rfl (BE rfl) ?_
        refine zG sr ?_
        refine zN rfl ?_
        refine zg (v := (aG (AG (Fu g.ps g.ts g.ts.length)))) (AY rfl) (Ao (args := [(aG (Ce g.mx))]) rfl rfl Tryz.call23) (fun w hw => Ol g.mx (by omega) hz hnb w (Cd hw 7 rfl lg : Ro _ w g.mx)) rfl (BE rfl) ?_
        refine zG sr ?_
        refine zW (v := (qa false)) rfl (AY rfl) (CJ rfl rfl Tryz.eqGuardType68 (QF 9995 K.ar)) rfl rfl ?_
        refine Aj (v := (qa false)) rfl (AL rfl rfl) ?_
        refine zQ ?_
        refine zB (sL [4, 5, 6, 7, 8, 10, 11, 110] rfl) ?_
        refine zA ?_
        refine zP rfl ?_
        refine zC ?_
        refine q1 ?_
        refine C_ [(0, true), (1, true), (2, true), (3, true), (4, true), (5, true), (6, true), (7, true), (8, true), (9, true), (10, true), (11, true), (12, true), (13, true), (14, true), (15, true), (16, true), (17, true), (18, true), (19, true), (20, true), (21, true), (22, true), (23, true), (24, true), (25, true), (26, true), (27, true), (28, true), (29, true)] sr ?_
        refine Aj (v := (pP b2 1)) rfl (AA rfl Tryz.underlying34 rfl Tryz.sizeOf28 rfl) ?_
        refine BK 6 (qz g.mx.b.p g.ts.length g.mx.b.c) CM rfl ?_
        refine Aj (v := (pP b3 2)) rfl (AA rfl Tryz.underlying54 rfl Tryz.sizeOf3 rfl) ?_
        refine BK 4 (vN p) BP rfl ?_
        refine Aj (v := (pP (pB g.mx.b.p) (pO g.mx.b.p + p * 3))) rfl (AO (j := p) rfl rfl g.mx.b.ok Tryz.underlying28 Tryz.sizeOf71 rfl (by omega)) ?_
        refine Aj (v := (pP (pB g.mx.b.p) (pO g.mx.b.p + (p * 3 + 0)))) rfl (AB (j := 0) rfl rfl Tryz.underlying71 Tryz.sizeOf3 rfl (by decide) (Nat.add_assoc _ _ _)) ?_
        refine Aj rfl (Au (v := (vN ((g.ts.getD p ((0, 0, 0) : Nat × Nat × Nat)).1))) (i := 8) rfl rfl (Aw.ne g.mx.b.ok (by omega)) BP (Cz An ((0, 0, 0) : Nat × Nat × Nat) _ _ 0 (by omega) (by decide) rfl)) ?_
        refine Aj (v := (pP b2 1)) rfl (AA rfl Tryz.underlying34 rfl Tryz.sizeOf28 rfl) ?_
        refine BK 6 (qz g.mx.b.p g.ts.length g.mx.b.c) CM rfl ?_
        refine Aj (v := (pP b3 2)) rfl (AA rfl Tryz.underlying54 rfl Tryz.sizeOf3 rfl) ?_
        refine BK 4 (vN p) BP rfl ?_
        refine Aj (v := (pP (pB g.mx.b.p) (pO g.mx.b.p + p * 3))) rfl (AO (j := p) rfl rfl g.mx.b.ok Tryz.underlying28 Tryz.sizeOf71 rfl (by omega)) ?_
        refine Aj (v := (pP (pB g.mx.b.p) (pO g.mx.b.p + (p * 3 + 1)))) rfl (AB (j := 1) rfl rfl Tryz.underlying71 Tryz.sizeOf3 rfl (by decide) (Nat.add_assoc _ _ _)) ?_
        refine Aj rfl (Au (v := (vN ((g.ts.getD p ((0, 0, 0) : Nat × Nat × Nat)).2.1))) (i := 8) rfl rfl (Aw.ne g.mx.b.ok (by omega)) BP (Cz An ((0, 0, 0) : Nat × Nat × Nat) _ _ 1 (by omega) (by decide) rfl)) ?_
        refine Aj rfl (AR (c := ((((g.ts.getD p ((0, 0, 0) : Nat × Nat × Nat)).1) + ((g.ts.getD p ((0, 0, 0) : Nat × Nat × Nat)).2.1) : Nat) : Int)) rfl rfl (AS (a := (g.ts.getD p ((0, 0, 0) : Nat × Nat × Nat)).1) (b := (g.ts.getD p ((0, 0, 0) : Nat × Nat × Nat)).2.1) (by omega))) ?_
        refine Aj (v := (pP b2 1)) rfl (AA rfl Tryz.underlying34 rfl Tryz.sizeOf28 rfl) ?_
        refine BK 6 (qz g.mx.b.p g.ts.length g.mx.b.c) CM rfl ?_
        refine Aj (v := (pP b3 2)) rfl (AA rfl Tryz.underlying54 rfl Tryz.sizeOf3 rfl) ?_
        refine BK 4 (vN p) BP rfl ?_
        refine Aj (v := (pP (pB g.mx.b.p) (pO g.mx.b.p + p * 3))) rfl (AO (j := p) rfl rfl g.mx.b.ok Tryz.underlying28 Tryz.sizeOf71 rfl (by omega)) ?_
        refine Aj (v := (pP (pB g.mx.b.p) (pO g.mx.b.p + (p * 3 + 2)))) rfl (AB (j := 2) rfl rfl Tryz.underlying71 Tryz.sizeOf3 rfl (by decide) (Nat.add_assoc _ _ _)) ?_
        refine Aj rfl (Au (v := (vN ((g.ts.getD p ((0, 0, 0) : Nat × Nat × Nat)).2.2))) (i := 8) rfl rfl (Aw.ne g.mx.b.ok (by omega)) BP (Cz An ((0, 0, 0) : Nat × Nat × Nat) _ _ 2 (by omega) (by decide) rfl)) ?_
        refine Aj rfl (AR (c := (((((g.ts.getD p ((0, 0, 0) : Nat × Nat × Nat)).1) + ((g.ts.getD p ((0, 0, 0) : Nat × Nat × Nat)).2.1)) + ((g.ts.getD p ((0, 0, 0) : Nat × Nat × Nat)).2.2) : Nat) : Int)) rfl rfl (AS (a := ((g.ts.getD p ((0, 0, 0) : Nat × Nat × Nat)).1) + ((g.ts.getD p ((0, 0, 0) : Nat × Nat × Nat)).2.1)) (b := (g.ts.getD p ((0, 0, 0) : Nat × Nat × Nat)).2.2) (by omega))) ?_
        refine Aj (v := (pP b3 0)) rfl (AA rfl Tryz.underlying54 rfl Tryz.sizeOf3 rfl) ?_
        refine BK 4 (vN a) BP rfl ?_
        refine Aj rfl (Bp (c := ((((((g.ts.getD p ((0, 0, 0) : Nat × Nat × Nat)).1) + ((g.ts.getD p ((0, 0, 0) : Nat × Nat × Nat)).2.1)) + ((g.ts.getD p ((0, 0, 0) : Nat × Nat × Nat)).2.2)) - a : Nat) : Int)) rfl rfl (Bz (a := (((g.ts.getD p ((0, 0, 0) : Nat × Nat × Nat)).1) + ((g.ts.getD p ((0, 0, 0) : Nat × Nat × Nat)).2.1)) + ((g.ts.getD p ((0, 0, 0) : Nat × Nat × Nat)).2.2)) (b := a) (by omega) (by omega))) ?_
        refine Aj (v := (pP b3 1)) rfl (AA rfl Tryz.underlying54 rfl Tryz.sizeOf3 rfl) ?_
        refine BK 4 (vN b) BP rfl ?_
        refine Aj rfl (Bp (c := (((((((g.ts.getD p ((0, 0, 0) : Nat × Nat × Nat)).1) + ((g.ts.getD p ((0, 0, 0) : Nat × Nat × Nat)).2.1)) + ((g.ts.getD p ((0, 0, 0) : Nat × Nat × Nat)).2.2)) - a) - b : Nat) : Int)) rfl rfl (Bz (a := ((((g.ts.getD p ((0, 0, 0) : Nat × Nat × Nat)).1) + ((g.ts.getD p ((0, 0, 0) : Nat × Nat × Nat)).2.1)) + ((g.ts.getD p ((0, 0, 0) : Nat × Nat × Nat)).2.2)) - a) (b := b) (by omega) (by omega))) ?_
        refine pS' rfl ?_
        refine zQ ?_
        refine zB (sL [4, 5, 6, 7, 8, 10, 11, 13] rfl) ?_
        refine q1 ?_
        refine C_ [(0, true), (1, true), (2, true), (3, true), (4, true), (5, true), (6, true), (7, true), (8, true), (9, true), (10, true), (11, true), (12, true), (13, true), (14, true), (15, true), (16, true), (17, true), (18, true), (19, true), (20, true), (21, true), (22, true), (23, true), (24, true), (25, true), (26, true), (27, true), (28, true), (29, true)] sr ?_
        refine Aj (v := (pP b2 1)) rfl (AA rfl Tryz.underlying34 rfl Tryz.sizeOf28 rfl) ?_
        refine BK 6 (qz g.mx.b.p g.ts.length g.mx.b.c) CM rfl ?_
        refine Aj (v := (pP b3 3)) rfl (AA rfl Tryz.underlying54 rfl Tryz.sizeOf3 rfl) ?_
        refine BK 4 (vN q) BP rfl ?_
        refine Aj (v := (pP (pB g.mx.b.p) (pO g.mx.b.p + q * 3))) rfl (AO (j := q) rfl rfl g.mx.b.ok Tryz.underlying28 Tryz.sizeOf71 rfl (by omega)) ?_
        refine Aj (v := (pP (pB g.mx.b.p) (pO g.mx.b.p + (q * 3 + 0)))) rfl (AB (j := 0) rfl rfl Tryz.underlying71 Tryz.sizeOf3 rfl (by decide) (Nat.add_assoc _ _ _)) ?_
        refine Aj rfl (Au (v := (vN ((g.ts.getD q ((0, 0, 0) : Nat × Nat × Nat)).1))) (i := 8) rfl rfl (Aw.ne g.mx.b.ok (by omega)) BP (Cz An ((0, 0, 0) : Nat × Nat × Nat) _ _ 0 (by omega) (by decide) rfl)) ?_
        refine Aj (v := (pP b2 1)) rfl (AA rfl Tryz.underlying34 rfl Tryz.sizeOf28 rfl) ?_
        refine BK 6 (qz g.mx.b.p g.ts.length g.mx.b.c) CM rfl ?_
        refine Aj (v := (pP b3 3)) rfl (AA rfl Tryz.underlying54 rfl Tryz.sizeOf3 rfl) ?_
        refine BK 4 (vN q) BP rfl ?_
        refine Aj (v := (pP (pB g.mx.b.p) (pO g.mx.b.p + q * 3))) rfl (AO (j := q) rfl rfl g.mx.b.ok Tryz.underlying28 Tryz.sizeOf71 rfl (by omega)) ?_
        refine Aj (v := (pP (pB g.mx.b.p) (pO g.mx.b.p + (q * 3 + 1)))) rfl (AB (j := 1) rfl rfl Tryz.underlying71 Tryz.sizeOf3 rfl (by decide) (Nat.add_assoc _ _ _)) ?_
        refine Aj rfl (Au (v := (vN ((g.ts.getD q ((0, 0, 0) : Nat × Nat × Nat)).2.1))) (i := 8) rfl rfl (Aw.ne g.mx.b.ok (by omega)) BP (Cz An ((0, 0, 0) : Nat × Nat × Nat) _ _ 1 (by omega) (by decide) rfl)) ?_
        refine Aj rfl (AR (c := ((((g.ts.getD q ((0, 0, 0) : Nat × Nat × Nat)).1) + ((g.ts.getD q ((0, 0, 0) : Nat × Nat × Nat)).2.1) : Nat) : Int)) rfl rfl (AS (a := (g.ts.getD q ((0, 0, 0) : Nat × Nat × Nat)).1) (b := (g.ts.getD q ((0, 0, 0) : Nat × Nat × Nat)).2.1) (by omega))) ?_
        refine Aj (v := (pP b2 1)) rfl (AA rfl Tryz.underlying34 rfl Tryz.sizeOf28 rfl) ?_
        refine BK 6 (qz g.mx.b.p g.ts.length g.mx.b.c) CM rfl ?_
        refine Aj (v := (pP b3 3)) rfl (AA rfl Tryz.underlying54 rfl Tryz.sizeOf3 rfl) ?_
        refine BK 4 (vN q) BP rfl ?_
        refine Aj (v := (pP (pB g.mx.b.p) (pO g.mx.b.p + q * 3))) rfl (AO (j := q) rfl rfl g.mx.b.ok Tryz.underlying28 Tryz.sizeOf71 rfl (by omega)) ?_
        refine Aj (v := (pP (pB g.mx.b.p) (pO g.mx.b.p + (q * 3 + 2)))) rfl (AB (j := 2) rfl rfl Tryz.underlying71 Tryz.sizeOf3 rfl (by decide) (Nat.add_assoc _ _ _)) ?_
        refine Aj rfl (Au (v := (vN ((g.ts.getD q ((0, 0, 0) : Nat × Nat × Nat)).2.2))) (i := 8) rfl rfl (Aw.ne g.mx.b.ok (by omega)) BP (Cz An ((0, 0, 0) : Nat × Nat × Nat) _ _ 2 (by omega) (by decide) rfl)) ?_
        refine Aj rfl (AR (c := (((((g.ts.getD q ((0, 0, 0) : Nat × Nat × Nat)).1) + ((g.ts.getD q ((0, 0, 0) : Nat × Nat × Nat)).2.1)) + ((g.ts.getD q ((0, 0, 0) : Nat × Nat × Nat)).2.2) : Nat) : Int)) rfl rfl (AS (a := ((g.ts.getD q ((0, 0, 0) : Nat × Nat × Nat)).1) + ((g.ts.getD q ((0, 0, 0) : Nat × Nat × Nat)).2.1)) (b := (g.ts.getD q ((0, 0, 0) : Nat × Nat × Nat)).2.2) (by omega))) ?_
        refine Aj (v := (pP b3 0)) rfl (AA rfl Tryz.underlying54 rfl Tryz.sizeOf3 rfl) ?_
        refine BK 4 (vN a) BP rfl ?_
        refine Aj rfl (Bp (c := ((((((g.ts.getD q ((0, 0, 0) : Nat × Nat × Nat)).1) + ((g.ts.getD q ((0, 0, 0) : Nat × Nat × Nat)).2.1)) + ((g.ts.getD q ((0, 0, 0) : Nat × Nat × Nat)).2.2)) - a : Nat) : Int)) rfl rfl (Bz (a := (((g.ts.getD q ((0, 0, 0) : Nat × Nat × Nat)).1) + ((g.ts.getD q ((0, 0, 0) : Nat × Nat × Nat)).2.1)) + ((g.ts.getD q ((0, 0, 0) : Nat × Nat × Nat)).2.2)) (b := a) (by omega) (by omega))) ?_
        refine Aj (v := (pP b3 1)) rfl (AA rfl Tryz.underlying54 rfl Tryz.sizeOf3 rfl) ?_
        refine BK 4 (vN b) BP rfl ?_
        refine Aj rfl (Bp (c := (((((((g.ts.getD q ((0, 0, 0) : Nat × Nat × Nat)).1) + ((g.ts.getD q ((0, 0, 0) : Nat × Nat × Nat)).2.1)) + ((g.ts.getD q ((0, 0, 0) : Nat × Nat × Nat)).2.2)) - a) - b : Nat) : Int)) rfl rfl (Bz (a := ((((g.ts.getD q ((0, 0, 0) : Nat × Nat × Nat)).1) + ((g.ts.getD q ((0, 0, 0) : Nat × Nat × Nat)).2.1)) + ((g.ts.getD q ((0, 0, 0) : Nat × Nat × Nat)).2.2)) - a) (b := b) (by omega) (by omega))) ?_
        refine pS' rfl ?_
        refine zQ ?_
        refine zB (sL [4, 5, 6, 7, 8, 10, 11, 13, 14] rfl) ?_
        refine q2 ?_
        refine Ai 0 Bg rfl ?_
        refine AM rfl ?_
        refine zK (k := 171) (u := (vN c)) rfl (by rw [show ((g.ts.getD p (0, 0, 0)).1 + (g.ts.getD p (0, 0, 0)).2.1 + (g.ts.getD p (0, 0, 0)).2.2 - a - b) = c by omega]) ?_
        refine AM rfl ?_
        refine zK (k := 172) (u := (vN d)) rfl (by rw [show ((g.ts.getD q (0, 0, 0)).1 + (g.ts.getD q (0, 0, 0)).2.1 + (g.ts.getD q (0, 0, 0)).2.2 - a - b) = d by omega]) ?_
        refine yD (S := S) (α := a9 g.ps BT g.ss 0) (args := [(aG (Ce f.x)), (vN c), (vN d)]) Tryz.call19 (fun w hw => Pv f.x (c : Int) (d : Int) K.bk K.ck.num (by omega) (by omega) (by omega) hz2 w (Cd hw 1 rfl lf : Ro _ w f.x)) rfl rfl rfl ?_; intro v9 lv9
        refine AM rfl ?_
        refine AC (AJ (v := (aG (Ce v9.x))) rfl rfl) rfl ?_
        refine AC (AJ (v := (vI 0)) rfl rfl) rfl ?_
        refine al G_ rfl ?_; intro b5
        refine Ah rfl Tryz.sizeOf34 rfl ?_
        refine asg' rfl ?_
        refine q6 (sL [4, 5, 6, 7, 8, 10, 11, 15, 16] rfl) ?_
        refine q4 ?_
        refine AM rfl ?_
        refine AC (Bw (c := false) rfl rfl (by decide)) rfl ?_
        refine AU.nil ?_
        refine zB (sL [4, 5, 6, 7, 8, 10, 11, 15, 177] rfl) ?_
        refine zA ?_
        refine zP rfl ?_
        refine zC ?_
        refine q2 ?_
        refine AC (v := (pP b3 2)) (AA rfl Tryz.underlying54 rfl Tryz.sizeOf3 rfl) rfl ?_
        refine BA 8 (vN p) BP rfl ?_
        refine AC (v := (pP b3 3)) (AA rfl Tryz.underlying54 rfl Tryz.sizeOf3 rfl) rfl ?_
        refine BA 8 (vN q) BP rfl ?_
        refine AC (v := (aG (Ay (p, q)))) (Af (zs := Ay ((0, 0) : P2)) (vs := Ay (p, q)) (pv := [(0, (vN p)), (1, (vN q))]) Tryz.zeroValue72 Tryz.underlying72 Tryz.sizeOf3 rfl (L1 p q)) rfl ?_
        refine al OT rfl ?_; intro b6
        refine Ah rfl Tryz.sizeOf72 rfl ?_
        refine q6 (sL [4, 5, 6, 7, 8, 10, 11, 15, 17] rfl) ?_
        refine q4 ?_
        refine asg' rfl ?_
        refine AU.nil ?_
        refine zA ?_
        refine zI ?_
        refine zw (tg fun (i : Nat) => i ≤ g.ts.length) (tg fun (i : Nat) => [(5, (pP b2 0)), (15, (pP b5 0)), (17, (pP b6 0)), (18, (vN i))]) (tg fun (i : Nat) => [AX b6 72 (Ay (p, q)), AX b5 34 (Ce v9.x), AP v9.x.a.p (rowsL AZ g.ps), AP v9.x.b.p (rowsL Ad BT), AP v9.x.c.p (rowsL Ad g.ss), AX b4 34 (Ce f.x), AP f.x.a.p (rowsL AZ g.ps), AP f.x.b.p (rowsL Ad FT), AP f.x.c.p (rowsL Ad g.ss), AX b3 54 ([(vN a), (vN b), (vN p), (vN q)]), AP o.p (rowsL Bd (BJ g.ts)), AX b2 34 (Ce g.mx), AP g.mx.a.p (rowsL AZ g.ps), AP g.mx.b.p (rowsL Ad g.ts), AP g.mx.c.p (rowsL Ad g.ss), AX b1 26 (Ef m), AP m.p (Ct m.cs)]) (tg fun (i : Nat) => g.ts.length - i) 0 (xK _) (sF rfl) sr (fun i hJ => ?_)
        have hil := hJ
        refine zY ?_
        refine q4 ?_
        refine AM rfl ?_
        refine AC (v := (pP b2 1)) (AA rfl Tryz.underlying34 rfl Tryz.sizeOf28 rfl) rfl ?_
        refine BA 11 (qz g.mx.b.p g.ts.length g.mx.b.c) CM rfl ?_
        refine AC (v := (vN g.ts.length)) (AE rfl Tryz.underlying28) rfl ?_
        refine AC (Aa (c := (decide (i < g.ts.length))) rfl rfl (DF (a := i) (b := g.ts.length))) rfl ?_
        refine AU.nil ?_
        refine zB (sL [5, 15, 17, 18, 187] rfl) ?_
        refine zA ?_
        refine zL rfl (fun hc5 => ?_) (fun hc5 => ?_)
        · replace hc5 := xU hc5
          have hi9 := hc5
          have hr0 := K.r3 i
          unfold R3 at hr0
          refine zC ?_
          refine q1 ?_
          refine zI ?_
          refine q4 ?_
          refine AC (v := (pP b2 1)) (AA rfl Tryz.underlying34 rfl Tryz.sizeOf28 rfl) rfl ?_
          refine BA 11 (qz g.mx.b.p g.ts.length g.mx.b.c) CM rfl ?_
          refine AM rfl ?_
          refine AC (v := (pP (pB g.mx.b.p) (pO g.mx.b.p + i * 3))) (AO (j := i) rfl rfl g.mx.b.ok Tryz.underlying28 Tryz.sizeOf71 rfl (by omega)) rfl ?_
          refine AC (v := (aG (Ad (g.ts.getD i ((0, 0, 0) : Nat × Nat × Nat))))) (AI (vs := Ad (g.ts.getD i ((0, 0, 0) : Nat × Nat × Nat))) (i := 13) rfl rfl (Aw.ne g.mx.b.ok (by omega)) Bm (Ae An _ _ _ (by omega)) (An _)) rfl ?_
          refine al Hk rfl ?_; intro b7
          refine Ah rfl Tryz.sizeOf71 rfl ?_
          refine q6 (sL [5, 15, 17, 18, 19] rfl) ?_
          refine q4 ?_
          refine AM rfl ?_
          refine AC (v := (pP b6 0)) (AB (j := 0) rfl rfl Tryz.underlying72 Tryz.sizeOf3 rfl (by decide) rfl) rfl ?_
          refine BA 1 (vN p) BP rfl ?_
          refine AC (BM (c := (decide (i = p))) rfl rfl (Mz (a := i) (b := p))) rfl ?_
          refine AU.nil ?_
          refine zB (sL [5, 15, 17, 18, 19, 198] rfl) ?_
          refine zA ?_
          refine zL rfl (fun hc6 => ?_) (fun hc6 => ?_)
          · replace hc6 := xU hc6
            rw [if_pos hc6] at hr0
            have hr := hr0
            refine zD ?_
            refine AC (v := (pP b2 1)) (AA rfl Tryz.underlying34 rfl Tryz.sizeOf28 rfl) rfl ?_
            refine BA 12 (qz g.mx.b.p g.ts.length g.mx.b.c) CM rfl ?_
            refine AC (v := (pP b6 1)) (AB (j := 1) rfl rfl Tryz.underlying72 Tryz.sizeOf3 rfl (by decide) rfl) rfl ?_
            refine BA 1 (vN q) BP rfl ?_
            refine AC (v := (pP (pB g.mx.b.p) (pO g.mx.b.p + q * 3))) (AO (j := q) rfl rfl g.mx.b.ok Tryz.underlying28 Tryz.sizeOf71 rfl (by omega)) rfl ?_
            refine AC (v := (aG (Ad (g.ts.getD q ((0, 0, 0) : Nat × Nat × Nat))))) (AI (vs := Ad (g.ts.getD q ((0, 0, 0) : Nat × Nat × Nat))) (i := 14) rfl rfl (Aw.ne g.mx.b.ok (by omega)) Bm (Ae An _ _ _ (by omega)) (An _)) rfl ?_
            refine Ah rfl Tryz.sizeOf71 rfl ?_
            refine q6 (sL [5, 15, 17, 18, 19] rfl) ?_
            refine q4 ?_
            refine AM rfl ?_
            refine AC (v := (pP b6 1)) (AB (j := 1) rfl rfl Tryz.underlying72 Tryz.sizeOf3 rfl (by decide) rfl) rfl ?_
            refine BA 1 (vN q) BP rfl ?_
            refine AC (BM (c := (decide (i = q))) rfl rfl (Mz (a := i) (b := q))) rfl ?_
            refine AU.nil ?_
            refine zB (sL [5, 15, 17, 18, 19, 208] rfl) ?_
            refine zA ?_
            refine zL rfl (fun hc7 => ?_) (fun hc7 => ?_)
            · replace hc7 := xU hc7
              exfalso; omega
            · replace hc7 := xT hc7
              refine zC ?_
              refine q2 ?_
              refine AC (v := (pP b5 1)) (AA rfl Tryz.underlying34 rfl Tryz.sizeOf28 rfl) rfl ?_
              refine BA 2 (qz v9.x.b.p BT.length v9.x.b.c) CM rfl ?_
              refine AM rfl ?_
              refine AC (v := (pP (pB v9.x.b.p) (pO v9.x.b.p + i * 3))) (AO (j := i) rfl rfl v9.x.b.ok Tryz.underlying28 Tryz.sizeOf71 rfl (by omega)) rfl ?_
              refine AC (v := (aG (Ad (BT.getD i ((0, 0, 0) : Nat × Nat × Nat))))) (AI (vs := Ad (BT.getD i ((0, 0, 0) : Nat × Nat × Nat))) (i := 4) rfl rfl (Aw.ne v9.x.b.ok (by omega)) Bm (Ae An _ _ _ (by omega)) (An _)) rfl ?_
              refine al Hk rfl ?_; intro b8
              refine Ah rfl Tryz.sizeOf71 rfl ?_
              refine q6 (sL [5, 15, 17, 18, 19, 20] rfl) ?_
              by_cases j1 : BT.getD i (0, 0, 0) = g.ts.getD q (0, 0, 0)
              · skip
                refine zD ?_
                refine Ai 0 Bm rfl ?_
                refine Ai 1 Bm rfl ?_
                refine AC (v := (qa false)) (CJ rfl rfl Tryz.eqGuardType71 (DK (a := BT.getD i ((0, 0, 0) : Nat × Nat × Nat)) (b := g.ts.getD q ((0, 0, 0) : Nat × Nat × Nat)) 9998 j1)) rfl ?_
                refine AM rfl ?_
                refine yP (B9 rfl) rfl (BE rfl) ?_
                refine yP (B9 rfl) rfl (BE rfl) ?_
                refine yP (B9 rfl) rfl (BE rfl) ?_
                refine yP (B9 rfl) rfl (BE rfl) ?_
                refine yP (B9 rfl) rfl (BE rfl) ?_
                refine yP (B9 rfl) rfl (BE rfl) ?_
                refine yP (B9 rfl) rfl (BE rfl) ?_
                refine yP (B9 rfl) rfl (BE rfl) ?_
                refine yP (B9 rfl) rfl (BE rfl) ?_
                refine AC (v := (qa false)) (AL rfl rfl) rfl ?_
                refine AM rfl ?_
                refine yP (B9 rfl) rfl (BE rfl) ?_
                refine yP (B9 rfl) rfl (BE rfl) ?_
                refine yP (B9 rfl) rfl (BE rfl) ?_
                refine yP (B9 rfl) rfl (BE rfl) ?_
                refine yP (B9 rfl) rfl (BE rfl) ?_
                refine yP (B9 rfl) rfl (BE rfl) ?_
                refine yP (B9 rfl) rfl (BE rfl) ?_
                refine yP (B9 rfl) rfl (BE rfl) ?_
                refine yP (B9 rfl) rfl (BE rfl) ?_
                refine AC (v := (qa false)) (AL rfl rfl) rfl ?_
                refine AU.nil ?_
                refine zB (sL [5, 15, 17, 18, 19, 20, 244] rfl) ?_
                refine zA ?_
                refine zP rfl ?_
                refine zC ?_
                refine zF ?_
                refine zA ?_
                refine zD ?_
                refine AM rfl ?_
                refine AC (AR (c := ((i + 1 : Nat) : Int)) rfl rfl (AS (a := i) (b := 1) (by omega))) rfl ?_
                refine asg' rfl ?_
                refine AU.nil ?_
                refine zB (sL [5, 15, 17, 18, 19, 20] rfl) ?_
                exact zh (i + 1) (by omega) (by omega) (sF rfl) (sl (sl sr))
              · skip
                by_cases j2 : BT.getD i (0, 0, 0) = (((g.ts.getD q (0, 0, 0)).2.1, (g.ts.getD q (0, 0, 0)).2.2, (g.ts.getD q (0, 0, 0)).1) : T3)
                · skip
                  refine zD ?_
                  refine Ai 0 Bm rfl ?_
                  refine Ai 1 Bm rfl ?_
                  refine AC (CP (c := decide (BT.getD i (0, 0, 0) = g.ts.getD q (0, 0, 0))) rfl rfl Tryz.eqGuardType71 (Fi 9998 (BT.getD i (0, 0, 0)) (g.ts.getD q (0, 0, 0))) (congrArg not (xI j1))) rfl ?_
                  refine AM rfl ?_
                  refine AU.step (v := (aG (Ad (BT.getD i ((0, 0, 0) : Nat × Nat × Nat))))) (AY rfl) (Ab (i := 0) (vs := Ad (BT.getD i ((0, 0, 0) : Nat × Nat × Nat))) rfl rfl Bm.a Bm.s rfl rfl) rfl (BE rfl) ?_
                  refine AU.step (v := (pP b7 1)) (AY rfl) (AB (j := 1) rfl rfl Tryz.underlying71 Tryz.sizeOf3 rfl (by decide) rfl) rfl (BE rfl) ?_
                  refine AU.step (v := (vN ((g.ts.getD q ((0, 0, 0) : Nat × Nat × Nat)).2.1))) (AY rfl) (AD (i := 1) (v := (vN ((g.ts.getD q ((0, 0, 0) : Nat × Nat × Nat)).2.1))) rfl rfl BP.a rfl) rfl (BE rfl) ?_
                  refine AU.step (v := (pP b7 2)) (AY rfl) (AB (j := 2) rfl rfl Tryz.underlying71 Tryz.sizeOf3 rfl (by decide) rfl) rfl (BE rfl) ?_
                  refine AU.step (v := (vN ((g.ts.getD q ((0, 0, 0) : Nat × Nat × Nat)).2.2))) (AY rfl) (AD (i := 1) (v := (vN ((g.ts.getD q ((0, 0, 0) : Nat × Nat × Nat)).2.2))) rfl rfl BP.a rfl) rfl (BE rfl) ?_
                  refine AU.step (v := (pP b7 0)) (AY rfl) (AB (j := 0) rfl rfl Tryz.underlying71 Tryz.sizeOf3 rfl (by decide) rfl) rfl (BE rfl) ?_
                  refine AU.step (v := (vN ((g.ts.getD q ((0, 0, 0) : Nat × Nat × Nat)).1))) (AY rfl) (AD (i := 1) (v := (vN ((g.ts.getD q ((0, 0, 0) : Nat × Nat × Nat)).1))) rfl rfl BP.a rfl) rfl (BE rfl) ?_
                  refine AU.step (v := (aG (Ad ((g.ts.getD q ((0, 0, 0) : Nat × Nat × Nat)).2.1, (g.ts.getD q ((0, 0, 0) : Nat × Nat × Nat)).2.2, (g.ts.getD q ((0, 0, 0) : Nat × Nat × Nat)).1)))) (AY rfl) (Af (zs := Ad ((0, 0, 0) : Nat × Nat × Nat)) (vs := Ad ((g.ts.getD q ((0, 0, 0) : Nat × Nat × Nat)).2.1, (g.ts.getD q ((0, 0, 0) : Nat × Nat × Nat)).2.2, (g.ts.getD q ((0, 0, 0) : Nat × Nat × Nat)).1)) (pv := [(0, (vN ((g.ts.getD q ((0, 0, 0) : Nat × Nat × Nat)).2.1))), (1, (vN ((g.ts.getD q ((0, 0, 0) : Nat × Nat × Nat)).2.2))), (2, (vN ((g.ts.getD q ((0, 0, 0) : Nat × Nat × Nat)).1)))]) Tryz.zeroValue71 Tryz.underlying71 Tryz.sizeOf3 rfl (B0 ((g.ts.getD q ((0, 0, 0) : Nat × Nat × Nat)).2.1) ((g.ts.getD q ((0, 0, 0) : Nat × Nat × Nat)).2.2) ((g.ts.getD q ((0, 0, 0) : Nat × Nat × Nat)).1))) rfl (BE rfl) ?_
                  refine AU.step (v := (qa false)) (AY rfl) (CJ rfl rfl Tryz.eqGuardType71 (DK (a := BT.getD i ((0, 0, 0) : Nat × Nat × Nat)) (b := ((g.ts.getD q ((0, 0, 0) : Nat × Nat × Nat)).2.1, (g.ts.getD q ((0, 0, 0) : Nat × Nat × Nat)).2.2, (g.ts.getD q ((0, 0, 0) : Nat × Nat × Nat)).1)) 9998 j2)) rfl (BE rfl) ?_
                  refine AC (v := (qa false)) (AQ rfl rfl) rfl ?_
                  refine AM rfl ?_
                  refine yP (B9 rfl) rfl (BE rfl) ?_
                  refine yP (B9 rfl) rfl (BE rfl) ?_
                  refine yP (B9 rfl) rfl (BE rfl) ?_
                  refine yP (B9 rfl) rfl (BE rfl) ?_
                  refine yP (B9 rfl) rfl (BE rfl) ?_
                  refine yP (B9 rfl) rfl (BE rfl) ?_
                  refine yP (B9 rfl) rfl (BE rfl) ?_
                  refine yP (B9 rfl) rfl (BE rfl) ?_
                  refine yP (B9 rfl) rfl (BE rfl) ?_
                  refine AC (v := (qa false)) (AL rfl rfl) rfl ?_
                  refine AU.nil ?_
                  refine zB (sL [5, 15, 17, 18, 19, 20, 244] rfl) ?_
                  refine zA ?_
                  refine zP rfl ?_
                  refine zC ?_
                  refine zF ?_
                  refine zA ?_
                  refine zD ?_
                  refine AM rfl ?_
                  refine AC (AR (c := ((i + 1 : Nat) : Int)) rfl rfl (AS (a := i) (b := 1) (by omega))) rfl ?_
                  refine asg' rfl ?_
                  refine AU.nil ?_
                  refine zB (sL [5, 15, 17, 18, 19, 20] rfl) ?_
                  exact zh (i + 1) (by omega) (by omega) (sF rfl) (sl (sl sr))
                · skip
                  refine zD ?_
                  refine Ai 0 Bm rfl ?_
                  refine Ai 1 Bm rfl ?_
                  refine AC (CP (c := decide (BT.getD i (0, 0, 0) = g.ts.getD q (0, 0, 0))) rfl rfl Tryz.eqGuardType71 (Fi 9998 (BT.getD i (0, 0, 0)) (g.ts.getD q (0, 0, 0))) (congrArg not (xI j1))) rfl ?_
                  refine AM rfl ?_
                  refine AU.step (v := (aG (Ad (BT.getD i ((0, 0, 0) : Nat × Nat × Nat))))) (AY rfl) (Ab (i := 0) (vs := Ad (BT.getD i ((0, 0, 0) : Nat × Nat × Nat))) rfl rfl Bm.a Bm.s rfl rfl) rfl (BE rfl) ?_
                  refine AU.step (v := (pP b7 1)) (AY rfl) (AB (j := 1) rfl rfl Tryz.underlying71 Tryz.sizeOf3 rfl (by decide) rfl) rfl (BE rfl) ?_
                  refine AU.step (v := (vN ((g.ts.getD q ((0, 0, 0) : Nat × Nat × Nat)).2.1))) (AY rfl) (AD (i := 1) (v := (vN ((g.ts.getD q ((0, 0, 0) : Nat × Nat × Nat)).2.1))) rfl rfl BP.a rfl) rfl (BE rfl) ?_
                  refine AU.step (v := (pP b7 2)) (AY rfl) (AB (j := 2) rfl rfl Tryz.underlying71 Tryz.sizeOf3 rfl (by decide) rfl) rfl (BE rfl) ?_
                  refine AU.step (v := (vN ((g.ts.getD q ((0, 0, 0) : Nat × Nat × Nat)).2.2))) (AY rfl) (AD (i := 1) (v := (vN ((g.ts.getD q ((0, 0, 0) : Nat × Nat × Nat)).2.2))) rfl rfl BP.a rfl) rfl (BE rfl) ?_
                  refine AU.step (v := (pP b7 0)) (AY rfl) (AB (j := 0) rfl rfl Tryz.underlying71 Tryz.sizeOf3 rfl (by decide) rfl) rfl (BE rfl) ?_
                  refine AU.step (v := (vN ((g.ts.getD q ((0, 0, 0) : Nat × Nat × Nat)).1))) (AY rfl) (AD (i := 1) (v := (vN ((g.ts.getD q ((0, 0, 0) : Nat × Nat × Nat)).1))) rfl rfl BP.a rfl) rfl (BE rfl) ?_
                  refine AU.step (v := (aG (Ad ((g.ts.getD q ((0, 0, 0) : Nat × Nat × Nat)).2.1, (g.ts.getD q ((0, 0, 0) : Nat × Nat × Nat)).2.2, (g.ts.getD q ((0, 0, 0) : Nat × Nat × Nat)).1)))) (AY rfl) (Af (zs := Ad ((0, 0, 0) : Nat × Nat × Nat)) (vs := Ad ((g.ts.getD q ((0, 0, 0) : Nat × Nat × Nat)).2.1, (g.ts.getD q ((0, 0, 0) : Nat × Nat × Nat)).2.2, (g.ts.getD q ((0, 0, 0) : Nat × Nat × Nat)).1)) (pv := [(0, (vN ((g.ts.getD q ((0, 0, 0) : Nat × Nat × Nat)).2.1))), (1, (vN ((g.ts.getD q ((0, 0, 0) : Nat × Nat × Nat)).2.2))), (2, (vN ((g.ts.getD q ((0, 0, 0) : Nat × Nat × Nat)).1)))]) Tryz.zeroValue71 Tryz.underlying71 Tryz.sizeOf3 rfl (B0 ((g.ts.getD q ((0, 0, 0) : Nat × Nat × Nat)).2.1) ((g.ts.getD q ((0, 0, 0) : Nat × Nat × Nat)).2.2) ((g.ts.getD q ((0, 0, 0) : Nat × Nat × Nat)).1))) rfl (BE rfl) ?_
                  refine AU.step (v := (qa true)) (AY rfl) (CP (c := decide (BT.getD i (0, 0, 0) = (((g.ts.getD q (0, 0, 0)).2.1, (g.ts.getD q (0, 0, 0)).2.2, (g.ts.getD q (0, 0, 0)).1) : T3))) rfl rfl Tryz.eqGuardType71 (Fi 9998 (BT.getD i (0, 0, 0)) (((g.ts.getD q (0, 0, 0)).2.1, (g.ts.getD q (0, 0, 0)).2.2, (g.ts.getD q (0, 0, 0)).1) : T3)) (congrArg not (xI j2))) rfl (BE rfl) ?_
                  refine AC (v := (qa true)) (AQ rfl rfl) rfl ?_
                  refine AM rfl ?_
                  refine AU.step (v := (aG (Ad (BT.getD i ((0, 0, 0) : Nat × Nat × Nat))))) (AY rfl) (Ab (i := 0) (vs := Ad (BT.getD i ((0, 0, 0) : Nat × Nat × Nat))) rfl rfl Bm.a Bm.s rfl rfl) rfl (BE rfl) ?_
                  refine AU.step (v := (pP b7 2)) (AY rfl) (AB (j := 2) rfl rfl Tryz.underlying71 Tryz.sizeOf3 rfl (by decide) rfl) rfl (BE rfl) ?_
                  refine AU.step (v := (vN ((g.ts.getD q ((0, 0, 0) : Nat × Nat × Nat)).2.2))) (AY rfl) (AD (i := 1) (v := (vN ((g.ts.getD q ((0, 0, 0) : Nat × Nat × Nat)).2.2))) rfl rfl BP.a rfl) rfl (BE rfl) ?_
                  refine AU.step (v := (pP b7 0)) (AY rfl) (AB (j := 0) rfl rfl Tryz.underlying71 Tryz.sizeOf3 rfl (by decide) rfl) rfl (BE rfl) ?_
                  refine AU.step (v := (vN ((g.ts.getD q ((0, 0, 0) : Nat × Nat × Nat)).1))) (AY rfl) (AD (i := 1) (v := (vN ((g.ts.getD q ((0, 0, 0) : Nat × Nat × Nat)).1))) rfl rfl BP.a rfl) rfl (BE rfl) ?_
                  refine AU.step (v := (pP b7 1)) (AY rfl) (AB (j := 1) rfl rfl Tryz.underlying71 Tryz.sizeOf3 rfl (by decide) rfl) rfl (BE rfl) ?_
                  refine AU.step (v := (vN ((g.ts.getD q ((0, 0, 0) : Nat × Nat × Nat)).2.1))) (AY rfl) (AD (i := 1) (v := (vN ((g.ts.getD q ((0, 0, 0) : Nat × Nat × Nat)).2.1))) rfl rfl BP.a rfl) rfl (BE rfl) ?_
                  refine AU.step (v := (aG (Ad ((g.ts.getD q ((0, 0, 0) : Nat × Nat × Nat)).2.2, (g.ts.getD q ((0, 0, 0) : Nat × Nat × Nat)).1, (g.ts.getD q ((0, 0, 0) : Nat × Nat × Nat)).2.1)))) (AY rfl) (Af (zs := Ad ((0, 0, 0) : Nat × Nat × Nat)) (vs := Ad ((g.ts.getD q ((0, 0, 0) : Nat × Nat × Nat)).2.2, (g.ts.getD q ((0, 0, 0) : Nat × Nat × Nat)).1, (g.ts.getD q ((0, 0, 0) : Nat × Nat × Nat)).2.1)) (pv := [(0, (vN ((g.ts.getD q ((0, 0, 0) : Nat × Nat × Nat)).2.2))), (1, (vN ((g.ts.getD q ((0, 0, 0) : Nat × Nat × Nat)).1))), (2, (vN ((g.ts.getD q ((0, 0, 0) : Nat × Nat × Nat)).2.1)))]) Tryz.zeroValue71 Tryz.underlying71 Tryz.sizeOf3 rfl (B0 ((g.ts.getD q ((0, 0, 0) : Nat × Nat × Nat)).2.2) ((g.ts.getD q ((0, 0, 0) : Nat × Nat × Nat)).1) ((g.ts.getD q ((0, 0, 0) : Nat × Nat × Nat)).2.1))) rfl (BE rfl) ?_
                  refine AU.step (v := (qa false)) (AY rfl) (CJ rfl rfl Tryz.eqGuardType71 (DK (a := BT.getD i ((0, 0, 0) : Nat × Nat × Nat)) (b := ((g.ts.getD q ((0, 0, 0) : Nat × Nat × Nat)).2.2, (g.ts.getD q ((0, 0, 0) : Nat × Nat × Nat)).1, (g.ts.getD q ((0, 0, 0) : Nat × Nat × Nat)).2.1)) 9998 ((hr.resolve_left j1).resolve_left j2))) rfl (BE rfl) ?_
                  refine AC (v := (qa false)) (AQ rfl rfl) rfl ?_
                  refine AU.nil ?_
                  refine zB (sL [5, 15, 17, 18, 19, 20, 244] rfl) ?_
                  refine zA ?_
                  refine zP rfl ?_
                  refine zC ?_
                  refine zF ?_
                  refine zA ?_
                  refine zD ?_
                  refine AM rfl ?_
                  refine AC (AR (c := ((i + 1 : Nat) : Int)) rfl rfl (AS (a := i) (b := 1) (by omega))) rfl ?_
                  refine asg' rfl ?_
                  refine AU.nil ?_
                  refine zB (sL [5, 15, 17, 18, 19, 20] rfl) ?_
                  exact zh (i + 1) (by omega) (by omega) (sF rfl) (sl (sl sr))
          · replace hc6 := xT hc6
            rw [if_neg hc6] at hr0
            refine zC ?_
            refine q1 ?_
            refine q4 ?_
            refine AM rfl ?_
            refine AC (v := (pP b6 1)) (AB (j := 1) rfl rfl Tryz.underlying72 Tryz.sizeOf3 rfl (by decide) rfl) rfl ?_
            refine BA 1 (vN q) BP rfl ?_
            refine AC (BM (c := (decide (i = q))) rfl rfl (Mz (a := i) (b := q))) rfl ?_
            refine AU.nil ?_
            refine zB (sL [5, 15, 17, 18, 19, 208] rfl) ?_
            refine zA ?_
            refine zL rfl (fun hc7 => ?_) (fun hc7 => ?_)
            · replace hc7 := xU hc7
              rw [if_pos hc7] at hr0
              have hr := hr0
              refine zD ?_
              refine AC (v := (pP b2 1)) (AA rfl Tryz.underlying34 rfl Tryz.sizeOf28 rfl) rfl ?_
              refine BA 12 (qz g.mx.b.p g.ts.length g.mx.b.c) CM rfl ?_
              refine AC (v := (pP b6 0)) (AB (j := 0) rfl rfl Tryz.underlying72 Tryz.sizeOf3 rfl (by decide) rfl) rfl ?_
              refine BA 1 (vN p) BP rfl ?_
              refine AC (v := (pP (pB g.mx.b.p) (pO g.mx.b.p + p * 3))) (AO (j := p) rfl rfl g.mx.b.ok Tryz.underlying28 Tryz.sizeOf71 rfl (by omega)) rfl ?_
              refine AC (v := (aG (Ad (g.ts.getD p ((0, 0, 0) : Nat × Nat × Nat))))) (AI (vs := Ad (g.ts.getD p ((0, 0, 0) : Nat × Nat × Nat))) (i := 14) rfl rfl (Aw.ne g.mx.b.ok (by omega)) Bm (Ae An _ _ _ (by omega)) (An _)) rfl ?_
              refine Ah rfl Tryz.sizeOf71 rfl ?_
              refine q3 (sL [5, 15, 17, 18, 19] rfl) ?_
              refine AC (v := (pP b5 1)) (AA rfl Tryz.underlying34 rfl Tryz.sizeOf28 rfl) rfl ?_
              refine BA 2 (qz v9.x.b.p BT.length v9.x.b.c) CM rfl ?_
              refine AM rfl ?_
              refine AC (v := (pP (pB v9.x.b.p) (pO v9.x.b.p + i * 3))) (AO (j := i) rfl rfl v9.x.b.ok Tryz.underlying28 Tryz.sizeOf71 rfl (by omega)) rfl ?_
              refine AC (v := (aG (Ad (BT.getD i ((0, 0, 0) : Nat × Nat × Nat))))) (AI (vs := Ad (BT.getD i ((0, 0, 0) : Nat × Nat × Nat))) (i := 4) rfl rfl (Aw.ne v9.x.b.ok (by omega)) Bm (Ae An _ _ _ (by omega)) (An _)) rfl ?_
              refine al Hk rfl ?_; intro b8
              refine Ah rfl Tryz.sizeOf71 rfl ?_
              refine q6 (sL [5, 15, 17, 18, 19, 20] rfl) ?_
              by_cases j1 : BT.getD i (0, 0, 0) = g.ts.getD p (0, 0, 0)
              · skip
                refine zD ?_
                refine Ai 0 Bm rfl ?_
                refine Ai 1 Bm rfl ?_
                refine AC (v := (qa false)) (CJ rfl rfl Tryz.eqGuardType71 (DK (a := BT.getD i ((0, 0, 0) : Nat × Nat × Nat)) (b := g.ts.getD p ((0, 0, 0) : Nat × Nat × Nat)) 9998 j1)) rfl ?_
                refine AM rfl ?_
                refine yP (B9 rfl) rfl (BE rfl) ?_
                refine yP (B9 rfl) rfl (BE rfl) ?_
                refine yP (B9 rfl) rfl (BE rfl) ?_
                refine yP (B9 rfl) rfl (BE rfl) ?_
                refine yP (B9 rfl) rfl (BE rfl) ?_
                refine yP (B9 rfl) rfl (BE rfl) ?_
                refine yP (B9 rfl) rfl (BE rfl) ?_
                refine yP (B9 rfl) rfl (BE rfl) ?_
                refine yP (B9 rfl) rfl (BE rfl) ?_
                refine AC (v := (qa false)) (AL rfl rfl) rfl ?_
                refine AM rfl ?_
                refine yP (B9 rfl) rfl (BE rfl) ?_
                refine yP (B9 rfl) rfl (BE rfl) ?_
                refine yP (B9 rfl) rfl (BE rfl) ?_
                refine yP (B9 rfl) rfl (BE rfl) ?_
                refine yP (B9 rfl) rfl (BE rfl) ?_
                refine yP (B9 rfl) rfl (BE rfl) ?_
                refine yP (B9 rfl) rfl (BE rfl) ?_
                refine yP (B9 rfl) rfl (BE rfl) ?_
                refine yP (B9 rfl) rfl (BE rfl) ?_
                refine AC (v := (qa false)) (AL rfl rfl) rfl ?_
                refine AU.nil ?_
                refine zB (sL [5, 15, 17, 18, 19, 20, 244] rfl) ?_
                refine zA ?_
                refine zP rfl ?_
                refine zC ?_
                refine zF ?_
                refine zA ?_
                refine zD ?_
                refine AM rfl ?_
                refine AC (AR (c := ((i + 1 : Nat) : Int)) rfl rfl (AS (a := i) (b := 1) (by omega))) rfl ?_
                refine asg' rfl ?_
                refine AU.nil ?_
                refine zB (sL [5, 15, 17, 18, 19, 20] rfl) ?_
                exact zh (i + 1) (by omega) (by omega) (sF rfl) (sl (sl sr))
              · skip
                by_cases j2 : BT.getD i (0, 0, 0) = (((g.ts.getD p (0, 0, 0)).2.1, (g.ts.getD p (0, 0, 0)).2.2, (g.ts.getD p (0, 0, 0)).1) : T3)
                · skip
                  refine zD ?_
                  refine Ai 0 Bm rfl ?_
                  refine Ai 1 Bm rfl ?_
                  refine AC (CP (c := decide (BT.getD i (0, 0, 0) = g.ts.getD p (0, 0, 0))) rfl rfl Tryz.eqGuardType71 (Fi 9998 (BT.getD i (0, 0, 0)) (g.ts.getD p (0, 0, 0))) (congrArg not (xI j1))) rfl ?_
                  refine AM rfl ?_
                  refine AU.step (v := (aG (Ad (BT.getD i ((0, 0, 0) : Nat × Nat × Nat))))) (AY rfl) (Ab (i := 0) (vs := Ad (BT.getD i ((0, 0, 0) : Nat × Nat × Nat))) rfl rfl Bm.a Bm.s rfl rfl) rfl (BE rfl) ?_
                  refine AU.step (v := (pP b7 1)) (AY rfl) (AB (j := 1) rfl rfl Tryz.underlying71 Tryz.sizeOf3 rfl (by decide) rfl) rfl (BE rfl) ?_
                  refine AU.step (v := (vN ((g.ts.getD p ((0, 0, 0) : Nat × Nat × Nat)).2.1))) (AY rfl) (AD (i := 1) (v := (vN ((g.ts.getD p ((0, 0, 0) : Nat × Nat × Nat)).2.1))) rfl rfl BP.a rfl) rfl (BE rfl) ?_
                  refine AU.step (v := (pP b7 2)) (AY rfl) (AB (j := 2) rfl rfl Tryz.underlying71 Tryz.sizeOf3 rfl (by decide) rfl) rfl (BE rfl) ?_
                  refine AU.step (v := (vN ((g.ts.getD p ((0, 0, 0) : Nat × Nat × Nat)).2.2))) (AY rfl) (AD (i := 1) (v := (vN ((g.ts.getD p ((0, 0, 0) : Nat × Nat × Nat)).2.2))) rfl rfl BP.a rfl) rfl (BE rfl) ?_
                  refine AU.step (v := (pP b7 0)) (AY rfl) (AB (j := 0) rfl rfl Tryz.underlying71 Tryz.sizeOf3 rfl (by decide) rfl) rfl (BE rfl) ?_
                  refine AU.step (v := (vN ((g.ts.getD p ((0, 0, 0) : Nat × Nat × Nat)).1))) (AY rfl) (AD (i := 1) (v := (vN ((g.ts.getD p ((0, 0, 0) : Nat × Nat × Nat)).1))) rfl rfl BP.a rfl) rfl (BE rfl) ?_
                  refine AU.step (v := (aG (Ad ((g.ts.getD p ((0, 0, 0) : Nat × Nat × Nat)).2.1, (g.ts.getD p ((0, 0, 0) : Nat × Nat × Nat)).2.2, (g.ts.getD p ((0, 0, 0) : Nat × Nat × Nat)).1)))) (AY rfl) (Af (zs := Ad ((0, 0, 0) : Nat × Nat × Nat)) (vs := Ad ((g.ts.getD p ((0, 0, 0) : Nat × Nat × Nat)).2.1, (g.ts.getD p ((0, 0, 0) : Nat × Nat × Nat)).2.2, (g.ts.getD p ((0, 0, 0) : Nat × Nat × Nat)).1)) (pv := [(0, (vN ((g.ts.getD p ((0, 0, 0) : Nat × Nat × Nat)).2.1))), (1, (vN ((g.ts.getD p ((0, 0, 0) : Nat × Nat × Nat)).2.2))), (2, (vN ((g.ts.getD p ((0, 0, 0) : Nat × Nat × Nat)).1)))]) Tryz.zeroValue71 Tryz.underlying71 Tryz.sizeOf3 rfl (B0 ((g.ts.getD p ((0, 0, 0) : Nat × Nat × Nat)).2.1) ((g.ts.getD p ((0, 0, 0) : Nat × Nat × Nat)).2.2) ((g.ts.getD p ((0, 0, 0) : Nat × Nat × Nat)).1))) rfl (BE rfl) ?_
                  refine AU.step (v := (qa false)) (AY rfl) (CJ rfl rfl Tryz.eqGuardType71 (DK (a := BT.getD i ((0, 0, 0) : Nat × Nat × Nat)) (b := ((g.ts.getD p ((0, 0, 0) : Nat × Nat × Nat)).2.1, (g.ts.getD p ((0, 0, 0) : Nat × Nat × Nat)).2.2, (g.ts.getD p ((0, 0, 0) : Nat × Nat × Nat)).1)) 9998 j2)) rfl (BE rfl) ?_
                  refine AC (v := (qa false)) (AQ rfl rfl) rfl ?_
                  refine AM rfl ?_
                  refine yP (B9 rfl) rfl (BE rfl) ?_
                  refine yP (B9 rfl) rfl (BE rfl) ?_
                  refine yP (B9 rfl) rfl (BE rfl) ?_
                  refine yP (B9 rfl) rfl (BE rfl) ?_
                  refine yP (B9 rfl) rfl (BE rfl) ?_
                  refine yP (B9 rfl) rfl (BE rfl) ?_
                  refine yP (B9 rfl) rfl (BE rfl) ?_
                  refine yP (B9 rfl) rfl (BE rfl) ?_
                  refine yP (B9 rfl) rfl (BE rfl) ?_
                  refine AC (v := (qa false)) (AL rfl rfl) rfl ?_
                  refine AU.nil ?_
                  refine zB (sL [5, 15, 17, 18, 19, 20, 244] rfl) ?_
                  refine zA ?_
                  refine zP rfl ?_
                  refine zC ?_
                  refine zF ?_
                  refine zA ?_
                  refine zD ?_
                  refine AM rfl ?_
                  refine AC (AR (c := ((i + 1 : Nat) : Int)) rfl rfl (AS (a := i) (b := 1) (by omega))) rfl ?_
                  refine asg' rfl ?_
                  refine AU.nil ?_
                  refine zB (sL [5, 15, 17, 18, 19, 20] rfl) ?_
                  exact zh (i + 1) (by omega) (by omega) (sF rfl) (sl (sl sr))
                · skip
                  refine zD ?_
                  refine Ai 0 Bm rfl ?_
                  refine Ai 1 Bm rfl ?_
                  refine AC (CP (c := decide (BT.getD i (0, 0, 0) = g.ts.getD p (0, 0, 0))) rfl rfl Tryz.eqGuardType71 (Fi 9998 (BT.getD i (0, 0, 0)) (g.ts.getD p (0, 0, 0))) (congrArg not (xI j1))) rfl ?_
                  refine AM rfl ?_
                  refine AU.step (v := (aG (Ad (BT.getD i ((0, 0, 0) : Nat × Nat × Nat))))) (AY rfl) (Ab (i := 0) (vs := Ad (BT.getD i ((0, 0, 0) : Nat × Nat × Nat))) rfl rfl Bm.a Bm.s rfl rfl) rfl (BE rfl) ?_
                  refine AU.step (v := (pP b7 1)) (AY rfl) (AB (j := 1) rfl rfl Tryz.underlying71 Tryz.sizeOf3 rfl (by decide) rfl) rfl (BE rfl) ?_
                  refine AU.step (v := (vN ((g.ts.getD p ((0, 0, 0) : Nat × Nat × Nat)).2.1))) (AY rfl) (AD (i := 1) (v := (vN ((g.ts.getD p ((0, 0, 0) : Nat × Nat × Nat)).2.1))) rfl rfl BP.a rfl) rfl (BE rfl) ?_
                  refine AU.step (v := (pP b7 2)) (AY rfl) (AB (j := 2) rfl rfl Tryz.underlying71 Tryz.sizeOf3 rfl (by decide) rfl) rfl (BE rfl) ?_
                  refine AU.step (v := (vN ((g.ts.getD p ((0, 0, 0) : Nat × Nat × Nat)).2.2))) (AY rfl) (AD (i := 1) (v := (vN ((g.ts.getD p ((0, 0, 0) : Nat × Nat × Nat)).2.2))) rfl rfl BP.a rfl) rfl (BE rfl) ?_
                  refine AU.step (v := (pP b7 0)) (AY rfl) (AB (j := 0) rfl rfl Tryz.underlying71 Tryz.sizeOf3 rfl (by decide) rfl) rfl (BE rfl) ?_
                  refine AU.step (v := (vN ((g.ts.getD p ((0, 0, 0) : Nat × Nat × Nat)).1))) (AY rfl) (AD (i := 1) (v := (vN ((g.ts.getD p ((0, 0, 0) : Nat × Nat × Nat)).1))) rfl rfl BP.a rfl) rfl (BE rfl) ?_
                  refine AU.step (v := (aG (Ad ((g.ts.getD p ((0, 0, 0) : Nat × Nat × Nat)).2.1, (g.ts.getD p ((0, 0, 0) : Nat × Nat × Nat)).2.2, (g.ts.getD p ((0, 0, 0) : Nat × Nat × Nat)).1)))) (AY rfl) (Af (zs := Ad ((0, 0, 0) : Nat × Nat × Nat)) (vs := Ad ((g.ts.getD p ((0, 0, 0) : Nat × Nat × Nat)).2.1, (g.ts.getD p ((0, 0, 0) : Nat × Nat × Nat)).2.2, (g.ts.getD p ((0, 0, 0) : Nat × Nat × Nat)).1)) (pv := [(0, (vN ((g.ts.getD p ((0, 0, 0) : Nat × Nat × Nat)).2.1))), (1, (vN ((g.ts.getD p ((0, 0, 0) : Nat × Nat × Nat)).2.2))), (2, (vN ((g.ts.getD p ((0, 0, 0) : Nat × Nat × Nat)).1)))]) Tryz.zeroValue71 Tryz.underlying71 Tryz.sizeOf3 rfl (B0 ((g.ts.getD p ((0, 0, 0) : Nat × Nat × Nat)).2.1) ((g.ts.getD p ((0, 0, 0) : Nat × Nat × Nat)).2.2) ((g.ts.getD p ((0, 0, 0) : Nat × Nat × Nat)).1))) rfl (BE rfl) ?_
                  refine AU.step (v := (qa true)) (AY rfl) (CP (c := decide (BT.getD i (0, 0, 0) = (((g.ts.getD p (0, 0, 0)).2.1, (g.ts.getD p (0, 0, 0)).2.2, (g.ts.getD p (0, 0, 0)).1) : T3))) rfl rfl Tryz.eqGuardType71 (Fi 9998 (BT.getD i (0, 0, 0)) (((g.ts.getD p (0, 0, 0)).2.1, (g.ts.getD p (0, 0, 0)).2.2, (g.ts.getD p (0, 0, 0)).1) : T3)) (congrArg not (xI j2))) rfl (BE rfl) ?_
                  refine AC (v := (qa true)) (AQ rfl rfl) rfl ?_
                  refine AM rfl ?_
                  refine AU.step (v := (aG (Ad (BT.getD i ((0, 0, 0) : Nat × Nat × Nat))))) (AY rfl) (Ab (i := 0) (vs := Ad (BT.getD i ((0, 0, 0) : Nat × Nat × Nat))) rfl rfl Bm.a Bm.s rfl rfl) rfl (BE rfl) ?_
                  refine AU.step (v := (pP b7 2)) (AY rfl) (AB (j := 2) rfl rfl Tryz.underlying71 Tryz.sizeOf3 rfl (by decide) rfl) rfl (BE rfl) ?_
                  refine AU.step (v := (vN ((g.ts.getD p ((0, 0, 0) : Nat × Nat × Nat)).2.2))) (AY rfl) (AD (i := 1) (v := (vN ((g.ts.getD p ((0, 0, 0) : Nat × Nat × Nat)).2.2))) rfl rfl BP.a rfl) rfl (BE rfl) ?_
                  refine AU.step (v := (pP b7 0)) (AY rfl) (AB (j := 0) rfl rfl Tryz.underlying71 Tryz.sizeOf3 rfl (by decide) rfl) rfl (BE rfl) ?_
                  refine AU.step (v := (vN ((g.ts.getD p ((0, 0, 0) : Nat × Nat × Nat)).1))) (AY rfl) (AD (i := 1) (v := (vN ((g.ts.getD p ((0, 0, 0) : Nat × Nat × Nat)).1))) rfl rfl BP.a rfl) rfl (BE rfl) ?_
                  refine AU.step (v := (pP b7 1)) (AY rfl) (AB (j := 1) rfl rfl Tryz.underlying71 Tryz.sizeOf3 rfl (by decide) rfl) rfl (BE rfl) ?_
                  refine AU.step (v := (vN ((g.ts.getD p ((0, 0, 0) : Nat × Nat × Nat)).2.1))) (AY rfl) (AD (i := 1) (v := (vN ((g.ts.getD p ((0, 0, 0) : Nat × Nat × Nat)).2.1))) rfl rfl BP.a rfl) rfl (BE rfl) ?_
                  refine AU.step (v := (aG (Ad ((g.ts.getD p ((0, 0, 0) : Nat × Nat × Nat)).2.2, (g.ts.getD p ((0, 0, 0) : Nat × Nat × Nat)).1, (g.ts.getD p ((0, 0, 0) : Nat × Nat × Nat)).2.1)))) (AY rfl) (Af (zs := Ad ((0, 0, 0) : Nat × Nat × Nat)) (vs := Ad ((g.ts.getD p ((0, 0, 0) : Nat × Nat × Nat)).2.2, (g.ts.getD p ((0, 0, 0) : Nat × Nat × Nat)).1, (g.ts.getD p ((0, 0, 0) : Nat × Nat × Nat)).2.1)) (pv := [(0, (vN ((g.ts.getD p ((0, 0, 0) : Nat × Nat × Nat)).2.2))), (1, (vN ((g.ts.getD p ((0, 0, 0) : Nat × Nat × Nat)).1))), (2, (vN ((g.ts.getD p ((0, 0, 0) : Nat × Nat × Nat)).2.1)))]) Tryz.zeroValue71 Tryz.underlying71 Tryz.sizeOf3 rfl (B0 ((g.ts.getD p ((0, 0, 0) : Nat × Nat × Nat)).2.2) ((g.ts.getD p ((0, 0, 0) : Nat × Nat × Nat)).1) ((g.ts.getD p ((0, 0, 0) : Nat × Nat × Nat)).2.1))) rfl (BE rfl) ?_
                  refine AU.step (v := (qa false)) (AY rfl) (CJ rfl rfl Tryz.eqGuardType71 (DK (a := BT.getD i ((0, 0, 0) : Nat × Nat × Nat)) (b := ((g.ts.getD p ((0, 0, 0) : Nat × Nat × Nat)).2.2, (g.ts.getD p ((0, 0, 0) : Nat × Nat × Nat)).1, (g.ts.getD p ((0, 0, 0) : Nat × Nat × Nat)).2.1)) 9998 ((hr.resolve_left j1).resolve_left j2))) rfl (BE rfl) ?_
                  refine AC (v := (qa false)) (AQ rfl rfl) rfl ?_
                  refine AU.nil ?_
                  refine zB (sL [5, 15, 17, 18, 19, 20, 244] rfl) ?_
                  refine zA ?_
                  refine zP rfl ?_
                  refine zC ?_
                  refine zF ?_
                  refine zA ?_
                  refine zD ?_
                  refine AM rfl ?_
                  refine AC (AR (c := ((i + 1 : Nat) : Int)) rfl rfl (AS (a := i) (b := 1) (by omega))) rfl ?_
                  refine asg' rfl ?_
                  refine AU.nil ?_
                  refine zB (sL [5, 15, 17, 18, 19, 20] rfl) ?_
                  exact zh (i + 1) (by omega) (by omega) (sF rfl) (sl (sl sr))
            · replace hc7 := xT hc7
              rw [if_neg hc7] at hr0
              have hr := hr0
              refine zC ?_
              refine q2 ?_
              refine AC (v := (pP b5 1)) (AA rfl Tryz.underlying34 rfl Tryz.sizeOf28 rfl) rfl ?_
              refine BA 2 (qz v9.x.b.p BT.length v9.x.b.c) CM rfl ?_
              refine AM rfl ?_
              refine AC (v := (pP (pB v9.x.b.p) (pO v9.x.b.p + i * 3))) (AO (j := i) rfl rfl v9.x.b.ok Tryz.underlying28 Tryz.sizeOf71 rfl (by omega)) rfl ?_
              refine AC (v := (aG (Ad (BT.getD i ((0, 0, 0) : Nat × Nat × Nat))))) (AI (vs := Ad (BT.getD i ((0, 0, 0) : Nat × Nat × Nat))) (i := 4) rfl rfl (Aw.ne v9.x.b.ok (by omega)) Bm (Ae An _ _ _ (by omega)) (An _)) rfl ?_
              refine al Hk rfl ?_; intro b8
              refine Ah rfl Tryz.sizeOf71 rfl ?_
              refine q6 (sL [5, 15, 17, 18, 19, 20] rfl) ?_
              by_cases j1 : BT.getD i (0, 0, 0) = g.ts.getD i (0, 0, 0)
              · skip
                refine zD ?_
                refine Ai 0 Bm rfl ?_
                refine Ai 1 Bm rfl ?_
                refine AC (v := (qa false)) (CJ rfl rfl Tryz.eqGuardType71 (DK (a := BT.getD i ((0, 0, 0) : Nat × Nat × Nat)) (b := g.ts.getD i ((0, 0, 0) : Nat × Nat × Nat)) 9998 j1)) rfl ?_
                refine AM rfl ?_
                refine yP (B9 rfl) rfl (BE rfl) ?_
                refine yP (B9 rfl) rfl (BE rfl) ?_
                refine yP (B9 rfl) rfl (BE rfl) ?_
                refine yP (B9 rfl) rfl (BE rfl) ?_
                refine yP (B9 rfl) rfl (BE rfl) ?_
                refine yP (B9 rfl) rfl (BE rfl) ?_
                refine yP (B9 rfl) rfl (BE rfl) ?_
                refine yP (B9 rfl) rfl (BE rfl) ?_
                refine yP (B9 rfl) rfl (BE rfl) ?_
                refine AC (v := (qa false)) (AL rfl rfl) rfl ?_
                refine AM rfl ?_
                refine yP (B9 rfl) rfl (BE rfl) ?_
                refine yP (B9 rfl) rfl (BE rfl) ?_
                refine yP (B9 rfl) rfl (BE rfl) ?_
                refine yP (B9 rfl) rfl (BE rfl) ?_
                refine yP (B9 rfl) rfl (BE rfl) ?_
                refine yP (B9 rfl) rfl (BE rfl) ?_
                refine yP (B9 rfl) rfl (BE rfl) ?_
                refine yP (B9 rfl) rfl (BE rfl) ?_
                refine yP (B9 rfl) rfl (BE rfl) ?_
                refine AC (v := (qa false)) (AL rfl rfl) rfl ?_
                refine AU.nil ?_
                refine zB (sL [5, 15, 17, 18, 19, 20, 244] rfl) ?_
                refine zA ?_
                refine zP rfl ?_
                refine zC ?_
                refine zF ?_
                refine zA ?_
                refine zD ?_
                refine AM rfl ?_
                refine AC (AR (c := ((i + 1 : Nat) : Int)) rfl rfl (AS (a := i) (b := 1) (by omega))) rfl ?_
                refine asg' rfl ?_
                refine AU.nil ?_
                refine zB (sL [5, 15, 17, 18, 19, 20] rfl) ?_
                exact zh (i + 1) (by omega) (by omega) (sF rfl) (sl (sl sr))
              · skip
                by_cases j2 : BT.getD i (0, 0, 0) = (((g.ts.getD i (0, 0, 0)).2.1, (g.ts.getD i (0, 0, 0)).2.2, (g.ts.getD i (0, 0, 0)).1) : T3)
                · skip
                  refine zD ?_
                  refine Ai 0 Bm rfl ?_
                  refine Ai 1 Bm rfl ?_
                  refine AC (CP (c := decide (BT.getD i (0, 0, 0) = g.ts.getD i (0, 0, 0))) rfl rfl Tryz.eqGuardType71 (Fi 9998 (BT.getD i (0, 0, 0)) (g.ts.getD i (0, 0, 0))) (congrArg not (xI j1))) rfl ?_
                  refine AM rfl ?_
                  refine AU.step (v := (aG (Ad (BT.getD i ((0, 0, 0) : Nat × Nat × Nat))))) (AY rfl) (Ab (i := 0) (vs := Ad (BT.getD i ((0, 0, 0) : Nat × Nat × Nat))) rfl rfl Bm.a Bm.s rfl rfl) rfl (BE rfl) ?_
                  refine AU.step (v := (pP b7 1)) (AY rfl) (AB (j := 1) rfl rfl Tryz.underlying71 Tryz.sizeOf3 rfl (by decide) rfl) rfl (BE rfl) ?_
                  refine AU.step (v := (vN ((g.ts.getD i ((0, 0, 0) : Nat × Nat × Nat)).2.1))) (AY rfl) (AD (i := 1) (v := (vN ((g.ts.getD i ((0, 0, 0) : Nat × Nat × Nat)).2.1))) rfl rfl BP.a rfl) rfl (BE rfl) ?_
                  refine AU.step (v := (pP b7 2)) (AY rfl) (AB (j := 2) rfl rfl Tryz.underlying71 Tryz.sizeOf3 rfl (by decide) rfl) rfl (BE rfl) ?_
                  refine AU.step (v := (vN ((g.ts.getD i ((0, 0, 0) : Nat × Nat × Nat)).2.2))) (AY rfl) (AD (i := 1) (v := (vN ((g.ts.getD i ((0, 0, 0) : Nat × Nat × Nat)).2.2))) rfl rfl BP.a rfl) rfl (BE rfl) ?_
                  refine AU.step (v := (pP b7 0)) (AY rfl) (AB (j := 0) rfl rfl Tryz.underlying71 Tryz.sizeOf3 rfl (by decide) rfl) rfl (BE rfl) ?_
                  refine AU.step (v := (vN ((g.ts.getD i ((0, 0, 0) : Nat × Nat × Nat)).1))) (AY rfl) (AD (i := 1) (v := (vN ((g.ts.getD i ((0, 0, 0) : Nat × Nat × Nat)).1))) rfl rfl BP.a rfl) rfl (BE rfl) ?_
                  refine AU.step (v := (aG (Ad ((g.ts.getD i ((0, 0, 0) : Nat × Nat × Nat)).2.1, (g.ts.getD i ((0, 0, 0) : Nat × Nat × Nat)).2.2, (g.ts.getD i ((0, 0, 0) : Nat × Nat × Nat)).1)))) (AY rfl) (Af (zs := Ad ((0, 0, 0) : Nat × Nat × Nat)) (vs := Ad ((g.ts.getD i ((0, 0, 0) : Nat × Nat × Nat)).2.1, (g.ts.getD i ((0, 0, 0) : Nat × Nat × Nat)).2.2, (g.ts.getD i ((0, 0, 0) : Nat × Nat × Nat)).1)) (pv := [(0, (vN ((g.ts.getD i ((0, 0, 0) : Nat × Nat × Nat)).2.1))), (1, (vN ((g.ts.getD i ((0, 0, 0) : Nat × Nat × Nat)).2.2))), (2, (vN ((g.ts.getD i ((0, 0, 0) : Nat × Nat × Nat)).1)))]) Tryz.zeroValue71 Tryz.underlying71 Tryz.sizeOf3 rfl (B0 ((g.ts.getD i ((0, 0, 0) : Nat × Nat × Nat)).2.1) ((g.ts.getD i ((0, 0, 0) : Nat × Nat × Nat)).2.2) ((g.ts.getD i ((0, 0, 0) : Nat × Nat × Nat)).1))) rfl (BE rfl) ?_
                  refine AU.step (v := (qa false)) (AY rfl) (CJ rfl rfl Tryz.eqGuardType71 (DK (a := BT.getD i ((0, 0, 0) : Nat × Nat × Nat)) (b := ((g.ts.getD i ((0, 0, 0) : Nat × Nat × Nat)).2.1, (g.ts.getD i ((0, 0, 0) : Nat × Nat × Nat)).2.2, (g.ts.getD i ((0, 0, 0) : Nat × Nat × Nat)).1)) 9998 j2)) rfl (BE rfl) ?_
                  refine AC (v := (qa false)) (AQ rfl rfl) rfl ?_
                  refine AM rfl ?_
                  refine yP (B9 rfl) rfl (BE rfl) ?_
                  refine yP (B9 rfl) rfl (BE rfl) ?_
                  refine yP (B9 rfl) rfl (BE rfl) ?_
                  refine yP (B9 rfl) rfl (BE rfl) ?_
                  refine yP (B9 rfl) rfl (BE rfl) ?_
                  refine yP (B9 rfl) rfl (BE rfl) ?_
                  refine yP (B9 rfl) rfl (BE rfl) ?_
                  refine yP (B9 rfl) rfl (BE rfl) ?_
                  refine yP (B9 rfl) rfl (BE rfl) ?_
                  refine AC (v := (qa false)) (AL rfl rfl) rfl ?_
                  refine AU.nil ?_
                  refine zB (sL [5, 15, 17, 18, 19, 20, 244] rfl) ?_
                  refine zA ?_
                  refine zP rfl ?_
                  refine zC ?_
                  refine zF ?_
                  refine zA ?_
                  refine zD ?_
                  refine AM rfl ?_
                  refine AC (AR (c := ((i + 1 : Nat) : Int)) rfl rfl (AS (a := i) (b := 1) (by omega))) rfl ?_
                  refine asg' rfl ?_
                  refine AU.nil ?_
                  refine zB (sL [5, 15, 17, 18, 19, 20] rfl) ?_
                  exact zh (i + 1) (by omega) (by omega) (sF rfl) (sl (sl sr))
                · skip
                  refine zD ?_
                  refine Ai 0 Bm rfl ?_
                  refine Ai 1 Bm rfl ?_
                  refine AC (CP (c := decide (BT.getD i (0, 0, 0) = g.ts.getD i (0, 0, 0))) rfl rfl Tryz.eqGuardType71 (Fi 9998 (BT.getD i (0, 0, 0)) (g.ts.getD i (0, 0, 0))) (congrArg not (xI j1))) rfl ?_
                  refine AM rfl ?_
                  refine AU.step (v := (aG (Ad (BT.getD i ((0, 0, 0) : Nat × Nat × Nat))))) (AY rfl) (Ab (i := 0) (vs := Ad (BT.getD i ((0, 0, 0) : Nat × Nat × Nat))) rfl rfl Bm.a Bm.s rfl rfl) rfl (BE rfl) ?_
                  refine AU.step (v := (pP b7 1)) (AY rfl) (AB (j := 1) rfl rfl Tryz.underlying71 Tryz.sizeOf3 rfl (by decide) rfl) rfl (BE rfl) ?_
                  refine AU.step (v := (vN ((g.ts.getD i ((0, 0, 0) : Nat × Nat × Nat)).2.1))) (AY rfl) (AD (i := 1) (v := (vN ((g.ts.getD i ((0, 0, 0) : Nat × Nat × Nat)).2.1))) rfl rfl BP.a rfl) rfl (BE rfl) ?_
                  refine AU.step (v := (pP b7 2)) (AY rfl) (AB (j := 2) rfl rfl Tryz.underlying71 Tryz.sizeOf3 rfl (by decide) rfl) rfl (BE rfl) ?_
                  refine AU.step (v := (vN ((g.ts.getD i ((0, 0, 0) : Nat × Nat × Nat)).2.2))) (AY rfl) (AD (i := 1) (v := (vN ((g.ts.getD i ((0, 0, 0) : Nat × Nat × Nat)).2.2))) rfl rfl BP.a rfl) rfl (BE rfl) ?_
                  refine AU.step (v := (pP b7 0)) (AY rfl) (AB (j := 0) rfl rfl Tryz.underlying71 Tryz.sizeOf3 rfl (by decide) rfl) rfl (BE rfl) ?_
                  refine AU.step (v := (vN ((g.ts.getD i ((0, 0, 0) : Nat × Nat × Nat)).1))) (AY rfl) (AD (i := 1) (v := (vN ((g.ts.getD i ((0, 0, 0) : Nat × Nat × Nat)).1))) rfl rfl BP.a rfl) rfl (BE rfl) ?_
                  refine AU.step (v := (aG (Ad ((g.ts.getD i ((0, 0, 0) : Nat × Nat × Nat)).2.1, (g.ts.getD i ((0, 0, 0) : Nat × Nat × Nat)).2.2, (g.ts.getD i ((0, 0, 0) : Nat × Nat × Nat)).1)))) (AY rfl) (Af (zs := Ad ((0, 0, 0) : Nat × Nat × Nat)) (vs := Ad ((g.ts.getD i ((0, 0, 0) : Nat × Nat × Nat)).2.1, (g.ts.getD i ((0, 0, 0) : Nat × Nat × Nat)).2.2, (g.ts.getD i ((0, 0, 0) : Nat × Nat × Nat)).1)) (pv := [(0, (vN ((g.ts.getD i ((0, 0, 0) : Nat × Nat × Nat)).2.1))), (1, (vN ((g.ts.getD i ((0, 0, 0) : Nat × Nat × Nat)).2.2))), (2, (vN ((g.ts.getD i ((0, 0, 0) : Nat × Nat × Nat)).1)))]) Tryz.zeroValue71 Tryz.underlying71 Tryz.sizeOf3 rfl (B0 ((g.ts.getD i ((0, 0, 0) : Nat × Nat × Nat)).2.1) ((g.ts.getD i ((0, 0, 0) : Nat × Nat × Nat)).2.2) ((g.ts.getD i ((0, 0, 0) : Nat × Nat × Nat)).1))) rfl (BE rfl) ?_
                  refine AU.step (v := (qa true)) (AY rfl) (CP (c := decide (BT.getD i (0, 0, 0) = (((g.ts.getD i (0, 0, 0)).2.1, (g.ts.getD i (0, 0, 0)).2.2, (g.ts.getD i (0, 0, 0)).1) : T3))) rfl rfl Tryz.eqGuardType71 (Fi 9998 (BT.getD i (0, 0, 0)) (((g.ts.getD i (0, 0, 0)).2.1, (g.ts.getD i (0, 0, 0)).2.2, (g.ts.getD i (0, 0, 0)).1) : T3)) (congrArg not (xI j2))) rfl (BE rfl) ?_
                  refine AC (v := (qa true)) (AQ rfl rfl) rfl ?_
                  refine AM rfl ?_
                  refine AU.step (v := (aG (Ad (BT.getD i ((0, 0, 0) : Nat × Nat × Nat))))) (AY rfl) (Ab (i := 0) (vs := Ad (BT.getD i ((0, 0, 0) : Nat × Nat × Nat))) rfl rfl Bm.a Bm.s rfl rfl) rfl (BE rfl) ?_
                  refine AU.step (v := (pP b7 2)) (AY rfl) (AB (j := 2) rfl rfl Tryz.underlying71 Tryz.sizeOf3 rfl (by decide) rfl) rfl (BE rfl) ?_
                  refine AU.step (v := (vN ((g.ts.getD i ((0, 0, 0) : Nat × Nat × Nat)).2.2))) (AY rfl) (AD (i := 1) (v := (vN ((g.ts.getD i ((0, 0, 0) : Nat × Nat × Nat)).2.2))) rfl rfl BP.a rfl) rfl (BE rfl) ?_
                  refine AU.step (v := (pP b7 0)) (AY rfl) (AB (j := 0) rfl rfl Tryz.underlying71 Tryz.sizeOf3 rfl (by decide) rfl) rfl (BE rfl) ?_
                  refine AU.step (v := (vN ((g.ts.getD i ((0, 0, 0) : Nat × Nat × Nat)).1))) (AY rfl) (AD (i := 1) (v := (vN ((g.ts.getD i ((0, 0, 0) : Nat × Nat × Nat)).1))) rfl rfl BP.a rfl) rfl (BE rfl) ?_
                  refine AU.step (v := (pP b7 1)) (AY rfl) (AB (j := 1) rfl rfl Tryz.underlying71 Tryz.sizeOf3 rfl (by decide) rfl) rfl (BE rfl) ?_
                  refine AU.step (v := (vN ((g.ts.getD i ((0, 0, 0) : Nat × Nat × Nat)).2.1))) (AY rfl) (AD (i := 1) (v := (vN ((g.ts.getD i ((0, 0, 0) : Nat × Nat × Nat)).2.1))) rfl rfl BP.a rfl) rfl (BE rfl) ?_
                  refine AU.step (v := (aG (Ad ((g.ts.getD i ((0, 0, 0) : Nat × Nat × Nat)).2.2, (g.ts.getD i ((0, 0, 0) : Nat × Nat × Nat)).1, (g.ts.getD i ((0, 0, 0) : Nat × Nat × Nat)).2.1)))) (AY rfl) (Af (zs := Ad ((0, 0, 0) : Nat × Nat × Nat)) (vs := Ad ((g.ts.getD i ((0, 0, 0) : Nat × Nat × Nat)).2.2, (g.ts.getD i ((0, 0, 0) : Nat × Nat × Nat)).1, (g.ts.getD i ((0, 0, 0) : Nat × Nat × Nat)).2.1)) (pv := [(0, (vN ((g.ts.getD i ((0, 0, 0) : Nat × Nat × Nat)).2.2))), (1, (vN ((g.ts.getD i ((0, 0, 0) : Nat × Nat × Nat)).1))), (2, (vN ((g.ts.getD i ((0, 0, 0) : Nat × Nat × Nat)).2.1)))]) Tryz.zeroValue71 Tryz.underlying71 Tryz.sizeOf3 rfl (B0 ((g.ts.getD i ((0, 0, 0) : Nat × Nat × Nat)).2.2) ((g.ts.getD i ((0, 0, 0) : Nat × Nat × Nat)).1) ((g.ts.getD i ((0, 0, 0) : Nat × Nat × Nat)).2.1))) rfl (BE rfl) ?_
                  refine AU.step (v := (qa false)) (AY rfl) (CJ rfl rfl Tryz.eqGuardType71 (DK (a := BT.getD i ((0, 0, 0) : Nat × Nat × Nat)) (b := ((g.ts.getD i ((0, 0, 0) : Nat × Nat × Nat)).2.2, (g.ts.getD i ((0, 0, 0) : Nat × Nat × Nat)).1, (g.ts.getD i ((0, 0, 0) : Nat × Nat × Nat)).2.1)) 9998 ((hr.resolve_left j1).resolve_left j2))) rfl (BE rfl) ?_
                  refine AC (v := (qa false)) (AQ rfl rfl) rfl ?_
                  refine AU.nil ?_
                  refine zB (sL [5, 15, 17, 18, 19, 20, 244] rfl) ?_
                  refine zA ?_
                  refine zP rfl ?_
                  refine zC ?_
                  refine zF ?_
                  refine zA ?_
                  refine zD ?_
                  refine AM rfl ?_
                  refine AC (AR (c := ((i + 1 : Nat) : Int)) rfl rfl (AS (a := i) (b := 1) (by omega))) rfl ?_
                  refine asg' rfl ?_
                  refine AU.nil ?_
                  refine zB (sL [5, 15, 17, 18, 19, 20] rfl) ?_
                  exact zh (i + 1) (by omega) (by omega) (sF rfl) (sl (sl sr))
        · replace hc5 := xT hc5
          refine zU ?_
          refine zO ?_
          refine zX ?_
          refine zR ?_
          refine q2 ?_
          refine C7 Tryz.call13 (fun w hw => Lc w (hT.below hw.out)) rfl ?_
          refine asg' rfl ?_
          refine AU.nil ?_
          refine zB (sL [5, 15, 17, 18, 4] rfl) ?_
          refine zA ?_
          refine zH ?_
          exact ret_one rfl (rd_tmp (v := (qa true)) rfl) (fun w hw => ⟨rfl, hw.out⟩)
    · skip
      have KN := Y0 hck hEm (by simpa using k0)
      refine zD ?_
      refine AM rfl ?_
      refine AM rfl ?_
      refine AC (Ar (c := ((nt : Nat) : Int)) rfl Tryz.underlying50 Tryz.underlying3 (CC (by omega))) rfl ?_
      refine AM rfl ?_
      refine AC (v := (vN ((BJ g.ts).length))) (AE rfl Tryz.underlying51) rfl ?_
      refine AC (B7 (c := ((nt % ((BJ g.ts).length) : Nat) : Int)) rfl rfl (by omega) (IE (a := nt) (b := (BJ g.ts).length))) rfl ?_
      refine AC (v := (pP (pB o.p) (pO o.p + (nt % ((BJ g.ts).length)) * 4))) (AO (j := nt % ((BJ g.ts).length)) rfl rfl o.ok Tryz.underlying51 Tryz.sizeOf54 rfl (by omega)) rfl ?_
      refine AC (v := (aG (Bd ((BJ g.ts).getD (nt % ((BJ g.ts).length)) (⟨0, 0, 0, 0⟩ : E4))))) (AI (vs := Bd ((BJ g.ts).getD (nt % ((BJ g.ts).length)) (⟨0, 0, 0, 0⟩ : E4))) (i := 0) rfl rfl (Aw.ne o.ok (by omega)) G8 (Ae Cr _ _ _ (by omega)) (Cr _)) rfl ?_
      refine zK (k := 35) (u := (aG (Bd E))) rfl (by rw [hE]) ?_
      refine al II rfl ?_; intro b3
      refine Ah rfl Tryz.sizeOf54 rfl ?_
      refine q3 (sL [4, 5, 6, 7] rfl) ?_
      refine Ai 2 Bg rfl ?_
      refine AC (v := (pP b3 0)) (AA rfl Tryz.underlying54 rfl Tryz.sizeOf3 rfl) rfl ?_
      refine BA 0 (vN E.a) BP rfl ?_
      refine AC (v := (pP b3 1)) (AA rfl Tryz.underlying54 rfl Tryz.sizeOf3 rfl) rfl ?_
      refine BA 0 (vN E.b) BP rfl ?_
      refine C7 Tryz.call18 (fun w hw => Py g.mx (E.a : Int) (E.b : Int) KN.1.1 KN.1.2 hnb (by omega) (by omega) hz2 w (Cd hw 3 rfl lg : Ro _ w g.mx)) rfl ?_
      refine AM rfl ?_
      refine AC (AJ (v := (qa true)) rfl rfl) rfl ?_
      refine AC (AJ (v := (vI 0)) rfl rfl) rfl ?_
      refine asg' rfl ?_
      refine asg' rfl ?_
      refine q3 (sL [4, 5, 6, 7, 8, 9] rfl) ?_
      refine Ai 2 Bg rfl ?_
      refine AC (v := (pP b3 0)) (AA rfl Tryz.underlying54 rfl Tryz.sizeOf3 rfl) rfl ?_
      refine BA 0 (vN E.a) BP rfl ?_
      refine AC (v := (pP b3 1)) (AA rfl Tryz.underlying54 rfl Tryz.sizeOf3 rfl) rfl ?_
      refine BA 0 (vN E.b) BP rfl ?_
      refine yD (S := S) (α := a9 [] [] [] 7) (args := [(aG (Ce g.mx)), (vN E.a), (vN E.b)]) Tryz.call19 (fun w hw => Pv g.mx (E.a : Int) (E.b : Int) KN.2 hnb (by omega) (by omega) (by omega) hz2 w (Cd hw 3 rfl lg : Ro _ w g.mx)) rfl rfl rfl ?_; intro f lf
      refine AM rfl ?_
      refine AC (AJ (v := (aG (Ce f.x))) rfl rfl) rfl ?_
      refine AC (AJ (v := (vI 7)) rfl rfl) rfl ?_
      refine al G_ rfl ?_; intro b4
      refine Ah rfl Tryz.sizeOf34 rfl ?_
      refine asg' rfl ?_
      refine q6 (sL [4, 5, 6, 7, 8, 9, 10, 11] rfl) ?_
      refine q4 ?_
      refine AM rfl ?_
      refine AC (Bw (c := false) rfl rfl (by decide)) rfl ?_
      refine AM rfl ?_
      refine AU.step (v := (pP b3 2)) (AY rfl) (AA rfl Tryz.underlying54 rfl Tryz.sizeOf3 rfl) rfl (BE rfl) ?_
      refine AU.step (v := (vI E.l)) (AY rfl) (AD (i := 4) (v := (vI E.l)) rfl rfl BP.a rfl) rfl (BE rfl) ?_
      refine AU.step (v := (qa (decide (E.l < (0 : Int))))) (AY rfl) (Aa (c := (decide (E.l < (0 : Int)))) rfl rfl rfl) rfl (BE rfl) ?_
      refine AU.step (v := (qa (decide (E.l < (0 : Int))))) (AY rfl) (DD rfl) rfl (BE rfl) ?_
      refine zi (FM := [(4, (qa false)), (5, (pP b2 0)), (6, (qz o.p ((BJ g.ts).length) o.c)), (7, (pP b3 0)), (8, (qa true)), (9, (vI 0)), (10, (pP b4 0)), (11, (vI 7)), (54, (vI 0)), (55, (qa false)), (56, (qa false)), (57, (pP b3 2)), (58, (vI E.l)), (59, (qa (decide (E.l < (0 : Int))))), (60, (qa (decide (E.l < (0 : Int))))), (63, (qa ((decide (E.l < (0 : Int))) && false)))]) (LM := [AX b4 34 (Ce f.x), AP f.x.a.p (rowsL AZ ([] : List Pt)), AP f.x.b.p (rowsL Ad ([] : List T3)), AP f.x.c.p (rowsL Ad ([] : List T3)), AX b3 54 (Bd E), AP o.p (rowsL Bd (BJ g.ts)), AX b2 34 (Ce g.mx), AP g.mx.a.p (rowsL AZ g.ps), AP g.mx.b.p (rowsL Ad g.ts), AP g.mx.c.p (rowsL Ad g.ss), AX b1 26 (Ef m), AP m.p (Ct m.cs)]) 3 ?_ ?_
      · rcases xR (decide (E.l < (0 : Int))) with hg2 | hg2
        · skip
          refine zK (k := 60) (u := qa true) rfl (by rw [hg2]) ?_
          have hg2' := hg2
          replace hg2' := xU hg2'
          refine AU.step (v := (qa true)) (AY rfl) (DD rfl) rfl (BE rfl) ?_
          refine AU.step (v := (qa false)) (AY rfl) (BG (c := false) rfl rfl) rfl (BE rfl) ?_
          refine AU.step (v := (qa false)) (AY rfl) (AQ rfl rfl) rfl (BE rfl) ?_
          refine AU.nil ?_
          exact zT (sS rfl (sS rfl (sS rfl (sS rfl (sS rfl (sS rfl (sS rfl (sS rfl (sS rfl (sS rfl (sS rfl (sS rfl (sS rfl (sS rfl (sS (by first | rfl | (rw [hg2]; rfl) | rw [hg2]) (sS (by first | rfl | (rw [hg2]; rfl) | rw [hg2]) (sN))))))))))))))))) (xS _)
        · skip
          refine zK (k := 60) (u := qa false) rfl (by rw [hg2]) ?_
          have hg2' := hg2
          replace hg2' := xT hg2'
          refine yP (B9 rfl) rfl (BE rfl) ?_
          refine yP (B9 rfl) rfl (BE rfl) ?_
          refine AU.step (v := (qa false)) (AY rfl) (AL rfl rfl) rfl (BE rfl) ?_
          refine AU.nil ?_
          exact zT (sS rfl (sS rfl (sS rfl (sS rfl (sS rfl (sS rfl (sS rfl (sS rfl (sS rfl (sS rfl (sS rfl (sS rfl (sS rfl (sS rfl (sS (by first | rfl | (rw [hg2]; rfl) | rw [hg2]) (sS (by first | rfl | (rw [hg2]; rfl) | rw [hg2]) (sN))))))))))))))))) (xS _)
      refine AC (v := (qa ((decide (E.l < (0 : Int))) && false))) (AL rfl rfl) rfl ?_
      refine AM rfl ?_
      refine zi (FM := [(4, (qa false)), (5, (pP b2 0)), (6, (qz o.p ((BJ g.ts).length) o.c)), (7, (pP b3 0)), (8, (qa true)), (9, (vI 0)), (10, (pP b4 0)), (11, (vI 7)), (54, (vI 0)), (55, (qa false)), (56, (qa false)), (57, (pP b3 2)), (58, (vI E.l)), (59, (qa (decide (E.l < (0 : Int))))), (60, (qa (decide (E.l < (0 : Int))))), (63, (qa ((decide (E.l < (0 : Int))) && false))), (64, (qa ((decide (E.l < (0 : Int))) && false))), (65, (qa ((decide (E.l < (0 : Int))) && false))), (73, (qa (((decide (E.l < (0 : Int))) && false) || ((decide (E.r < (0 : Int))) && false))))]) (LM := [AX b4 34 (Ce f.x), AP f.x.a.p (rowsL AZ ([] : List Pt)), AP f.x.b.p (rowsL Ad ([] : List T3)), AP f.x.c.p (rowsL Ad ([] : List T3)), AX b3 54 (Bd E), AP o.p (rowsL Bd (BJ g.ts)), AX b2 34 (Ce g.mx), AP g.mx.a.p (rowsL AZ g.ps), AP g.mx.b.p (rowsL Ad g.ts), AP g.mx.c.p (rowsL Ad g.ss), AX b1 26 (Ef m), AP m.p (Ct m.cs)]) 8 ?_ ?_
      · rcases xR ((decide (E.l < (0 : Int))) && false) with hg3 | hg3
        · skip
          refine zK (k := 65) (u := qa true) rfl (by rw [hg3]) ?_
          have hg3' := hg3
          simp only [yz, yy, yx, xZ, xY, xX, xW, xV] at hg3'
          refine yP (B9 rfl) rfl (BE rfl) ?_
          refine yP (B9 rfl) rfl (BE rfl) ?_
          refine yP (B9 rfl) rfl (BE rfl) ?_
          refine yP (B9 rfl) rfl (BE rfl) ?_
          refine yP (GC rfl rfl rfl) rfl (BE rfl) ?_
          refine yP (GC rfl rfl rfl) rfl (BE rfl) ?_
          refine yP (B9 rfl) rfl (BE rfl) ?_
          refine AC (v := (qa true)) (AQ rfl rfl) rfl ?_
          refine AU.nil ?_
          exact zT (sS rfl (sS rfl (sS rfl (sS rfl (sS rfl (sS rfl (sS rfl (sS rfl (sS rfl (sS rfl (sS rfl (sS rfl (sS rfl (sS rfl (sS rfl (sS rfl (sS rfl (sS (by first | rfl | (rw [hg3]; rfl) | rw [hg3]) (sS (by first | rfl | (rw [hg3]; rfl) | rw [hg3]) (sN)))))))))))))))))))) (xS _)
        · skip
          refine zK (k := 65) (u := qa false) rfl (by rw [hg3]) ?_
          have hg3' := hg3
          simp only [yz, yy, yx, xZ, xY, xX, xW, xV] at hg3'
          refine AU.step (v := (pP b3 3)) (AY rfl) (AA rfl Tryz.underlying54 rfl Tryz.sizeOf3 rfl) rfl (BE rfl) ?_
          refine AU.step (v := (vI E.r)) (AY rfl) (AD (i := 4) (v := (vI E.r)) rfl rfl BP.a rfl) rfl (BE rfl) ?_
          refine AU.step (v := (qa (decide (E.r < (0 : Int))))) (AY rfl) (Aa (c := (decide (E.r < (0 : Int)))) rfl rfl rfl) rfl (BE rfl) ?_
          refine AU.step (v := (qa (decide (E.r < (0 : Int))))) (AY rfl) (DD rfl) rfl (BE rfl) ?_
          refine zi (FM := [(4, (qa false)), (5, (pP b2 0)), (6, (qz o.p ((BJ g.ts).length) o.c)), (7, (pP b3 0)), (8, (qa true)), (9, (vI 0)), (10, (pP b4 0)), (11, (vI 7)), (54, (vI 0)), (55, (qa false)), (56, (qa false)), (57, (pP b3 2)), (58, (vI E.l)), (59, (qa (decide (E.l < (0 : Int))))), (60, (qa (decide (E.l < (0 : Int))))), (63, (qa ((decide (E.l < (0 : Int))) && false))), (64, (qa ((decide (E.l < (0 : Int))) && false))), (65, (qa false)), (66, (pP b3 3)), (67, (vI E.r)), (68, (qa (decide (E.r < (0 : Int))))), (69, (qa (decide (E.r < (0 : Int))))), (72, (qa ((decide (E.r < (0 : Int))) && false)))]) (LM := [AX b4 34 (Ce f.x), AP f.x.a.p (rowsL AZ ([] : List Pt)), AP f.x.b.p (rowsL Ad ([] : List T3)), AP f.x.c.p (rowsL Ad ([] : List T3)), AX b3 54 (Bd E), AP o.p (rowsL Bd (BJ g.ts)), AX b2 34 (Ce g.mx), AP g.mx.a.p (rowsL AZ g.ps), AP g.mx.b.p (rowsL Ad g.ts), AP g.mx.c.p (rowsL Ad g.ss), AX b1 26 (Ef m), AP m.p (Ct m.cs)]) 3 ?_ ?_
          · rcases xR (decide (E.r < (0 : Int))) with hg4 | hg4
            · skip
              refine zK (k := 69) (u := qa true) rfl (by rw [hg4]) ?_
              have hg4' := hg4
              replace hg4' := xU hg4'
              refine AU.step (v := (qa true)) (AY rfl) (DD rfl) rfl (BE rfl) ?_
              refine AU.step (v := (qa false)) (AY rfl) (BG (c := false) rfl rfl) rfl (BE rfl) ?_
              refine AU.step (v := (qa false)) (AY rfl) (AQ rfl rfl) rfl (BE rfl) ?_
              refine AU.nil ?_
              exact zT (sS rfl (sS rfl (sS rfl (sS rfl (sS rfl (sS rfl (sS rfl (sS rfl (sS rfl (sS rfl (sS rfl (sS rfl (sS rfl (sS rfl (sS rfl (sS rfl (sS rfl (sS rfl (sS rfl (sS rfl (sS rfl (sS (by first | rfl | (rw [hg4]; rfl) | rw [hg4]) (sS (by first | rfl | (rw [hg4]; rfl) | rw [hg4]) (sN)))))))))))))))))))))))) (xS _)
            · skip
              refine zK (k := 69) (u := qa false) rfl (by rw [hg4]) ?_
              have hg4' := hg4
              replace hg4' := xT hg4'
              refine yP (B9 rfl) rfl (BE rfl) ?_
              refine yP (B9 rfl) rfl (BE rfl) ?_
              refine AU.step (v := (qa false)) (AY rfl) (AL rfl rfl) rfl (BE rfl) ?_
              refine AU.nil ?_
              exact zT (sS rfl (sS rfl (sS rfl (sS rfl (sS rfl (sS rfl (sS rfl (sS rfl (sS rfl (sS rfl (sS rfl (sS rfl (sS rfl (sS rfl (sS rfl (sS rfl (sS rfl (sS rfl (sS rfl (sS rfl (sS rfl (sS (by first | rfl | (rw [hg4]; rfl) | rw [hg4]) (sS (by first | rfl | (rw [hg4]; rfl) | rw [hg4]) (sN)))))))))))))))))))))))) (xS _)
          refine AC (v := (qa ((decide (E.r < (0 : Int))) && false))) (AL rfl rfl) rfl ?_
          refine AU.nil ?_
          exact zT (sS rfl (sS rfl (sS rfl (sS rfl (sS rfl (sS rfl (sS rfl (sS rfl (sS rfl (sS rfl (sS rfl (sS rfl (sS rfl (sS rfl (sS rfl (sS rfl (sS rfl (sS (by first | rfl | (rw [hg3]; rfl) | rw [hg3]) (sS (by first | rfl | (rw [hg3]; rfl) | rw [hg3]) (sN)))))))))))))))))))) (xS _)
      refine AM rfl ?_
      refine zi (FM := [(4, (qa false)), (5, (pP b2 0)), (6, (qz o.p ((BJ g.ts).length) o.c)), (7, (pP b3 0)), (8, (qa true)), (9, (vI 0)), (10, (pP b4 0)), (11, (vI 7)), (54, (vI 0)), (55, (qa false)), (56, (qa false)), (57, (pP b3 2)), (58, (vI E.l)), (59, (qa (decide (E.l < (0 : Int))))), (60, (qa (decide (E.l < (0 : Int))))), (63, (qa ((decide (E.l < (0 : Int))) && false))), (64, (qa ((decide (E.l < (0 : Int))) && false))), (65, (qa ((decide (E.l < (0 : Int))) && false))), (73, (qa (((decide (E.l < (0 : Int))) && false) || ((decide (E.r < (0 : Int))) && false)))), (74, (qa (((decide (E.l < (0 : Int))) && false) || ((decide (E.r < (0 : Int))) && false)))), (81, (qa (((decide (E.l < (0 : Int))) && false) || ((decide (E.r < (0 : Int))) && false))))]) (LM := [AX b4 34 (Ce f.x), AP f.x.a.p (rowsL AZ ([] : List Pt)), AP f.x.b.p (rowsL Ad ([] : List T3)), AP f.x.c.p (rowsL Ad ([] : List T3)), AX b3 54 (Bd E), AP o.p (rowsL Bd (BJ g.ts)), AX b2 34 (Ce g.mx), AP g.mx.a.p (rowsL AZ g.ps), AP g.mx.b.p (rowsL Ad g.ts), AP g.mx.c.p (rowsL Ad g.ss), AX b1 26 (Ef m), AP m.p (Ct m.cs)]) 7 ?_ ?_
      · rcases xR (((decide (E.l < (0 : Int))) && false) || ((decide (E.r < (0 : Int))) && false)) with hg5 | hg5
        · skip
          refine zK (k := 74) (u := qa true) rfl (by rw [hg5]) ?_
          have hg5' := hg5
          simp only [yz, yy, yx, xZ, xY, xX, xW, xV] at hg5'
          refine yP (B9 rfl) rfl (BE rfl) ?_
          refine yP (B9 rfl) rfl (BE rfl) ?_
          refine yP (B9 rfl) rfl (BE rfl) ?_
          refine yP (GC rfl rfl rfl) rfl (BE rfl) ?_
          refine yP (GC rfl rfl rfl) rfl (BE rfl) ?_
          refine yP (B9 rfl) rfl (BE rfl) ?_
          refine AC (v := (qa true)) (AQ rfl rfl) rfl ?_
          refine AU.nil ?_
          exact zT (sS rfl (sS rfl (sS rfl (sS rfl (sS rfl (sS rfl (sS rfl (sS rfl (sS rfl (sS rfl (sS rfl (sS rfl (sS rfl (sS rfl (sS rfl (sS rfl (sS rfl (sS rfl (sS rfl (sS (by first | rfl | (rw [hg5]; rfl) | rw [hg5]) (sS (by first | rfl | (rw [hg5]; rfl) | rw [hg5]) (sN)))))))))))))))))))))) (xS _)
        · skip
          refine zK (k := 74) (u := qa false) rfl (by rw [hg5]) ?_
          have hg5' := hg5
          simp only [yz, yy, yx, xZ, xY, xX, xW, xV] at hg5'
          refine AU.step (v := (qa true)) (AY rfl) (DD rfl) rfl (BE rfl) ?_
          refine AU.step (v := (qa false)) (AY rfl) (BG (c := false) rfl rfl) rfl (BE rfl) ?_
          refine AU.step (v := (qa false)) (AY rfl) (DD rfl) rfl (BE rfl) ?_
          refine yP (B9 rfl) rfl (BE rfl) ?_
          refine yP (B9 rfl) rfl (BE rfl) ?_
          refine AU.step (v := (qa false)) (AY rfl) (AL rfl rfl) rfl (BE rfl) ?_
          refine AC (v := (qa false)) (AL rfl rfl) rfl ?_
          refine AU.nil ?_
          exact zT (sS rfl (sS rfl (sS rfl (sS rfl (sS rfl (sS rfl (sS rfl (sS rfl (sS rfl (sS rfl (sS rfl (sS rfl (sS rfl (sS rfl (sS rfl (sS rfl (sS rfl (sS rfl (sS rfl (sS (by first | rfl | (rw [hg5]; rfl) | rw [hg5]) (sS (by first | rfl | (rw [hg5]; rfl) | rw [hg5]) (sN)))))))))))))))))))))) (xS _)
      refine AU.nil ?_
      refine zB (sL [4, 5, 6, 7, 8, 10, 11, 81] rfl) ?_
      refine zA ?_
      refine zL rfl (fun hc1 => ?_) (fun hc1 => ?_)
      · simp only [yz, yy, yx, xZ, xY, xX, xW, xV] at hc1
        simp at hc1
      · simp only [yz, yy, yx, xZ, xY, xX, xW, xV] at hc1
        refine zC ?_
        refine q1 ?_
        refine q4 ?_
        refine AM rfl ?_
        refine AC (Bw (c := true) rfl rfl (by decide)) rfl ?_
        refine AU.nil ?_
        refine zB (sL [4, 5, 6, 7, 8, 10, 11, 83] rfl) ?_
        refine zA ?_
        refine zV rfl ?_
        refine q4 ?_
        refine AM rfl ?_
        refine AC (BM (c := true) rfl rfl (by decide)) rfl ?_
        refine AM rfl ?_
        refine zg (v := (qa true)) (AY rfl) (Ao (args := []) rfl rfl Tryz.call13) (fun w hw => Lc w (hT.below hw.out)) rfl (BE rfl) ?_
        refine AC (v := (qa true)) (AQ rfl rfl) rfl ?_
        refine asg' rfl ?_
        refine AU.nil ?_
        refine zB (sL [4, 5, 6, 7, 8, 10, 11] rfl) ?_
        refine zA ?_
        refine zH ?_
        refine zJ ?_
        exact ret_one rfl (rd_tmp (v := (qa true)) rfl) (fun w hw => ⟨rfl, hw.out⟩)
end
end Go.Proofs.YtbfdamnfcmefmaaGreatDoor
