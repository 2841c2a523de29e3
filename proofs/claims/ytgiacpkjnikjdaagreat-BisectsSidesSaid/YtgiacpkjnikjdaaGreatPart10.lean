import Derived.Laws.StructEq
import Derived.Test.YtgiacpkjnikjdaaGreatPart06
import Derived.Test.YtgiacpkjnikjdaaGreatPart09
namespace Go.Proofs.YtgiacpkjnikjdaaGreat
open Go Go.RowKit
set_option linter.unusedVariables false
set_option linter.unusedSimpArgs false
section
section
variable {P : Program} {n : Nat} {F : List (Nat × Value)} {w0 : Base} {L : List As} {x y : Operand} {d : Option Tmp} {t : TypeId} {p : String} {af : Array Edge} {g : Option (Nat × Bool)}
def EqB (P : Program) (D : Nat) (T : TypeId) (u v : Value) (b : Bool) : Prop := ∀ w, (Op.equalIn D T u v).run P w = .ok b w
def EqF (P : Program) (D : Nat) (xs ys : List Value) (fs : List Field) (b : Bool) : Prop := ∀ w, (Op.eqFields D xs.toArray ys.toArray fs).run P w = .ok b w
theorem EqB.int {D : Nat} {T : TypeId} {k k' : IntKind} {a b : Int} (h : P.underlying T = some (.int k')) : EqB P (D + 1) T (.int k a) (.int k b) (a == b) := fun w => run_equalIn_int w D T k k' a b h
theorem EqB.bool {D : Nat} {T : TypeId} {a b : Bool} (h : P.underlying T = some .bool) : EqB P (D + 1) T (.bool a) (.bool b) (a == b) := fun w => run_equalIn_bool' w D T a b h
theorem EqB.str {D : Nat} {T : TypeId} {a b : ByteArray} (h : P.underlying T = some .string) : EqB P (D + 1) T (.string a) (.string b) (a.toList == b.toList) := fun w => run_equalIn_string w D T a b h
theorem EqB.struct {D : Nat} {T : TypeId} {xs ys : List Value} {b : Bool} {fs : Array Field} (hu : P.underlying T = some (.struct fs)) (hp : P.stoodInHeld T = false) (h : EqF P D xs ys fs.toList b) : EqB P (D + 1) T (.agg xs.toArray) (.agg ys.toArray) b := fun w => by
  have e : P.fieldsOf T = fs := by simp [Program.fieldsOf, hu]
  rw [run_equalIn_struct w D T _ _ (by rw [e]; exact hu) hp, e]; exact h w
theorem EqF.nil {D : Nat} {xs ys : List Value} : EqF P D xs ys [] true := fun w => rfl
theorem EqF.one {D : Nat} {xs ys : List Value} {f : Field} {fs : List Field} {a b : Value} {r s : Bool} (hn : f.name ≠ "_") (hg : ∀ w, (isAgg f.type).run P w = .ok false w) (ha : xs[f.offset]? = some a) (hb : ys[f.offset]? = some b)
    (h : EqB P D f.type a b r) (h2 : EqF P D xs ys fs s) : EqF P D xs ys (f :: fs) (r && s) := fun w => by
  have e1 : (part f.type xs.toArray f.offset).run P w = .ok a w := by simp [part, hg, ha]
  have e2 : (part f.type ys.toArray f.offset).run P w = .ok b w := by simp [part, hg, hb]
  simp only [Op.eqFields, Sem.run_ite, if_pos hn, Sem.run_bind, e1, e2, Result.andThen_ok, h w]
  cases r
  · simp
  · simp [h2 w]
theorem EqF.agg {D k : Nat} {xs ys us bs : List Value} {f : Field} {fs : List Field} {r s : Bool} (hn : f.name ≠ "_") (hg : ∀ w, (isAgg f.type).run P w = .ok true w) (hs : ∀ w, (sizeOf f.type).run P w = .ok k w)
    (ha : (xs.drop f.offset).take k = us) (hb : (ys.drop f.offset).take k = bs)
    (h : EqB P D f.type (.agg us.toArray) (.agg bs.toArray) r) (h2 : EqF P D xs ys fs s) : EqF P D xs ys (f :: fs) (r && s) := fun w => by
  have ex : ∀ l : List Value, l.toArray.extract f.offset (f.offset + k) = ((l.drop f.offset).take k).toArray := fun l => by simp [List.extract_eq_take_drop]
  have e1 : (part f.type xs.toArray f.offset).run P w = .ok (.agg us.toArray) w := by simp [part, hg, hs, ex, ha]
  have e2 : (part f.type ys.toArray f.offset).run P w = .ok (.agg bs.toArray) w := by simp [part, hg, hs, ex, hb]
  simp only [Op.eqFields, Sem.run_ite, if_pos hn, Sem.run_bind, e1, e2, Result.andThen_ok, h w]
  cases r
  · simp
  · simp [h2 w]
theorem ex_eql_agg {xs ys : List Value} {c : Bool} {tx ty : TypeId} (hx : evF F x = some (.agg xs.toArray)) (hy : evF F y = some (.agg ys.toArray)) (hg : P.eqGuardType P.depth tx = false) (hc : EqB P 10000 tx (.agg xs.toArray) (.agg ys.toArray) c) :
    Ex P n F w0 L ⟨d, .binOp .eql tx x y ty, t, p, af, g⟩ (.bool c) := fun A w ha _ => by
  simp only [execOp, ha.ev hx, ha.ev hy, Sem.run_bind, run_eqGuard_agg w .eql tx x y _ _ hg, Result.andThen_ok, run_eql_struct, hc w, Sem.run_pure]
end
theorem bigB_inj {a b : Nat} (ha : ¬ a < 18446744073709551616) (hb : ¬ b < 18446744073709551616) (h : bigB a = bigB b) : a = b := by
  rw [bigB_big ha, bigB_big hb] at h
  have h1 : bytesN (wordsOf a) = bytesN (wordsOf b) := by
    have lt : ∀ (xs : List Nat), ∀ x ∈ bytesN xs, x < 256 := fun xs x hx => by
      simp only [bytesN, List.mem_flatMap, List.mem_cons, List.not_mem_nil, or_false] at hx
      obtain ⟨y, _, hy⟩ := hx
      omega
    have inj : ∀ (l r : List Nat), (∀ x ∈ l, x < 256) → (∀ x ∈ r, x < 256) → l.map UInt8.ofNat = r.map UInt8.ofNat → l = r := by
      intro l
      induction l with
      | nil => intro r _ _ h; cases r <;> simp_all
      | cons x l ih =>
        intro r hl hr h
        cases r with
        | nil => simp at h
        | cons y r =>
          simp only [List.map_cons, List.cons.injEq] at h
          have e : x = y := by
            have h3 := congrArg UInt8.toNat h.1
            have h4 := hl x (by simp)
            have h5 := hr y (by simp)
            simp at h3
            omega
          rw [e, ih r (fun z hz => hl z (by simp [hz])) (fun z hz => hr z (by simp [hz])) h.2]
    refine inj _ _ (lt _) (lt _) ?_
    have := congrArg (fun s : ByteArray => s.data.toList) h
    simpa [strOf] using this
  have h2 : wordsOf a = wordsOf b := by
    have hl : (wordsOf a).length = (wordsOf b).length := by
      have := congrArg List.length h1
      simp only [bytesN_length] at this
      omega
    apply List.ext_getElem hl
    intro i hi hi'
    have g : ∀ k, k < 4 → (wordsOf a).getD i 0 / 256 ^ k % 256 = (wordsOf b).getD i 0 / 256 ^ k % 256 := fun k hk => by rw [← bytesN_get _ _ _ hi hk, ← bytesN_get _ _ _ hi' hk, h1]
    have wa := (words_w32 a).getD i
    have wb := (words_w32 b).getD i
    have ea : (wordsOf a).getD i 0 = (wordsOf a)[i] := by simp [hi]
    have eb : (wordsOf b).getD i 0 = (wordsOf b)[i] := by simp [hi']
    rw [ea, eb] at g
    rw [ea] at wa
    rw [eb] at wb
    have g0 := g 0 (by omega)
    have g1 := g 1 (by omega)
    have g2 := g 2 (by omega)
    have g3 := g 3 (by omega)
    simp only [Nat.pow_zero, Nat.div_one, Nat.pow_one, show (256 : Nat) ^ 2 = 65536 from rfl, show (256 : Nat) ^ 3 = 16777216 from rfl] at g0 g1 g2 g3
    omega
  rw [← val_words a, ← val_words b, h2]
theorem eq_natL (a b : Nat) : ((((lowN a : Nat) : Int) == ((lowN b : Nat) : Int)) && (((bigB a).toList == (bigB b).toList) && true)) = decide (a = b) := by
  by_cases e : a = b
  · subst e; simp
  · rw [decide_eq_false e]
    by_cases ha : a < 18446744073709551616
    · by_cases hb : b < 18446744073709551616
      · rw [lowN_small ha, lowN_small hb]
        have : ((a : Int) == (b : Int)) = false := by simp; omega
        rw [this]; rfl
      · have h1 := nw_big hb
        rw [bigB_small ha, ← beq_toListBytes]
        have : (ByteArray.empty == bigB b) = false := by
          rw [beq_toListBytes, ByteArray.toList_eq, ByteArray.toList_eq, bigB_big hb]
          cases hl : (strOf (bytesN (wordsOf b))).data.toList with
          | nil =>
            have h3 := congrArg List.length hl
            simp [strOf, bytesN_length] at h3
            unfold nw at h1
            omega
          | cons => rfl
        rw [this]; simp
    · by_cases hb : b < 18446744073709551616
      · have h1 := nw_big ha
        rw [bigB_small hb, ← beq_toListBytes]
        have : (bigB a == ByteArray.empty) = false := by
          rw [beq_toListBytes, ByteArray.toList_eq, ByteArray.toList_eq, bigB_big ha]
          cases hl : (strOf (bytesN (wordsOf a))).data.toList with
          | nil =>
            have h3 := congrArg List.length hl
            simp [strOf, bytesN_length] at h3
            unfold nw at h1
            omega
          | cons => rfl
        rw [this]; simp
      · rw [← beq_toListBytes]
        have : (bigB a == bigB b) = false := by
          cases hbb : bigB a == bigB b with
          | false => rfl
          | true =>
            rw [beq_toListBytes] at hbb
            have h2 : (bigB a).toList = (bigB b).toList := by simpa using hbb
            rw [ByteArray.toList_eq, ByteArray.toList_eq] at h2
            have h3 : bigB a = bigB b := by
              cases hA : bigB a with | mk da => cases hB : bigB b with | mk db =>
                rw [hA, hB] at h2
                congr 1
                exact Array.toList_inj.1 h2
            exact absurd (bigB_inj ha hb h3) e
        rw [this]; simp
theorem eqB_nat (D a b : Nat) : EqB Tryz.prog (D + 2) 75 (.agg (natL a).toArray) (.agg (natL b).toArray) (decide (a = b)) := by
  rw [← eq_natL]
  exact EqB.struct Tryz.underlying75 Tryz.stoodInHeld75 (EqF.one (by decide) Tryz.isAgg73 rfl rfl (EqB.int Tryz.underlying73) (EqF.one (by decide) Tryz.isAgg9 rfl rfl (EqB.str Tryz.underlying9) EqF.nil))
end
section
set_option maxRecDepth 100000
theorem of64_ok (n : Nat) (hn : n < 18446744073709551616) (w : World)  : Calls Tryz.prog 139 #[(vK .u64 n)] w (Gives w (aG (natL n))) := by
 refine calls_of (args := [(vK .u64 n)]) Tryz.func139 rfl rfl (leB rfl) (OkC.subF (sL [0] rfl) (q4 (al tZ75 rfl fun b1 => OkL.nil (q2 ?_))))
 refine mv' rfl (st' (v := (aG ([(vK .u64 n), (Value.string (bigB 0))]))) (ex_build_struct (zs := natL 0) (vs := [(vK .u64 n), (Value.string (bigB 0))]) (pv := [(0, (vK .u64 n))]) (places := [(0, 1), (1, 1)]) Tryz.zeroValue75 Tryz.underlying75 (fun w => by simp [Tryz.sizeOf9, Tryz.sizeOf73]) rfl rfl) rfl (OkL.retell (k := 4) (u := (aG (natL n))) rfl (by rw [natL_small hn]; rfl) (stW0' rfl Tryz.sizeOf75 rfl (OkL.nil (OkQ.subF (sL [2] rfl) ?_)))))
 exact OkQ.then_ (OkC.ret (ret_one rfl (rd_agg (i := 0) (cs := natL n) rfl rfl Tryz.isAgg75 Tryz.sizeOf75 rfl) (fun w hw => ⟨rfl, hw.out⟩)))
theorem fill_numb_75_  : Instr.fill ([(0, 1), (1, 1)].toArray[·]?) (natL 0).toArray [] = some (natL 0).toArray := by kernel_rfl
theorem zero_ok (a : Nat) (w : World)  : Calls Tryz.prog 174 #[(aG (natL a))] w (Gives w (Value.bool (decide (a = 0)))) := by
 refine calls_of (args := [(aG (natL a))]) Tryz.func174 rfl rfl (leB rfl) (OkC.subF (sL [0] rfl) (q4 (bx' (cs := natL a) rfl fun b1 => asg' rfl (q3 (sL [1, 2] rfl) ?_))))
 refine ldW' 0 tA75 rfl (st' (v := (aG (natL 0))) (ex_build_struct (zs := natL 0) (vs := natL 0) (pv := []) (places := [(0, 1), (1, 1)]) Tryz.zeroValue75 Tryz.underlying75 (fun w => by simp [Tryz.sizeOf9, Tryz.sizeOf73]) rfl (fill_numb_75_ )) rfl (st' (ex_eql_agg (c := (decide (a = 0))) rfl rfl Tryz.eqGuardType75 (eqB_nat 9998 a 0)) rfl (asg' rfl (OkL.nil (OkQ.subF (sL [2] rfl) ?_)))))
 exact OkQ.then_ (OkC.ret (ret_one rfl (rd_tmp (v := (Value.bool (decide (a = 0)))) rfl) (fun w hw => ⟨rfl, hw.out⟩)))
theorem words_ok (v : Nat) (hv : nw v ≤ 1099511627776) (w : World)  : Calls Tryz.prog 144 #[(aG (natL v))] w (fun e w' => ∃ b, e = .returned (.slice (some ⟨b, 0, none⟩) (nw v) (padW v).length) ∧ Bel w.heap.size w w' ∧ w.heap.size ≤ b ∧ w'.heap[b]? = some (.cells (u32s (padW v)).toArray 105 (0, 0))) := by
 refine calls_of (args := [(aG (natL v))]) Tryz.func144 rfl rfl (leB rfl) (OkC.subF (sL [0] rfl) (q4 (bx' (cs := natL v) rfl fun b1 => asg' rfl (q6 (sL [1, 2] rfl) ?_))))
 refine q4 (st' (v := (pP b1 1)) (ex_fieldAddr rfl Tryz.underlying75 rfl Tryz.sizeOf9 rfl) rfl (ldO' 0 (Value.string (bigB v)) tO9 rfl (st' (ex_eql_string (c := (decide (v < 18446744073709551616))) rfl rfl bigB_empty) rfl (OkL.nil (OkQ.subF (sL [1, 2, 8] rfl) ?_)))))
 refine OkQ.then_ ?_
 refine OkC.cond rfl (fun hc0 => ?_) (fun hc0 => ?_)
 ·replace hc0 := of_decide_eq_true hc0
  refine q4 (st' (v := (pP b1 0)) (ex_fieldAddr rfl Tryz.underlying75 rfl Tryz.sizeOf73 rfl) rfl (ldO' 0 (vK .u64 (lowN v)) tO73 rfl (OkL.retell (k := 10) (u := (vK .u64 v)) rfl (by rw [lowN_small hc0]) (st' (ex_conv (c := ((v % 4294967296 : Nat) : Int)) rfl Tryz.underlying73 Tryz.underlying105 modN_u32) rfl (st' (v := (pP b1 0)) (ex_fieldAddr rfl Tryz.underlying75 rfl Tryz.sizeOf73 rfl) rfl ?_)))))
  refine ldO' 0 (vK .u64 (lowN v)) tO73 rfl (OkL.retell (k := 13) (u := (vK .u64 v)) rfl (by rw [lowN_small hc0]) (st' (ex_shr (s := 32) (c := ((v / 4294967296 : Nat) : Int)) rfl rfl rfl (by decide) (shrN (a := v) (s := 32))) rfl (st' (ex_conv (c := ((v / 4294967296 : Nat) : Int)) rfl Tryz.underlying73 Tryz.underlying105 (convN_u32 (by omega))) rfl (OkL.openV (V := fun b2 => (Value.slice (some ⟨b2, 0, none⟩) 2 2)) (T := 105) (cs := u32s ([v % 4294967296, v / 4294967296])) (wt_none rfl) (op_buildSlice (cs := u32s ([v % 4294967296, v / 4294967296])) (pv := [(0, (vK .u32 (v % 4294967296))), (1, (vK .u32 (v / 4294967296)))]) Tryz.underlying226 Tryz.sizeOf105 Tryz.zeroValue105 (by decide) (by decide) rfl (by kernel_rfl)) rfl (leB rfl) fun b2 => cl' Tryz.call180 (fun w hw => cut_ok _ 2 2 ([v % 4294967296, v / 4294967296]) (W32.cons (by omega) (W32.cons (by omega) (W32.nil))) (by simp) (by simp) (by simp; try omega) w (hw.get (i := 0) rfl)) rfl ?_))))
  refine asg' rfl (OkL.nil (OkQ.subF (sL [1, 2] rfl) (OkQ.then_ (OkC.ret (OkQ.then_ret ?_)))))
  have hpad : padW v = [v % 4294967296, v / 4294967296] := by simp [padW, hc0]
  have hnw : nw v = cutN [v % 4294967296, v / 4294967296] 2 := by rw [← nw_cut (padW_of hc0) (m := 2) (by simp), ← val_pad v, hpad]; simp [val]; congr 1; omega
  have hret : ∀ b : Nat, (Ending.returned (Value.slice (some ⟨b, 0, none⟩) (cutN ([v % 4294967296, v / 4294967296]) 2) 2)) = .returned (Value.slice (some ⟨b, 0, none⟩) (nw v) (padW v).length) := fun b => by rw [hnw, hpad]; rfl
  replace hret := hret b2
  have hcells : (some (Obj.cells (u32s ([v % 4294967296, v / 4294967296])).toArray 105 (0, 0))) = some (Obj.cells (u32s (padW v)).toArray 105 (0, 0)) := by rw [hpad]
  exact ret_one rfl (rd_tmp (v := (Value.slice (some ⟨b2, 0, none⟩) (cutN ([v % 4294967296, v / 4294967296]) 2) 2)) rfl) (fun w hw => ⟨b2, hret, hw.out, hw.fresh (i := 0) rfl, (hw.get (i := 0) rfl).trans hcells⟩)
 ·replace hc0 := of_decide_eq_false hc0
  refine OkC.skip (q2 (st' (v := (pP b1 1)) (ex_fieldAddr rfl Tryz.underlying75 rfl Tryz.sizeOf9 rfl) rfl (ldO' 0 (Value.string (bigB v)) tO9 rfl (st' (v := (vN ((bigB v).size))) (ex_len_string rfl Tryz.underlying9) rfl (OkL.retell (k := 20) (u := (vN (4 * nw v))) rfl (by rw [bigB_big hc0, strOf_size, bytesN_length]; rfl) ?_)))))
  refine st' (ex_quo (c := (((4 * nw v) / 4 : Nat) : Int)) rfl rfl (by omega) (quoN_i64 (a := 4 * nw v) (b := 4) (by omega))) rfl (OkL.retell (k := 21) (u := (vN (nw v))) rfl (by rw [Nat.mul_div_cancel_left _ (by omega)]) (OkL.openV (V := fun b2 => (Value.slice (some ⟨b2, 0, none⟩) (nw v) (nw v))) (T := 105) (cs := u32s (List.replicate (nw v) 0)) (wt_none rfl) (op_make_u32 (m := nw v) (c := nw v) rfl rfl (by omega) (by omega)) rfl (leB rfl) fun b2 => asg' rfl (q6 (sL [1, 2, 3] rfl) (q4 ?_))))
  refine mv' rfl (st' (v := (vN (nw v))) (ex_len_slice rfl Tryz.underlying226) rfl (mv' rfl (OkL.nil (OkQ.subF (sL [1, 2, 3, 24, 25] rfl) (OkQ.then_ ?_)))))
  refine OkC.block ?_
  refine OkC.lp2 (tg fun (i : Nat) (os : List Nat) => i ≤ nw v ∧ os.length = nw v ∧ os.take i = (wordsOf v).take i ∧ ∀ j, i ≤ j → os.getD j 0 = 0) (tg fun (i : Nat) (os : List Nat) => [(1, (pP b1 0)), (2, (Value.slice none 0 0)), (3, (Value.slice (some ⟨b2, 0, none⟩) (nw v) (nw v))), (24, (vN (nw v))), (25, (vN i))]) (tg fun (i : Nat) (os : List Nat) => [blk b2 105 (u32s os), blk b1 75 (natL v)]) (tg fun (i : Nat) (os : List Nat) => nw v - i) 0 (List.replicate (nw v) 0) (⟨Nat.zero_le _, by simp, by simp, fun j _ => by simp [List.getD_eq_getElem?_getD, List.getElem?_replicate]; split <;> rfl⟩) (sF rfl) sr (fun i os hJ => ?_)
  obtain ⟨hin, hl, ht, h0⟩ := hJ
  refine q4 (st' (ex_lss (c := (decide (i < (nw v)))) rfl rfl (ltN (a := i) (b := nw v))) rfl (OkL.nil (q1 ?_)))
  refine OkC.cond rfl (fun hc1 => ?_) (fun hc1 => ?_)
  ·replace hc1 := of_decide_eq_true hc1
   refine OkC.skip (q1 (OkC.block (q4 (mv' rfl (asg' rfl ?_)))))
   refine q3 (sL [1, 2, 3, 24, 25, 4] rfl) (mv' rfl (OkL.nil (OkQ.then_ (OkC.block ?_))))
   refine OkC.lp2 (tg fun (k : Nat) (xs : List Nat) => k ≤ 4 ∧ xs = os.set i ((wordsOf v).getD i 0 % 256 ^ k)) (tg fun (k : Nat) (xs : List Nat) => [(1, (pP b1 0)), (2, (Value.slice none 0 0)), (3, (Value.slice (some ⟨b2, 0, none⟩) (nw v) (nw v))), (24, (vN (nw v))), (25, (vN i)), (4, (vN i)), (28, (vN k))]) (tg fun (k : Nat) (xs : List Nat) => [blk b2 105 (u32s xs), blk b1 75 (natL v)]) (tg fun (k : Nat) (xs : List Nat) => 4 - k) 0 os (⟨by omega, by rw [Nat.pow_zero, Nat.mod_one]; exact set_self (h0 i (Nat.le_refl _))⟩) (sF rfl) sr (fun k xs hJ => ?_)
   obtain ⟨hk, hxs⟩ := hJ
   refine q4 (st' (ex_lss (c := (decide (k < 4))) rfl rfl (ltN (a := k) (b := 4))) rfl (OkL.nil (q1 ?_)))
   refine OkC.cond rfl (fun hc2 => ?_) (fun hc2 => ?_)
   ·replace hc2 := of_decide_eq_true hc2
    refine OkC.skip (q1 (OkC.block (q4 (mv' rfl (asg' rfl ?_)))))
    refine OkL.nil (OkQ.subF (sL [1, 2, 3, 24, 25, 4, 28, 5] rfl) (OkQ.then_ (rG' [(0, true), (1, true), (2, true), (4, true), (5, true), (6, true), (7, true), (8, true), (9, true), (10, true), (11, true), (12, true), (13, true), (14, true), (3, false), (15, true), (16, true), (17, false)] (sl sr) ?_)))
    have hi : i < nw v := hc1
    have hxi : xs.getD i 0 = (wordsOf v).getD i 0 % 256 ^ k := by rw [hxs]; simp [hl, hi]
    have hxl : xs.length = nw v := by rw [hxs]; simp [hl]
    have hby : (wordsOf v).getD i 0 / 256 ^ k % 256 < 256 := Nat.mod_lt _ (by omega)
    have hget : (bigB v)[4 * i + k]? = some (UInt8.ofNat ((wordsOf v).getD i 0 / 256 ^ k % 256)) := by rw [bigB_big hc0, strOf_get (by rw [bytesN_length]; show 4 * i + k < 4 * nw v; omega), bytesN_get _ _ _ hi hc2]
    have hw32 : xs.getD i 0 < 4294967296 := by rw [hxi]; exact Nat.lt_of_le_of_lt (Nat.mod_le _ _) ((words_w32 v).getD i)
    refine pM' rfl (pM' rfl (pE' (v := (pP b2 i)) rfl (ex_indexAddr_slice (j := i) rfl rfl Tryz.underlying226 Tryz.sizeOf105 rfl (by omega) (by simp)) (pE' (v := (pP b1 1)) rfl (ex_fieldAddr rfl Tryz.underlying75 rfl Tryz.sizeOf9 rfl) (pO'' 0 (Value.string (bigB v)) tO9 rfl (pM' rfl ?_)))))
    refine pE' rfl (ex_mul (c := ((4 * i : Nat) : Int)) rfl rfl (mulN_i64 (a := 4) (b := i) (by omega))) (pM' rfl (pE' rfl (ex_add (c := (((4 * i) + k : Nat) : Int)) rfl rfl (addN_i64 (a := 4 * i) (b := k) (by omega))) (pE' (v := (vK .u8 ((wordsOf v).getD i 0 / 256 ^ k % 256))) rfl (ex_index_str (j := 4 * i + k) (m := (wordsOf v).getD i 0 / 256 ^ k % 256) rfl rfl Tryz.underlying9 hget hby) (pE' rfl (ex_conv (c := (((wordsOf v).getD i 0 / 256 ^ k % 256 : Nat) : Int)) rfl Tryz.underlying5 Tryz.underlying105 (convN_u32 (by omega))) (pM' rfl ?_)))))
    refine pE' rfl (ex_mul (c := ((8 * k : Nat) : Int)) rfl rfl (mulN_i64 (a := 8) (b := k) (by omega))) (pE' (v := (vK .u32 ((wordsOf v).getD i 0 / 256 ^ k % 256 * 2 ^ (8 * k)))) rfl (ex_shl (s := 8 * k) rfl rfl rfl (show 8 * k ≤ 32 by omega) (shlN_u32 (byte_lt hc2))) (OkE.imp rfl (st' (ex_load_one (i := 0) (v := (vK .u32 (xs.getD i 0))) rfl rfl Tryz.isAgg105 (u32s_get (xs := xs) (j := i) (by omega))) rfl (OkE.back (sl sr) (pE' rfl (ex_or (c := (((wordsOf v).getD i 0 % 256 ^ (k + 1) : Nat) : Int)) rfl rfl (orN_u32 hw32 (byte_lt hc2) (byte_step hxi))) ?_)))))
    refine pE' (v := (pP b2 i)) rfl (ex_indexAddr_slice (j := i) rfl rfl Tryz.underlying226 Tryz.sizeOf105 rfl (by omega) (by simp)) (OkE.imp rfl (OkL.store' (i := 0) (off := i) (vs := [(vK .u32 ((wordsOf v).getD i 0 % 256 ^ (k + 1)))]) (cs' := u32s (xs.set i ((wordsOf v).getD i 0 % 256 ^ (k + 1)))) (L' := [blk b2 105 (u32s (xs.set i ((wordsOf v).getD i 0 % 256 ^ (k + 1)))), blk b1 75 (natL v)]) (wt_none rfl) rfl rfl rfl rfl rfl Tryz.sizeOf105 rfl (ble_row (u32s_length _) (by omega)) (u32s_set (by omega)) rfl (OkE.back (sl sr) (OkE.nil (OkQ.subF (sL [1, 2, 3, 24, 25, 4, 28] rfl) ?_)))))
    refine OkQ.in_normal (OkQ.then_ (OkC.region (st' (ex_add (c := ((k + 1 : Nat) : Int)) rfl rfl (addN_i64 (a := k) (b := 1) (by omega))) rfl (mv' rfl (OkL.nil ?_)))))
    exact OkQ.subF (sL [1, 2, 3, 24, 25, 4, 28] rfl) (OkQ.round2 (k + 1) (xs.set i ((wordsOf v).getD i 0 % 256 ^ (k + 1))) (⟨by omega, by rw [hxs, List.set_set]⟩) (by omega) (sF rfl) sr)
   ·replace hc2 := of_decide_eq_false hc2
    refine OkC.exit (OkQ.then_exit (OkQ.round2_exit (OkQ.in_exit (OkQ.in_normal (OkQ.then_ ?_)))))
    refine OkC.region (st' (ex_add (c := ((i + 1 : Nat) : Int)) rfl rfl (addN_i64 (a := i) (b := 1) (by omega))) rfl (mv' rfl (OkL.nil (OkQ.subF (sL [1, 2, 3, 24, 25, 4, 28] rfl) ?_))))
    have hst := words_step (ws := wordsOf v) (xs := xs) hl rfl hc1 ht h0 (by rw [hxs, show k = 4 by omega]; congr 1; exact Nat.mod_eq_of_lt ((words_w32 v).getD i))
    exact OkQ.round2 (i + 1) xs (⟨by omega, hst.1, hst.2.1, hst.2.2⟩) (by omega) (sF rfl) sr
  ·replace hc1 := of_decide_eq_false hc1
   refine OkC.exit (OkQ.then_exit (OkQ.round2_exit (OkQ.in_exit (q2 (mv' rfl ?_)))))
   refine asg' rfl (OkL.nil (OkQ.subF (sL [1, 2, 3, 24, 25] rfl) (OkQ.then_ (OkC.ret ?_))))
   have hpad : padW v = wordsOf v := by simp [padW, hc0]
   have hos : os = wordsOf v := row_done hl rfl hc1 ht
   have hret : ∀ b : Nat, (Ending.returned (Value.slice (some ⟨b, 0, none⟩) (nw v) (nw v))) = .returned (Value.slice (some ⟨b, 0, none⟩) (nw v) (padW v).length) := fun b => by rw [hpad]; rfl
   replace hret := hret b2
   have hcells : (some (Obj.cells (u32s os).toArray 105 (0, 0))) = some (Obj.cells (u32s (padW v)).toArray 105 (0, 0)) := by rw [hpad, hos]
   exact ret_one rfl (rd_tmp (v := (Value.slice (some ⟨b2, 0, none⟩) (nw v) (nw v))) rfl) (fun w hw => ⟨b2, hret, hw.out, hw.fresh (i := 0) rfl, (hw.get (i := 0) rfl).trans hcells⟩)
end
section
set_option maxRecDepth 100000
theorem of_ok (b m c : Nat) (bs : List Nat) (hbs : W32 bs) (hm : m ≤ bs.length) (hc : m ≤ c) (hL : c < 4398046511104) (w : World) (hb : w.heap[b]? = some (.cells (u32s bs).toArray 105 (0, 0))) : Calls Tryz.prog 143 #[(Value.slice (some ⟨b, 0, none⟩) m c)] w (Gives w (aG (natL (val (bs.take m))))) := by
 have hle := cutN_le bs m
 have hval := val_cutN bs m
 have hwd := words_cut hbs hm
 have hnw := nw_cut hbs hm
 generalize hK : cutN bs m = K at *
 refine calls_of (args := [(Value.slice (some ⟨b, 0, none⟩) m c)]) Tryz.func143 rfl rfl (leB rfl) (OkC.subF (sL [0] rfl) (q4 (al tZ75 rfl fun b1 => OkL.nil (q2 ?_))))
 refine mv' rfl (cl' Tryz.call180 (fun w hw => cut_ok _ m c bs hbs (by omega) (by omega) (by omega) w (hw.old (by simp) hb)) rfl (OkL.retell (k := 10) (u := (Value.slice (some ⟨b, 0, none⟩) K c)) rfl (by rw [hK]) (asg' rfl (q6 (sL [0, 2] rfl) (q4 ?_)))))
 refine mv' rfl (st' (v := (vN K)) (ex_len_slice rfl Tryz.underlying226) rfl (st' (ex_leq (c := (decide (K ≤ 2))) rfl rfl (leN (a := K) (b := 2))) rfl (OkL.nil (OkQ.subF (sL [0, 2, 13] rfl) (OkQ.then_ ?_)))))
 refine OkC.cond rfl (fun hc0 => ?_) (fun hc0 => ?_)
 ·replace hc0 := of_decide_eq_true hc0
  refine q4 (asg' rfl (OkL.nil (q1 (q4 (mv' rfl ?_)))))
  refine st' (v := (vN K)) (ex_len_slice rfl Tryz.underlying226) rfl (mv' rfl (OkL.nil (OkQ.then_ (OkC.block ?_))))
  refine OkC.lp2 (tg fun (i : Nat) (n : Nat) => i ≤ K ∧ n = val (bs.take i)) (tg fun (i : Nat) (n : Nat) => [(0, (Value.slice (some ⟨b, 0, none⟩) K c)), (2, (pP b1 0)), (14, (Value.slice (some ⟨b, 0, none⟩) K c)), (15, (vN K)), (16, (vN i)), (3, (vK .u64 n))]) (tg fun (i : Nat) (n : Nat) => [blk b1 75 (natL 0)]) (tg fun (i : Nat) (n : Nat) => K - i) 0 0 (⟨Nat.zero_le _, by simp [val]⟩) (sF rfl) sr (fun i n hJ => ?_)
  obtain ⟨hi, hn⟩ := hJ
  refine q4 (st' (ex_lss (c := (decide (i < K))) rfl rfl (ltN (a := i) (b := K))) rfl (OkL.nil (q1 ?_)))
  refine OkC.cond rfl (fun hc1 => ?_) (fun hc1 => ?_)
  ·replace hc1 := of_decide_eq_true hc1
   refine OkC.skip (q1 (OkC.block (q4 (mv' rfl (st' (v := (pP b i)) (ex_indexAddr_slice (j := i) rfl rfl Tryz.underlying226 Tryz.sizeOf105 rfl (by omega) (by simp)) rfl ?_)))))
   have hx1 : bs.getD i 0 < 4294967296 := W32.getD hbs i
   refine st' (ex_load_one_at (v := (vK .u32 (bs.getD i 0))) rfl (fun w' hw => CA.at0 (hw.oldCA (by simp) (ca_blk hb)) (u32s_get (xs := bs) (j := i) (by omega))) Tryz.isAgg105) rfl (asg' rfl (asg' rfl (OkL.nil (OkQ.subF (sL [0, 2, 14, 15, 16, 3, 4, 5] rfl) (OkQ.then_ ?_)))))
   refine OkC.region (mv' rfl (mv' rfl (st' (ex_conv (c := ((bs.getD i 0 : Nat) : Int)) rfl Tryz.underlying105 Tryz.underlying73 (convN_u64 (by omega))) rfl (mv' rfl ?_))))
   have hiK : i < K := hc1
   have hi2 : i < 2 := by omega
   have hn2 : n < 4294967296 ^ i := by rw [hn]; exact Nat.lt_of_lt_of_le (val_lt (hbs.take i)) (Nat.pow_le_pow_right (by omega) (by simp; omega))
   have hsh := shift_lt (i := i) (hbs.getD i) hi2
   have hn3 : n < 18446744073709551616 := small_pow hn2 hi2
   refine st' (ex_mul (c := ((32 * i : Nat) : Int)) rfl rfl (mulN_i64 (a := 32) (b := i) (by omega))) rfl (st' (v := (vK .u64 (bs.getD i 0 * 2 ^ (32 * i)))) (ex_shl (s := 32 * i) rfl rfl rfl (show 32 * i ≤ 64 by omega) (shlN_u64 hsh)) rfl (st' (ex_or (c := ((n + bs.getD i 0 * 2 ^ (32 * i) : Nat) : Int)) rfl rfl (orN_u64 hn3 hsh (or_add (by rw [← pow32]; exact hn2)))) rfl (asg' rfl (OkL.nil (OkQ.subF (sL [0, 2, 14, 15, 16, 3] rfl) ?_)))))
   refine OkQ.in_normal (OkQ.then_ (OkC.region (st' (ex_add (c := ((i + 1 : Nat) : Int)) rfl rfl (addN_i64 (a := i) (b := 1) (by omega))) rfl (mv' rfl (OkL.nil ?_)))))
   exact OkQ.subF (sL [0, 2, 14, 15, 16, 3] rfl) (OkQ.round2 (i + 1) (n + bs.getD i 0 * 2 ^ (32 * i)) (⟨by omega, by rw [val_take_succ, ← hn, pow32]⟩) (by omega) (sF rfl) sr)
  ·replace hc1 := of_decide_eq_false hc1
   refine OkC.exit (OkQ.then_exit (OkQ.round2_exit (OkQ.in_exit (q2 (mv' rfl ?_)))))
   have hnn : n = val (bs.take K) := by rw [hn, show i = K by omega]
   have hv2 : val (bs.take m) < 18446744073709551616 := by rw [← hval]; exact Nat.lt_of_lt_of_le (val_lt (hbs.take K)) (by rw [List.length_take]; exact Nat.le_trans (Nat.pow_le_pow_right (n := 4294967296) (by omega) (show min K bs.length ≤ 2 by omega)) (by decide))
   refine st' (v := (aG ([(vK .u64 n), (Value.string (bigB 0))]))) (ex_build_struct (zs := natL 0) (vs := [(vK .u64 n), (Value.string (bigB 0))]) (pv := [(0, (vK .u64 n))]) (places := [(0, 1), (1, 1)]) Tryz.zeroValue75 Tryz.underlying75 (fun w => by simp [Tryz.sizeOf9, Tryz.sizeOf73]) rfl rfl) rfl (OkL.retell (k := 30) (u := (aG (natL (val (bs.take m))))) rfl (by rw [natL_small hv2, ← hval, ← hnn]; rfl) (stW0' rfl Tryz.sizeOf75 rfl (OkL.nil (OkQ.subF (sL [0, 2, 14, 15, 16, 3] rfl) (OkQ.then_ ?_)))))
   exact OkC.ret (OkQ.then_ret (ret_one rfl (rd_agg (i := 0) (cs := natL (val (bs.take m))) rfl rfl Tryz.isAgg75 Tryz.sizeOf75 rfl) (fun w hw => ⟨rfl, hw.out⟩)))
 ·replace hc0 := of_decide_eq_false hc0
  refine OkC.skip (q2 (mv' rfl (st' (v := (vN K)) (ex_len_slice rfl Tryz.underlying226) rfl (st' (ex_mul (c := ((4 * K : Nat) : Int)) rfl rfl (mulN_i64 (a := 4) (b := K) (by omega))) rfl (OkL.openV (V := fun b2 => (Value.slice (some ⟨b2, 0, none⟩) 0 (4 * K))) (T := 5) (cs := u8s (List.replicate (4 * K) 0)) (wt_none rfl) (op_make_u8 (m := 0) (c := 4 * K) rfl rfl (by omega) (by omega)) rfl (leB rfl) fun b2 => ?_)))))
  refine asg' rfl (q6 (sL [0, 2, 6] rfl) (q4 (mv' rfl (st' (v := (vN K)) (ex_len_slice rfl Tryz.underlying226) rfl (mv' rfl ?_)))))
  refine OkL.nil (OkQ.then_ (OkC.block ?_))
  refine OkC.lp2 (tg fun (i : Nat) (bz : List Nat) => i ≤ K ∧ bz = bytesN (bs.take i) ++ List.replicate (4 * (K - i)) 0) (tg fun (i : Nat) (bz : List Nat) => [(2, (pP b1 0)), (35, (Value.slice (some ⟨b, 0, none⟩) K c)), (36, (vN K)), (37, (vN i)), (6, (Value.slice (some ⟨b2, 0, none⟩) (4 * i) (4 * K)))]) (tg fun (i : Nat) (bz : List Nat) => [blk b2 5 (u8s bz), blk b1 75 (natL 0)]) (tg fun (i : Nat) (bz : List Nat) => K - i) 0 (List.replicate (4 * K) 0) (⟨Nat.zero_le _, by simp [bytesN]⟩) (sF rfl) sr (fun i bz hJ => ?_)
  obtain ⟨hi, hz⟩ := hJ
  refine q4 (st' (ex_lss (c := (decide (i < K))) rfl rfl (ltN (a := i) (b := K))) rfl (OkL.nil (q1 ?_)))
  refine OkC.cond rfl (fun hc2 => ?_) (fun hc2 => ?_)
  ·replace hc2 := of_decide_eq_true hc2
   refine OkC.skip (q1 (OkC.block (q4 (st' (v := (pP b i)) (ex_indexAddr_slice (j := i) rfl rfl Tryz.underlying226 Tryz.sizeOf105 rfl (by omega) (by simp)) rfl ?_))))
   have hx2 : bs.getD i 0 < 4294967296 := W32.getD hbs i
   refine st' (ex_load_one_at (v := (vK .u32 (bs.getD i 0))) rfl (fun w' hw => CA.at0 (hw.oldCA (by simp) (ca_blk hb)) (u32s_get (xs := bs) (j := i) (by omega))) Tryz.isAgg105) rfl (asg' rfl (OkL.nil (OkQ.subF (sL [2, 35, 36, 37, 6, 8] rfl) (OkQ.then_ (OkC.region ?_)))))
   refine mv' rfl (mv' rfl (st' (ex_conv (c := (((bs.getD i 0) % 256 : Nat) : Int)) rfl Tryz.underlying105 Tryz.underlying5 modN_u8) rfl (mv' rfl (st' (ex_shr (s := 8) (c := (((bs.getD i 0) / 256 : Nat) : Int)) rfl rfl rfl (by decide) (shrN (a := bs.getD i 0) (s := 8))) rfl (st' (ex_conv (c := ((((bs.getD i 0) / 256) % 256 : Nat) : Int)) rfl Tryz.underlying105 Tryz.underlying5 modN_u8) rfl ?_)))))
   refine mv' rfl (st' (ex_shr (s := 16) (c := (((bs.getD i 0) / 65536 : Nat) : Int)) rfl rfl rfl (by decide) (shrN (a := bs.getD i 0) (s := 16))) rfl (st' (ex_conv (c := ((((bs.getD i 0) / 65536) % 256 : Nat) : Int)) rfl Tryz.underlying105 Tryz.underlying5 modN_u8) rfl (mv' rfl (st' (ex_shr (s := 24) (c := (((bs.getD i 0) / 16777216 : Nat) : Int)) rfl rfl rfl (by decide) (shrN (a := bs.getD i 0) (s := 24))) rfl (st' (ex_conv (c := ((((bs.getD i 0) / 16777216) % 256 : Nat) : Int)) rfl Tryz.underlying105 Tryz.underlying5 modN_u8) rfl ?_)))))
   refine OkL.openV (V := fun b3 => (Value.slice (some ⟨b3, 0, none⟩) 4 4)) (T := 5) (cs := u8s ([(bs.getD i 0) % 256, ((bs.getD i 0) / 256) % 256, ((bs.getD i 0) / 65536) % 256, ((bs.getD i 0) / 16777216) % 256])) (wt_none rfl) (op_buildSlice (cs := u8s ([(bs.getD i 0) % 256, ((bs.getD i 0) / 256) % 256, ((bs.getD i 0) / 65536) % 256, ((bs.getD i 0) / 16777216) % 256])) (pv := [(0, (vK .u8 ((bs.getD i 0) % 256))), (1, (vK .u8 (((bs.getD i 0) / 256) % 256))), (2, (vK .u8 (((bs.getD i 0) / 65536) % 256))), (3, (vK .u8 (((bs.getD i 0) / 16777216) % 256)))]) Tryz.underlying22 Tryz.sizeOf5 Tryz.zeroValue5 (by decide) (by decide) rfl (by kernel_rfl)) rfl (leB rfl) fun b3 => ?_
   obtain ⟨bz2, hz2, hlay⟩ : ∃ bz2, bz2 = bytesN (bs.take (i + 1)) ++ List.replicate (4 * (K - (i + 1))) 0 ∧ lay (u8s bz) (4 * i) (u8s ([(bs.getD i 0) % 256, ((bs.getD i 0) / 256) % 256, ((bs.getD i 0) / 65536) % 256, ((bs.getD i 0) / 16777216) % 256])) = u8s bz2 := ⟨_, rfl, by rw [hz]; exact bytes_step hc2 (by omega)⟩
   refine OkL.append_u8 (i := 1) (j := 0) (m := 4 * i) (c := 4 * K) (k := 4) (cs' := u8s bz2) (L' := [blk b3 5 (u8s ([(bs.getD i 0) % 256, ((bs.getD i 0) / 256) % 256, ((bs.getD i 0) / 65536) % 256, ((bs.getD i 0) / 16777216) % 256])), blk b2 5 (u8s bz2), blk b1 75 (natL 0)]) rfl (wt_none rfl) rfl rfl rfl rfl rfl rfl (by omega) (by rw [u8s_length, hz]; simp [bytesN_length]; omega) hlay rfl (leB rfl) (asg' rfl (OkL.nil (OkQ.subF (sL [2, 35, 36, 37, 6] rfl) (OkQ.in_normal (OkQ.then_ ?_)))))
   exact OkC.region (st' (ex_add (c := ((i + 1 : Nat) : Int)) rfl rfl (addN_i64 (a := i) (b := 1) (by omega))) rfl (mv' rfl (OkL.nil (OkQ.subF (sL [2, 35, 36, 37, 6] rfl) (OkQ.round2 (i + 1) bz2 (⟨by omega, hz2⟩) (by omega) (sF rfl) (sl sr))))))
  ·replace hc2 := of_decide_eq_false hc2
   refine OkC.exit (OkQ.then_exit (OkQ.round2_exit (OkQ.in_exit (q2 (mv' rfl ?_)))))
   have hbl : bz.length = 4 * i := by rw [hz, List.length_append, bytesN_length, List.length_take, List.length_replicate]; omega
   have htk : (u8s bz).take (4 * i) = u8s bz := List.take_of_length_le (by rw [u8s_length]; omega)
   refine st' (v := (Value.string (strOf bz))) (ex_bytes_string (i := 0) (m := 4 * i) (ns := bz) rfl rfl htk hbl) rfl ?_
   have hv3 : ¬ val (bs.take m) < 18446744073709551616 := fun h => by have := nw_small h; omega
   have hbz : bz = bytesN (bs.take K) := by rw [hz, show i = K by omega]; simp
   refine st' (v := (aG ([(vK .u64 (lowN 0)), (Value.string (strOf bz))]))) (ex_build_struct (zs := natL 0) (vs := [(vK .u64 (lowN 0)), (Value.string (strOf bz))]) (pv := [(1, (Value.string (strOf bz)))]) (places := [(0, 1), (1, 1)]) Tryz.zeroValue75 Tryz.underlying75 (fun w => by simp [Tryz.sizeOf9, Tryz.sizeOf73]) rfl rfl) rfl (OkL.retell (k := 58) (u := (aG (natL (val (bs.take m))))) rfl (by rw [natL_big hv3, hwd, ← hbz]; rfl) (stW1' rfl Tryz.sizeOf75 rfl (OkL.nil (OkQ.subF (sL [2, 35, 36, 37, 6] rfl) (OkQ.then_ ?_)))))
   exact OkC.ret (ret_one rfl (rd_agg (i := 1) (cs := natL (val (bs.take m))) rfl rfl Tryz.isAgg75 Tryz.sizeOf75 rfl) (fun w hw => ⟨rfl, hw.out⟩))
end
end Go.Proofs.YtgiacpkjnikjdaaGreat
