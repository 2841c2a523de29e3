import Derived.Test.YtgiacpkjnikjdaaGreatPart06
import Derived.Test.YtgiacpkjnikjdaaGreatPart10
namespace Go.Proofs.YtgiacpkjnikjdaaGreat
open Go Go.RowKit
set_option linter.unusedVariables false
set_option linter.unusedSimpArgs false
section
def cmpZ (a b : Nat) : Int := if a < b then -1 else if a = b then 0 else 1
theorem cmpZ_lt {a b : Nat} : cmpZ a b < 0 ↔ a < b := by
  unfold cmpZ; split
  · omega
  · split <;> omega
theorem cmpZ_eq {a b : Nat} : cmpZ a b = 0 ↔ a = b := by
  unfold cmpZ; split
  · omega
  · split <;> omega
theorem cmp_len {a b : Nat} (h : nw a ≠ nw b) : ((nw a : Int) - (nw b : Int)).sign = cmpZ a b := by
  unfold cmpZ
  by_cases h1 : nw a < nw b
  · have h2 : a < b := by
      rcases Nat.lt_or_ge a b with h2 | h2
      · exact h2
      · have := nw_mono h2; omega
    rw [if_pos h2, Int.sign_eq_neg_one_of_neg (by omega)]
  · have h2 : b < a := by
      rcases Nat.lt_or_ge b a with h2 | h2
      · exact h2
      · have := nw_mono h2; omega
    rw [if_neg (by omega), if_neg (by omega), Int.sign_eq_one_of_pos (by omega)]
theorem cmp_at {xs ys : List Nat} {k : Nat} (hx : W32 xs) (hl : xs.length = ys.length) (h0 : 0 < k) (hk : k ≤ xs.length) (hd : xs.drop k = ys.drop k) (h : xs.getD (k - 1) 0 < ys.getD (k - 1) 0) : val xs < val ys := by
  have e1 := val_split xs k hk
  have e2 := val_split ys k (by omega)
  have s1 := val_take_succ xs (k - 1)
  have s2 := val_take_succ ys (k - 1)
  rw [show k - 1 + 1 = k by omega] at s1 s2
  have h1 : val (xs.take (k - 1)) < 4294967296 ^ (k - 1) := Nat.lt_of_lt_of_le (val_lt (hx.take (k - 1))) (Nat.pow_le_pow_right (by omega) (by simp; omega))
  have h2 : (xs.getD (k - 1) 0 + 1) * 4294967296 ^ (k - 1) ≤ ys.getD (k - 1) 0 * 4294967296 ^ (k - 1) := Nat.mul_le_mul_right _ h
  rw [Nat.add_mul] at h2
  rw [hd] at e1
  omega
theorem drop_step {xs ys : List Nat} {k : Nat} (hl : xs.length = ys.length) (h0 : 0 < k) (hk : k ≤ xs.length) (hd : xs.drop k = ys.drop k) (h : xs.getD (k - 1) 0 = ys.getD (k - 1) 0) : xs.drop (k - 1) = ys.drop (k - 1) := by
  have h1 : k - 1 < xs.length := by omega
  have h2 : k - 1 < ys.length := by omega
  rw [List.drop_eq_getElem_cons h1, List.drop_eq_getElem_cons h2, show k - 1 + 1 = k by omega, hd]
  simp [h1, h2] at h
  rw [h]
theorem cmp_words {a b k : Nat} (hl : nw a = nw b) (h0 : 0 < k) (hk : k ≤ nw a) (hd : (wordsOf a).drop k = (wordsOf b).drop k) (hne : (wordsOf a).getD (k - 1) 0 ≠ (wordsOf b).getD (k - 1) 0) :
    cmpZ a b = if (wordsOf a).getD (k - 1) 0 < (wordsOf b).getD (k - 1) 0 then -1 else 1 := by
  unfold cmpZ
  split
  · rename_i h
    rw [if_pos]
    rcases Nat.lt_or_ge ((wordsOf a).getD (k - 1) 0) ((wordsOf b).getD (k - 1) 0) with h1 | h1
    · exact h1
    · have := cmp_at (words_w32 b) hl.symm h0 (by unfold nw at *; omega) hd.symm (show (wordsOf b).getD (k - 1) 0 < (wordsOf a).getD (k - 1) 0 by omega)
      rw [val_words, val_words] at this; omega
  · rename_i h
    have h2 : ¬ (wordsOf a).getD (k - 1) 0 < (wordsOf b).getD (k - 1) 0 := fun h1 => by
      have := cmp_at (words_w32 a) hl h0 hk hd h1
      rw [val_words, val_words] at this; omega
    rw [if_neg h2, if_neg]
    intro e; subst e; exact hne rfl
theorem cmp_same {a b : Nat} (hd : (wordsOf a).drop 0 = (wordsOf b).drop 0) : cmpZ a b = 0 := by
  rw [cmpZ_eq]
  rw [List.drop_zero, List.drop_zero] at hd
  rw [← val_words a, ← val_words b, hd]
theorem pad_getD {v i : Nat} (h : i < nw v) : (padW v).getD i 0 = (wordsOf v).getD i 0 := by
  rw [← pad_take v]
  simp [List.getD_eq_getElem?_getD, List.getElem?_take, h]
theorem words_getD_zero {v i : Nat} (h : ¬ i < nw v) : (wordsOf v).getD i 0 = 0 := by
  unfold nw at h; simp [List.getD_eq_getElem?_getD, Nat.not_lt.1 h]
theorem val_words_take {v i : Nat} (h : nw v ≤ i) : val ((wordsOf v).take i) = v := by
  rw [List.take_of_length_le h, val_words]
theorem pad_len (v : Nat) : (padW v).length ≤ nw v + 2 := by
  unfold padW; split
  · simp
  · unfold nw; omega
theorem take_pad_val (v : Nat) : val ((padW v).take (nw v)) = v := by rw [pad_take, val_words]
theorem add_step {os ys : List Nat} {X i n c : Nat} (hl : os.length = n) (hi : i < n) (hv : val os + c * 4294967296 ^ i = X + val (ys.take i)) :
    val (os.set i ((os.getD i 0 + ys.getD i 0 + c) % 4294967296)) + (os.getD i 0 + ys.getD i 0 + c) / 4294967296 * 4294967296 ^ (i + 1) = X + val (ys.take (i + 1)) := by
  have e := val_set (xs := os) (i := i) (by omega) ((os.getD i 0 + ys.getD i 0 + c) % 4294967296)
  have t := val_take_succ ys i
  have hm := Nat.div_add_mod (os.getD i 0 + ys.getD i 0 + c) 4294967296
  rw [Nat.pow_succ]
  generalize os.getD i 0 = o at *
  generalize ys.getD i 0 = y at *
  generalize (o + y + c) / 4294967296 = q at *
  generalize (o + y + c) % 4294967296 = r at *
  generalize 4294967296 ^ i = p at *
  have hm2 : (4294967296 * q + r) * p = (o + y + c) * p := by rw [hm]
  grind
theorem add_done {os : List Nat} {X Y n c i : Nat} (hl : os.length = n) (hw : W32 os) (hi : n ≤ i) (hX : X + Y < 4294967296 ^ n) (hv : val os + c * 4294967296 ^ i = X + Y) : val os = X + Y := by
  have h1 : 4294967296 ^ n ≤ 4294967296 ^ i := Nat.pow_le_pow_right (by omega) hi
  rcases Nat.eq_zero_or_pos c with h | h
  · subst h; omega
  · have : 1 * 4294967296 ^ i ≤ c * 4294967296 ^ i := Nat.mul_le_mul_right _ h
    omega
theorem sub_step {os ys : List Nat} {X i n c : Nat} (hl : os.length = n) (hi : i < n) (hw : W32 os) (hy : W32 ys) (hc : c ≤ 1) (hv : val os + val (ys.take i) = X + c * 4294967296 ^ i) :
    val (os.set i ((os.getD i 0 + (4294967296 - ys.getD i 0) + (4294967296 - c)) % 4294967296)) + val (ys.take (i + 1)) = X + bor (os.getD i 0) (ys.getD i 0 + c) * 4294967296 ^ (i + 1) := by
  have e := val_set (xs := os) (i := i) (by omega) ((os.getD i 0 + (4294967296 - ys.getD i 0) + (4294967296 - c)) % 4294967296)
  have t := val_take_succ ys i
  have ho := hw.getD i
  have hy' := hy.getD i
  rw [Nat.pow_succ]
  have hm : (os.getD i 0 + (4294967296 - ys.getD i 0) + (4294967296 - c)) % 4294967296 + ys.getD i 0 + c = os.getD i 0 + bor (os.getD i 0) (ys.getD i 0 + c) * 4294967296 := by
    unfold bor; split <;> omega
  generalize (os.getD i 0 + (4294967296 - ys.getD i 0) + (4294967296 - c)) % 4294967296 = r at *
  generalize bor (os.getD i 0) (ys.getD i 0 + c) = q at *
  generalize os.getD i 0 = o at *
  generalize ys.getD i 0 = y at *
  generalize 4294967296 ^ i = p at *
  have hm2 : (r + y + c) * p = (o + q * 4294967296) * p := by rw [hm]
  grind
theorem sub_done {os : List Nat} {X Y n c i : Nat} (hl : os.length = n) (hw : W32 os) (hi : i = n) (hX : Y ≤ X) (hv : val os + Y = X + c * 4294967296 ^ i) (hX2 : X < 4294967296 ^ n) : val os = X - Y := by
  have h1 := val_lt hw
  rw [hl] at h1
  subst hi
  rcases Nat.eq_zero_or_pos c with h | h
  · subst h; omega
  · have : 1 * 4294967296 ^ i ≤ c * 4294967296 ^ i := Nat.mul_le_mul_right _ h
    omega
theorem bor_le (x y : Nat) : bor x y ≤ 1 := by unfold bor; split <;> omega
theorem mul_step {os ys : List Nat} {S W i k n c : Nat} (hl : os.length = n) (hi : i + k < n) (hv : val os + c * 4294967296 ^ (i + k) = S + W * val (ys.take k) * 4294967296 ^ i) :
    val (os.set (i + k) ((c + (W * ys.getD k 0 + os.getD (i + k) 0)) % 4294967296)) + (c + (W * ys.getD k 0 + os.getD (i + k) 0)) / 4294967296 * 4294967296 ^ (i + (k + 1)) = S + W * val (ys.take (k + 1)) * 4294967296 ^ i := by
  have e := val_set (xs := os) (i := i + k) (by omega) ((c + (W * ys.getD k 0 + os.getD (i + k) 0)) % 4294967296)
  have t := val_take_succ ys k
  have hm := Nat.div_add_mod (c + (W * ys.getD k 0 + os.getD (i + k) 0)) 4294967296
  rw [t, show i + (k + 1) = i + k + 1 by omega, Nat.pow_succ]
  rw [Nat.pow_add] at *
  generalize os.getD (i + k) 0 = o at *
  generalize ys.getD k 0 = y at *
  generalize (c + (W * y + o)) / 4294967296 = q at *
  generalize (c + (W * y + o)) % 4294967296 = r at *
  generalize 4294967296 ^ i = p at *
  generalize 4294967296 ^ k = p' at *
  generalize val (ys.take k) = vy at *
  have hm2 : (4294967296 * q + r) * (p * p') = (c + (W * y + o)) * (p * p') := by rw [hm]
  grind
section
variable {n : Nat} {F : List (Nat × Value)} {w0 : Base} {L : List As} {v : Value} {x y : Operand} {d : Option Tmp} {t : TypeId} {p : String} {af : Array Edge} {g : Option (Nat × Bool)}
theorem OkL.copy_u32 {ops : Array Oper} {rest : List Oper} {Q : Exit → Act → World → Prop} {L' : List As} {i j b b' m c k c' dd : Nat} {cs ds ns cs' : List Value} {o : Oper} (ho : o = ⟨some dd, .call { callee := .builtin .copy, args := #[x, y], argTypes := #[226, 226] }, t, p, af, g⟩) (hw : Wt ops n F o)
    (hx : evF F x = some (.slice (some ⟨b, 0, none⟩) m c)) (hy : evF F y = some (.slice (some ⟨b', 0, none⟩) k c')) (hi : L[i]? = some (blk b 105 cs)) (hj : L[j]? = some (blk b' 105 ds)) (hns : ds.take k = ns) (hnl : ns.length = k) (h1 : (ns.all fun u => u.oneCell') = true) (hkm : k ≤ m) (hfit : k ≤ cs.length)
    (hcs : lay cs 0 ns = cs') (hL : L.set i (blk b 105 cs') = L') (hd : dd < n) (next : OkL Tryz.prog ops rest Q n ((dd, .int .i64 k) :: F) w0 L') : OkL Tryz.prog ops (o :: rest) Q n F w0 L := fun a w ha hW => by
  subst ho; subst hcs; subst hL
  unfold wpList
  rw [if_pos (hw a ha)]
  left
  have hca := ca_of_row (off := 0) (k := k) (hW.get hj)
  rw [List.drop_zero, hns] at hca
  have hr := run_copy_row (P := Tryz.prog) w 226 226 t 105 b 0 m c ⟨b', 0, none⟩ k c' cs.toArray 105 ns Tryz.underlying226 (by kernel_rfl) (hW.get hi) (by rw [hnl]; exact (Nat.min_eq_left hkm).symm) (fun q u hu => by rw [Addr.add_lit]; exact hca q u hu) (by simp; omega) (fun u hu => List.all_eq_true.1 h1 u hu)
  unfold Oper.wp
  have he : (execOp a.eval ⟨some dd, .call { callee := .builtin .copy, args := #[x, y], argTypes := #[226, 226] }, t, p, af, g⟩).run Tryz.prog w = .ok (.value (.int .i64 k)) (w.setRow b (lay cs 0 ns).toArray) := by
    simp only [execOp, resolve, invoke, builtin, Sem.run_bind, Sem.run_pure, Result.andThen_ok, List.map_toArray, List.map_cons, List.map_nil, ha.ev hx, ha.ev hy, hr, lay, hnl, goInt]
  rw [he, Oper.upon_value]
  have hg := hW.get hi
  exact next _ _ (ha.put hd) (hW.turn hi rfl rfl ⟨⟨rfl, rfl, rfl, by simp, fun q _ hq => setRow_other w b q _ (fun e => hq (by simp [e]))⟩, Nat.le_refl _⟩ ⟨_, setRow_heap w b cs.toArray _ 105 _ hg, rfl⟩)
end
theorem sum_lt {a b : Nat} (h : nw b ≤ nw a) : a + b < 4294967296 ^ (nw a + 1) := by
  have h1 := lt_pow_nw a
  have h2 : b < 4294967296 ^ nw a := nw_le_iff.1 h
  rw [Nat.pow_succ]; omega
theorem copy_row (v k : Nat) : (wordsOf v ++ (List.replicate (nw v + k) 0).drop (wordsOf v).length).length = nw v + k ∧ W32 (wordsOf v ++ (List.replicate (nw v + k) 0).drop (wordsOf v).length) ∧ val (wordsOf v ++ (List.replicate (nw v + k) 0).drop (wordsOf v).length) = v := by
  have e : (List.replicate (nw v + k) 0).drop (wordsOf v).length = List.replicate k 0 := by rw [List.drop_replicate]; congr 1; unfold nw; omega
  rw [e]
  refine ⟨by simp [nw], (words_w32 v).append (W32.zeros k), ?_⟩
  rw [val_append, val_words, val_zeros]; omega
theorem mul_out {os : List Nat} {p c n : Nat} (hl : os.length = n) (hp : p < n) (h0 : os.getD p 0 = 0) : val (os.set p c) = val os + c * 4294967296 ^ p := by
  have e := val_set (xs := os) (i := p) (by omega) c
  rw [h0] at e; omega
theorem zero_above {os : List Nat} {a b i : Nat} (hv : val os = val ((wordsOf a).take i) * b) : ∀ j, i + nw b ≤ j → os.getD j 0 = 0 := fun j hj => by
  refine getD_zero_of_lt (m := i + nw b) ?_ hj
  rw [hv, Nat.pow_add]
  refine Nat.mul_lt_mul'' (Nat.lt_of_lt_of_le (val_lt ((words_w32 a).take i)) (Nat.pow_le_pow_right (by omega) (by simp; omega))) (lt_pow_nw b)
theorem set_above {os : List Nat} {p q v : Nat} (h : ∀ j, p ≤ j → os.getD j 0 = 0) (hq : q < p) : ∀ j, p ≤ j → (os.set q v).getD j 0 = 0 := fun j hj => by
  rw [List.getD_eq_getElem?_getD, List.getElem?_set_ne (by omega), ← List.getD_eq_getElem?_getD]
  exact h j hj
theorem mul_row {a b i : Nat} : val ((wordsOf a).take i) * b + (wordsOf a).getD i 0 * b * 4294967296 ^ i = val ((wordsOf a).take (i + 1)) * b := by
  rw [val_take_succ]; grind
theorem words4 {x y : Nat} (hx : x < 18446744073709551616) (hy : y < 18446744073709551616) : val [x % 4294967296, x / 4294967296, y % 4294967296, y / 4294967296] = x + y * 18446744073709551616 := by
  simp only [val]; omega
theorem u32s_all (xs : List Nat) : ((u32s xs).all fun u => u.oneCell') = true := List.all_eq_true.2 (u32s_one xs)
theorem u32s_take (xs : List Nat) (k : Nat) : (u32s xs).take k = u32s (xs.take k) := by simp [u32s, List.map_take]
theorem u32s_lay (xs ns : List Nat) : lay (u32s xs) 0 (u32s ns) = u32s (ns ++ xs.drop ns.length) := by simp [lay, u32s, List.map_drop]
end
section
set_option maxRecDepth 100000
theorem cmp_ok (a b p q c c2 : Nat) (ha : nw a ≤ 1099511627776) (hb : nw b ≤ 1099511627776) (w : World) (hp : w.heap[p]? = some (.cells (u32s (padW a)).toArray 105 (0, 0))) (hq : w.heap[q]? = some (.cells (u32s (padW b)).toArray 105 (0, 0))) : Calls Tryz.prog 203 #[(Value.slice (some ⟨p, 0, none⟩) (nw a) c), (Value.slice (some ⟨q, 0, none⟩) (nw b) c2)] w (Gives w (vI (cmpZ a b))) := by
 have hla := nw_le_pad a
 have hlb := nw_le_pad b
 refine calls_of (args := [(Value.slice (some ⟨p, 0, none⟩) (nw a) c), (Value.slice (some ⟨q, 0, none⟩) (nw b) c2)]) Tryz.func203 rfl rfl (leB rfl) (OkC.subF (sL [0, 1] rfl) (q4 (asg' rfl (OkL.nil (q1 ?_)))))
 refine q4 (mv' rfl (st' (v := (vN (nw a))) (ex_len_slice rfl Tryz.underlying226) rfl (mv' rfl (st' (v := (vN (nw b))) (ex_len_slice rfl Tryz.underlying226) rfl (st' (ex_neq (c := (decide ((nw a) ≠ (nw b)))) rfl rfl (neN (a := nw a) (b := nw b))) rfl ?_)))))
 refine OkL.nil (OkQ.subF (sL [0, 1, 4, 10] rfl) (OkQ.then_ ?_))
 refine OkC.cond rfl (fun hc0 => ?_) (fun hc0 => ?_)
 ·replace hc0 := of_decide_eq_true hc0
  refine q4 (mv' rfl (st' (v := (vN (nw a))) (ex_len_slice rfl Tryz.underlying226) rfl (mv' rfl (st' (v := (vN (nw b))) (ex_len_slice rfl Tryz.underlying226) rfl (st' (ex_sub (c := ((nw a : Int) - (nw b : Int))) rfl rfl (wrap_i64 (by omega) (by omega))) rfl ?_)))))
  refine ck' Tryz.call227 (sign_ok _ (by omega) (by omega)) rfl (OkL.retell (k := 16) (u := (vI (cmpZ a b))) rfl (by rw [cmp_len hc0]) (asg' rfl (OkL.nil (OkQ.subF (sL [0, 1, 4] rfl) (OkQ.then_ ?_)))))
  exact OkC.ret (OkQ.then_ret (ret_one rfl (rd_tmp (v := (vI (cmpZ a b))) rfl) (fun w hw => ⟨rfl, hw.out⟩)))
 ·replace hc0 := of_decide_eq_false hc0
  refine OkC.skip (q1 (q4 (mv' rfl (st' (v := (vN (nw a))) (ex_len_slice rfl Tryz.underlying226) rfl (st' (ex_sub (c := (((nw a : Nat) : Int) - 1)) rfl rfl (wrap_i64 (by omega) (by omega))) rfl ?_)))))
  refine asg' rfl (OkL.nil (OkQ.subF (sL [0, 1, 4, 5] rfl) (OkQ.then_ (OkC.block ?_))))
  refine OkC.lp1 (tg fun (k : Nat) => k ≤ nw a ∧ (wordsOf a).drop k = (wordsOf b).drop k) (tg fun (k : Nat) => [(0, (Value.slice (some ⟨p, 0, none⟩) (nw a) c)), (1, (Value.slice (some ⟨q, 0, none⟩) (nw b) c2)), (5, (vI (((k : Nat) : Int) - 1)))]) (tg fun (k : Nat) => []) (tg fun (k : Nat) => k) (nw a) (⟨Nat.le_refl _, by rw [List.drop_of_length_le (by exact Nat.le_refl _), List.drop_of_length_le (by unfold nw at *; omega)]⟩) (sF rfl) sr (fun k hJ => ?_)
  obtain ⟨hk, hd⟩ := hJ
  refine OkC.seq (q4 (mv' rfl (st' (ex_geq (c := (decide ((0 : Int) ≤ (((k : Nat) : Int) - 1)))) rfl rfl rfl) rfl (OkL.nil (OkQ.subF (sL [0, 1, 5, 21] rfl) ?_)))))
  refine OkQ.then_ ?_
  refine OkC.cond rfl (fun hc1 => ?_) (fun hc1 => ?_)
  ·replace hc1 := of_decide_eq_true hc1
   have hk0 : 0 < k := by omega
   refine OkC.retell (k := 5) (u := (vN (k - 1))) rfl (by congr 1; omega) (OkC.skip (q1 (OkC.block (OkC.seq (rG' [(0, true), (1, true), (2, true), (3, true), (4, true), (5, true), (6, true), (7, true), (8, true)] sr ?_)))))
   have ea : (padW a).getD (k - 1) 0 = (wordsOf a).getD (k - 1) 0 := pad_getD (by omega)
   have eb : (padW b).getD (k - 1) 0 = (wordsOf b).getD (k - 1) 0 := pad_getD (by omega)
   refine pM' rfl (pM' rfl (pE' (v := (pP p (k - 1))) rfl (ex_indexAddr_slice (j := k - 1) rfl rfl Tryz.underlying226 Tryz.sizeOf105 rfl (by omega) (by simp)) ?_))
   have hx1 : (padW a).getD (k - 1) 0 < 4294967296 := W32.getD (padW_w32 a) (k - 1)
   refine pE' rfl (ex_load_one_at (v := (vK .u32 ((padW a).getD (k - 1) 0))) rfl (fun w' hw => CA.at0 (hw.oldCA (by simp) (ca_blk hp)) (u32s_get (xs := padW a) (j := (k - 1)) (by omega))) Tryz.isAgg105) (pM' rfl (pM' rfl (pE' (v := (pP q (k - 1))) rfl (ex_indexAddr_slice (j := k - 1) rfl rfl Tryz.underlying226 Tryz.sizeOf105 rfl (by omega) (by simp)) ?_)))
   have hx2 : (padW b).getD (k - 1) 0 < 4294967296 := W32.getD (padW_w32 b) (k - 1)
   refine pE' rfl (ex_load_one_at (v := (vK .u32 ((padW b).getD (k - 1) 0))) rfl (fun w' hw => CA.at0 (hw.oldCA (by simp) (ca_blk hq)) (u32s_get (xs := padW b) (j := (k - 1)) (by omega))) Tryz.isAgg105) (pE' rfl (ex_neq (c := (decide (((padW a).getD (k - 1) 0) ≠ ((padW b).getD (k - 1) 0)))) rfl rfl (neN (a := (padW a).getD (k - 1) 0) (b := (padW b).getD (k - 1) 0))) (OkE.nil (OkQ.subF (sL [0, 1, 5, 32] rfl) (OkQ.then_ ?_))))
   refine OkC.cond rfl (fun hc2 => ?_) (fun hc2 => ?_)
   ·replace hc2 := of_decide_eq_true hc2
    have hcw := cmp_words (by omega) hk0 hk hd (by omega)
    refine OkC.seq (OkC.seq (rG' [(0, true), (1, true), (2, true), (3, true), (4, true), (5, true), (6, true), (7, true), (8, true)] sr (pM' rfl (pM' rfl (pE' (v := (pP p (k - 1))) rfl (ex_indexAddr_slice (j := k - 1) rfl rfl Tryz.underlying226 Tryz.sizeOf105 rfl (by omega) (by simp)) ?_)))))
    have hx3 : (padW a).getD (k - 1) 0 < 4294967296 := W32.getD (padW_w32 a) (k - 1)
    refine pE' rfl (ex_load_one_at (v := (vK .u32 ((padW a).getD (k - 1) 0))) rfl (fun w' hw => CA.at0 (hw.oldCA (by simp) (ca_blk hp)) (u32s_get (xs := padW a) (j := (k - 1)) (by omega))) Tryz.isAgg105) (pM' rfl (pM' rfl (pE' (v := (pP q (k - 1))) rfl (ex_indexAddr_slice (j := k - 1) rfl rfl Tryz.underlying226 Tryz.sizeOf105 rfl (by omega) (by simp)) ?_)))
    have hx4 : (padW b).getD (k - 1) 0 < 4294967296 := W32.getD (padW_w32 b) (k - 1)
    refine pE' rfl (ex_load_one_at (v := (vK .u32 ((padW b).getD (k - 1) 0))) rfl (fun w' hw => CA.at0 (hw.oldCA (by simp) (ca_blk hq)) (u32s_get (xs := padW b) (j := (k - 1)) (by omega))) Tryz.isAgg105) (pE' rfl (ex_lss (c := (decide (((padW a).getD (k - 1) 0) < ((padW b).getD (k - 1) 0)))) rfl rfl (ltN (a := (padW a).getD (k - 1) 0) (b := (padW b).getD (k - 1) 0))) (OkE.nil (OkQ.subF (sL [0, 1, 5, 41] rfl) (OkQ.then_ ?_))))
    refine OkC.cond rfl (fun hc3 => ?_) (fun hc3 => ?_)
    ·replace hc3 := of_decide_eq_true hc3
     rw [if_pos (by omega)] at hcw
     refine q4 (asg' rfl (OkL.nil (OkQ.then_ (OkC.ret (OkQ.then_ret ?_)))))
     exact OkQ.in_ret (OkQ.then_ret (OkQ.round1_ret (OkQ.in_ret (OkQ.then_ret (ret_one rfl (rd_tmp (v := (vI (-1 : Int))) rfl) (fun w hw => ⟨by rw [hcw], hw.out⟩))))))
    ·replace hc3 := of_decide_eq_false hc3
     rw [if_neg (by omega)] at hcw
     refine OkC.skip (q2 (asg' rfl (OkL.nil (OkQ.then_ (OkC.ret ?_)))))
     exact OkQ.in_ret (OkQ.then_ret (OkQ.round1_ret (OkQ.in_ret (OkQ.then_ret (ret_one rfl (rd_tmp (v := (vI 1)) rfl) (fun w hw => ⟨by rw [hcw], hw.out⟩))))))
   ·replace hc2 := of_decide_eq_false hc2
    refine OkC.skip (OkQ.in_normal (OkQ.then_ (OkC.region (mv' rfl (st' (ex_sub (c := (((k - 1 : Nat) : Int) - 1)) rfl rfl (wrap_i64 (by omega) (by omega))) rfl ?_)))))
    exact asg' rfl (OkL.nil (OkQ.subF (sL [0, 1, 5] rfl) (OkQ.round1 (k - 1) (⟨by omega, drop_step (by unfold nw at hc0; omega) (by omega) hk hd (by omega)⟩) (by omega) (sF rfl) sr)))
  ·replace hc1 := of_decide_eq_false hc1
   have hk0 : k = 0 := by omega
   subst hk0
   have hz := cmp_same hd
   refine OkC.exit (OkQ.then_exit (OkQ.round1_exit (OkQ.in_exit (q2 (asg' rfl ?_)))))
   exact OkL.nil (OkQ.then_ (OkC.ret (ret_one rfl (rd_tmp (v := (vI 0)) rfl) (fun w hw => ⟨by rw [hz], hw.out⟩))))
end
end Go.Proofs.YtgiacpkjnikjdaaGreat
