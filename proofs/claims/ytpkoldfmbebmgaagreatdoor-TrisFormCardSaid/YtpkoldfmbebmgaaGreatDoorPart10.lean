import Derived.Scope
import Derived.Test.YtpkoldfmbebmgaaGreatDoorPart09
namespace Go.Proofs.YtpkoldfmbebmgaaGreatDoor
open Go Go.RowKit
set_option linter.unusedVariables false
set_option linter.unusedSimpArgs false
section
def cmpZ (a b : Nat) : Int := if a < b then -1 else if a = b then 0 else 1
theorem cmpZ_lt {a b : Nat} : cmpZ a b < 0 ↔ a < b := by
  unfold cmpZ; split
  · omega
  · split <;> omega
theorem cmpZ_eq {a b : Nat} : cmpZ a b = 0 ↔ a = b := by
  unfold cmpZ; split
  · omega
  · split <;> omega
theorem cmp_len {a b : Nat} (h : nw a ≠ nw b) : ((nw a : Int) - (nw b : Int)).sign = cmpZ a b := by
  unfold cmpZ
  by_cases h1 : nw a < nw b
  · have h2 : a < b := by
      rcases Nat.lt_or_ge a b with h2 | h2
      · exact h2
      · have := nw_mono h2; omega
    rw [if_pos h2, Int.sign_eq_neg_one_of_neg (by omega)]
  · have h2 : b < a := by
      rcases Nat.lt_or_ge b a with h2 | h2
      · exact h2
      · have := nw_mono h2; omega
    rw [if_neg (by omega), if_neg (by omega), Int.sign_eq_one_of_pos (by omega)]
theorem cmp_at {xs ys : List Nat} {k : Nat} (hx : W32 xs) (hl : xs.length = ys.length) (h0 : 0 < k) (hk : k ≤ xs.length) (hd : xs.drop k = ys.drop k) (h : xs.getD (k - 1) 0 < ys.getD (k - 1) 0) : val xs < val ys := by
  have e1 := val_split xs k hk
  have e2 := val_split ys k (by omega)
  have s1 := val_take_succ xs (k - 1)
  have s2 := val_take_succ ys (k - 1)
  rw [show k - 1 + 1 = k by omega] at s1 s2
  have h1 : val (xs.take (k - 1)) < 4294967296 ^ (k - 1) := Nat.lt_of_lt_of_le (val_lt (hx.take (k - 1))) (Nat.pow_le_pow_right (by omega) (by simp; omega))
  have h2 : (xs.getD (k - 1) 0 + 1) * 4294967296 ^ (k - 1) ≤ ys.getD (k - 1) 0 * 4294967296 ^ (k - 1) := Nat.mul_le_mul_right _ h
  rw [Nat.add_mul] at h2
  rw [hd] at e1
  omega
theorem drop_step {xs ys : List Nat} {k : Nat} (hl : xs.length = ys.length) (h0 : 0 < k) (hk : k ≤ xs.length) (hd : xs.drop k = ys.drop k) (h : xs.getD (k - 1) 0 = ys.getD (k - 1) 0) : xs.drop (k - 1) = ys.drop (k - 1) := by
  have h1 : k - 1 < xs.length := by omega
  have h2 : k - 1 < ys.length := by omega
  rw [List.drop_eq_getElem_cons h1, List.drop_eq_getElem_cons h2, show k - 1 + 1 = k by omega, hd]
  simp [h1, h2] at h
  rw [h]
theorem cmp_words {a b k : Nat} (hl : nw a = nw b) (h0 : 0 < k) (hk : k ≤ nw a) (hd : (wordsOf a).drop k = (wordsOf b).drop k) (hne : (wordsOf a).getD (k - 1) 0 ≠ (wordsOf b).getD (k - 1) 0) :
    cmpZ a b = if (wordsOf a).getD (k - 1) 0 < (wordsOf b).getD (k - 1) 0 then -1 else 1 := by
  unfold cmpZ
  split
  · rename_i h
    rw [if_pos]
    rcases Nat.lt_or_ge ((wordsOf a).getD (k - 1) 0) ((wordsOf b).getD (k - 1) 0) with h1 | h1
    · exact h1
    · have := cmp_at (words_w32 b) hl.symm h0 (by unfold nw at *; omega) hd.symm (show (wordsOf b).getD (k - 1) 0 < (wordsOf a).getD (k - 1) 0 by omega)
      rw [val_words, val_words] at this; omega
  · rename_i h
    have h2 : ¬ (wordsOf a).getD (k - 1) 0 < (wordsOf b).getD (k - 1) 0 := fun h1 => by
      have := cmp_at (words_w32 a) hl h0 hk hd h1
      rw [val_words, val_words] at this; omega
    rw [if_neg h2, if_neg]
    intro e; subst e; exact hne rfl
theorem cmp_same {a b : Nat} (hd : (wordsOf a).drop 0 = (wordsOf b).drop 0) : cmpZ a b = 0 := by
  rw [cmpZ_eq]
  rw [List.drop_zero, List.drop_zero] at hd
  rw [← val_words a, ← val_words b, hd]
theorem pad_getD {v i : Nat} (h : i < nw v) : (padW v).getD i 0 = (wordsOf v).getD i 0 := by
  rw [← pad_take v]
  simp [List.getD_eq_getElem?_getD, List.getElem?_take, h]
theorem words_getD_zero {v i : Nat} (h : ¬ i < nw v) : (wordsOf v).getD i 0 = 0 := by
  unfold nw at h; simp [List.getD_eq_getElem?_getD, Nat.not_lt.1 h]
theorem val_words_take {v i : Nat} (h : nw v ≤ i) : val ((wordsOf v).take i) = v := by
  rw [List.take_of_length_le h, val_words]
theorem pad_len (v : Nat) : (padW v).length ≤ nw v + 2 := by
  unfold padW; split
  · simp
  · unfold nw; omega
theorem take_pad_val (v : Nat) : val ((padW v).take (nw v)) = v := by rw [pad_take, val_words]
theorem add_step {os ys : List Nat} {X i n c : Nat} (hl : os.length = n) (hi : i < n) (hv : val os + c * 4294967296 ^ i = X + val (ys.take i)) :
    val (os.set i ((os.getD i 0 + ys.getD i 0 + c) % 4294967296)) + (os.getD i 0 + ys.getD i 0 + c) / 4294967296 * 4294967296 ^ (i + 1) = X + val (ys.take (i + 1)) := by
  have e := val_set (xs := os) (i := i) (by omega) ((os.getD i 0 + ys.getD i 0 + c) % 4294967296)
  have t := val_take_succ ys i
  have hm := Nat.div_add_mod (os.getD i 0 + ys.getD i 0 + c) 4294967296
  rw [Nat.pow_succ]
  generalize os.getD i 0 = o at *
  generalize ys.getD i 0 = y at *
  generalize (o + y + c) / 4294967296 = q at *
  generalize (o + y + c) % 4294967296 = r at *
  generalize 4294967296 ^ i = p at *
  have hm2 : (4294967296 * q + r) * p = (o + y + c) * p := by rw [hm]
  grind
theorem add_done {os : List Nat} {X Y n c i : Nat} (hl : os.length = n) (hw : W32 os) (hi : n ≤ i) (hX : X + Y < 4294967296 ^ n) (hv : val os + c * 4294967296 ^ i = X + Y) : val os = X + Y := by
  have h1 : 4294967296 ^ n ≤ 4294967296 ^ i := Nat.pow_le_pow_right (by omega) hi
  rcases Nat.eq_zero_or_pos c with h | h
  · subst h; omega
  · have : 1 * 4294967296 ^ i ≤ c * 4294967296 ^ i := Nat.mul_le_mul_right _ h
    omega
theorem sub_step {os ys : List Nat} {X i n c : Nat} (hl : os.length = n) (hi : i < n) (hw : W32 os) (hy : W32 ys) (hc : c ≤ 1) (hv : val os + val (ys.take i) = X + c * 4294967296 ^ i) :
    val (os.set i ((os.getD i 0 + (4294967296 - ys.getD i 0) + (4294967296 - c)) % 4294967296)) + val (ys.take (i + 1)) = X + bor (os.getD i 0) (ys.getD i 0 + c) * 4294967296 ^ (i + 1) := by
  have e := val_set (xs := os) (i := i) (by omega) ((os.getD i 0 + (4294967296 - ys.getD i 0) + (4294967296 - c)) % 4294967296)
  have t := val_take_succ ys i
  have ho := hw.getD i
  have hy' := hy.getD i
  rw [Nat.pow_succ]
  have hm : (os.getD i 0 + (4294967296 - ys.getD i 0) + (4294967296 - c)) % 4294967296 + ys.getD i 0 + c = os.getD i 0 + bor (os.getD i 0) (ys.getD i 0 + c) * 4294967296 := by
    unfold bor; split <;> omega
  generalize (os.getD i 0 + (4294967296 - ys.getD i 0) + (4294967296 - c)) % 4294967296 = r at *
  generalize bor (os.getD i 0) (ys.getD i 0 + c) = q at *
  generalize os.getD i 0 = o at *
  generalize ys.getD i 0 = y at *
  generalize 4294967296 ^ i = p at *
  have hm2 : (r + y + c) * p = (o + q * 4294967296) * p := by rw [hm]
  grind
theorem sub_done {os : List Nat} {X Y n c i : Nat} (hl : os.length = n) (hw : W32 os) (hi : i = n) (hX : Y ≤ X) (hv : val os + Y = X + c * 4294967296 ^ i) (hX2 : X < 4294967296 ^ n) : val os = X - Y := by
  have h1 := val_lt hw
  rw [hl] at h1
  subst hi
  rcases Nat.eq_zero_or_pos c with h | h
  · subst h; omega
  · have : 1 * 4294967296 ^ i ≤ c * 4294967296 ^ i := Nat.mul_le_mul_right _ h
    omega
theorem bor_le (x y : Nat) : bor x y ≤ 1 := by unfold bor; split <;> omega
theorem mul_step {os ys : List Nat} {S W i k n c : Nat} (hl : os.length = n) (hi : i + k < n) (hv : val os + c * 4294967296 ^ (i + k) = S + W * val (ys.take k) * 4294967296 ^ i) :
    val (os.set (i + k) ((c + (W * ys.getD k 0 + os.getD (i + k) 0)) % 4294967296)) + (c + (W * ys.getD k 0 + os.getD (i + k) 0)) / 4294967296 * 4294967296 ^ (i + (k + 1)) = S + W * val (ys.take (k + 1)) * 4294967296 ^ i := by
  have e := val_set (xs := os) (i := i + k) (by omega) ((c + (W * ys.getD k 0 + os.getD (i + k) 0)) % 4294967296)
  have t := val_take_succ ys k
  have hm := Nat.div_add_mod (c + (W * ys.getD k 0 + os.getD (i + k) 0)) 4294967296
  rw [t, show i + (k + 1) = i + k + 1 by omega, Nat.pow_succ]
  rw [Nat.pow_add] at *
  generalize os.getD (i + k) 0 = o at *
  generalize ys.getD k 0 = y at *
  generalize (c + (W * y + o)) / 4294967296 = q at *
  generalize (c + (W * y + o)) % 4294967296 = r at *
  generalize 4294967296 ^ i = p at *
  generalize 4294967296 ^ k = p' at *
  generalize val (ys.take k) = vy at *
  have hm2 : (4294967296 * q + r) * (p * p') = (c + (W * y + o)) * (p * p') := by rw [hm]
  grind
section
variable {n : Nat} {F : List (Nat × Value)} {w0 : Base} {L : List As} {v : Value} {x y : Operand} {d : Option Tmp} {t : TypeId} {p : String} {af : Array Edge} {g : Option (Nat × Bool)}
theorem OkL.copy_u32 {ops : Array Oper} {rest : List Oper} {Q : Exit → Act → World → Prop} {L' : List As} {i j b b' m c k c' dd : Nat} {cs ds ns cs' : List Value} {o : Oper} (ho : o = ⟨some dd, .call { callee := .builtin .copy, args := #[x, y], argTypes := #[161, 161] }, t, p, af, g⟩) (hw : Wt ops n F o)
    (hx : evF F x = some (.slice (some ⟨b, 0, none⟩) m c)) (hy : evF F y = some (.slice (some ⟨b', 0, none⟩) k c')) (hi : L[i]? = some (blk b 22 cs)) (hj : L[j]? = some (blk b' 22 ds)) (hns : ds.take k = ns) (hnl : ns.length = k) (h1 : (ns.all fun u => u.oneCell') = true) (hkm : k ≤ m) (hfit : k ≤ cs.length)
    (hcs : lay cs 0 ns = cs') (hL : L.set i (blk b 22 cs') = L') (hd : dd < n) (next : OkL Tryz.prog ops rest Q n ((dd, .int .i64 k) :: F) w0 L') : OkL Tryz.prog ops (o :: rest) Q n F w0 L := fun a w ha hW => by
  subst ho; subst hcs; subst hL
  unfold wpList
  rw [if_pos (hw a ha)]
  left
  have hca := ca_of_row (off := 0) (k := k) (hW.get hj)
  rw [List.drop_zero, hns] at hca
  have hr := run_copy_row (P := Tryz.prog) w 161 161 t 22 b 0 m c ⟨b', 0, none⟩ k c' cs.toArray 22 ns Tryz.underlying161 (by kernel_rfl) (hW.get hi) (by rw [hnl]; exact (Nat.min_eq_left hkm).symm) (fun q u hu => by rw [Addr.add_lit]; exact hca q u hu) (by simp; omega) (fun u hu => List.all_eq_true.1 h1 u hu)
  unfold Oper.wp
  have he : (execOp a.eval ⟨some dd, .call { callee := .builtin .copy, args := #[x, y], argTypes := #[161, 161] }, t, p, af, g⟩).run Tryz.prog w = .ok (.value (.int .i64 k)) (w.setRow b (lay cs 0 ns).toArray) := by
    simp only [execOp, resolve, invoke, builtin, Sem.run_bind, Sem.run_pure, Result.andThen_ok, List.map_toArray, List.map_cons, List.map_nil, ha.ev hx, ha.ev hy, hr, lay, hnl, goInt]
  rw [he, Oper.upon_value]
  have hg := hW.get hi
  exact next _ _ (ha.put hd) (hW.turn hi rfl rfl ⟨rfl, rfl, rfl, by simp, fun q _ hq => setRow_other w b q _ (fun e => hq (by simp [e]))⟩ ⟨_, setRow_heap w b cs.toArray _ 22 _ hg, rfl⟩)
end
theorem sum_lt {a b : Nat} (h : nw b ≤ nw a) : a + b < 4294967296 ^ (nw a + 1) := by
  have h1 := lt_pow_nw a
  have h2 : b < 4294967296 ^ nw a := nw_le_iff.1 h
  rw [Nat.pow_succ]; omega
theorem copy_row (v k : Nat) : (wordsOf v ++ (List.replicate (nw v + k) 0).drop (wordsOf v).length).length = nw v + k ∧ W32 (wordsOf v ++ (List.replicate (nw v + k) 0).drop (wordsOf v).length) ∧ val (wordsOf v ++ (List.replicate (nw v + k) 0).drop (wordsOf v).length) = v := by
  have e : (List.replicate (nw v + k) 0).drop (wordsOf v).length = List.replicate k 0 := by rw [List.drop_replicate]; congr 1; unfold nw; omega
  rw [e]
  refine ⟨by simp [nw], (words_w32 v).append (W32.zeros k), ?_⟩
  rw [val_append, val_words, val_zeros]; omega
theorem mul_out {os : List Nat} {p c n : Nat} (hl : os.length = n) (hp : p < n) (h0 : os.getD p 0 = 0) : val (os.set p c) = val os + c * 4294967296 ^ p := by
  have e := val_set (xs := os) (i := p) (by omega) c
  rw [h0] at e; omega
theorem zero_above {os : List Nat} {a b i : Nat} (hv : val os = val ((wordsOf a).take i) * b) : ∀ j, i + nw b ≤ j → os.getD j 0 = 0 := fun j hj => by
  refine getD_zero_of_lt (m := i + nw b) ?_ hj
  rw [hv, Nat.pow_add]
  refine Nat.mul_lt_mul'' (Nat.lt_of_lt_of_le (val_lt ((words_w32 a).take i)) (Nat.pow_le_pow_right (by omega) (by simp; omega))) (lt_pow_nw b)
theorem set_above {os : List Nat} {p q v : Nat} (h : ∀ j, p ≤ j → os.getD j 0 = 0) (hq : q < p) : ∀ j, p ≤ j → (os.set q v).getD j 0 = 0 := fun j hj => by
  rw [List.getD_eq_getElem?_getD, List.getElem?_set_ne (by omega), ← List.getD_eq_getElem?_getD]
  exact h j hj
theorem mul_row {a b i : Nat} : val ((wordsOf a).take i) * b + (wordsOf a).getD i 0 * b * 4294967296 ^ i = val ((wordsOf a).take (i + 1)) * b := by
  rw [val_take_succ]; grind
theorem words4 {x y : Nat} (hx : x < 18446744073709551616) (hy : y < 18446744073709551616) : val [x % 4294967296, x / 4294967296, y % 4294967296, y / 4294967296] = x + y * 18446744073709551616 := by
  simp only [val]; omega
theorem u32s_all (xs : List Nat) : ((u32s xs).all fun u => u.oneCell') = true := List.all_eq_true.2 (u32s_one xs)
theorem u32s_take (xs : List Nat) (k : Nat) : (u32s xs).take k = u32s (xs.take k) := by simp [u32s, List.map_take]
theorem u32s_lay (xs ns : List Nat) : lay (u32s xs) 0 (u32s ns) = u32s (ns ++ xs.drop ns.length) := by simp [lay, u32s, List.map_drop]
end
section
def rowN : Nat → Nat → List Nat
  | 0, _ => []
  | N + 1, v => v % 4294967296 :: rowN N (v / 4294967296)
theorem rowN_length : ∀ (N v : Nat), (rowN N v).length = N
  | 0, _ => rfl
  | N + 1, v => by simp [rowN, rowN_length N]
theorem rowN_w32 : ∀ (N v : Nat), W32 (rowN N v)
  | 0, _ => W32.nil
  | N + 1, v => W32.cons (by omega) (rowN_w32 N _)
theorem val_rowN : ∀ (N v : Nat), v < 4294967296 ^ N → val (rowN N v) = v
  | 0, v, h => by simp at h; simp [rowN, val, h]
  | N + 1, v, h => by
    rw [Nat.pow_succ] at h
    rw [rowN, val, val_rowN N _ (by rw [Nat.div_lt_iff_lt_mul (by omega)]; exact h)]
    omega
theorem rowN_val : ∀ {xs : List Nat}, W32 xs → rowN xs.length (val xs) = xs
  | [], _ => rfl
  | x :: xs, h => by
    have hx := h x (by simp)
    rw [List.length_cons, val, rowN, show (x + 4294967296 * val xs) % 4294967296 = x by omega, show (x + 4294967296 * val xs) / 4294967296 = val xs by omega, rowN_val (fun y hy => h y (by simp [hy]))]
theorem row_eq {xs : List Nat} {N v : Nat} (h : W32 xs) (hl : xs.length = N) (hv : val xs = v) : xs = rowN N v := by subst hl; subst hv; exact (rowN_val h).symm
theorem words_div {v k : Nat} : v / 4294967296 ^ (k + 1) * 4294967296 + v / 4294967296 ^ k % 4294967296 = v / 4294967296 ^ k := by
  rw [Nat.pow_succ, ← Nat.div_div_eq_div_mul]; omega
theorem words_getD : ∀ (v k : Nat), (wordsOf v).getD k 0 = v / 4294967296 ^ k % 4294967296 := by
  intro v
  induction v using Nat.strongRecOn with
  | _ v ih =>
    intro k
    by_cases h : v = 0
    · subst h; simp [words_zero]
    · rw [words_pos h]
      cases k with
      | zero => simp
      | succ k => rw [List.getD_cons_succ, ih _ (by omega), Nat.pow_succ, Nat.div_div_eq_div_mul, Nat.mul_comm]
theorem val_getD : ∀ (xs : List Nat) (k : Nat), W32 xs → xs.getD k 0 = val xs / 4294967296 ^ k % 4294967296
  | [], k, _ => by simp [val]
  | x :: xs, 0, h => by have := h x (by simp); simp [val]; omega
  | x :: xs, k + 1, h => by
    have hx := h x (by simp)
    rw [List.getD_cons_succ, val_getD xs k (fun y hy => h y (by simp [hy])), val, Nat.pow_succ, Nat.mul_comm (4294967296 ^ k), ← Nat.div_div_eq_div_mul, show (x + 4294967296 * val xs) / 4294967296 = val xs by omega]
theorem short_step {qs : List Nat} {a y k r n : Nat} (hl : qs.length = n) (hk : k < n) (hq : ∀ j, j ≤ k → qs.getD j 0 = 0) (hr : r < y) (hv : val qs * y + r * 4294967296 ^ (k + 1) = a / 4294967296 ^ (k + 1) * 4294967296 ^ (k + 1)) :
    val (qs.set k ((r * 4294967296 + a / 4294967296 ^ k % 4294967296) / y)) * y + (r * 4294967296 + a / 4294967296 ^ k % 4294967296) % y * 4294967296 ^ k = a / 4294967296 ^ k * 4294967296 ^ k := by
  have e := mul_out (c := (r * 4294967296 + a / 4294967296 ^ k % 4294967296) / y) hl hk (hq k (Nat.le_refl _))
  have d := words_div (v := a) (k := k)
  have m := Nat.div_add_mod (r * 4294967296 + a / 4294967296 ^ k % 4294967296) y
  rw [e]
  rw [Nat.pow_succ] at hv
  rw [Nat.pow_succ] at d
  generalize (r * 4294967296 + a / 4294967296 ^ k % 4294967296) / y = q at *
  generalize hrr : (r * 4294967296 + a / 4294967296 ^ k % 4294967296) % y = r' at *
  generalize a / 4294967296 ^ k % 4294967296 = w at *
  generalize a / (4294967296 ^ k * 4294967296) = h at *
  generalize a / 4294967296 ^ k = g at *
  generalize 4294967296 ^ k = p at *
  subst d
  have m2 : (y * q + r') * p = (r * 4294967296 + w) * p := by rw [m]
  grind
theorem short_done {a y v r : Nat} (hr : r < y) (hv : v * y + r * 4294967296 ^ 0 = a / 4294967296 ^ 0 * 4294967296 ^ 0) : v = a / y ∧ r = a % y := by
  simp at hv
  have e : a = r + y * v := by rw [← hv, Nat.mul_comm]; omega
  subst e
  constructor
  · rw [Nat.add_mul_div_left _ _ (by omega), Nat.div_eq_of_lt hr]; omega
  · rw [Nat.add_mul_mod_self_left, Nat.mod_eq_of_lt hr]
theorem shl_or {w c s : Nat} (hw : w < 4294967296) (hc : c < 2 ^ s) (hs : s < 32) : w * 2 ^ s % 4294967296 ||| c = w * 2 ^ s % 4294967296 + c := by
  have e : w * 2 ^ s % 4294967296 = w % 2 ^ (32 - s) * 2 ^ s := by
    have : (4294967296 : Nat) = 2 ^ (32 - s) * 2 ^ s := by rw [← Nat.pow_add, show 32 - s + s = 32 by omega]
    rw [this, Nat.mul_mod_mul_right]
  rw [e, Nat.or_comm, or_add hc]; omega
theorem shl_lt {w s : Nat} (hw : w < 4294967296) (hs : s < 32) : w * 2 ^ s < 18446744073709551616 ∧ w * 2 ^ s / 4294967296 < 2 ^ s := by
  have h1 : w * 2 ^ s < 4294967296 * 2 ^ s := Nat.mul_lt_mul_of_pos_right hw (Nat.pow_pos (by omega))
  have h2 : (2 : Nat) ^ s ≤ 2 ^ 31 := Nat.pow_le_pow_right (by omega) (by omega)
  constructor
  · omega
  · rw [Nat.div_lt_iff_lt_mul (by omega)]; omega
theorem shl_sum_lt {w c s : Nat} (hc : c < 2 ^ s) (hs : s < 32) : w * 2 ^ s % 4294967296 + c < 4294967296 := by
  have e : w * 2 ^ s % 4294967296 = w % 2 ^ (32 - s) * 2 ^ s := by
    have : (4294967296 : Nat) = 2 ^ (32 - s) * 2 ^ s := by rw [← Nat.pow_add, show 32 - s + s = 32 by omega]
    rw [this, Nat.mul_mod_mul_right]
  have h1 : w % 2 ^ (32 - s) + 1 ≤ 2 ^ (32 - s) := Nat.mod_lt _ (Nat.pow_pos (by omega))
  have h2 : (w % 2 ^ (32 - s) + 1) * 2 ^ s ≤ 2 ^ (32 - s) * 2 ^ s := Nat.mul_le_mul_right _ h1
  rw [← Nat.pow_add, show 32 - s + s = 32 by omega, Nat.add_mul] at h2
  rw [e]; omega
theorem shift_step {os xs : List Nat} {i n c s : Nat} (hl : os.length = n) (hi : i < n) (h0 : ∀ j, i ≤ j → os.getD j 0 = 0) (hv : val os + c * 4294967296 ^ i = val (xs.take i) * 2 ^ s) :
    val (os.set i (xs.getD i 0 * 2 ^ s % 4294967296 + c)) + xs.getD i 0 * 2 ^ s / 4294967296 * 4294967296 ^ (i + 1) = val (xs.take (i + 1)) * 2 ^ s := by
  rw [mul_out hl hi (h0 i (Nat.le_refl _)), val_take_succ, Nat.pow_succ]
  have m := Nat.div_add_mod (xs.getD i 0 * 2 ^ s) 4294967296
  generalize xs.getD i 0 * 2 ^ s % 4294967296 = r at *
  generalize xs.getD i 0 * 2 ^ s / 4294967296 = q at *
  generalize xs.getD i 0 = w at *
  generalize 2 ^ s = z at *
  generalize 4294967296 ^ i = p at *
  have m2 : (4294967296 * q + r) * p = w * z * p := by rw [m]
  grind
theorem half_step {os us : List Nat} {i n : Nat} (hl : us.length = n) (hlo : os.length = n) (hi : i < n) (hu : W32 us) (hd : os.drop i = us.drop i) (hv : 2 * val (os.take i) + us.getD 0 0 % 2 = val (us.take i) + us.getD i 0 % 2 * 4294967296 ^ i) {x : Nat} (hx : x = us.getD i 0 / 2 + us.getD (i + 1) 0 % 2 * 2147483648) :
    (os.set i x).drop (i + 1) = us.drop (i + 1) ∧ 2 * val ((os.set i x).take (i + 1)) + us.getD 0 0 % 2 = val (us.take (i + 1)) + us.getD (i + 1) 0 % 2 * 4294967296 ^ (i + 1) := by
  constructor
  · rw [List.drop_set_of_lt (by omega)]
    have h1 := congrArg (List.drop 1) hd
    rwa [List.drop_drop, List.drop_drop] at h1
  · rw [val_take_succ, val_take_succ, List.take_set_of_le (Nat.le_refl _), Nat.pow_succ]
    have e : (os.set i x).getD i 0 = x := by simp [List.getD_eq_getElem?_getD, hlo, hi]
    rw [e, hx]
    have m : us.getD i 0 = 2 * (us.getD i 0 / 2) + us.getD i 0 % 2 := by omega
    generalize us.getD i 0 / 2 = h at *
    generalize us.getD i 0 % 2 = b at *
    generalize us.getD (i + 1) 0 % 2 = b' at *
    rw [m]
    generalize 4294967296 ^ i = p at *
    grind
theorem half_done {os us : List Nat} {n : Nat} (hl : us.length = n) (hlo : os.length = n) (hv : 2 * val (os.take n) + us.getD 0 0 % 2 = val (us.take n) + us.getD n 0 % 2 * 4294967296 ^ n) (hu : W32 us) : val os = val us / 2 := by
  rw [List.take_of_length_le (by omega), List.take_of_length_le (by omega)] at hv
  have e : us.getD n 0 = 0 := by simp [List.getD_eq_getElem?_getD, hl]
  rw [e] at hv
  simp at hv
  have := Nat.mod_lt (us.getD 0 0) (show 2 > 0 by omega)
  simp only [List.getD_eq_getElem?_getD] at this
  omega
theorem less_step {os us vs : List Nat} {k i n N c l D : Nat} (hl : os.length = N) (hi : k + i < N) (hw : W32 os) (hll : l ≤ 1)
    (hv : val os + D * val (vs.take i) * 4294967296 ^ k = val us + (c + l) * 4294967296 ^ (k + i)) {s c' : Nat} (hs : s = (c + D * vs.getD i 0) % 4294967296) (hc' : c' = (c + D * vs.getD i 0) / 4294967296) :
    val (os.set (k + i) ((os.getD (k + i) 0 + (4294967296 - s) + (4294967296 - l)) % 4294967296)) + D * val (vs.take (i + 1)) * 4294967296 ^ k = val us + (c' + bor (os.getD (k + i) 0) (s + l)) * 4294967296 ^ (k + (i + 1)) := by
  have e := val_set (xs := os) (i := k + i) (by omega) ((os.getD (k + i) 0 + (4294967296 - s) + (4294967296 - l)) % 4294967296)
  have t := val_take_succ vs i
  have ho := hw.getD (k + i)
  have hs2 : s < 4294967296 := by omega
  have m : c + D * vs.getD i 0 = 4294967296 * c' + s := by omega
  have b : (os.getD (k + i) 0 + (4294967296 - s) + (4294967296 - l)) % 4294967296 + s + l = os.getD (k + i) 0 + bor (os.getD (k + i) 0) (s + l) * 4294967296 := by unfold bor; split <;> omega
  rw [t, show k + (i + 1) = k + i + 1 by omega, Nat.pow_succ]
  rw [Nat.pow_add] at *
  generalize (os.getD (k + i) 0 + (4294967296 - s) + (4294967296 - l)) % 4294967296 = r at *
  generalize bor (os.getD (k + i) 0) (s + l) = q at *
  generalize os.getD (k + i) 0 = o at *
  generalize vs.getD i 0 = v at *
  generalize 4294967296 ^ i = p at *
  generalize 4294967296 ^ k = p' at *
  generalize val (vs.take i) = vv at *
  clear hs hc'
  have b2 : (r + s + l) * (p' * p) = (o + q * 4294967296) * (p' * p) := by rw [b]
  have m2 : (c + D * v) * (p' * p) = (4294967296 * c' + s) * (p' * p) := by rw [m]
  grind
theorem less_done {os us vs : List Nat} {k n N c l D : Nat} (hl : os.length = N) (hw : W32 os) (hk : k + n + 1 ≤ N) (hu : val us < 4294967296 ^ (k + n + 1)) (hv : val os + D * val (vs.take n) * 4294967296 ^ k = val us + l * 4294967296 ^ (k + n + 1)) (hl1 : l ≤ 1) (hz : ∀ j, k + n + 1 ≤ j → os.getD j 0 = 0) :
    decide (0 < l) = decide (val us < D * val (vs.take n) * 4294967296 ^ k) ∧ os = rowN N (val us + (if val us < D * val (vs.take n) * 4294967296 ^ k then 4294967296 ^ (k + n + 1) else 0) - D * val (vs.take n) * 4294967296 ^ k) := by
  have ho : val os < 4294967296 ^ (k + n + 1) := by
    have h1 := val_split os (k + n + 1) (by omega)
    have h2 : val (os.drop (k + n + 1)) = 0 := by
      have : os.drop (k + n + 1) = List.replicate (N - (k + n + 1)) 0 := by
        apply List.ext_getElem (by simp [hl])
        intro j h1 h2
        have := hz (k + n + 1 + j) (by omega)
        simp [List.getD_eq_getElem?_getD] at this h1
        simp
        have h3 : k + n + 1 + j < os.length := by omega
        simpa [h3] using this
      rw [this, val_zeros]
    rw [h2] at h1
    have h3 := val_lt (hw.take (k + n + 1))
    rw [List.length_take, Nat.min_eq_left (by omega)] at h3
    omega
  generalize D * val (vs.take n) * 4294967296 ^ k = X at *
  generalize 4294967296 ^ (k + n + 1) = p at *
  have hl2 : l = 0 ∨ l = 1 := by omega
  rcases hl2 with rfl | rfl
  · have h1 : ¬ val us < X := by omega
    refine ⟨by simp [h1], row_eq hw hl ?_⟩
    rw [if_neg h1]; omega
  · have h1 : val us < X := by omega
    refine ⟨by simp [h1], row_eq hw hl ?_⟩
    rw [if_pos h1]; omega
theorem zero_of_val {os : List Nat} {p : Nat} (h : val os < 4294967296 ^ p) : ∀ j, p ≤ j → os.getD j 0 = 0 := fun j hj => getD_zero_of_lt h hj
theorem less_last {os : List Nat} {p N c l X U : Nat} (hl : os.length = N) (hp : p < N) (hw : W32 os) (hll : l ≤ 1) (hc : c < 4294967296) (hv : val os + X = U + (c + l) * 4294967296 ^ p) :
    val (os.set p ((os.getD p 0 + (4294967296 - c) + (4294967296 - l)) % 4294967296)) + X = U + bor (os.getD p 0) (c + l) * 4294967296 ^ (p + 1) := by
  have e := val_set (xs := os) (i := p) (by omega) ((os.getD p 0 + (4294967296 - c) + (4294967296 - l)) % 4294967296)
  have ho := hw.getD p
  have b : (os.getD p 0 + (4294967296 - c) + (4294967296 - l)) % 4294967296 + c + l = os.getD p 0 + bor (os.getD p 0) (c + l) * 4294967296 := by unfold bor; split <;> omega
  rw [Nat.pow_succ]
  generalize (os.getD p 0 + (4294967296 - c) + (4294967296 - l)) % 4294967296 = r at *
  generalize bor (os.getD p 0) (c + l) = q at *
  generalize os.getD p 0 = o at *
  generalize 4294967296 ^ p = z at *
  have b2 : (r + c + l) * z = (o + q * 4294967296) * z := by rw [b]
  grind
theorem drop_getD {os us : List Nat} {i j : Nat} (h : os.drop i = us.drop i) (hj : i ≤ j) : os.getD j 0 = us.getD j 0 := by
  have h1 := congrArg (fun l : List Nat => l.getD (j - i) 0) h
  simp only [List.getD_eq_getElem?_getD, List.getElem?_drop] at h1 ⊢
  rwa [show i + (j - i) = j by omega] at h1
theorem half_or {h y : Nat} (hh : h < 2147483648) : h ||| y * 2 ^ 31 % 4294967296 = h + y % 2 * 2147483648 := by
  have e : y * 2 ^ 31 % 4294967296 = y % 2 * 2 ^ 31 := by rw [show (4294967296 : Nat) = 2 * 2 ^ 31 from rfl, Nat.mul_mod_mul_right]
  rw [e, or_add (s := 31) (by omega)]
theorem set_getD_self {os : List Nat} {i v : Nat} (h : i < os.length) : (os.set i v).getD i 0 = v := by simp [List.getD_eq_getElem?_getD, h]
theorem set_getD_ne {os : List Nat} {i j v : Nat} (h : i ≠ j) : (os.set i v).getD j 0 = os.getD j 0 := by
  rw [List.getD_eq_getElem?_getD, List.getElem?_set_ne h, ← List.getD_eq_getElem?_getD]
structure Guess (V W v1 top d r : Nat) : Prop where
  low : W / V ≤ d
  eq : d * v1 + r = top
theorem guess_init {V W v1 v2 u2 top m p : Nat} (hp : 0 < p) (hV : V = (v1 * 4294967296 + v2) * p + m) (hv2 : v2 < 4294967296) (hm : m < p) (hW : W < (top + 1) * (4294967296 * p)) (h1 : 0 < v1) : Guess V W v1 top (top / v1) (top % v1) := by
  refine ⟨?_, by rw [Nat.mul_comm]; exact Nat.div_add_mod top v1⟩
  have hVp : 0 < V := by
    have : 0 < v1 * 4294967296 + v2 := by omega
    have := Nat.mul_pos this hp
    omega
  rw [← Nat.lt_succ_iff, Nat.div_lt_iff_lt_mul hVp]
  have h2 : top < v1 * (top / v1 + 1) := Nat.lt_mul_div_succ top h1
  have h3 : (top + 1) * (4294967296 * p) ≤ v1 * (top / v1 + 1) * (4294967296 * p) := Nat.mul_le_mul_right _ h2
  have h4 : v1 * (4294967296 * p) ≤ V := by rw [hV]; have : v1 * (4294967296 * p) = v1 * 4294967296 * p := by rw [Nat.mul_assoc]
                                            rw [this, Nat.add_mul]; omega
  have h5 : (top / v1 + 1) * (v1 * (4294967296 * p)) ≤ (top / v1 + 1) * V := Nat.mul_le_mul_left _ h4
  have h6 : v1 * (top / v1 + 1) * (4294967296 * p) = (top / v1 + 1) * (v1 * (4294967296 * p)) := by rw [Nat.mul_comm v1, Nat.mul_assoc]
  show W < (top / v1 + 1) * V
  omega
theorem guess_less {V W v1 v2 u2 top d r m p : Nat} (h : Guess V W v1 top d r) (hp : 0 < p) (hV : V = (v1 * 4294967296 + v2) * p + m) (h1 : 0 < v1) (hW : W < (top * 4294967296 + u2 + 1) * p) (hq : W / V < 4294967296)
    (ht : ¬ (d ≤ 4294967295 ∧ d * v2 ≤ r * 4294967296 + u2)) : Guess V W v1 top (d - 1) (r + v1) ∧ 0 < d := by
  have hVp : 0 < V := by
    have : 0 < v1 * 4294967296 + v2 := by omega
    have := Nat.mul_pos this hp
    omega
  have hdiv : ∀ x, W / V < x ↔ W < x * V := fun x => Nat.div_lt_iff_lt_mul hVp
  obtain ⟨hlow, heq⟩ := h
  suffices hlt : W / V < d by
    have h0 : 0 < d := Nat.lt_of_le_of_lt (Nat.zero_le _) hlt
    have e : d * v1 = (d - 1) * v1 + v1 := by
      obtain ⟨e, rfl⟩ : ∃ e, d = e + 1 := ⟨d - 1, (Nat.succ_pred_eq_of_pos h0).symm⟩
      rw [Nat.add_mul]; simp
    refine ⟨⟨Nat.le_sub_one_of_lt hlt, ?_⟩, h0⟩
    clear hdiv hlow hq ht hW hV hlt
    omega
  have hlt : W / V < d := by
    by_cases hd : d ≤ 4294967295
    · have h2 : r * 4294967296 + u2 + 1 ≤ d * v2 := by
        rcases Nat.lt_or_ge (r * 4294967296 + u2) (d * v2) with h3 | h3
        · exact h3
        · exact absurd ⟨hd, h3⟩ ht
      refine (hdiv d).2 ?_
      have ex : d * (v1 * 4294967296 + v2) = d * v1 * 4294967296 + d * v2 := by rw [Nat.mul_add, Nat.mul_assoc]
      have h3 : (top * 4294967296 + u2 + 1) * p ≤ (d * (v1 * 4294967296 + v2)) * p := by
        refine Nat.mul_le_mul_right _ ?_
        rw [ex, ← heq, Nat.add_mul, Nat.add_assoc, Nat.add_assoc]
        exact Nat.add_le_add_left (by rw [← Nat.add_assoc]; exact h2) _
      have h4 : d * V = d * (v1 * 4294967296 + v2) * p + d * m := by rw [hV, Nat.mul_add, Nat.mul_assoc]
      omega
    · exact Nat.lt_of_lt_of_le hq (by omega)
  exact hlt
theorem guess_done {V W v1 v2 u2 top d r m p : Nat} (h : Guess V W v1 top d r) (hp : 0 < p) (hV : V = (v1 * 4294967296 + v2) * p + m) (hm : m < p) (h1 : 0 < v1) (hv2 : v2 < 4294967296) (hW2 : (top * 4294967296 + u2) * p ≤ W) (hWV : W < V * 4294967296) (hv1 : v1 < 4294967296)
    (hend : 4294967295 < r ∨ (d ≤ 4294967295 ∧ d * v2 ≤ r * 4294967296 + u2)) : d ≤ 4294967295 ∧ (d = W / V ∨ d = W / V + 1) := by
  have hVp : 0 < V := by
    have : 0 < v1 * 4294967296 + v2 := by omega
    have := Nat.mul_pos this hp
    omega
  have hd : d ≤ 4294967295 := by
    rcases hend with hr | hr
    · -- top < (v1 + 1) * 2^32
      have hV2 : V < (v1 + 1) * 4294967296 * p := by
        have : (v1 * 4294967296 + v2) * p + p ≤ (v1 + 1) * 4294967296 * p := by
          have : (v1 * 4294967296 + v2 + 1) * p ≤ ((v1 + 1) * 4294967296) * p := Nat.mul_le_mul_right _ (by omega)
          rw [Nat.add_mul, Nat.one_mul] at this; exact this
        omega
      have h3 : (top * 4294967296) * p < (v1 + 1) * 4294967296 * p * 4294967296 := by
        have : (top * 4294967296) * p ≤ (top * 4294967296 + u2) * p := Nat.mul_le_mul_right _ (by omega)
        have : V * 4294967296 ≤ (v1 + 1) * 4294967296 * p * 4294967296 := Nat.mul_le_mul_right _ (Nat.le_of_lt hV2)
        omega
      have h4 : top * 4294967296 < (v1 + 1) * 4294967296 * 4294967296 := by
        rw [Nat.mul_right_comm _ p] at h3
        exact Nat.lt_of_mul_lt_mul_right h3
      have h5 : d * v1 < 4294967296 * v1 := by have := h.eq; omega
      have := Nat.lt_of_mul_lt_mul_right h5
      omega
    · exact hr.1
  refine ⟨hd, ?_⟩
  have ht : d * v2 ≤ r * 4294967296 + u2 := by
    rcases hend with hr | hr
    · have : d * v2 ≤ 4294967295 * 4294967295 := Nat.mul_le_mul hd (by omega)
      omega
    · exact hr.2
  have hle : d * V ≤ W + V := by
    have a1 : d * (v1 * 4294967296 + v2) ≤ top * 4294967296 + u2 := by
      rw [Nat.mul_add, ← Nat.mul_assoc]; have := h.eq; omega
    have a2 : d * (v1 * 4294967296 + v2) * p ≤ (top * 4294967296 + u2) * p := Nat.mul_le_mul_right _ a1
    have a3 : d * m ≤ 4294967296 * p := Nat.mul_le_mul (by omega) (Nat.le_of_lt hm)
    have a4 : 4294967296 * p ≤ V := by
      rw [hV]
      have : 4294967296 * p ≤ (v1 * 4294967296 + v2) * p := Nat.mul_le_mul_right _ (by omega)
      omega
    have e : d * V = d * (v1 * 4294967296 + v2) * p + d * m := by rw [hV, Nat.mul_add, Nat.mul_assoc]
    omega
  have h6 : d ≤ W / V + 1 := by
    rcases Nat.eq_zero_or_pos d with h0 | h0
    · rw [h0]; exact Nat.zero_le _
    · have : (d - 1) * V ≤ W := by
        obtain ⟨e, rfl⟩ : ∃ e, d = e + 1 := ⟨d - 1, (Nat.succ_pred_eq_of_pos h0).symm⟩
        rw [Nat.add_mul] at hle; simp; omega
      have := (Nat.le_div_iff_mul_le hVp).2 this
      generalize W / V = q at *
      omega
  have := h.low
  generalize W / V = q at *
  omega
section
variable {P : Program} {Q : Exit → Act → World → Prop} {n : Nat} {F : List (Nat × Value)} {w0 : Base} {L : List As}
theorem OkC.scope {c : Code} (h : OkC P c (Exit.noGoto Q) n F w0 L) : OkC P (.scope c) Q n F w0 L := fun a w ha hw => wp_scope_straight (h a w ha hw)
theorem OkC.label {l : Nat} (h : OkQ Q .normal n F w0 L) : OkC P (.label l) Q n F w0 L := fun a w ha hw => wp_label (h a w ha hw)
theorem OkQ.scope_normal (h : OkQ Q .normal n F w0 L) : OkQ (Exit.noGoto Q) .normal n F w0 L := h
theorem OkL.callBB {ops : Array Oper} {rest : List Oper} {o : Oper} {d : Nat} {f : FuncId} {args : Array Value} {V : Nat → Nat → Value} {T T2 : TypeId} {cs cs2 : List Value} (hw : Wt ops n F o)
    (he : ∀ a w, Frm n a F → Own w0 w L → (execOp a.eval o).run P w = .ok (.enter f args) w)
    (hc : ∀ w, Own w0 w L → Calls P f args w fun e w' => ∃ b b2, e = .returned (V b b2) ∧ Below w.heap.size w w' ∧ w.heap.size ≤ b ∧ w.heap.size ≤ b2 ∧ b ≠ b2 ∧ w'.heap[b]? = some (.cells cs.toArray T (0, 0)) ∧ w'.heap[b2]? = some (.cells cs2.toArray T2 (0, 0)))
    (ho : o.dst = some d) (hd : d < n) (next : ∀ b b2, OkL P ops rest Q n ((d, V b b2) :: F) w0 (blk b T cs :: blk b2 T2 cs2 :: L)) : OkL P ops (o :: rest) Q n F w0 L := fun a w ha hW => by
  unfold wpList
  rw [if_pos (hw a ha)]
  left
  unfold Oper.wp
  rw [he a w ha hW, Oper.upon_enter]
  refine (hc w hW).mono ?_
  rintro e w' ⟨b, b2, rfl, hb, h1, h2, hne, hcell, hcell2⟩
  rw [ho]
  have hW2 : Own w0 w' (blk b2 T2 cs2 :: L) := hW.add rfl hb h2 ⟨_, hcell2, rfl⟩
  refine next b b2 _ _ (ha.put hd) ⟨hW2.1, fun x hx c hc => ?_, ?_⟩
  · rcases List.mem_cons.1 hx with rfl | hx
    · injection hc with hc; subst hc
      exact ⟨.inr (.inl (Nat.le_trans hW.1.size h1)), _, hcell, rfl⟩
    · exact hW2.2.1 x hx c hc
  · refine List.pairwise_cons.2 ⟨fun y hy => .inr fun c hc => ?_, hW2.2.2⟩
    injection hc with hc; subst hc
    rcases List.mem_cons.1 hy with rfl | hy
    · intro e; injection e with e; exact hne e.symm
    · intro e
      have := hW.lt hy e
      omega
end
end
end Go.Proofs.YtpkoldfmbebmgaaGreatDoor
